import PyProof.Rows.All
import Wide.All
import OpenK.AllK
import Wide.FinOn
import HandS.ForMost
import HandS.Deep
import HandS.SortInts
import HandS.SortOrd
import HandS.Strs
import HandS.SetFor
import HandS.TupAny
import HandS.IsInst
import HandS.Conv
import HandS.Walk
import HandS.DictComp
import HandS.More
import HandS.Style
import HandS.Evl
import HandS.TupSets
import KE.DataMinMax
import KE.GoesEnum
import PySem.Challenge.RW_tabletalk_k18_whole_any_defect
set_option Elab.async false
set_option linter.all false
set_option maxRecDepth 100000
set_option maxHeartbeats 4000000
/-! own rules beside the layer's -/
namespace TtR
open PySem PySem.Spec PyProof.Rows L2

/-! ### x in a tuple of data -/
section
variable {X : Cx}
def rInDT (K : PySem.W.Frag) : R2 := fun x y H Q => ∃ d ds, Dp K H x d ∧ Dp K H y (.tuple ds) ∧ SeqAt.shaped d = true ∧ SeqAt.shaped (.tuple ds) = true ∧ Q (.bl (ds.any fun z => PyData.eqv z d)) H
theorem op_inDT (hu : X.A.units + 65 < cLine) : OpR X (compareOp .In) (rInDT X.K) := by
  intro pins s σ H x y v u Q I rx ry h
  obtain ⟨d, ds, hd, he, sd, se, q⟩ := h
  obtain ⟨as, r1⟩ := Dp.reads I d x v hd rx
  obtain ⟨bs, r2⟩ := Dp.reads I (.tuple ds) y u he ry
  exact SeqAt.in_tuple_reads r2 r1 (SeqAt.canLay_of_shaped se) (SeqAt.canLay_of_shaped sd) (room_in_shaped sd hu) ⟨.bl _, H, I, rfl, q⟩
end

/-! ### sorted of a tuple of ints -/
section
variable {prog : Program} {w : World} {A : Around} {E : Value → Shared → Prop} {s : Shared}
theorem collect_tup {l : Addr} {vs : List Value} {Q : List Value → Shared → Prop} (hl : IsTup s.heap l vs.toArray)
    (h : Q vs { s with heap := (s.heap.push (seqObj "list" #[] 0)).update s.heap.objs.size (Obj.mapSeq (· ++ vs.toArray)) }) (hsz : vs.length ≤ sizeLine) :
    wpAny (model prog w) A (collect (.ref l)) Q E s := by
  obtain ⟨o, ho, hc, n, hd⟩ := id hl
  unfold collect
  refine wpAny_bind (wpAny_runValue (codeAny_builtin entry_proto_collect' ?_))
  show wpAny _ _ (do again (.builtin "list.__iadd__" ⟨[← newList [], .ref l], []⟩)) _ _ s
  refine wpAny_bind (wpAny_newList (wpAny_pure ⟨Code.quiet_builtin _ (by decide +kernel), codeAny_builtin entry_list_iadd' ?_⟩))
  show wpAny _ _ (Builtin.List.listExtendWith (.ref s.heap.objs.size) (.ref l) (.ref s.heap.objs.size)) _ _ { s with heap := s.heap.push (seqObj "list" #[] 0) }
  unfold Builtin.List.listExtendWith
  have ho' : (s.heap.push (seqObj "list" #[] 0)).get? l = some o := Heap.get?_push_of_some _ ho
  refine wpAny_bind (wpAny_typeOf (T := "tuple") ⟨o, ho', hc⟩ ?_)
  have ht : (Value.type "tuple" == Value.type "tuple") = true := by rfl
  rw [if_pos (by rw [ht]; simp)]
  refine wpAny_bind (listItems_at ho' hd ?_)
  refine wpAny_bind (listItems_at (xs := #[]) (n := 0) (Heap.get?_push_size _ rfl) rfl ?_)
  rw [if_neg (by simp)]
  refine wpAny_bind (listUpdate_at (xs := #[]) (n := 0) (Heap.get?_push_size _ rfl) rfl ?_ (Nat.zero_le _) (by show (#[] ++ vs.toArray).size ≤ sizeLine + 1; simp only [Array.size_append, List.size_toArray, List.length_nil]; omega))
  refine wpAny_pure ?_
  show wpAny (model prog w) A (do
      let o ← load s.heap.objs.size
      match o.data with
      | .seq xs _ => pure xs.toList
      | _ => unsupported "internal:collect") Q E { s with heap := (s.heap.push (seqObj "list" #[] 0)).update s.heap.objs.size (Obj.mapSeq (· ++ vs.toArray)) }
  refine wpAny_bind (wpAny_load (get?_update_seq (Heap.get?_push_size _ rfl) _) ?_)
  show wpAny _ _ (pure ((#[] : Array Value) ++ vs.toArray).toList) Q E _
  rw [show ((#[] : Array Value) ++ vs.toArray).toList = vs by simp]
  exact wpAny_pure h
open SrtO in
theorem sorted_ordT {l : Addr} {vs : List Value} {ltv : Value → Value → Bool} {Q : Value → Shared → Prop} (O : Swo ltv) (hl : IsTup s.heap l vs.toArray) (hz : vs.length ≤ sizeLine)
    (hS : 2 ≤ vs.length → ∀ (h₁ : Heap) (a : Addr), h₁.get? a = some (seqObj "list" vs.toArray 0) → (∀ b o, s.heap.get? b = some o → b ≠ a ∧ h₁.get? b = some o) → SortableO prog w A.in1.in1 { s with heap := h₁ } a vs ltv)
    (h : ∀ out : List Value, Srtd ltv out → Stb ltv out vs → Q (.ref (s.heap.objs.size + 1)) { s with heap := sortedAll s.heap vs out.toArray }) :
    wpAny (model prog w) A (call (.builtin "sorted") [.ref l]) Q E s := by
  refine Calls.call_function_entry kind_sorted plain_sorted entry_sorted (args_sorted1 _) ?_
  unfold Builtin.«sorted»
  refine wpAny_bind (m := checkCount "sorted" 1 1 _) (wpAny_pure ?_)
  refine wpAny_bind (collect_tup hl ?_ hz)
  refine wpAny_bind (wpAny_newList ?_ hz)
  have hsz : ((s.heap.push (seqObj "list" #[] 0)).update s.heap.objs.size (Obj.mapSeq (· ++ vs.toArray))).objs.size = s.heap.objs.size + 1 := by
    rw [Heap.size_update, size_push']
  have hoL : (((s.heap.push (seqObj "list" #[] 0)).update s.heap.objs.size (Obj.mapSeq (· ++ vs.toArray))).push (seqObj "list" vs.toArray 0)).get? (s.heap.objs.size + 1) = some (seqObj "list" vs.toArray 0) := by
    rw [← hsz]; exact Heap.get?_push_size _ rfl
  have keep : ∀ b o, s.heap.get? b = some o → b ≠ s.heap.objs.size + 1 ∧ (((s.heap.push (seqObj "list" #[] 0)).update s.heap.objs.size (Obj.mapSeq (· ++ vs.toArray))).push (seqObj "list" vs.toArray 0)).get? b = some o := fun b o q => by
    have hlt : b < s.heap.objs.size := Heap.lt_size q
    refine ⟨Nat.ne_of_lt (Nat.lt_succ_of_lt hlt), Heap.get?_push_of_some _ ?_⟩
    rw [Heap.get?_update_ne _ _ _ _ (Nat.ne_of_lt hlt)]
    exact Heap.get?_push_of_some _ q
  show wpAny _ _ _ _ _ { s with heap := ((s.heap.push (seqObj "list" #[] 0)).update s.heap.objs.size (Obj.mapSeq (· ++ vs.toArray))).push (seqObj "list" vs.toArray 0) }
  rw [hsz]
  refine wpAny_bind (wpAny_holding (wpAny_call_entry slot_list_sort ⟨_, hoL, rfl⟩ entry_list_sort (list_sort_ord O hoL hz (fun h2 => hS h2 _ _ hoL keep) fun out hs hb => ⟨_, rfl, ?_⟩) (args_list_sort _)))
  exact wpAny_pure ⟨_, rfl, h out hs hb⟩
end
/-- sorted(t), t a tuple of ints -/
def rSortedTI (K : PySem.W.Frag) : List V → Hp → VK → Prop := fun vs H Q => ∃ (a : Addr) (ns : List Int), vs = [V.ref a] ∧ SqT K H a (ns.map V.int) ∧
  ∀ (ns' : List Int) (p : Addr), ns'.Perm ns → ns'.Pairwise (· ≤ ·) → H p = none → Q (.ref p) (upd H p (.lst (ns'.map V.int)))
section
variable {X : Cx}
theorem cr_sortedTI : CallR X (.builtin "sorted") (rSortedTI X.K) := by
  intro pins s σ H vs us Q I r h
  obtain ⟨a, ns, rfl, hs, q⟩ := h
  obtain ⟨its, rv, hl, hz⟩ := I.tuple hs
  rw [Vals.ref1 r]
  have hi := rv.ints
  refine sorted_ordT SrtO.swo_int hl (by rw [← rv.length]; exact hz) (fun h2 h₁ a' _ _ => SrtO.ints_sortable hi h2) fun out h1 h2 => ?_
  obtain ⟨k1, k2, k3⟩ := SrtO.ints_out hi h1 h2
  obtain ⟨ep, he'⟩ := PyProof.Rows.sortedAll_at s.heap its out.toArray
  have hlen : ((out.map SrtO.iv).map V.int).length ≤ sizeLine := by
    rw [List.length_map, k2.length_eq]
    rw [List.length_map] at hz
    exact hz
  exact ⟨.ref _, upd H (s.heap.objs.size + 1) (.lst ((out.map SrtO.iv).map V.int)), I.laid (t' := s.toks) (fun _ _ => PyProof.Rows.sortedAll_old) (Nat.le_succ _) ⟨hlen, out, ep, vals_of_ints k1, he'⟩, rfl, q _ _ k2 k3 (I.hok.fresh (Nat.le_succ _))⟩

/-! ### set(t), t a tuple of ints -/
def rSetTI (K : PySem.W.Frag) (w : World) : List V → Hp → VK → Prop := fun vs H Q => ∃ (a : Addr) (ns : List Int), vs = [V.ref a] ∧ SqT K H a (ns.map V.int) ∧ ns.length ≤ 1000 ∧
  ∀ (c : Nat) (p : Addr), c ≤ ns.length → (ns.Nodup → c = ns.length) → H p = none → Q (.ref p) (upd H p (SetO w p (fun j => decide (j ∈ ns)) c))
theorem cr_setTI (hc : X.calm = true) : CallR X (.type "set") (rSetTI X.K X.w) := by
  intro pins s σ H vs us Q I r h
  obtain ⟨a, ns, rfl, hs, hn, q⟩ := h
  obtain ⟨its, rv, pt, hz⟩ := I.tuple hs
  rw [Vals.ref1 r]
  have hi : IntsAre its.toArray.toList ns := ints_of_vals rv
  refine call_set_tupI ns (I.ok.hd hc) (show s.heap.IsTuple a its.toArray from pt) hi (by unfold scanBound; omega) fun h' tk c R1 hcn k => ?_
  have hex : ns.Nodup → c = ns.length := fun nd => by
    obtain ⟨o, es, ep, t, _, _, _, _, nd2, hm, _, _, hn, _⟩ := R1
    have hp : (es.toList.map keyOf).Perm ns := (List.perm_ext_iff_of_nodup nd2 nd).mpr fun j => by rw [← hm j, decide_eq_true_eq]
    have := hp.length_eq
    rw [List.length_map, Array.length_toList] at this
    omega
  exact ⟨.ref _, upd H s.heap.objs.size (SetO X.w s.heap.objs.size (fun j => decide (j ∈ ns)) c), I.laid (t' := tk) k (Nat.le_refl _) (setO_new R1), rfl, q c _ hcn hex (I.hok.fresh (Nat.le_refl _))⟩
end
end TtR

namespace TtR
open PySem PySem.Spec PyProof.Rows L2
/-! ### enumerate(tuple) -/
theorem meets_enumerate_newT {v : Value} {o : Obj} {H : Heap → Prop} (B : Begins v o H) :
    Meets (Builtin.«enumerate.__new__» ⟨[.type "enumerate", v], []⟩) (fun _ R s => H s.heap ∧
      R (.ok (.ret (.ref (s.heap.push o).objs.size))) { s with heap := (s.heap.push o).push { cls := .type "enumerate", data := .fields #[.none, .bool false, .ref s.heap.objs.size, rawInt 0, .none, .none] } }) :=
  .of_wp fun prog w A R s h => by
    obtain ⟨hp, g, d, tk, os⟩ := s; obtain ⟨h1, h⟩ := h
    have hsub := sub_enumerate
    have q1 : ∀ {A' : Around} {E : Value → Shared → Prop} {Q : Value → Shared → Prop}, Q (.ref hp.objs.size) ⟨hp.push o, g, d, tk, os⟩ → wpAny (model prog w) A' (pyIter v) Q E ⟨hp, g, d, tk, os⟩ :=
      fun q => B.iter prog w _ _ ⟨hp, g, d, tk, os⟩ _ h1 q
    wp_walk using q1
    refine wpAny_stack_any fun st => wpAny_pure ?_
    split
    · rename_i c _ _ _ _ _
      cases (c == Value.type "enumerate")
      · wp_walk using q1
        exact ⟨_, rfl, h⟩
      · wp_walk using q1
        exact ⟨_, rfl, h⟩
    · wp_walk using q1
      exact ⟨_, rfl, h⟩
theorem enum_begins1 {prog : Program} {w : World} {A : Around} {E : Value → Shared → Prop} {s : Shared} {v : Value} {o : Obj} {H : Heap → Prop} {Q : Value → Shared → Prop} (B : Begins v o H) (h1 : H s.heap)
    (h : ∀ h', IsEnum h' (s.heap.objs.size + 1) s.heap.objs.size 0 .none → h'.get? s.heap.objs.size = some o → h'.objs.size = s.heap.objs.size + 2 →
      (∀ b o, s.heap.get? b = some o → h'.get? b = some o) → Q (.ref (s.heap.objs.size + 1)) { s with heap := h' }) :
    wpAny (model prog w) A (call (.type "enumerate") [v]) Q E s := by
  refine callType_new F.called_enumerate (by decide) (F.typeCall_enumerate_1 _) (F.newCall_enumerate_1 _) (fun obj => F.args_object_init_2 obj _) F.entry_enumerate_new
    (meets_enumerate_newT B) ⟨h1, ?_⟩
  have hz : (s.heap.push o).objs.size = s.heap.objs.size + 1 := Heap.size_push ..
  show _ ∧ _
  rw [hz]
  have he : IsEnum ((s.heap.push o).push { cls := .type "enumerate", data := .fields #[.none, .bool false, .ref s.heap.objs.size, rawInt 0, .none, .none] }) (s.heap.objs.size + 1) s.heap.objs.size 0 .none := by
    have := Heap.get?_push_size (s.heap.push o) (o := { cls := .type "enumerate", data := .fields #[.none, .bool false, .ref s.heap.objs.size, rawInt 0, .none, .none] }) rfl
    rw [hz] at this; exact this
  refine ⟨⟨_, he, rfl⟩, h _ he (Heap.get?_push_of_some _ (Heap.get?_push_size _ B.free)) (by rw [Heap.size_push, hz]) fun b o x => Heap.get?_push_of_some _ (Heap.get?_push_of_some _ x)⟩
def IteT (K : PySem.W.Frag) (a : Addr) : It :=
  ⟨fun i H => ∃ (xs : List V) (x : V), SqT K H a xs ∧ xs[i]? = some x, fun i H v H' => ∃ T x, v = .ref T ∧ H T = none ∧ H' = upd H T (.tup [.int (i : Nat), x]) ∧ ∀ xs, SqT K H a xs → xs[i]? = some x, fun i H => ∃ xs : List V, SqT K H a xs ∧ xs.length ≤ i⟩
theorem turn_enumT {P : Program} {w : World} {K : PySem.W.Frag} {elts : List Expr} {kk : Nat} {tpos : Pos} (a e it : Addr) :
    Turn P w K (.Tuple elts kk tpos) (IteT K a) [e, it] e (fun i h => (∃ old, IsEnum h e it ((i : Nat) : Int) old) ∧ h.IsTupleIter it a i ∧ e ≠ it) where
  mem := by simp
  obj := fun i h st b hb => by
    obtain ⟨⟨old, he⟩, ⟨o, ho, hc, hd⟩, _⟩ := st
    have e' : b = e ∨ b = it := by simpa using hb
    rcases e' with z | z
    · rw [z]; exact ⟨_, he, fun v q => nomatch q⟩
    · rw [z]; exact ⟨o, ho, fun v q => by rw [hd] at q; cases q⟩
  keep := fun i h h' st k => let ⟨⟨old, he⟩, hi, hne⟩ := st; ⟨⟨old, k e (by simp) _ he⟩, hi.at fun o q => k it (by simp) o q, hne⟩
  item := by
    intro X hP hw hK hc i pins s σ H E I hf st hg
    subst hP hw hK
    obtain ⟨⟨old, he⟩, hit, hne⟩ := st
    obtain ⟨xs, x, hq, hx⟩ := hg
    obtain ⟨its, rv, p, hz⟩ := I.tuple hq
    obtain ⟨u, hu, ru⟩ := rv.get hx
    have hel : e < s.heap.objs.size := Heap.lt_size he
    have hil : it < s.heap.objs.size := by obtain ⟨_, q, _⟩ := hit; exact Heap.lt_size q
    have hea : e ≠ a := fun z => by
      obtain ⟨o, ho, hcl, _⟩ := p
      have he' : s.heap.get? e = some _ := he
      rw [z, ho] at he'
      have q := Option.some.inj he'
      rw [q] at hcl
      exact absurd (Value.type.inj hcl) (by decide)
    have hia : a ≠ it := fun z => by
      obtain ⟨o, ho, hcl, _⟩ := p
      obtain ⟨o2, ho2, hcl2, _⟩ := hit
      rw [← z, ho] at ho2
      cases Option.some.inj ho2
      rw [hcl] at hcl2
      exact absurd (Value.type.inj hcl2) (by decide)
    have pt : s.heap.IsTuple a its.toArray := p
    have D := Draws.tuple (prog := X.prog) (w := X.w) (A := X.A.in1) (I.ok.hd hc) it a hia its.toArray
    have hlt : i < its.toArray.size := by
      have z := (List.getElem?_eq_some_iff.mp hu).1
      simpa using z
    refine wpAny_pyNext_enum_itemC D he ⟨hit, pt⟩ hlt hne (by simp [hne, hea]) fun x' h' tk hP' ho hst' hT hsz hk => ?_
    have ex' : x' = u := by
      have z : its.toArray[i]? = some u := by simpa using hu
      exact Option.some.inj (hP'.symm.trans z)
    subst ex'
    refine ⟨_, rfl, wpAny_letOwnedTupleGo_enum (s := { s with heap := h', toks := tk + 1 }) ho fun h'' he' sb => ?_⟩
    have hT2 : h''.get? s.heap.objs.size = some { cls := .type "tuple", data := .seq #[.int i tk, x'] } := (sb.2 _ (Nat.ne_of_gt hel)).trans hT
    have new : ObjOk X.prog X.w (upd H s.heap.objs.size (.tup [.int (i : Nat), x])) h'' s.heap.objs.size (.tup [.int (i : Nat), x]) :=
      ⟨by show 2 ≤ sizeLine; decide, [.int i tk, x'], .cons ⟨_, rfl⟩ (.cons ru .nil), ⟨_, hT2, rfl, _, rfl⟩⟩
    have I1 : Inv X pins σ (upd H s.heap.objs.size (.tup [.int (i : Nat), x])) { s with heap := h'', toks := tk + 1 } :=
      I.turnedNew (ch := [e, it]) (fun b ob hb q => (sb.2 b (fun z => hb (by simp [z]))).trans (hk b ob (fun z => hb (by simp [z])) (fun z => hb (by simp [z])) q)) hf (Nat.le_refl _) new
    refine ⟨.ref s.heap.objs.size, _, I1, rfl, ⟨_, x, rfl, I.hok.fresh (Nat.le_refl _), rfl, fun ys hy => by rw [I.tuple_inj hy hq]; exact hx⟩, ⟨⟨x', ?_⟩, hst'.1.at fun o q => (sb.2 it (Ne.symm hne)).trans q, hne⟩, fun b hb => ?_⟩
    · have e1 : ((i + 1 : Nat) : Int) = (i : Int) + 1 := by omega
      rw [e1]; exact he'
    · have hb' : b < s.heap.objs.size := by
        have e' : b = e ∨ b = it := by simpa using hb
        rcases e' with z | z
        · rw [z]; exact hel
        · rw [z]; exact hil
      rw [upd_ne (Nat.ne_of_lt hb')]
      exact (hf b hb).1
  done := by
    intro X hP hw hK hc i pins s σ H E I hf st hg
    subst hP hw hK
    obtain ⟨⟨old, he⟩, hit, hne⟩ := st
    obtain ⟨xs, hq, hx⟩ := hg
    obtain ⟨its, rv, p, hz⟩ := I.tuple hq
    obtain ⟨f0, f1, f2, f3, f4, f5⟩ := hf it (by simp)
    have hl := rv.length
    have pt : s.heap.IsTuple a its.toArray := p
    have hT : s.TypeIs (.ref e) "enumerate" := ⟨_, he, rfl⟩
    unfold pyNext
    refine wpAny_bind (wpAny_attempt (wpAny_callSpecial?_slot (name := Str.ofString "__next__") hT F.slot_enumerate_next
      (wpAny_call_entry F.slot_enumerate_next hT F.entry_enumerate_next ?_ (F.args_enumerate_next_1 _))))
    show wpAny _ _ (field (.ref e) 2 >>= _) _ _ _
    refine wpAny_bind (wpAny_field he rfl (x := .ref it) rfl ?_)
    refine wpAny_bind (wpAny_nextOf_tuple_end (A := X.A.in1) (I.ok.hd hc) hit pt (by simp; omega) fun h' x eb hx' => ?_)
    obtain ⟨o, ho, hc'⟩ := hx'
    refine wpAny_bind (wpAny_isInstance (T := "StopIteration") (b := true) ⟨o, ho, hc'⟩ isSubtype_stop ?_)
    exact wpAny_pure ⟨rfl, I.turned (t' := s.toks) (fun b o hb q => eb b o hb q) f0 f1 f3 f4 f5⟩
  self := fun A i s Q E st h => let ⟨⟨_, he⟩, _⟩ := st; wpAny_pyIter_enum he h

def iEnumT (K : PySem.W.Frag) (ta : TA) : TI := fun σ H R => ta σ H fun vs H1 => ∃ a xs, vs = [.ref a] ∧ SqT K H1 a xs ∧ R (IteT K a) H1
theorem pi_enumT {X : Cx} {e : Expr} {ta : TA} {p pos tpos : Pos} {elts : List Expr} {kk : Nat} (hg : Gl X "enumerate") (hm : X.mg "enumerate" = none) (ha : PA X [e] ta) (hs : starEach [e] X.env = [(false, eval e X.env)] := by rfl) :
    PI X (.Tuple elts kk tpos) (.Call (.Name "enumerate" p) [e] [] pos) (iEnumT X.K ta) := by
  refine ⟨fun pins s σ H R I h => ?_⟩
  refine Call_ (ld_blt I hg hm boot_enumerate (PyProof.Rows.callWith_type1 (thn (ha.run pos pins s σ H _ I h) fun us s1 ⟨vs, H1, I1, r1, q1⟩ => ?_) hs rfl))
  obtain ⟨a, xs, ex, hq, q⟩ := q1
  subst ex
  cases r1 with
  | cons r rr =>
    cases rr
    cases r
    obtain ⟨its, rv, p', hz⟩ := I1.tuple hq
    have pt : s1.heap.IsTuple a its.toArray := p'
    refine enum_begins1 (begins_tuple a its.toArray) pt fun h' he hit hsz hk => wpAny_pyIter_enum he ?_
    have I2 : Inv X pins σ H1 { s1 with heap := h' } := I1.kept (t' := s1.toks) hk
    refine ⟨s1.heap.objs.size + 1, [s1.heap.objs.size + 1, s1.heap.objs.size], _, _, H1, rfl, I2, turn_enumT a (s1.heap.objs.size + 1) s1.heap.objs.size, ⟨⟨.none, he⟩, ⟨_, hit, rfl, rfl⟩, Nat.succ_ne_self _⟩, fun b hb => ?_, q⟩
    have e' : b = s1.heap.objs.size + 1 ∨ b = s1.heap.objs.size := by simpa using hb
    have hle : s1.heap.objs.size ≤ b := by
      rcases e' with z | z
      · rw [z]; exact Nat.le_add_right _ _
      · rw [z]; exact Nat.le_refl _
    exact I1.fpOk hle (I1.hok.fresh hle)
theorem walk_enumT {K : PySem.W.Frag} {a : Addr} {xs : List V} : Walk (IteT K a) xs.length (fun H => SqT K H a xs) (YPair (fun i => some (.int (i : Nat))) (fun i => xs[i]?)) := by
  refine ⟨fun i _ hi q => ⟨xs, xs[i], q, by simp [hi]⟩, fun _ q => ⟨xs, q, Nat.le_refl _⟩, fun i H v H' _ q y => ?_⟩
  obtain ⟨T, x, h1, h2, h3, h4⟩ := y
  exact ⟨T, .int (i : Nat), x, h1, h2, h3, rfl, h4 xs q⟩
/-! ### min of a list of alike data -/
def rMinD (K : PySem.W.Frag) (A : Around) : List V → Hp → VK → Prop := fun vs H Q => ∃ (a : Addr) (xs : List V) (d : PyData) (ds : List PyData), vs = [V.ref a] ∧ SqL K H a xs ∧ DpAll K H xs (d :: ds) ∧ PySem.W.AlikeAll (d :: ds) ∧
  A.units + 1 + PyData.depthAll (d :: ds) < cLine ∧ ∀ (i : Nat) v, xs[i]? = some v → Q v H
section
variable {X : Cx}
theorem cr_minD (hc : X.calm = true) : CallR X (.builtin "min") (rMinD X.K X.A) := by
  intro pins s σ H vs us Q I r h
  obtain ⟨a, xs, d, ds, rfl, hs, hd, hal, hu, q⟩ := h
  obtain ⟨its, rv, hl, hz⟩ := I.list hs
  rw [Vals.ref1 r]
  obtain ⟨as, h4⟩ := Dp.readsAll I (d :: ds) _ its hd rv
  refine PySem.W.min_list_data (I.ok.hd hc) hl.isList (by simpa using h4) hal hu fun i v h' tk bs hv _ hk => ?_
  have hv' : its[i]? = some v := by simpa using hv
  have hi : i < xs.length := by
    have := (List.getElem?_eq_some_iff.mp hv').1
    rw [rv.length]
    exact this
  obtain ⟨u, hu1, hu2⟩ := rv.get (i := i) (x := xs[i]) (List.getElem?_eq_getElem hi)
  rw [hv'] at hu1
  cases hu1
  exact ⟨xs[i], H, I.kept (t' := tk) hk, hu2, q i _ (List.getElem?_eq_getElem hi)⟩
/-! ### len of a set of ints -/
def rLenSet (w : World) : List V → Hp → VK → Prop := fun vs H Q => ∃ (a : Addr) (S : Int → Bool) (n : Nat), vs = [V.ref a] ∧ H a = some (SetO w a S n) ∧ Q (.int n) H
theorem cr_lenSet : CallR X (.builtin "len") (rLenSet X.w) := by
  intro pins s σ H vs us Q I r h
  obtain ⟨a, S, n, rfl, hs, q⟩ := h
  rw [Vals.ref1 r]
  obtain ⟨o, es, ep, t, ho, hex, hd, _, _, _, hb, hf, hn, _⟩ := setO_get I hs
  exact call_len_set ho hex hd hf (by unfold scanBound at hb; omega) ⟨.int n, H, I.tok _, ⟨_, by rw [hn]⟩, q⟩
/-! ### t[::-1] -/
def tRevT (K : PySem.W.Frag) (te : TE) : TE := fun σ H Q => te σ H fun x H1 => ∃ a xs, x = .ref a ∧ SqT K H1 a xs ∧ ∀ p, H1 p = none → Q (.ref p) (upd H1 p (.tup xs.reverse))
theorem rev_adjust (n : Nat) : Builtin.Slice.sliceAdjust none none (-1) (n : Int) = ((n : Int) - 1, -1) := by
  unfold Builtin.Slice.sliceAdjust
  have h1 : ((-1 : Int) < 0) := by omega
  simp [h1]
theorem rev_places (n : Nat) : Builtin.Slice.slicePlaces ((n : Int) - 1) (-1) (-1) = n := by
  unfold Builtin.Slice.slicePlaces
  have h1 : ¬ ((-1 : Int) > 0) := by omega
  simp only [h1, if_false, show (-(-1 : Int)) = 1 from rfl, Int.ediv_one]
  split <;> omega
theorem fm_map {α β : Type} {f : α → Option β} {g : α → β} : ∀ {l : List α}, (∀ k ∈ l, f k = some (g k)) → l.filterMap f = l.map g
  | [], _ => rfl
  | a :: l, h => by
    rw [List.filterMap_cons, h a List.mem_cons_self]
    show g a :: l.filterMap f = _
    rw [fm_map fun k hk => h k (List.mem_cons_of_mem _ hk)]
    rfl
theorem rev_pick (xs : List Value) : ((List.range xs.length).filterMap fun (k : Nat) => xs.toArray[(((xs.length : Nat) : Int) - 1 + (k : Int) * -1).toNat]?) = xs.reverse := by
  apply List.ext_getElem?
  intro i
  have e : ∀ k ∈ List.range xs.length, xs.toArray[(((xs.length : Nat) : Int) - 1 + (k : Int) * -1).toNat]? = some (xs.reverse.getD k .none) := fun k hk => by
    have hk' : k < xs.length := List.mem_range.mp hk
    have e1 : (((xs.length : Nat) : Int) - 1 + (k : Int) * -1).toNat = xs.length - 1 - k := by omega
    rw [e1, List.getD_eq_getElem?_getD, List.getElem?_reverse hk']
    simp [show xs.length - 1 - k < xs.length by omega]
  rw [fm_map e, List.getElem?_map]
  by_cases hi : i < xs.length
  · rw [List.getElem?_range hi]
    simp [hi]
  · rw [List.getElem?_eq_none (by simpa using hi), List.getElem?_eq_none (by simpa using hi)]
    rfl
theorem getItem_tuple_rev {prog : Program} {w : World} {A : Around} {E : Value → Shared → Prop} {s : Shared} {t sl : Addr} {its : List Value} {vs : Value} {Q : Value → Shared → Prop} (ht : IsTup s.heap t its.toArray) (hs : s.heap.IsSliceOf sl .none .none vs) (ps : IsPart vs (some (-1)))
    (h : Q (.ref s.heap.objs.size) { s with heap := s.heap.push { cls := .type "tuple", data := .seq its.reverse.toArray } })
    (hsz : its.length ≤ sizeLine) : wpAny (model prog w) A (getItem (.ref t) (.ref sl)) Q E s := by
  have htake : sizeOk (.seq its.reverse.toArray) := by
    show its.reverse.toArray.size ≤ sizeLine
    rw [List.size_toArray, List.length_reverse]
    omega
  obtain ⟨os, hos, hcs, hds⟩ := id hs
  have hTs : s.TypeIs (.ref sl) "slice" := ⟨os, hos, hcs⟩
  unfold getItem
  try with_reducible refine wpAny_holding ?_
  first | refine wpAny_bind (wpAny_pure ?_) | skip
  refine wpAny_bind (wpAny_sequenceKey ht.typeIs (by decide) ?_)
  refine wpAny_bind (wpAny_callSpecial?_slot (name := Str.ofString "__getitem__") ht.typeIs PyProof.Rows.slot_tuple_getitem
    (wpAny_call_entry PyProof.Rows.slot_tuple_getitem ht.typeIs entry_tuple_getitem ?_ (args_tuple_getitem _ _)))
  show wpAny _ _ (Builtin.Tuple.tupleItemsOf (.ref t) >>= _) _ _ s
  refine wpAny_bind (tupleItemsOf_ ht ?_)
  refine wpAny_bind (wpAny_typeOf hTs ?_)
  rw [if_pos (by decide)]
  have happ : ∀ (Q' : Int × Int × Nat → Shared → Prop), Q' ((its.length : Int) - 1, -1, its.length) s → wpAny (model prog w) A.in1 (Builtin.Slice.sliceApplied (.ref sl) (pure ((its.toArray.size : Nat) : Int))) Q' E s := fun Q' q => by
    unfold Builtin.Slice.sliceApplied Builtin.Slice.sliceFields
    refine wpAny_bind (wpAny_bind (wpAny_field hos hds (x := .none) rfl (wpAny_bind (wpAny_field hos hds (x := .none) rfl (wpAny_bind (wpAny_field hos hds (x := vs) rfl (wpAny_pure ?_)))))))
    refine wpAny_bind (HT.slicePart_ ps ?_)
    show wpAny _ _ (if ((-1 : Int) == 0) = true then _ else _) _ _ s
    rw [if_neg (by decide)]
    refine wpAny_bind (HT.slicePart_ .none (wpAny_bind (HT.slicePart_ .none (wpAny_bind (wpAny_pure ?_)))))
    show wpAny _ _ (match Builtin.Slice.sliceAdjust none none (-1) ((its.toArray.size : Nat) : Int) with | (lo, hi) => pure (lo, (-1 : Int), Builtin.Slice.slicePlaces lo hi (-1))) _ _ s
    rw [rev_adjust]
    show wpAny _ _ (pure (((its.toArray.size : Nat) : Int) - 1, (-1 : Int), Builtin.Slice.slicePlaces (((its.toArray.size : Nat) : Int) - 1) (-1) (-1))) _ _ s
    rw [rev_places, List.size_toArray]
    exact wpAny_pure q
  refine wpAny_bind (happ _ ?_)
  have hno : ¬ ((((its.length : Nat) : Int) - 1 == 0 && (-1 : Int) == 1 && its.length == its.toArray.size) = true) := by
    rw [show ((-1 : Int) == 1) = false by decide, Bool.and_false, Bool.false_and]
    exact Bool.false_ne_true
  show wpAny _ _ (if (((its.length : Nat) : Int) - 1 == 0 && (-1 : Int) == 1 && its.length == its.toArray.size) = true then _ else _) _ _ s
  rw [if_neg hno, rev_pick]
  first
    | exact wpAny_bind (m := Builtin.Tuple.tupleExact _) (wpAny_newObj_type (wpAny_pure ⟨_, rfl, wpAny_pure h⟩) htake)
    | exact wpAny_bind (m := Builtin.Tuple.tupleExact _) (wpAny_newObj_type (wpAny_bind (wpAny_pure (wpAny_pure ⟨_, rfl, wpAny_pure h⟩))) htake)
    | exact wpAny_bind (wpAny_bind (m := Builtin.Tuple.tupleExact _) (wpAny_newObj_type (wpAny_pure (wpAny_pure ⟨_, rfl, wpAny_pure h⟩)) htake))
    | exact wpAny_bind (wpAny_bind (m := Builtin.Tuple.tupleExact _) (wpAny_newObj_type (wpAny_pure ⟨_, rfl, wpAny_pure h⟩) htake))
theorem pe_revT {e : Expr} {te : TE} {k : Nat} {p1 p2 p3 pos : Pos} (he : PE X e te) : PE X (.Subscript e (.Slice none none (some (.UnaryOp .USub (.Constant (.int 1) k p1) p2)) p3) pos) (tRevT X.K te) := by
  refine ⟨fun pins s σ H Q I h => ?_⟩
  refine Subscript_ (thn (he.run pins s σ H _ I h) fun v s1 ⟨x, H1, I1, r1, q1⟩ => ?_)
  obtain ⟨a, xs, ex, hx, q⟩ := q1
  subst ex
  cases r1
  have hst : PO X (some (.UnaryOp .USub (.Constant (.int 1) k p1) p2)) (tPart (tUn (rU fun i => .int (-i)) (tC (.int 1)))) := po_some (pe_un un_neg pe_int)
  refine wpAny_Slice (thn (po_none.run pins s1 σ H1 (fun o H2 => o = none ∧ H2 = H1) I1 ⟨rfl, rfl⟩) fun vl s2 ⟨l, H2, I2, pl, el, e2⟩ => ?_)
  subst el e2
  refine thn (po_none.run pins s2 σ H2 (fun o H3 => o = none ∧ H3 = H2) I2 ⟨rfl, rfl⟩) fun vu s3 ⟨u, H3, I3, pu, eu, e3⟩ => ?_
  subst eu e3
  refine thn (hst.run pins s3 σ H3 (fun o H4 => o = some (-1) ∧ H4 = H3) I3 ⟨1, rfl, -1, rfl, rfl, rfl⟩) fun vs s4 ⟨o, H4, I4, ps, eo, e4⟩ => ?_
  subst eo e4
  cases pl
  cases pu
  have I5 : Inv X pins σ H4 { s4 with heap := s4.heap.push { cls := .type "slice", data := .fields #[.none, .none, vs] } } := I4.kept (t' := s4.toks) fun b ob q => Heap.get?_push_of_some _ q
  obtain ⟨its, r, ht, hz⟩ := I5.tuple hx
  have hlen := r.length
  show wpAny (model X.prog X.w) X.A (subscriptTail e (.Slice none none (some (.UnaryOp .USub (.Constant (.int 1) k p1) p2)) p3) (.ref a) (.ref s4.heap.objs.size)) (EP X pins σ Q) X.xe { s4 with heap := s4.heap.push { cls := .type "slice", data := .fields #[.none, .none, vs] } }
  refine tail_any (ops := [.ref a, .ref s4.heap.objs.size]) ht.typeIs (PyProof.Rows.slot_tuple_getitem.lookup) ?_ (by with_unfolding_all rfl)
  refine getItem_tuple_rev ht (Heap.IsSliceOf.new _ .none .none vs) ps ?_ (by omega)
  refine ⟨.ref _, _, I5.laid (t' := s4.toks) (o := .tup xs.reverse) (fun b ob q => Heap.get?_push_of_some _ q) (Nat.le_refl _) ?_, rfl, q _ (I5.hok.fresh (Nat.le_refl _))⟩
  exact ⟨by rw [List.length_reverse]; exact hz, _, r.reverse, IsTup.new _ _⟩
end
end TtR

/-! the text by places; promises held by name; heaps -/
namespace Tt
open PySem PySem.Spec PyProof.Rows L2 TtR
def topS (i : Nat) : Stmt := PySem.Challenge.pw_tabletalk_k18_whole_any_defect.main.body.getD i (.Pass ⟨0, 0, 0, 0⟩)
abbrev s_is_whole : Stmt := topS 6
abbrev N_is_whole : List Str := ["value", "low", "high"]
theorem sc_is_whole : FnScope N_is_whole ["value", "low", "high"] (defScope s_is_whole) := ⟨rfl, rfl, rfl, by decide +kernel, rfl, by decide +kernel, by decide +kernel⟩
abbrev s_is_climbing : Stmt := topS 7
abbrev N_is_climbing : List Str := ["value", "at"]
theorem sc_is_climbing : FnScope N_is_climbing ["value"] (defScope s_is_climbing) := ⟨rfl, rfl, rfl, by decide +kernel, rfl, by decide +kernel, by decide +kernel⟩
abbrev s_are_variables : Stmt := topS 8
abbrev N_are_variables : List Str := ["value", "one"]
theorem sc_are_variables : FnScope N_are_variables ["value"] (defScope s_are_variables) := ⟨rfl, rfl, rfl, by decide +kernel, rfl, by decide +kernel, by decide +kernel⟩
abbrev s_is_scope : Stmt := topS 9
abbrev N_is_scope : List Str := ["value"]
theorem sc_is_scope : FnScope N_is_scope ["value"] (defScope s_is_scope) := ⟨rfl, rfl, rfl, by decide +kernel, rfl, by decide +kernel, by decide +kernel⟩
abbrev s_is_number : Stmt := topS 12
abbrev N_is_number : List Str := ["value", "low", "high"]
theorem sc_is_number : FnScope N_is_number ["value", "low", "high"] (defScope s_is_number) := ⟨rfl, rfl, rfl, by decide +kernel, rfl, by decide +kernel, by decide +kernel⟩
abbrev s_is_edge : Stmt := topS 13
abbrev N_is_edge : List Str := ["value", "many", "one"]
theorem sc_is_edge : FnScope N_is_edge ["value", "many"] (defScope s_is_edge) := ⟨rfl, rfl, rfl, by decide +kernel, rfl, by decide +kernel, by decide +kernel⟩
abbrev s_is_graph : Stmt := topS 14
abbrev N_is_graph : List Str := ["value", "values", "scopes", "edges", "one", "edge", "at"]
theorem sc_is_graph : FnScope N_is_graph ["value"] (defScope s_is_graph) := ⟨rfl, rfl, rfl, by decide +kernel, rfl, by decide +kernel, by decide +kernel⟩
abbrev s_variables_of : Stmt := topS 15
abbrev N_variables_of : List Str := ["graph"]
theorem sc_variables_of : FnScope N_variables_of ["graph"] (defScope s_variables_of) := ⟨rfl, rfl, rfl, by decide +kernel, rfl, by decide +kernel, by decide +kernel⟩
abbrev s_scope_of : Stmt := topS 16
abbrev N_scope_of : List Str := ["graph", "nodes", "found", "node", "variable"]
theorem sc_scope_of : FnScope N_scope_of ["graph", "nodes"] (defScope s_scope_of) := ⟨rfl, rfl, rfl, by decide +kernel, rfl, by decide +kernel, by decide +kernel⟩
abbrev s_check_graph : Stmt := topS 18
abbrev N_check_graph : List Str := ["value"]
theorem sc_check_graph : FnScope N_check_graph ["value"] (defScope s_check_graph) := ⟨rfl, rfl, rfl, by decide +kernel, rfl, by decide +kernel, by decide +kernel⟩
abbrev s_is_node : Stmt := topS 19
abbrev N_is_node : List Str := ["value", "graph"]
theorem sc_is_node : FnScope N_is_node ["value", "graph"] (defScope s_is_node) := ⟨rfl, rfl, rfl, by decide +kernel, rfl, by decide +kernel, by decide +kernel⟩
abbrev s_neighbours : Stmt := topS 20
abbrev N_neighbours : List Str := ["graph", "node", "found", "one", "other"]
theorem sc_neighbours : FnScope N_neighbours ["graph", "node"] (defScope s_neighbours) := ⟨rfl, rfl, rfl, by decide +kernel, rfl, by decide +kernel, by decide +kernel⟩
abbrev s_hanging : Stmt := topS 21
abbrev N_hanging : List Str := ["graph", "node", "among", "found", "at", "other"]
theorem sc_hanging : FnScope N_hanging ["graph", "node", "among"] (defScope s_hanging) := ⟨rfl, rfl, rfl, by decide +kernel, rfl, by decide +kernel, by decide +kernel⟩
abbrev s_having : Stmt := topS 22
abbrev N_having : List Str := ["graph", "variable", "node", "scope"]
theorem sc_having : FnScope N_having ["graph", "variable"] (defScope s_having) := ⟨rfl, rfl, rfl, by decide +kernel, rfl, by decide +kernel, by decide +kernel⟩
abbrev s_has_cycle : Stmt := topS 23
abbrev N_has_cycle : List Str := ["graph", "left", "count", "node"]
theorem sc_has_cycle : FnScope N_has_cycle ["graph"] (defScope s_has_cycle) := ⟨rfl, rfl, rfl, by decide +kernel, rfl, by decide +kernel, by decide +kernel⟩
abbrev s_split_variable : Stmt := topS 24
abbrev N_split_variable : List Str := ["graph", "variable", "nodes"]
theorem sc_split_variable : FnScope N_split_variable ["graph"] (defScope s_split_variable) := ⟨rfl, rfl, rfl, by decide +kernel, rfl, by decide +kernel, by decide +kernel⟩
abbrev s_is_tree_like : Stmt := topS 25
abbrev N_is_tree_like : List Str := ["graph", "nodes"]
theorem sc_is_tree_like : FnScope N_is_tree_like ["graph"] (defScope s_is_tree_like) := ⟨rfl, rfl, rfl, by decide +kernel, rfl, by decide +kernel, by decide +kernel⟩
abbrev s_is_junction_tree : Stmt := topS 26
abbrev N_is_junction_tree : List Str := ["graph"]
theorem sc_is_junction_tree : FnScope N_is_junction_tree ["graph"] (defScope s_is_junction_tree) := ⟨rfl, rfl, rfl, by decide +kernel, rfl, by decide +kernel, by decide +kernel⟩
abbrev s_cycles_from : Stmt := topS 28
abbrev N_cycles_from : List Str := ["graph", "row", "found", "waiting", "nodes", "onward", "node"]
theorem sc_cycles_from : FnScope N_cycles_from ["graph", "row"] (defScope s_cycles_from) := ⟨rfl, rfl, rfl, by decide +kernel, rfl, by decide +kernel, by decide +kernel⟩
abbrev s_told_cycle : Stmt := topS 29
abbrev N_told_cycle : List Str := ["graph", "found", "node", "nodes"]
theorem sc_told_cycle : FnScope N_told_cycle ["graph"] (defScope s_told_cycle) := ⟨rfl, rfl, rfl, by decide +kernel, rfl, by decide +kernel, by decide +kernel⟩
abbrev s_defect_of : Stmt := topS 30
abbrev N_defect_of : List Str := ["graph", "cycle", "nodes", "part", "variable", "those"]
theorem sc_defect_of : FnScope N_defect_of ["graph"] (defScope s_defect_of) := ⟨rfl, rfl, rfl, by decide +kernel, rfl, by decide +kernel, by decide +kernel⟩
abbrev s_defect : Stmt := topS 31
abbrev N_defect : List Str := ["graph"]
theorem sc_defect : FnScope N_defect ["graph"] (defScope s_defect) := ⟨rfl, rfl, rfl, by decide +kernel, rfl, by decide +kernel, by decide +kernel⟩
abbrev s_are_nodes : Stmt := topS 32
abbrev N_are_nodes : List Str := ["value", "graph", "node"]
theorem sc_are_nodes : FnScope N_are_nodes ["value", "graph"] (defScope s_are_nodes) := ⟨rfl, rfl, rfl, by decide +kernel, rfl, by decide +kernel, by decide +kernel⟩
abbrev s_is_part : Stmt := topS 33
abbrev N_is_part : List Str := ["value", "graph", "among", "others", "node", "a", "b"]
theorem sc_is_part : FnScope N_is_part ["value", "graph", "among"] (defScope s_is_part) := ⟨rfl, rfl, rfl, by decide +kernel, rfl, by decide +kernel, by decide +kernel⟩
abbrev s_is_cycle : Stmt := topS 34
abbrev N_is_cycle : List Str := ["value", "graph", "at", "node"]
theorem sc_is_cycle : FnScope N_is_cycle ["value", "graph"] (defScope s_is_cycle) := ⟨rfl, rfl, rfl, by decide +kernel, rfl, by decide +kernel, by decide +kernel⟩
abbrev s_is_defect : Stmt := topS 35
abbrev N_is_defect : List Str := ["graph", "value"]
theorem sc_is_defect : FnScope N_is_defect ["graph", "value"] (defScope s_is_defect) := ⟨rfl, rfl, rfl, by decide +kernel, rfl, by decide +kernel, by decide +kernel⟩
abbrev s_accepts_defect : Stmt := topS 36
abbrev N_accepts_defect : List Str := ["graph", "value"]
theorem sc_accepts_defect : FnScope N_accepts_defect ["graph", "value"] (defScope s_accepts_defect) := ⟨rfl, rfl, rfl, by decide +kernel, rfl, by decide +kernel, by decide +kernel⟩
abbrev s_law_stream : Stmt := topS 38
abbrev N_law_stream : List Str := ["_law_script"]
theorem sc_law_stream : FnScope N_law_stream ["_law_script"] (defScope s_law_stream) := ⟨rfl, rfl, rfl, by decide +kernel, rfl, by decide +kernel, by decide +kernel⟩
abbrev s_law_next : Stmt := topS 39
abbrev N_law_next : List Str := ["_law_stream_here", "_law_many", "_law_k", "_law_cell", "_law_digit"]
theorem sc_law_next : FnScope N_law_next ["_law_stream_here", "_law_many"] (defScope s_law_next) := ⟨rfl, rfl, rfl, by decide +kernel, rfl, by decide +kernel, by decide +kernel⟩
abbrev s_law_equal : Stmt := topS 41
abbrev N_law_equal : List Str := ["_law_actual", "_law_due", "_law_at"]
theorem sc_law_equal : FnScope N_law_equal ["_law_actual", "_law_due"] (defScope s_law_equal) := ⟨rfl, rfl, rfl, by decide +kernel, rfl, by decide +kernel, by decide +kernel⟩
abbrev s_law_scope : Stmt := topS 42
abbrev N_law_scope : List Str := ["_law_stream_here", "_law_variables", "_law_found", "_law_variable"]
theorem sc_law_scope : FnScope N_law_scope ["_law_stream_here", "_law_variables"] (defScope s_law_scope) := ⟨rfl, rfl, rfl, by decide +kernel, rfl, by decide +kernel, by decide +kernel⟩
abbrev s_law_any_graph : Stmt := topS 43
abbrev N_law_any_graph : List Str := ["_law_stream_here", "_law_most", "_law_many", "_law_variables", "_law_scopes", "_law_edges", "_law_one", "_law_other", "_law_node"]
theorem sc_law_any_graph : FnScope N_law_any_graph ["_law_stream_here", "_law_most"] (defScope s_law_any_graph) := ⟨rfl, rfl, rfl, by decide +kernel, rfl, by decide +kernel, by decide +kernel⟩
abbrev s_law_tree : Stmt := topS 44
abbrev N_law_tree : List Str := ["_law_stream_here", "_law_most", "_law_many", "_law_scopes", "_law_edges", "_law_fresh", "_law_node", "_law_near_here", "_law_scope_here", "_law_variable"]
theorem sc_law_tree : FnScope N_law_tree ["_law_stream_here", "_law_most"] (defScope s_law_tree) := ⟨rfl, rfl, rfl, by decide +kernel, rfl, by decide +kernel, by decide +kernel⟩
abbrev s_law_some_graph : Stmt := topS 45
abbrev N_law_some_graph : List Str := ["_law_stream_here", "_law_most", "_law_graph", "_law_at"]
theorem sc_law_some_graph : FnScope N_law_some_graph ["_law_stream_here", "_law_most"] (defScope s_law_some_graph) := ⟨rfl, rfl, rfl, by decide +kernel, rfl, by decide +kernel, by decide +kernel⟩
abbrev s_law_near : Stmt := topS 46
abbrev N_law_near : List Str := ["_law_graph", "_law_node", "_law_found", "_law_one", "_law_other"]
theorem sc_law_near : FnScope N_law_near ["_law_graph", "_law_node"] (defScope s_law_near) := ⟨rfl, rfl, rfl, by decide +kernel, rfl, by decide +kernel, by decide +kernel⟩
abbrev s_law_having : Stmt := topS 47
abbrev N_law_having : List Str := ["_law_graph", "_law_variable", "_law_node"]
theorem sc_law_having : FnScope N_law_having ["_law_graph", "_law_variable"] (defScope s_law_having) := ⟨rfl, rfl, rfl, by decide +kernel, rfl, by decide +kernel, by decide +kernel⟩
abbrev s_law_is_part : Stmt := topS 48
abbrev N_law_is_part : List Str := ["_law_graph", "_law_part", "_law_among", "_law_others", "_law_one", "_law_other", "_law_node"]
theorem sc_law_is_part : FnScope N_law_is_part ["_law_graph", "_law_part", "_law_among"] (defScope s_law_is_part) := ⟨rfl, rfl, rfl, by decide +kernel, rfl, by decide +kernel, by decide +kernel⟩
abbrev s_law_is_defect : Stmt := topS 49
abbrev N_law_is_defect : List Str := ["_law_graph", "_law_value", "_law_nodes", "_law_k"]
theorem sc_law_is_defect : FnScope N_law_is_defect ["_law_graph", "_law_value"] (defScope s_law_is_defect) := ⟨rfl, rfl, rfl, by decide +kernel, rfl, by decide +kernel, by decide +kernel⟩
abbrev s_law_drawn : Stmt := topS 50
abbrev N_law_drawn : List Str := ["_law_stream_here", "_law_many", "_law_left", "_law_row", "_law_turn"]
theorem sc_law_drawn : FnScope N_law_drawn ["_law_stream_here", "_law_many"] (defScope s_law_drawn) := ⟨rfl, rfl, rfl, by decide +kernel, rfl, by decide +kernel, by decide +kernel⟩
abbrev s_law : Stmt := topS 51
abbrev N_law : List Str := ["_law_script", "_law_stream_here", "_law_graph", "_law_many", "_law_values", "_law_told", "_law_powers", "_law_number", "_law_part", "_law_value", "_law_due", "_law_three", "_law_odd", "_law_turn", "_law_node"]
theorem sc_law : FnScope N_law ["_law_script"] (defScope s_law) := ⟨rfl, rfl, rfl, by decide +kernel, rfl, by decide +kernel, by decide +kernel⟩
/-- the built-ins by name, the constants -/
structure Bl (mg : Str → Option Value) : Prop where
  abs_ : mg "abs" = none
  all_ : mg "all" = none
  any_ : mg "any" = none
  bool_ : mg "bool" = none
  enumerate_ : mg "enumerate" = none
  int_ : mg "int" = none
  isinstance_ : mg "isinstance" = none
  len_ : mg "len" = none
  list_ : mg "list" = none
  max_ : mg "max" = none
  min_ : mg "min" = none
  range_ : mg "range" = none
  set_ : mg "set" = none
  sorted_ : mg "sorted" = none
  str_ : mg "str" = none
  tuple_ : mg "tuple" = none
  MOST_VARIABLE_ : ∃ t, mg "MOST_VARIABLE" = some (.int 5 t)
  WIDEST_SCOPE_ : ∃ t, mg "WIDEST_SCOPE" = some (.int 3 t)
  MOST_NODES_ : ∃ t, mg "MOST_NODES" = some (.int 5 t)
/-- a def of the text where the module has it -/
def FunAt (K : PySem.W.Frag) (mg : Str → Option Value) (x : Str) (st : Stmt) : Prop := ∃ f fd, mg x = some (.ref f) ∧ Fun K x x st f fd
structure Tx (K : PySem.W.Frag) (mg : Str → Option Value) : Prop where
  is_whole : FunAt K mg "is_whole" s_is_whole
  is_climbing : FunAt K mg "is_climbing" s_is_climbing
  are_variables : FunAt K mg "are_variables" s_are_variables
  is_scope : FunAt K mg "is_scope" s_is_scope
  is_number : FunAt K mg "is_number" s_is_number
  is_edge : FunAt K mg "is_edge" s_is_edge
  is_graph : FunAt K mg "is_graph" s_is_graph
  variables_of : FunAt K mg "variables_of" s_variables_of
  scope_of : FunAt K mg "scope_of" s_scope_of
  check_graph : FunAt K mg "check_graph" s_check_graph
  is_node : FunAt K mg "is_node" s_is_node
  neighbours : FunAt K mg "neighbours" s_neighbours
  hanging : FunAt K mg "hanging" s_hanging
  having : FunAt K mg "having" s_having
  has_cycle : FunAt K mg "has_cycle" s_has_cycle
  split_variable : FunAt K mg "split_variable" s_split_variable
  is_tree_like : FunAt K mg "is_tree_like" s_is_tree_like
  is_junction_tree : FunAt K mg "is_junction_tree" s_is_junction_tree
  cycles_from : FunAt K mg "cycles_from" s_cycles_from
  told_cycle : FunAt K mg "told_cycle" s_told_cycle
  defect_of : FunAt K mg "defect_of" s_defect_of
  defect : FunAt K mg "defect" s_defect
  are_nodes : FunAt K mg "are_nodes" s_are_nodes
  is_part : FunAt K mg "is_part" s_is_part
  is_cycle : FunAt K mg "is_cycle" s_is_cycle
  is_defect : FunAt K mg "is_defect" s_is_defect
  accepts_defect : FunAt K mg "accepts_defect" s_accepts_defect
  law_stream : FunAt K mg "_law_stream" s_law_stream
  law_next : FunAt K mg "_law_next" s_law_next
  law_equal : FunAt K mg "_law_equal" s_law_equal
  law_scope : FunAt K mg "_law_scope" s_law_scope
  law_any_graph : FunAt K mg "_law_any_graph" s_law_any_graph
  law_tree : FunAt K mg "_law_tree" s_law_tree
  law_some_graph : FunAt K mg "_law_some_graph" s_law_some_graph
  law_near : FunAt K mg "_law_near" s_law_near
  law_having : FunAt K mg "_law_having" s_law_having
  law_is_part : FunAt K mg "_law_is_part" s_law_is_part
  law_is_defect : FunAt K mg "_law_is_defect" s_law_is_defect
  law_drawn : FunAt K mg "_law_drawn" s_law_drawn
  law : FunAt K mg "law" s_law
/-- a def that keeps its promise, by its name -/
structure FnC (P : Program) (w : World) (K : PySem.W.Frag) (mg : Str → Option Value) (base : Heap) (k : Nat) (x : Str) (ps : List Str) (sp : Sp) : Prop where
  ex : ∃ f fd, mg x = some (.ref f) ∧ PySem.W.keepIn K (.ref f) = true ∧ Binds K fd ps [] ∧ FnOk P w K mg base CX0 k f fd ps sp
theorem pe_callC {X : Cx} {k : Nat} {x : Str} {ps : List Str} {sp : Sp} {e : Expr} {es : List Expr} {t : TA} {p pos : Pos} (C : FnC X.prog X.w X.K X.mg X.base k x ps sp) (hr : Room k X.A) (hg : Gl X x) (ha : PA X (e :: es) t)
    (hdb : (x == ("__debug__" : Str)) = false := by decide) (he : starEach (e :: es) X.env = (false, eval e X.env) :: starEach es X.env := by rfl) (hpl : (backTo pos (starEach es X.env)).any (·.1) = false := by rfl) :
    PE X (.Call (.Name x p) (e :: es) [] pos) (tCall sp [] E0 t) := by
  obtain ⟨f, fd, h1, h2, h3, h4⟩ := C.ex
  exact pe_call h4 hr hg h1 h2 h3 .nil pass0 ha hdb he hpl
theorem units65 {A : Around} {k : Nat} (hr : Room k A) : A.units + 65 < cLine := by have := hr.un; omega

/-! ### heaps -/
theorem Same.new {H : Hp} {p : Addr} {o : HO} (h : H p = none) : Same H (upd H p o) := fun b u e => by
  rw [upd_ne (ne_of_none e h)]
  exact e
/-- an object that H does not know may change -/
theorem Same.mut {H H' : Hp} {p : Addr} {o : HO} (e : Same H H') (h : H p = none) : Same H (upd H' p o) := fun a u ha => by
  rw [upd_ne (ne_of_none ha h)]
  exact e a u ha
/-- tuples stay, lists stay lists -/
structure Gw (H H' : Hp) : Prop where
  tup : ∀ a xs, H a = some (.tup xs) → H' a = some (.tup xs)
  lst : ∀ a xs, H a = some (.lst xs) → ∃ ys, H' a = some (.lst ys)
theorem Gw.refl (H : Hp) : Gw H H := ⟨fun _ _ h => h, fun _ xs h => ⟨xs, h⟩⟩
theorem Gw.of {H H' : Hp} (e : Same H H') : Gw H H' := ⟨fun a xs h => e a _ h, fun a xs h => ⟨xs, e a _ h⟩⟩
theorem Gw.trans {H H1 H2 : Hp} (a : Gw H H1) (b : Gw H1 H2) : Gw H H2 := ⟨fun c xs h => b.tup c xs (a.tup c xs h), fun c xs h => by
  obtain ⟨ys, e⟩ := a.lst c xs h
  exact b.lst c ys e⟩
theorem Gw.new {H : Hp} {p : Addr} {o : HO} (h : H p = none) : Gw H (upd H p o) := Gw.of (Same.new h)
theorem Gw.upd {H : Hp} {p : Addr} {xs ys : List V} (h : H p = some (.lst xs)) : Gw H (upd H p (.lst ys)) := by
  refine ⟨fun a zs e => ?_, fun a zs e => ?_⟩
  · rw [upd_ne (ne_of e h (by intro z; cases z))]
    exact e
  · by_cases q : a = p
    · subst q
      exact ⟨ys, upd_same⟩
    · exact ⟨zs, by rw [upd_ne q]; exact e⟩

/-! ### data that stands in a heap; of a list only that it is one -/
mutual
inductive Is (H : Hp) : V → PyData → Prop
  | non : Is H .non .none
  | bl (b : Bool) : Is H (.bl b) (.bool b)
  | int (i : Int) : Is H (.int i) (.int i)
  | str (x : Str) : Is H (.str x) (.str x)
  | lst {a : Addr} {xs : List V} : H a = some (.lst xs) → Is H (.ref a) (.list [])
  | tup {a : Addr} {xs : List V} {ds : List PyData} : H a = some (.tup xs) → IsAll H xs ds → Is H (.ref a) (.tuple ds)
inductive IsAll (H : Hp) : List V → List PyData → Prop
  | nil : IsAll H [] []
  | cons {v : V} {vs : List V} {d : PyData} {ds : List PyData} : Is H v d → IsAll H vs ds → IsAll H (v :: vs) (d :: ds)
end
mutual
theorem Is.gw {H H' : Hp} (g : Gw H H') : ∀ {v : V} {d : PyData}, Is H v d → Is H' v d
  | _, _, .non => .non
  | _, _, .bl b => .bl b
  | _, _, .int i => .int i
  | _, _, .str x => .str x
  | _, _, .lst h => let ⟨_, e⟩ := g.lst _ _ h; .lst e
  | _, _, .tup h hs => .tup (g.tup _ _ h) (IsAll.gw g hs)
theorem IsAll.gw {H H' : Hp} (g : Gw H H') : ∀ {vs : List V} {ds : List PyData}, IsAll H vs ds → IsAll H' vs ds
  | _, _, .nil => .nil
  | _, _, .cons h hs => .cons (Is.gw g h) (IsAll.gw g hs)
end
theorem IsAll.len {H : Hp} : ∀ {vs : List V} {ds : List PyData}, IsAll H vs ds → vs.length = ds.length
  | _, _, .nil => rfl
  | _, _, .cons _ hs => by rw [List.length_cons, List.length_cons, IsAll.len hs]
theorem IsAll.at_ {H : Hp} : ∀ {vs : List V} {ds : List PyData} {i : Nat} {d : PyData}, IsAll H vs ds → ds[i]? = some d → ∃ v, vs[i]? = some v ∧ Is H v d
  | _, _, _, _, .nil, h => by simp at h
  | _, _, 0, _, .cons q _, h => by
    have e := Option.some.inj (show some _ = some _ from h)
    subst e
    exact ⟨_, rfl, q⟩
  | _, _, i + 1, _, .cons _ qs, h => IsAll.at_ qs (i := i) (by simpa using h)
theorem IsAll.ints {H : Hp} : ∀ ns : List Int, IsAll H (ns.map V.int) (ns.map PyData.int)
  | [] => .nil
  | n :: ns => .cons (.int n) (IsAll.ints ns)
def tupI (ns : List Int) : PyData := .tuple (ns.map PyData.int)
theorem Is.tupI {H : Hp} {a : Addr} {ns : List Int} (h : H a = some (.tup (ns.map V.int))) : Is H (.ref a) (tupI ns) := .tup h (IsAll.ints ns)
theorem Is.ints_of {H : Hp} : ∀ {vs : List V} {ds : List PyData} {ns : List Int}, IsAll H vs ds → ds = ns.map PyData.int → vs = ns.map V.int
  | _, _, [], .nil, _ => rfl
  | _, _, n :: ns, .nil, e => by cases e
  | _, _, [], .cons q qs, e => by cases e
  | _, _, n :: ns, .cons q qs, e => by
    rw [List.map_cons, List.cons.injEq] at e
    obtain ⟨e1, e2⟩ := e
    subst e1
    cases q
    rw [Is.ints_of qs e2]
    rfl
/-- the class of such data, for isinstance -/
def tyD : PyData → String
  | .none => "NoneType"
  | .bool _ => "bool"
  | .int _ => "int"
  | .str _ => "str"
  | .list _ => "list"
  | .tuple _ => "tuple"
  | .dict _ => "dict"
theorem Is.ty {K : PySem.W.Frag} {H : Hp} {v : V} {d : PyData} (h : Is H v d) : TyX K H v (.type (tyD d)) := by
  cases h with
  | non => exact .base .non
  | bl b => exact .base (.bl b)
  | int i => exact .base (.int i)
  | str x => exact .base (.str x)
  | lst e => exact .base (.lst e)
  | tup e _ => exact .base (.tup e)
/-- the answer of isinstance -/
def isD (d : PyData) (T : String) : Option Bool := kitB (tyD d) T
/-- isinstance(x, T) as it is asked -/
theorem isi_ask {K : PySem.W.Frag} {H : Hp} {v : V} {d : PyData} {T : String} {b : Bool} {Q : VK} (h : Is H v d) (e : kitB (tyD d) T = some b) (q : Q (.bl b) H) : rIsi K [v, .ty T] H Q :=
  ⟨v, .ty T, _, _, b, rfl, .ty T, h.ty, kit_ty e, q⟩
theorem kit_tt : kitB "tuple" "tuple" = some true := by decide +kernel
theorem kit_ii : kitB "int" "int" = some true := by decide +kernel
theorem kit_ib : kitB "int" "bool" = some false := by decide +kernel
theorem kit_bb : kitB "bool" "bool" = some true := by decide +kernel
theorem kit_bi : kitB "bool" "int" = some true := by decide +kernel
theorem kit_ss : kitB "str" "str" = some true := by decide +kernel
theorem kit_tup (d : PyData) (h : ∀ kvs, d ≠ .dict kvs) : kitB (tyD d) "tuple" = some (match d with | .tuple _ => true | _ => false) := by
  cases d with
  | dict kvs => exact absurd rfl (h kvs)
  | _ => (first | exact (by decide +kernel : kitB "NoneType" "tuple" = some false) | exact (by decide +kernel : kitB "bool" "tuple" = some false) | exact (by decide +kernel : kitB "int" "tuple" = some false) | exact (by decide +kernel : kitB "str" "tuple" = some false) | exact (by decide +kernel : kitB "list" "tuple" = some false) | exact (by decide +kernel : kitB "tuple" "tuple" = some true))
theorem kit_str (d : PyData) (h : ∀ kvs, d ≠ .dict kvs) : kitB (tyD d) "str" = some (match d with | .str _ => true | _ => false) := by
  cases d with
  | dict kvs => exact absurd rfl (h kvs)
  | _ => (first | exact (by decide +kernel : kitB "NoneType" "str" = some false) | exact (by decide +kernel : kitB "bool" "str" = some false) | exact (by decide +kernel : kitB "int" "str" = some false) | exact (by decide +kernel : kitB "str" "str" = some true) | exact (by decide +kernel : kitB "list" "str" = some false) | exact (by decide +kernel : kitB "tuple" "str" = some false))
theorem kit_int (d : PyData) (h : ∀ kvs, d ≠ .dict kvs) : kitB (tyD d) "int" = some (match d with | .int _ => true | .bool _ => true | _ => false) := by
  cases d with
  | dict kvs => exact absurd rfl (h kvs)
  | _ => (first | exact (by decide +kernel : kitB "NoneType" "int" = some false) | exact (by decide +kernel : kitB "bool" "int" = some true) | exact (by decide +kernel : kitB "int" "int" = some true) | exact (by decide +kernel : kitB "str" "int" = some false) | exact (by decide +kernel : kitB "list" "int" = some false) | exact (by decide +kernel : kitB "tuple" "int" = some false))
theorem kit_bool (d : PyData) (h : ∀ kvs, d ≠ .dict kvs) : kitB (tyD d) "bool" = some (match d with | .bool _ => true | _ => false) := by
  cases d with
  | dict kvs => exact absurd rfl (h kvs)
  | _ => (first | exact (by decide +kernel : kitB "NoneType" "bool" = some false) | exact (by decide +kernel : kitB "bool" "bool" = some true) | exact (by decide +kernel : kitB "int" "bool" = some false) | exact (by decide +kernel : kitB "str" "bool" = some false) | exact (by decide +kernel : kitB "list" "bool" = some false) | exact (by decide +kernel : kitB "tuple" "bool" = some false))
theorem Is.nodict {H : Hp} {v : V} {d : PyData} (h : Is H v d) : ∀ kvs, d ≠ .dict kvs := by
  intro kvs e
  subst e
  cases h

/-! ### tuples of tuples of ints -/
def Tups (H : Hp) (xs : List V) (nss : List (List Int)) : Prop := xs.length = nss.length ∧ ∀ (i : Nat) (v : V) (ns : List Int), xs[i]? = some v → nss[i]? = some ns → ∃ a, v = .ref a ∧ H a = some (.tup (ns.map V.int))
theorem Tups.gw {H H' : Hp} (g : Gw H H') {xs : List V} {nss : List (List Int)} (h : Tups H xs nss) : Tups H' xs nss := ⟨h.1, fun i v ns h1 h2 => by
  obtain ⟨a, e, q⟩ := h.2 i v ns h1 h2
  exact ⟨a, e, g.tup a _ q⟩⟩
theorem Tups.nil {H : Hp} : Tups H [] [] := ⟨rfl, fun i v ns h => by simp at h⟩
theorem Tups.snoc {H : Hp} {xs : List V} {nss : List (List Int)} {a : Addr} {ns : List Int} (h : Tups H xs nss) (q : H a = some (.tup (ns.map V.int))) : Tups H (xs ++ [.ref a]) (nss ++ [ns]) := by
  refine ⟨by simp [h.1], fun i v ms h1 h2 => ?_⟩
  by_cases hi : i < xs.length
  · rw [List.getElem?_append_left hi] at h1
    rw [List.getElem?_append_left (by rw [← h.1]; exact hi)] at h2
    exact h.2 i v ms h1 h2
  · rw [List.getElem?_append_right (by omega)] at h1
    rw [List.getElem?_append_right (by rw [← h.1]; omega), ← h.1] at h2
    have e : i - xs.length = 0 := by
      cases q : i - xs.length with
      | zero => rfl
      | succ k => rw [q] at h1; simp at h1
    rw [e] at h1 h2
    have e1 := Option.some.inj (show some (V.ref a) = some v from h1)
    have e2 := Option.some.inj (show some ns = some ms from h2)
    subst e1 e2
    exact ⟨a, rfl, q⟩
theorem Tups.at_ {H : Hp} {xs : List V} {nss : List (List Int)} (h : Tups H xs nss) {i : Nat} {ns : List Int} (e : nss[i]? = some ns) : ∃ a, xs[i]? = some (.ref a) ∧ H a = some (.tup (ns.map V.int)) := by
  have hi : i < xs.length := by
    rw [h.1]
    exact (List.getElem?_eq_some_iff.mp e).1
  obtain ⟨a, e1, q⟩ := h.2 i xs[i] ns (List.getElem?_eq_getElem hi) e
  exact ⟨a, by rw [List.getElem?_eq_getElem hi, e1], q⟩
theorem Tups.of_x {H : Hp} {xs : List V} {nss : List (List Int)} (h : Tups H xs nss) {i : Nat} {v : V} (e : xs[i]? = some v) : ∃ a ns, v = .ref a ∧ nss[i]? = some ns ∧ H a = some (.tup (ns.map V.int)) := by
  have hi : i < nss.length := by
    rw [← h.1]
    exact (List.getElem?_eq_some_iff.mp e).1
  obtain ⟨a, e1, q⟩ := h.2 i v nss[i] e (List.getElem?_eq_getElem hi)
  exact ⟨a, nss[i], e1, List.getElem?_eq_getElem hi, q⟩
theorem Tups.append {H : Hp} {xs ys : List V} {nss mss : List (List Int)} (h : Tups H xs nss) (k : Tups H ys mss) : Tups H (xs ++ ys) (nss ++ mss) := by
  refine ⟨by simp [h.1, k.1], fun i v ms h1 h2 => ?_⟩
  by_cases hi : i < xs.length
  · rw [List.getElem?_append_left hi] at h1
    rw [List.getElem?_append_left (by rw [← h.1]; exact hi)] at h2
    exact h.2 i v ms h1 h2
  · rw [List.getElem?_append_right (by omega)] at h1
    rw [List.getElem?_append_right (by rw [← h.1]; omega), ← h.1] at h2
    exact k.2 _ v ms h1 h2

/-! ### graphs -/
structure Gr where
  vals : Int
  scopes : List (List Int)
  edges : List (Int × Int)
def pr (p : Int × Int) : List Int := [p.1, p.2]
/-- the graph G stands at g -/
def GraphAt (H : Hp) (g : V) (G : Gr) : Prop := ∃ a sc ed ss es, g = .ref a ∧ H a = some (.tup [.int G.vals, .ref sc, .ref ed]) ∧ H sc = some (.tup ss) ∧ H ed = some (.tup es) ∧ Tups H ss G.scopes ∧ Tups H es (G.edges.map pr)
theorem GraphAt.gw {H H' : Hp} {g : V} {G : Gr} (q : Gw H H') (h : GraphAt H g G) : GraphAt H' g G := by
  obtain ⟨a, sc, ed, ss, es, e, h1, h2, h3, h4, h5⟩ := h
  exact ⟨a, sc, ed, ss, es, e, q.tup _ _ h1, q.tup _ _ h2, q.tup _ _ h3, h4.gw q, h5.gw q⟩

/-! ### ints in sequences -/
theorem flat_ints (ns : List Int) : (ns.map V.int).all flatV = true := by
  rw [List.all_map, List.all_eq_true]
  intro x _
  rfl
theorem inV_ints (x : Int) (ns : List Int) : inV (.int x) (ns.map V.int) = decide (x ∈ ns) := by
  unfold inV
  rw [List.any_map]
  induction ns with
  | nil => simp
  | cons n ns ih =>
    rw [List.any_cons, ih]
    have e : ((fun y => eqV y (V.int x)) ∘ V.int) n = (n == x) := rfl
    rw [e]
    by_cases h : n = x
    · subst h; simp
    · have h' : x ≠ n := fun q => h q.symm
      simp [h, h']
/-- a list or a tuple of these -/
def SqI (K : PySem.W.Frag) (H : Hp) (v : V) (ns : List Int) : Prop := ∃ a, v = .ref a ∧ (SqL K H a (ns.map V.int) ∨ SqT K H a (ns.map V.int))
theorem Same.sqT {K : PySem.W.Frag} {H H' : Hp} {a : Addr} {xs : List V} (e : Same H H') (h : SqT K H a xs) : SqT K H' a xs := by
  rcases h with (h | ⟨o, h⟩) | h
  · exact .inl (.inl (e _ _ h))
  · exact .inl (.inr ⟨o, e _ _ h⟩)
  · exact .inr h
theorem Same.sqI {K : PySem.W.Frag} {H H' : Hp} {v : V} {ns : List Int} (e : Same H H') (h : SqI K H v ns) : SqI K H' v ns := by
  obtain ⟨a, e1, h | h⟩ := h
  · exact ⟨a, e1, .inl (e.seq h)⟩
  · exact ⟨a, e1, .inr (Same.sqT e h)⟩
/-- x in s, x not in s, ints -/
theorem in_ask {K : PySem.W.Frag} {H : Hp} {v : V} {ns : List Int} {x : Int} {Q : VK} (h : SqI K H v ns) (q : Q (.bl (decide (x ∈ ns))) H) : rIn K false (.int x) v H Q := by
  obtain ⟨a, e, h⟩ := h
  refine ⟨a, ns.map V.int, e, h, rfl, flat_ints ns, ?_⟩
  show Q (.bl (inV (.int x) (ns.map V.int))) H
  rw [inV_ints]
  exact q
theorem notin_ask {K : PySem.W.Frag} {H : Hp} {v : V} {ns : List Int} {x : Int} {Q : VK} (h : SqI K H v ns) (q : Q (.bl (!decide (x ∈ ns))) H) : rIn K true (.int x) v H Q := by
  obtain ⟨a, e, h⟩ := h
  refine ⟨a, ns.map V.int, e, h, rfl, flat_ints ns, ?_⟩
  show Q (.bl (!inV (.int x) (ns.map V.int))) H
  rw [inV_ints]
  exact q
theorem SqI.lst {K : PySem.W.Frag} {H : Hp} {a : Addr} {ns : List Int} (h : H a = some (.lst (ns.map V.int))) : SqI K H (.ref a) ns := ⟨a, rfl, .inl (SqL.of h)⟩
theorem SqI.tup {K : PySem.W.Frag} {H : Hp} {a : Addr} {ns : List Int} (h : H a = some (.tup (ns.map V.int))) : SqI K H (.ref a) ns := ⟨a, rfl, .inr (SqT.of h)⟩
theorem atI_ints {ns : List Int} {z : Int} {j : Nat} {x : Int} (e : z = (j : Int)) (h : ns[j]? = some x) : atI (ns.map V.int) z = some (.int x) := at_of e (by rw [List.getElem?_map, h]; rfl)
theorem atI_last' {xs : List V} {v : V} (h : xs.getLast? = some v) : atI xs (-1) = some v := by
  obtain ⟨ys, rfl⟩ := List.getLast?_eq_some_iff.mp h
  exact atI_last _ _

/-! ### comprehensions -/
section
variable {J : It} {Gd : Hp → Prop} {Y : Nat → Hp → V → Hp → Prop} {g : TG} {tt : TT} {te : TE} {vs : List Nat} {σ : L2.St} {H1 : Hp}
/-- tests and elements told by the items: the new list is (l.filter p).map q, all else stays -/
theorem lc_fm {α : Type} (l : List α) (w : Walk J l.length Gd Y) (p : α → Bool) (q : α → V) (hz : l.length ≤ 10000) {Qd : Addr → Hp → Prop} (hG : ∀ H', Same H1 H' → Gd H')
    (hs : ∀ i z x H' H'' (P2 : V → Hp → Prop) (P3 : Hp → Prop), l[i]? = some z → Same H1 H' → Y i H' x H'' → (∀ H4, Same H' H4 → p z = true → P2 (q z) H4) → (∀ H4, Same H' H4 → p z = false → P3 H4) →
      g x (wipe σ vs) H'' fun σ2 H2 => wipe σ2 vs = wipe σ vs ∧ tt σ2 H2 fun b H3 => if b = true then te σ2 H3 P2 else P3 H3)
    (hd : ∀ D H', H1 D = none → Same H1 H' → H' D = some (.lst ((l.filter p).map q)) → Qd D H') :
    ∀ D, H1 D = none → ∃ W : Nat → Nat → Hp → Prop, (∃ m, W 0 m (upd H1 D (.lst []))) ∧ ∀ i m H, W i m H →
      (J.stop i H ∧ Qd D H) ∨ (J.go i H ∧ ∃ Nx : Hp → Prop, (∀ H', Nx H' → ∃ m', m' < m ∧ W (i + 1) m' H') ∧ ∀ x H', J.yld i H x H' → g x (wipe σ vs) H' fun σ2 H2 => wipe σ2 vs = wipe σ vs ∧ tt σ2 H2 fun b H3 =>
        if b = true then te σ2 H3 fun y H4 => ∃ acc, H4 D = some (.lst acc) ∧ acc.length < sizeLine ∧ Nx (upd H4 D (.lst (acc ++ [y]))) else Nx H3) := by
  intro D hD
  have step : ∀ (i : Nat) (z : α), l[i]? = some z → (l.take (i + 1)).filter p = (l.take i).filter p ++ (if p z = true then [z] else []) := fun i z hz => by
    rw [List.take_add_one, hz, List.filter_append]
    congr 1
    cases hp : p z <;> simp [hp]
  refine lc_it w (fun i H => Same H1 H ∧ H D = some (.lst (((l.take i).filter p).map q))) ⟨Same.new hD, upd_same⟩ (fun i H _ c => hG H c.1) (fun i x H H' hi c y => ?_) (fun H c => ?_)
  · have hzi : l[i]? = some l[i] := List.getElem?_eq_getElem hi
    refine hs i l[i] x H H' _ _ hzi c.1 y (fun H4 s4 hp => ⟨((l.take i).filter p).map q, s4 _ _ c.2, ?_, Same.mut (c.1.trans s4) hD, ?_⟩) (fun H4 s4 hp => ⟨c.1.trans s4, ?_⟩)
    · have h1 : (((l.take i).filter p).map q).length ≤ l.length := by
        rw [List.length_map]
        exact Nat.le_trans (List.length_filter_le _ _) (by rw [List.length_take]; omega)
      rw [sizeLine_eq]
      omega
    · rw [upd_same, step i _ hzi, if_pos hp, List.map_append]
      rfl
    · rw [step i _ hzi, if_neg (by rw [hp]; decide), List.append_nil]
      exact s4 _ _ c.2
  · have e := c.2
    rw [List.take_length] at e
    exact hd D H hD c.1 e
/-- told by an invariant over turn, the list so far, and the heap -/
theorem lc_gen {n : Nat} (w : Walk J n Gd Y) (hz : n ≤ 10000) {D : Addr} {Qd : Hp → Prop} (M : Nat → List V → Hp → Prop) (hG : ∀ i acc H, M i acc H → Gd H)
    (hU : ∀ i acc H a zs, M i acc H → H D = some (.lst a) → M i acc (upd H D (.lst zs))) (h0 : M 0 [] (upd H1 D (.lst [])))
    (hs : ∀ i acc x H' H'' (P2 : V → Hp → Prop) (P3 : Hp → Prop), i < n → H' D = some (.lst acc) → acc.length ≤ i → M i acc H' → Y i H' x H'' →
      (∀ y H4, H4 D = some (.lst acc) → M (i + 1) (acc ++ [y]) H4 → P2 y H4) → (∀ H4, H4 D = some (.lst acc) → M (i + 1) acc H4 → P3 H4) →
      g x (wipe σ vs) H'' fun σ2 H2 => wipe σ2 vs = wipe σ vs ∧ tt σ2 H2 fun b H3 => if b = true then te σ2 H3 P2 else P3 H3)
    (hd : ∀ acc H', H' D = some (.lst acc) → acc.length ≤ n → M n acc H' → Qd H') :
    ∃ W : Nat → Nat → Hp → Prop, (∃ m, W 0 m (upd H1 D (.lst []))) ∧ ∀ i m H, W i m H →
      (J.stop i H ∧ Qd H) ∨ (J.go i H ∧ ∃ Nx : Hp → Prop, (∀ H', Nx H' → ∃ m', m' < m ∧ W (i + 1) m' H') ∧ ∀ x H', J.yld i H x H' → g x (wipe σ vs) H' fun σ2 H2 => wipe σ2 vs = wipe σ vs ∧ tt σ2 H2 fun b H3 =>
        if b = true then te σ2 H3 fun y H4 => ∃ acc, H4 D = some (.lst acc) ∧ acc.length < sizeLine ∧ Nx (upd H4 D (.lst (acc ++ [y]))) else Nx H3) := by
  refine lc_it w (fun i H => ∃ acc, H D = some (.lst acc) ∧ acc.length ≤ i ∧ M i acc H) ⟨[], upd_same, Nat.le_refl _, h0⟩ (fun i H _ ⟨acc, _, _, c⟩ => hG i acc H c) (fun i x H H' hi ⟨acc, c1, c2, c3⟩ y => ?_) (fun H ⟨acc, c1, c2, c3⟩ => hd acc H c1 c2 c3)
  refine hs i acc x H H' _ _ hi c1 c2 c3 y (fun y H4 e m => ⟨acc, e, ?_, acc ++ [y], upd_same, by simp; omega, hU _ _ _ _ _ m e⟩) (fun H4 e m => ⟨acc, e, by omega, m⟩)
  rw [sizeLine_eq]
  omega
end
end Tt

/-! what readings evaluate to -/
namespace Tt
open PySem PySem.Spec PyProof.Rows L2 TtR Evl
/-! rules with the written part named -/
section
variable {X : Cx} {K : PySem.W.Frag}
theorem k_ixT (h : X.K = K) : IxR X (rIxT K) := h ▸ ix_tup
theorem k_ixL (h : X.K = K) : IxR X (rIxL K) := h ▸ ix_list
theorem k_in (h : X.K = K) : OpR X (compareOp .In) (rIn K false) := h ▸ op_in_seq
theorem k_notin (h : X.K = K) : OpR X (compareOp .NotIn) (rIn K true) := h ▸ op_notIn_seq
theorem k_len (h : X.K = K) : CallR X (.builtin "len") (rLenS K) := h ▸ call_len_seq
theorem k_isi (h : X.K = K) : CallR X (.builtin "isinstance") (rIsi K) := h ▸ call_isi
theorem k_all (h : X.K = K) (hc : X.calm = true) : CallR X (.builtin "all") (rAll K) := h ▸ cr_all hc
theorem k_any (h : X.K = K) (hc : X.calm = true) : CallR X (.builtin "any") (rAny K) := h ▸ cr_any hc
theorem k_ltT (h : X.K = K) (hu : X.A.units < cLine) : OpR X (compareOp .Lt) (rLtT K) := h ▸ op_ltT hu
theorem k_inDT (h : X.K = K) (hu : X.A.units + 65 < cLine) : OpR X (compareOp .In) (rInDT K) := h ▸ op_inDT hu
theorem k_eqD (h : X.K = K) (hu : X.A.units + 64 < cLine) : OpR X (compareOp .Eq) (rEqD K) := h ▸ op_eqD hu
theorem k_neD (h : X.K = K) (hu : X.A.units + 64 < cLine) : OpR X (compareOp .NotEq) (rNeD K) := h ▸ op_neD hu
theorem k_catA (h : X.K = K) : OpR X (binaryOp .Add) (rCatA K) := h ▸ op_catA
theorem kpi_tup (h : X.K = K) {tg l : Expr} {tl : TE} (hl : PE X l tl) : PI X tg l (iTup K tl) := h ▸ pi_tup hl
theorem kpi_list (h : X.K = K) {tg l : Expr} {tl : TE} (hl : PE X l tl) : PI X tg l (iList K tl) := h ▸ pi_list hl
theorem kpg_tup (h : X.K = K) {es : List Expr} {k : Nat} {t : TGs} {n : Nat} {pos : Pos} (hc : X.calm = true) (hp : PGs X es t)
    (hn : (assignEach es X.env).length = n := by rfl) (hst : (assignEach es X.env).findIdx? (·.1) = none := by rfl) : PG X (.Tuple es k pos) (gTup K n t) := h ▸ pg_tup hc hp hn hst
theorem k_tupleOf (h : X.K = K) {a : Expr} {ta : TE} {p pos : Pos} (hg : Gl X "tuple") (hm : X.mg "tuple" = none) (ha : PE X a ta) (na : starEach [a] X.env = (false, eval a X.env) :: starEach [] X.env := by rfl) :
    PE X (.Call (.Name "tuple" p) [a] [] pos) (tThen ta (kTup K)) := h ▸ pe_tupleOf hg hm ha na
end
/-- some value with P, all that stood stands -/
def EvR (te : TE) (σ : L2.St) (H : Hp) (P : V → Hp → Prop) : Prop := ∀ H1, Same H H1 → ∀ Q : VK, (∀ v H2, Same H1 H2 → P v H2 → Q v H2) → te σ H1 Q
/-- a tuple of these ints, old or new -/
abbrev EvTI (te : TE) (σ : L2.St) (H : Hp) (ns : List Int) : Prop := EvR te σ H fun v H2 => ∃ a, v = .ref a ∧ H2 a = some (.tup (ns.map V.int))
def EvRA (ta : TA) (σ : L2.St) (H : Hp) (P : List V → Hp → Prop) : Prop := ∀ H1, Same H H1 → ∀ Q : List V → Hp → Prop, (∀ vs H2, Same H1 H2 → P vs H2 → Q vs H2) → ta σ H1 Q
section
variable {K : PySem.W.Frag} {σ : L2.St} {H H' : Hp} {ta tb tc te tx : TE} {t u : TT} {x y z v : V} {r r' : R2} {d : PyData} {b b' : Bool}
theorem EvR.mono {P : V → Hp → Prop} (h : EvR te σ H P) (e : Same H H') : EvR te σ H' P := fun H1 a Q q => h H1 (e.trans a) Q q
theorem EvR.imp {P P' : V → Hp → Prop} (h : EvR te σ H P) (k : ∀ v H2, Same H H2 → P v H2 → P' v H2) : EvR te σ H P' := fun H1 a Q q => h H1 a Q fun v H2 e p => q v H2 e (k v H2 (a.trans e) p)
theorem EvR.of (h : Ev te σ H v) {P : V → Hp → Prop} (p : ∀ H1, Same H H1 → P v H1) : EvR te σ H P := fun H1 a Q q => h H1 a Q fun H2 e => q v H2 e (p H2 (a.trans e))
theorem evL_r {xs : List V} (h : EvL te σ H xs) : EvR te σ H fun v H2 => ∃ p, v = .ref p ∧ H2 p = some (.lst xs) := fun H1 a Q q => h H1 a Q fun p H2 _ e1 e2 => q _ H2 e1 ⟨p, rfl, e2⟩
theorem evU_r {xs : List V} (h : EvU te σ H xs) : EvR te σ H fun v H2 => ∃ p, v = .ref p ∧ H2 p = some (.tup xs) := fun H1 a Q q => h H1 a Q fun p H2 _ e1 e2 => q _ H2 e1 ⟨p, rfl, e2⟩
/-! statements behind such -/
theorem r_ret {D : Ends} {P : V → Hp → Prop} (h : EvR te σ H P) (k : ∀ v H1, Same H H1 → P v H1 → D.rt v H1) : tRet te D σ H := h H (Same.refl H) _ k
theorem r_asg {D : Ends} {tz : TS} {i : Nat} {P : V → Hp → Prop} (h : EvR te σ H P) (k : ∀ v H1, Same H H1 → P v H1 → tz D (σ.set i (some v)) H1) : tSeq (tAsg te (gName i)) tz D σ H := h H (Same.refl H) _ k
/-! arguments -/
theorem ra_nil : EvRA tNil σ H fun vs _ => vs = [] := fun H1 _ Q q => q [] H1 (Same.refl _) rfl
theorem ra_of {ts : TA} {vs : List V} (h : EvA ts σ H vs) : EvRA ts σ H fun ws _ => ws = vs := fun H1 a Q q => h H1 a Q fun H2 e => q vs H2 e rfl
theorem ra_cons {ts : TA} {P : V → Hp → Prop} {R : List V → Hp → Prop} (hP : ∀ v H1 H2, Same H1 H2 → P v H1 → P v H2) (h : EvR te σ H P) (hr : EvRA ts σ H R) : EvRA (tCons te ts) σ H fun vs H2 => ∃ v ws, vs = v :: ws ∧ P v H2 ∧ R ws H2 :=
  fun H1 a Q q => h H1 a _ fun v H2 e p => hr H2 (a.trans e) _ fun ws H3 e3 p3 => q _ H3 (e.trans e3) ⟨v, ws, rfl, hP v H2 H3 e3 p, p3⟩
/-! calls of one's own -/
def SpR (sp : Sp) (vs : List V) (H : Hp) (P : V → Hp → Prop) : Prop := ∀ H1, Same H H1 → ∀ Q : VK, (∀ v H2, Same H1 H2 → P v H2 → Q v H2) → ∀ E : XK, sp vs H1 Q E
theorem r_call {sp : Sp} {E : XK} {ts : TA} {vs : List V} {P : V → Hp → Prop} (h : EvA ts σ H vs) (hs : SpR sp vs H P) : EvR (tCall sp [] E ts) σ H P := fun H1 a Q q =>
  h H1 a _ fun H2 e => by
    show sp (vs ++ []) H2 Q E
    rw [List.append_nil]
    exact hs H2 (a.trans e) Q (fun v H3 e3 p => q v H3 (e.trans e3) p) E
theorem v_call {sp : Sp} {E : XK} {ts : TA} {vs : List V} (h : EvA ts σ H vs) (hs : ∀ H1, Same H H1 → ∀ Q : VK, (∀ H2, Same H1 H2 → Q z H2) → ∀ E : XK, sp vs H1 Q E) : Ev (tCall sp [] E ts) σ H z := fun H1 a Q q =>
  h H1 a _ fun H2 e => by
    show sp (vs ++ []) H2 Q E
    rw [List.append_nil]
    exact hs H2 (a.trans e) Q (fun H3 e3 => q H3 (e.trans e3)) E
/-- arguments that are told by a property -/
theorem r_callR {sp : Sp} {E : XK} {ts : TA} {R : List V → Hp → Prop} {P : V → Hp → Prop} (h : EvRA ts σ H R) (hs : ∀ vs H1, Same H H1 → R vs H1 → SpR sp vs H1 P) : EvR (tCall sp [] E ts) σ H P := fun H1 a Q q =>
  h H1 a _ fun vs H2 e p => by
    show sp (vs ++ []) H2 Q E
    rw [List.append_nil]
    exact hs vs H2 (a.trans e) p H2 (Same.refl _) Q (fun v H3 e3 p => q v H3 (e.trans e3) p) E
theorem v_callR {sp : Sp} {E : XK} {ts : TA} {R : List V → Hp → Prop} (h : EvRA ts σ H R) (hs : ∀ vs H1, Same H H1 → R vs H1 → ∀ Q : VK, (∀ H2, Same H1 H2 → Q z H2) → ∀ E : XK, sp vs H1 Q E) : Ev (tCall sp [] E ts) σ H z := fun H1 a Q q =>
  h H1 a _ fun vs H2 e p => by
    show sp (vs ++ []) H2 Q E
    rw [List.append_nil]
    exact hs vs H2 (a.trans e) p Q (fun H3 e3 => q H3 (e.trans e3)) E
/-! values -/
theorem ev_isi {T : String} (h : Ev ta σ H v) (hd : Is H v d) (e : kitB (tyD d) T = some b) : Ev (tCB (rIsi K) (tCons ta (tCons (tC (.ty T)) tNil))) σ H (.bl b) := fun H1 a Q q =>
  h H1 a _ fun H2 e2 => ⟨v, .ty T, _, _, b, rfl, .ty T, (hd.gw (Gw.of (a.trans e2))).ty, kit_ty e, q H2 e2⟩
theorem ev_isTup {a : Addr} {xs : List V} (h : Ev ta σ H (.ref a)) (ha : H a = some (.tup xs)) : Ev (tCB (rIsi K) (tCons ta (tCons (tC (.ty "tuple")) tNil))) σ H (.bl true) := fun H1 e Q q =>
  h H1 e _ fun H2 e2 => ⟨.ref a, .ty "tuple", _, _, true, rfl, .ty "tuple", .base (.tup (e2 _ _ (e _ _ ha))), kit_ty kit_tt, q H2 e2⟩
theorem q_tup3 {D : Ends} {tz : TS} {i j k : Nat} {a : Addr} {x y z : V} (h : Ev te σ H (.ref a)) (ha : H a = some (.tup [x, y, z])) (c : ∀ H1, Same H H1 → tz D (((σ.set i (some x)).set j (some y)).set k (some z)) H1) :
    tSeq (tAsg te (gTup K 3 (gCons (gName i) (gCons (gName j) (gCons (gName k) gNil))))) tz D σ H := h H (Same.refl H) _ fun H1 e => ⟨a, _, rfl, SqT.of (e _ _ ha), rfl, x, _, rfl, y, _, rfl, z, _, rfl, rfl, c H1 e⟩
theorem ev_chain (ha : Ev ta σ H x) (hb : Ev tb σ H y) (hr : RV r x y H (.bl b)) (hc : b = true → Ev tc σ H z) (hr' : b = true → RV r' y z H (.bl b')) : Ev (tChain r r' ta tb tc) σ H (.bl (b && b')) := fun H1 e1 Q q =>
  ha H1 e1 _ fun H2 e2 => hb H2 (e1.trans e2) _ fun H3 e3 => hr H3 ((e1.trans e2).trans e3) _ fun H4 e4 => ⟨b, rfl, by
    have e14 : Ex H1 H4 := (e2.trans e3).trans e4
    cases b with
    | true =>
      show tc σ H4 fun w' H4 => r' y w' H4 Q
      exact hc rfl H4 (e1.trans e14) _ fun H5 e5 => hr' rfl H5 ((e1.trans e14).trans e5) Q fun H6 e6 => q H6 ((e14.trans e5).trans e6)
    | false =>
      show Q (.bl false) H4
      exact q H4 e14⟩
theorem ev_lenT {a : Addr} {xs : List V} (ha : Ev ta σ H (.ref a)) (h : H a = some (.tup xs)) : Ev (tCB (rLenS K) (tCons ta tNil)) σ H (.int (xs.length : Int)) := fun H1 e Q q =>
  ha H1 e _ fun H2 e2 => ⟨a, xs, rfl, .inr (SqT.of (e2 _ _ (e _ _ h))), q H2 e2⟩
theorem ev_lenL {a : Addr} {xs : List V} (ha : Ev ta σ H (.ref a)) (h : H a = some (.lst xs)) : Ev (tCB (rLenS K) (tCons ta tNil)) σ H (.int (xs.length : Int)) := fun H1 e Q q =>
  ha H1 e _ fun H2 e2 => ⟨a, xs, rfl, .inl (SqL.of (e2 _ _ (e _ _ h))), q H2 e2⟩
theorem ev_ixT {a : Addr} {xs : List V} {i : Int} (ha : Ev ta σ H (.ref a)) (h : H a = some (.tup xs)) (hi : Ev tb σ H (.int i)) (e : atI xs i = some v) : Ev (tOp (rIxT K) ta tb) σ H v := ev_op ha hi (rv_ixT (SqT.of h) e)
theorem ev_ixL {a : Addr} {xs : List V} {i : Int} (ha : Ev ta σ H (.ref a)) (h : H a = some (.lst xs)) (hi : Ev tb σ H (.int i)) (e : atI xs i = some v) : Ev (tOp (rIxL K) ta tb) σ H v := ev_op ha hi (rv_ixL (SqL.of h) e)
theorem ev_lt {i j : Int} (ha : Ev ta σ H (.int i)) (hb : Ev tb σ H (.int j)) : Ev (tOp (rI0 fun i j => .bl (decide (i < j))) ta tb) σ H (.bl (decide (i < j))) := ev_op ha hb rv_I0
theorem ev_gt {i j : Int} (ha : Ev ta σ H (.int i)) (hb : Ev tb σ H (.int j)) : Ev (tOp (rI0 fun i j => .bl (decide (j < i))) ta tb) σ H (.bl (decide (j < i))) := ev_op ha hb rv_I0
theorem ev_add {i j : Int} (ha : Ev ta σ H (.int i)) (hb : Ev tb σ H (.int j)) : Ev (tOp (rI0 fun i j => .int (i + j)) ta tb) σ H (.int (i + j)) := ev_op ha hb rv_I0
theorem ev_sub {i j : Int} (ha : Ev ta σ H (.int i)) (hb : Ev tb σ H (.int j)) : Ev (tOp (rI0 fun i j => .int (i - j)) ta tb) σ H (.int (i - j)) := ev_op ha hb rv_I0
theorem ev_eq (ha : Ev ta σ H x) (hb : Ev tb σ H y) (h : scal x y = true) : Ev (tOp rEq ta tb) σ H (.bl (decide (x = y))) := ev_op ha hb (rv_eq h)
theorem ev_ne (ha : Ev ta σ H x) (hb : Ev tb σ H y) (h : scal x y = true) : Ev (tOp rNe ta tb) σ H (.bl (!decide (x = y))) := ev_op ha hb (rv_ne h)
theorem rv_in {n : Int} {ns : List Int} (h : SqI K H v ns) : RV (rIn K false) (.int n) v H (.bl (decide (n ∈ ns))) := fun H1 e Q q => in_ask (Same.sqI e h) (q H1 (Ex.refl H1))
theorem rv_notin {n : Int} {ns : List Int} (h : SqI K H v ns) : RV (rIn K true) (.int n) v H (.bl (!decide (n ∈ ns))) := fun H1 e Q q => notin_ask (Same.sqI e h) (q H1 (Ex.refl H1))
theorem ev_in {n : Int} {ns : List Int} (ha : Ev ta σ H (.int n)) (hb : Ev tb σ H v) (h : SqI K H v ns) : Ev (tOp (rIn K false) ta tb) σ H (.bl (decide (n ∈ ns))) := ev_op ha hb (rv_in h)
theorem ev_notin {n : Int} {ns : List Int} (ha : Ev ta σ H (.int n)) (hb : Ev tb σ H v) (h : SqI K H v ns) : Ev (tOp (rIn K true) ta tb) σ H (.bl (!decide (n ∈ ns))) := ev_op ha hb (rv_notin h)
/-- the sequence a value with a property -/
theorem ev_opR {P : V → Hp → Prop} (ha : Ev ta σ H x) (hb : EvR tb σ H P) (hr : ∀ v H1, Same H H1 → P v H1 → RV r x v H1 z) : Ev (tOp r ta tb) σ H z := fun H1 e Q q =>
  ha H1 e _ fun H2 e2 => hb H2 (e.trans e2) _ fun v H3 e3 p => hr v H3 ((e.trans e2).trans e3) p H3 (Ex.refl _) Q fun H4 e4 => q H4 ((e2.trans e3).trans e4)
theorem ev_opRR {P P' : V → Hp → Prop} (hP : ∀ v H1 H2, Same H1 H2 → P v H1 → P v H2) (ha : EvR ta σ H P) (hb : EvR tb σ H P') (hr : ∀ v u H1, Same H H1 → P v H1 → P' u H1 → RV r v u H1 z) : Ev (tOp r ta tb) σ H z := fun H1 e Q q =>
  ha H1 e _ fun v H2 e2 p2 => hb H2 (e.trans e2) _ fun u H3 e3 p => hr v u H3 ((e.trans e2).trans e3) (hP v H2 H3 e3 p2) p H3 (Ex.refl _) Q fun H4 e4 => q H4 ((e2.trans e3).trans e4)
theorem ev_isN (ha : Ev ta σ H x) : Ev (tOp (fun x y H Q => y = .non ∧ Q (.bl (decide (x = .non))) H) ta (tC .non)) σ H (.bl (decide (x = .non))) := ev_op ha ev_c fun H1 _ Q q => ⟨rfl, q H1 (Ex.refl _)⟩
theorem ev_notN (ha : Ev ta σ H x) : Ev (tOp (fun x y H Q => y = .non ∧ Q (.bl (!decide (x = .non))) H) ta (tC .non)) σ H (.bl (!decide (x = .non))) := ev_op ha ev_c fun H1 _ Q q => ⟨rfl, q H1 (Ex.refl _)⟩
theorem et_truL {a : Addr} {xs : List V} (ha : Ev ta σ H (.ref a)) (h : H a = some (.lst xs)) : EvT (fun σ H Q => ta σ H fun x H' => ∃ k, TruV K x H' k ∧ Q k H') σ H (!xs.isEmpty) := fun H1 e Q q =>
  ha H1 e _ fun H2 e2 => ⟨_, .inl ⟨xs, SqL.of (e2 _ _ (e _ _ h)), rfl⟩, q H2 e2⟩
theorem et_truT {a : Addr} {xs : List V} (ha : Ev ta σ H (.ref a)) (h : H a = some (.tup xs)) : EvT (fun σ H Q => ta σ H fun x H' => ∃ k, TruV K x H' k ∧ Q k H') σ H (!xs.isEmpty) := fun H1 e Q q =>
  ha H1 e _ fun H2 e2 => ⟨_, .inr (.inl ⟨xs, SqT.of (e2 _ _ (e _ _ h)), rfl⟩), q H2 e2⟩
theorem et_yes : EvT tYes σ H true := fun H1 _ Q q => q H1 (Ex.refl _)
/-- a list's all, any -/
theorem ev_all {α : Type} {l : List α} {f : α → Bool} (h : EvL ta σ H ((l.filter fun _ => true).map fun z => V.bl (f z))) : Ev (tCB (rAll K) (tCons ta tNil)) σ H (.bl (l.all f)) := fun H1 e Q q =>
  h H1 e _ fun p H2 _ e2 hp => by
    refine ⟨p, l.map f, rfl, SqL.of ?_, ?_⟩
    · rw [hp, List.map_map, List.filter_eq_self.mpr fun _ _ => rfl]
      rfl
    · rw [List.all_map]
      exact q H2 e2
theorem ev_any {α : Type} {l : List α} {f : α → Bool} (h : EvL ta σ H ((l.filter fun _ => true).map fun z => V.bl (f z))) : Ev (tCB (rAny K) (tCons ta tNil)) σ H (.bl (l.any f)) := fun H1 e Q q =>
  h H1 e _ fun p H2 _ e2 hp => by
    refine ⟨p, l.map f, rfl, SqL.of ?_, ?_⟩
    · rw [hp, List.map_map, List.filter_eq_self.mpr fun _ _ => rfl]
      rfl
    · rw [List.any_map]
      exact q H2 e2
/-! tuple(..), list(range), sorted -/
/-- tuple of a new list of ints -/
theorem tup_ofL {xs : List V} (h : EvL ta σ H xs) : EvU (tThen ta (kTup K)) σ H xs := fun H1 e Q q =>
  h H1 e _ fun p H2 hp e2 h2 => .inl ⟨p, xs, rfl, SqL.of h2, fun t ht => q t _ (fresh_back e2 ht) (e2.trans (Same.new ht)) upd_same⟩
theorem tup_ofR {P : List V → Hp → Prop} (h : EvR ta σ H fun v H2 => ∃ a xs, v = .ref a ∧ H2 a = some (.lst xs) ∧ P xs H2) (hP : ∀ xs H1 H2, Same H1 H2 → P xs H1 → P xs H2) : EvR (tThen ta (kTup K)) σ H fun v H2 => ∃ a xs, v = .ref a ∧ H2 a = some (.tup xs) ∧ P xs H2 := fun H1 e Q q =>
  h H1 e _ fun v H2 e2 ⟨a, xs, ev, h2, p⟩ => by
    subst ev
    exact .inl ⟨a, xs, rfl, SqL.of h2, fun t ht => q _ _ (e2.trans (Same.new ht)) ⟨t, xs, rfl, upd_same, hP _ _ _ (Same.new ht) p⟩⟩
def rng (n : Nat) : List Int := (List.range n).map Int.ofNat
theorem rgV_nat (n : Nat) : rgV 0 (n : Int) = (rng n).map V.int := by
  unfold rgV rng
  rw [List.map_map, show ((n : Int) - 0).toNat = n by omega]
  refine List.map_congr_left fun i _ => ?_
  show V.int (0 + (i : Int)) = V.int (i : Int)
  rw [Int.zero_add]
theorem ev_tupRg {n : Nat} (h : Ev ta σ H (.int (n : Int))) (hn : n ≤ 10000) : EvU (tTupRg (tRg1 ta)) σ H ((rng n).map V.int) := fun H1 e Q q =>
  h H1 e _ fun H2 e2 => ⟨(n : Int), rfl, RgOk.of_le (by omega) (by omega) (by omega) (by omega), fun p hp => by
    rw [rgV_nat]
    exact q p _ (fresh_back e2 hp) (e2.trans (Same.new hp)) upd_same⟩
theorem ev_lstRg {n : Nat} (h : Ev ta σ H (.int (n : Int))) (hn : n ≤ 10000) : EvL (tLstRg (tRg1 ta)) σ H ((rng n).map V.int) := fun H1 e Q q =>
  h H1 e _ fun H2 e2 => ⟨(n : Int), rfl, RgOk.of_le (by omega) (by omega) (by omega) (by omega), fun p hp => by
    rw [rgV_nat]
    exact q p _ (fresh_back e2 hp) (e2.trans (Same.new hp)) upd_same⟩
/-- sorted of a list of ints -/
theorem ev_sortedL {ns : List Int} (h : EvR ta σ H fun v H2 => ∃ a, v = .ref a ∧ H2 a = some (.lst (ns.map V.int))) : EvR (tCB (rSortedI K) (tCons ta tNil)) σ H fun v H2 => ∃ a xs, v = .ref a ∧ H2 a = some (.lst xs) ∧ ∃ ms : List Int, xs = ms.map V.int ∧ ms.Perm ns ∧ ms.Pairwise (· ≤ ·) := fun H1 e Q q =>
  h H1 e _ fun v H2 e2 ⟨a, ev, h2⟩ => by
    subst ev
    exact ⟨a, ns, rfl, SqL.of h2, fun ms p pm pw hp => q _ _ (e2.trans (Same.new hp)) ⟨p, _, rfl, upd_same, ms, rfl, pm, pw⟩⟩
theorem ev_sortedT {a : Addr} {ns : List Int} (h : Ev ta σ H (.ref a)) (ha : H a = some (.tup (ns.map V.int))) : EvR (tCB (rSortedTI K) (tCons ta tNil)) σ H fun v H2 => ∃ a xs, v = .ref a ∧ H2 a = some (.lst xs) ∧ ∃ ms : List Int, xs = ms.map V.int ∧ ms.Perm ns ∧ ms.Pairwise (· ≤ ·) := fun H1 e Q q =>
  h H1 e _ fun H2 e2 => ⟨a, ns, rfl, SqT.of (e2 _ _ (e _ _ ha)), fun ms p pm pw hp => q _ _ (e2.trans (Same.new hp)) ⟨p, _, rfl, upd_same, ms, rfl, pm, pw⟩⟩
end

/-! ### comprehensions -/
section
variable {K : PySem.W.Frag} {σ : L2.St} {H : Hp} {tl te : TE} {tt : TT} {vs : List Nat}
theorem walk_rng {n : Nat} {lo : Int} : Walk (Itr lo n) (List.range n).length (fun _ => True) (YFn fun i => .int (lo + i)) := by
  rw [List.length_range]
  exact walk_range
theorem walk_tupI {a : Addr} {ns : List Int} : Walk (Itt K a) ns.length (fun H => SqT K H a (ns.map V.int)) (fun i H x H' => H' = H ∧ ∃ z, ns[i]? = some z ∧ x = .int z) := by
  have w := walk_tup (K := K) (a := a) (xs := ns.map V.int)
  rw [List.length_map] at w
  refine w.mono (fun _ h => h) fun i H x H' hi _ y => ?_
  obtain ⟨e, y⟩ := y
  rw [List.getElem?_map] at y
  cases h : ns[i]? with
  | none => rw [h] at y; cases y
  | some z =>
    rw [h] at y
    exact ⟨e, z, rfl, (Option.some.inj y).symm⟩
theorem walk_lstI {a : Addr} {ns : List Int} : Walk (Itl K a) ns.length (fun H => SqL K H a (ns.map V.int)) (fun i H x H' => H' = H ∧ ∃ z, ns[i]? = some z ∧ x = .int z) := by
  have w := walk_list (K := K) (a := a) (xs := ns.map V.int)
  rw [List.length_map] at w
  refine w.mono (fun _ h => h) fun i H x H' hi _ y => ?_
  obtain ⟨e, y⟩ := y
  rw [List.getElem?_map] at y
  cases h : ns[i]? with
  | none => rw [h] at y; cases y
  | some z =>
    rw [h] at y
    exact ⟨e, z, rfl, (Option.some.inj y).symm⟩
/-- over a tuple of tuples of ints -/
theorem walk_tups {a : Addr} {xs : List V} {nss : List (List Int)} {H0 : Hp} (hx : Tups H0 xs nss) : Walk (Itt K a) nss.length (fun H => SqT K H a xs) (fun i H x H' => H' = H ∧ ∃ ns b, nss[i]? = some ns ∧ x = .ref b ∧ H0 b = some (.tup (ns.map V.int))) := by
  have w := walk_tup (K := K) (a := a) (xs := xs)
  rw [hx.1] at w
  refine w.mono (fun _ h => h) fun i H x H' hi h y => ?_
  obtain ⟨e, y⟩ := y
  obtain ⟨b, ns, e1, e2, e3⟩ := hx.of_x y
  exact ⟨e, ns, b, e2, e1, e3⟩
theorem el_tupI {a : Addr} {ns : List Int} {j : Nat} {p : Int → Bool} {q : Int → V} (h : Ev tl σ H (.ref a)) (ha : H a = some (.tup (ns.map V.int))) (hz : ns.length ≤ 10000) (hw : ∀ x, wipe ((wipe σ vs).set j (some x)) vs = wipe σ vs)
    (ht : ∀ z ∈ ns, EvT tt ((wipe σ vs).set j (some (.int z))) H (p z)) (he : ∀ z ∈ ns, p z = true → Ev te ((wipe σ vs).set j (some (.int z))) H (q z)) : EvL (tLc (iTup K tl) (gName j) tt te vs) σ H ((ns.filter p).map q) := fun H1 e Q k =>
  h H1 e _ fun H2 e2 => ⟨a, rfl, ⟨_, SqT.of (e2 _ _ (e _ _ ha))⟩, lc_fm ns walk_tupI p q hz (fun H' s => SqT.of (s _ _ (e2 _ _ (e _ _ ha)))) (fun i z x H' H'' P2 P3 hz s1 y k2 k3 => by
      obtain ⟨rfl, z', hz', rfl⟩ := y
      obtain rfl : z' = z := Option.some.inj (hz'.symm.trans hz)
      have hm : z' ∈ ns := List.mem_of_getElem? hz
      have hH : Same H H'' := (Same.trans e e2).trans s1
      refine ⟨hw _, ht z' hm H'' hH _ fun H3 s3 => ?_⟩
      cases hp : p z' with
      | true => exact iteT (he z' hm hp H3 (hH.trans s3) _ fun H4 s4 => k2 _ (Same.trans s3 s4) hp)
      | false => exact iteF (k3 _ s3 hp)) (fun D H' hD s e3 => k D H' (fresh_back e2 hD) (Same.trans e2 s) e3)⟩
theorem el_lstI {a : Addr} {ns : List Int} {j : Nat} {p : Int → Bool} {q : Int → V} (h : Ev tl σ H (.ref a)) (ha : H a = some (.lst (ns.map V.int))) (hz : ns.length ≤ 10000) (hw : ∀ x, wipe ((wipe σ vs).set j (some x)) vs = wipe σ vs)
    (ht : ∀ z ∈ ns, EvT tt ((wipe σ vs).set j (some (.int z))) H (p z)) (he : ∀ z ∈ ns, p z = true → Ev te ((wipe σ vs).set j (some (.int z))) H (q z)) : EvL (tLc (iList K tl) (gName j) tt te vs) σ H ((ns.filter p).map q) := fun H1 e Q k =>
  h H1 e _ fun H2 e2 => ⟨a, rfl, ⟨_, SqL.of (e2 _ _ (e _ _ ha))⟩, lc_fm ns walk_lstI p q hz (fun H' s => SqL.of (s _ _ (e2 _ _ (e _ _ ha)))) (fun i z x H' H'' P2 P3 hz s1 y k2 k3 => by
      obtain ⟨rfl, z', hz', rfl⟩ := y
      obtain rfl : z' = z := Option.some.inj (hz'.symm.trans hz)
      have hm : z' ∈ ns := List.mem_of_getElem? hz
      have hH : Same H H'' := (Same.trans e e2).trans s1
      refine ⟨hw _, ht z' hm H'' hH _ fun H3 s3 => ?_⟩
      cases hp : p z' with
      | true => exact iteT (he z' hm hp H3 (hH.trans s3) _ fun H4 s4 => k2 _ (Same.trans s3 s4) hp)
      | false => exact iteF (k3 _ s3 hp)) (fun D H' hD s e3 => k D H' (fresh_back e2 hD) (Same.trans e2 s) e3)⟩
/-- over a tuple of ints that an expression gives -/
theorem el_tupR {j : Nat} {p : Int → Bool} {q : Int → V} {R : List Int → Prop} (h : EvR tl σ H fun v H2 => ∃ a ns, v = .ref a ∧ H2 a = some (.tup (ns.map V.int)) ∧ R ns) (hw : ∀ x, wipe ((wipe σ vs).set j (some x)) vs = wipe σ vs)
    (hR : ∀ ns, R ns → ns.length ≤ 10000)
    (ht : ∀ ns, R ns → ∀ z ∈ ns, EvT tt ((wipe σ vs).set j (some (.int z))) H (p z)) (he : ∀ ns, R ns → ∀ z ∈ ns, p z = true → Ev te ((wipe σ vs).set j (some (.int z))) H (q z)) :
    ∀ H1, Same H H1 → ∀ Q : VK, (∀ ns D H2, R ns → H1 D = none → Same H1 H2 → H2 D = some (.lst ((ns.filter p).map q)) → Q (.ref D) H2) → tLc (iTup K tl) (gName j) tt te vs σ H1 Q := fun H1 e Q k =>
  h H1 e _ fun v H2 e2 ⟨a, ns, ev, ha, r⟩ => ⟨a, ev, ⟨_, SqT.of ha⟩, lc_fm ns walk_tupI p q (hR ns r) (fun H' s => SqT.of (s _ _ ha)) (fun i z x H' H'' P2 P3 hz s1 y k2 k3 => by
      obtain ⟨rfl, z', hz', rfl⟩ := y
      obtain rfl : z' = z := Option.some.inj (hz'.symm.trans hz)
      have hm : z' ∈ ns := List.mem_of_getElem? hz
      have hH : Same H H'' := (Same.trans e e2).trans s1
      refine ⟨hw _, ht ns r z' hm H'' hH _ fun H3 s3 => ?_⟩
      cases hp : p z' with
      | true => exact iteT (he ns r z' hm hp H3 (hH.trans s3) _ fun H4 s4 => k2 _ (Same.trans s3 s4) hp)
      | false => exact iteF (k3 _ s3 hp)) (fun D H' hD s e3 => k ns D H' r (fresh_back e2 hD) (Same.trans e2 s) e3)⟩
/-- over a tuple of tuples of ints, the target a name -/
theorem el_tups {a : Addr} {xs : List V} {nss : List (List Int)} {j : Nat} {p : List Int → Bool} {q : List Int → V} (h : Ev tl σ H (.ref a)) (ha : H a = some (.tup xs)) (hx : Tups H xs nss) (hz : nss.length ≤ 10000) (hw : ∀ x, wipe ((wipe σ vs).set j (some x)) vs = wipe σ vs)
    (ht : ∀ ns ∈ nss, ∀ b, H b = some (.tup (ns.map V.int)) → EvT tt ((wipe σ vs).set j (some (.ref b))) H (p ns)) (he : ∀ ns ∈ nss, ∀ b, H b = some (.tup (ns.map V.int)) → p ns = true → Ev te ((wipe σ vs).set j (some (.ref b))) H (q ns)) : EvL (tLc (iTup K tl) (gName j) tt te vs) σ H ((nss.filter p).map q) := fun H1 e Q k =>
  h H1 e _ fun H2 e2 => ⟨a, rfl, ⟨_, SqT.of (e2 _ _ (e _ _ ha))⟩, lc_fm nss (walk_tups hx) p q hz (fun H' s => SqT.of (s _ _ (e2 _ _ (e _ _ ha)))) (fun i z x H' H'' P2 P3 hz s1 y k2 k3 => by
      obtain ⟨rfl, z', b, hz', rfl, hbb⟩ := y
      obtain rfl : z' = z := Option.some.inj (hz'.symm.trans hz)
      have hm : z' ∈ nss := List.mem_of_getElem? hz
      have hH : Same H H'' := (Same.trans e e2).trans s1
      refine ⟨hw _, ht z' hm b hbb H'' hH _ fun H3 s3 => ?_⟩
      cases hp : p z' with
      | true => exact iteT (he z' hm b hbb hp H3 (hH.trans s3) _ fun H4 s4 => k2 _ (Same.trans s3 s4) hp)
      | false => exact iteF (k3 _ s3 hp)) (fun D H' hD s e3 => k D H' (fresh_back e2 hD) (Same.trans e2 s) e3)⟩
/-- over a range -/
theorem el_rng {n : Nat} {j : Nat} {p : Nat → Bool} {q : Nat → V} (h : Ev tl σ H (.int (n : Int))) (hz : n ≤ 10000) (hw : ∀ x, wipe ((wipe σ vs).set j (some x)) vs = wipe σ vs)
    (ht : ∀ i, i < n → EvT tt ((wipe σ vs).set j (some (.int (i : Int)))) H (p i)) (he : ∀ i, i < n → p i = true → Ev te ((wipe σ vs).set j (some (.int (i : Int)))) H (q i)) : EvL (tLc (iRng1 (tCons tl tNil)) (gName j) tt te vs) σ H (((List.range n).filter p).map q) := fun H1 e Q k =>
  h H1 e _ fun H2 e2 => ⟨(n : Int), rfl, by omega, by omega, by
    rw [show ((n : Int)).toNat = n by omega]
    refine lc_fm (List.range n) walk_rng p q (by rw [List.length_range]; omega) (fun _ _ => trivial) (fun i z x H' H'' P2 P3 hz s1 y k2 k3 => ?_) (fun D H' hD s e3 => k D H' (fresh_back e2 hD) (Same.trans e2 s) e3)
    obtain ⟨rfl, rfl⟩ := y
    obtain ⟨hi, rfl⟩ : i < n ∧ z = i := by
      obtain ⟨h1, h2⟩ := List.getElem?_eq_some_iff.mp hz
      rw [List.length_range] at h1
      rw [List.getElem_range] at h2
      exact ⟨h1, h2.symm⟩
    have hH : Same H H'' := (Same.trans e e2).trans s1
    show gName j (V.int (0 + (z : Int))) (wipe σ vs) H'' _
    rw [Int.zero_add]
    refine ⟨hw _, ht z hi H'' hH _ fun H3 s3 => ?_⟩
    cases hp : p z with
    | true => exact iteT (he z hi hp H3 (hH.trans s3) _ fun H4 s4 => k2 _ (Same.trans s3 s4) hp)
    | false => exact iteF (k3 _ s3 hp)⟩
/-- the same, n told by an equation -/
theorem el_rng' {z : Int} {n : Nat} {j : Nat} {p : Nat → Bool} {q : Nat → V} (h : Ev tl σ H (.int z)) (hzn : z.toNat = n) (hz : z ≤ 10000) (hw : ∀ x, wipe ((wipe σ vs).set j (some x)) vs = wipe σ vs)
    (ht : ∀ i, i < n → EvT tt ((wipe σ vs).set j (some (.int (i : Int)))) H (p i)) (he : ∀ i, i < n → p i = true → Ev te ((wipe σ vs).set j (some (.int (i : Int)))) H (q i)) (hlo : -10000 ≤ z := by omega) : EvL (tLc (iRng1 (tCons tl tNil)) (gName j) tt te vs) σ H (((List.range n).filter p).map q) := fun H1 e Q k =>
  h H1 e _ fun H2 e2 => ⟨z, rfl, by omega, by omega, by
    rw [hzn]
    refine lc_fm (List.range n) walk_rng p q (by rw [List.length_range]; omega) (fun _ _ => trivial) (fun i z x H' H'' P2 P3 hz s1 y k2 k3 => ?_) (fun D H' hD s e3 => k D H' (fresh_back e2 hD) (Same.trans e2 s) e3)
    obtain ⟨rfl, rfl⟩ := y
    obtain ⟨hi, rfl⟩ : i < n ∧ z = i := by
      obtain ⟨h1, h2⟩ := List.getElem?_eq_some_iff.mp hz
      rw [List.length_range] at h1
      rw [List.getElem_range] at h2
      exact ⟨h1, h2.symm⟩
    have hH : Same H H'' := (Same.trans e e2).trans s1
    show gName j (V.int (0 + (z : Int))) (wipe σ vs) H'' _
    rw [Int.zero_add]
    refine ⟨hw _, ht z hi H'' hH _ fun H3 s3 => ?_⟩
    cases hp : p z with
    | true => exact iteT (he z hi hp H3 (hH.trans s3) _ fun H4 s4 => k2 _ (Same.trans s3 s4) hp)
    | false => exact iteF (k3 _ s3 hp)⟩
/-- over a tuple of pairs of ints, the target two names -/
theorem el_prs {a : Addr} {xs : List V} {l : List (Int × Int)} {i j : Nat} {p : Int × Int → Bool} {q : Int × Int → V} (h : Ev tl σ H (.ref a)) (ha : H a = some (.tup xs)) (hx : Tups H xs (l.map pr)) (hz : l.length ≤ 10000) (hw : ∀ x y, wipe (((wipe σ vs).set i (some x)).set j (some y)) vs = wipe σ vs)
    (ht : ∀ z ∈ l, EvT tt (((wipe σ vs).set i (some (.int z.1))).set j (some (.int z.2))) H (p z)) (he : ∀ z ∈ l, p z = true → Ev te (((wipe σ vs).set i (some (.int z.1))).set j (some (.int z.2))) H (q z)) : EvL (tLc (iTup K tl) (gTup K 2 (gCons (gName i) (gCons (gName j) gNil))) tt te vs) σ H ((l.filter p).map q) := fun H1 e Q k =>
  h H1 e _ fun H2 e2 => ⟨a, rfl, ⟨_, SqT.of (e2 _ _ (e _ _ ha))⟩, by
    have w := walk_tups (K := K) (a := a) hx
    rw [List.length_map] at w
    refine lc_fm l w p q hz (fun H' s => SqT.of (s _ _ (e2 _ _ (e _ _ ha)))) (fun m z x H' H'' P2 P3 hz s1 y k2 k3 => ?_) (fun D H' hD s e3 => k D H' (fresh_back e2 hD) (Same.trans e2 s) e3)
    obtain ⟨rfl, z', b, hz', rfl, hbb⟩ := y
    obtain rfl : pr z = z' := by
      rw [List.getElem?_map, hz] at hz'
      exact Option.some.inj hz'
    have hm : z ∈ l := List.mem_of_getElem? hz
    have hH : Same H H'' := (Same.trans e e2).trans s1
    refine ⟨b, _, rfl, SqT.of (hH _ _ hbb), rfl, _, _, rfl, _, _, rfl, rfl, hw _ _, ht z hm H'' hH _ fun H3 s3 => ?_⟩
    cases hp : p z with
    | true => exact iteT (he z hm hp H3 (hH.trans s3) _ fun H4 s4 => k2 _ (Same.trans s3 s4) hp)
    | false => exact iteF (k3 _ s3 hp)⟩
/-- over enumerate(tuple), the target two names -/
theorem el_enumT {a : Addr} {xs : List V} {n i j : Nat} {p : Nat → Bool} {q : Nat → V} (h : Ev tl σ H (.ref a)) (ha : H a = some (.tup xs)) (hn : xs.length = n) (hz : n ≤ 10000) (hw : ∀ x y, wipe (((wipe σ vs).set i (some x)).set j (some y)) vs = wipe σ vs)
    (ht : ∀ (m : Nat) (x : V), xs[m]? = some x → EvT tt (((wipe σ vs).set i (some (.int (m : Int)))).set j (some x)) H (p m)) (he : ∀ (m : Nat) (x : V), xs[m]? = some x → p m = true → Ev te (((wipe σ vs).set i (some (.int (m : Int)))).set j (some x)) H (q m)) : EvL (tLc (iEnumT K (tCons tl tNil)) (gTup K 2 (gCons (gName i) (gCons (gName j) gNil))) tt te vs) σ H (((List.range n).filter p).map q) := fun H1 e Q k =>
  h H1 e _ fun H2 e2 => ⟨a, xs, rfl, SqT.of (e2 _ _ (e _ _ ha)), by
    have w := walk_enumT (K := K) (a := a) (xs := xs)
    have el : xs.length = (List.range n).length := by rw [List.length_range]; exact hn
    rw [el] at w
    refine lc_fm (List.range n) w p q (by rw [List.length_range]; omega) (fun H' s => SqT.of (s _ _ (e2 _ _ (e _ _ ha)))) (fun m z x H' H'' P2 P3 hz s1 y k2 k3 => ?_) (fun D H' hD s e3 => k D H' (fresh_back e2 hD) (Same.trans e2 s) e3)
    obtain ⟨T, x1, x2, rfl, hT, rfl, f1, f2⟩ := y
    obtain ⟨hi, rfl⟩ : m < n ∧ z = m := by
      obtain ⟨h1, h2⟩ := List.getElem?_eq_some_iff.mp hz
      rw [List.length_range] at h1
      rw [List.getElem_range] at h2
      exact ⟨h1, h2.symm⟩
    have e1 : V.int (z : Int) = x1 := Option.some.inj f1
    subst e1
    have sT : Same H' (upd H' T (.tup [.int (z : Int), x2])) := Same.new hT
    have hH : Same H (upd H' T (.tup [.int (z : Int), x2])) := ((Same.trans e e2).trans s1).trans sT
    refine ⟨T, _, rfl, SqT.of upd_same, rfl, _, _, rfl, _, _, rfl, rfl, hw _ _, ht z x2 f2 _ hH _ fun H3 s3 => ?_⟩
    cases hp : p z with
    | true => exact iteT (he z x2 f2 hp H3 (hH.trans s3) _ fun H4 s4 => k2 _ (sT.trans (Same.trans s3 s4)) hp)
    | false => exact iteF (k3 _ (sT.trans s3) hp)⟩
/-- xs + ys of two new lists -/
theorem el_cat {ta tb : TE} {xs ys : List V} (ha : EvL ta σ H xs) (hb : EvL tb σ H ys) (hz : xs.length + ys.length ≤ 10000) : EvL (tOp rCat ta tb) σ H (xs ++ ys) := fun H1 e Q k =>
  ha H1 e _ fun p H2 hp e2 h2 => hb H2 (e.trans e2) _ fun q H3 hq e3 h3 => ⟨p, q, xs, ys, rfl, rfl, e3 _ _ h2, h3, by rw [sizeLine_eq]; omega, fun t ht => k t _ (fresh_back (e2.trans e3) ht) ((Same.trans e2 e3).trans (Same.new ht)) upd_same⟩
theorem evL_is {te : TE} {xs ys : List V} (h : EvL te σ H xs) (e : xs = ys) : EvL te σ H ys := by
  rw [← e]
  exact h
end
end Tt

namespace Tt
open PySem PySem.Spec PyProof.Rows L2 TtR Evl
def sp_is_whole (K : PySem.W.Frag) : Sp := fun vs H Q _ => ∃ v lo hi : Int, vs = [.int v, .int lo, .int hi] ∧ ∀ H', Same H H' → Q (.bl (decide (lo ≤ v ∧ v ≤ hi))) H'
def sp_is_number (K : PySem.W.Frag) : Sp := sp_is_whole K
def sp_is_climbing (K : PySem.W.Frag) : Sp := fun vs H Q _ => ∃ (a : Addr) (ns : List Int), vs = [.ref a] ∧ H a = some (.tup (ns.map V.int)) ∧ ns.length ≤ 1000 ∧ ns.Pairwise (· < ·) ∧ ∀ H', Same H H' → Q (.bl true) H'
/-- ascending variables -/
def Vars (ns : List Int) : Prop := ns.length ≤ 1000 ∧ ns.Pairwise (· < ·) ∧ ∀ x ∈ ns, 0 ≤ x ∧ x ≤ 5
def sp_are_variables (K : PySem.W.Frag) : Sp := fun vs H Q _ => ∃ (a : Addr) (ns : List Int), vs = [.ref a] ∧ H a = some (.tup (ns.map V.int)) ∧ Vars ns ∧ ∀ H', Same H H' → Q (.bl true) H'
def sp_is_scope (K : PySem.W.Frag) : Sp := fun vs H Q _ => ∃ (a : Addr) (ns : List Int), vs = [.ref a] ∧ H a = some (.tup (ns.map V.int)) ∧ Vars ns ∧ ns.length ≤ 3 ∧ ∀ H', Same H H' → Q (.bl true) H'
def sp_is_edge (K : PySem.W.Frag) : Sp := fun vs H Q _ => ∃ (a : Addr) (p : Int × Int) (n : Int), vs = [.ref a, .int n] ∧ H a = some (.tup ((pr p).map V.int)) ∧ 0 ≤ p.1 ∧ p.1 < p.2 ∧ p.2 < n ∧ ∀ H', Same H H' → Q (.bl true) H'
theorem all_true {α : Type} {l : List α} {f : α → Bool} (h : ∀ x ∈ l, f x = true) : l.all f = true := List.all_eq_true.mpr h
/-- a graph as it should be -/
structure WG (G : Gr) : Prop where
  vals : 2 ≤ G.vals ∧ G.vals ≤ 3
  many : 1 ≤ G.scopes.length ∧ G.scopes.length ≤ 5
  scopes : ∀ ns ∈ G.scopes, Vars ns ∧ ns.length ≤ 3
  edges : ∀ p ∈ G.edges, 0 ≤ p.1 ∧ p.1 < p.2 ∧ p.2 < (G.scopes.length : Int)
  climb : G.edges.Pairwise fun p q => p.1 < q.1 ∨ (p.1 = q.1 ∧ p.2 < q.2)
  few : G.edges.length ≤ 100
def sp_is_graph (K : PySem.W.Frag) : Sp := fun vs H Q _ => ∃ (g : V) (G : Gr), vs = [g] ∧ GraphAt H g G ∧ WG G ∧ ∀ H', Same H H' → Q (.bl true) H'
def sp_check_graph (K : PySem.W.Frag) : Sp := fun vs H Q _ => ∃ (g : V) (G : Gr), vs = [g] ∧ GraphAt H g G ∧ WG G ∧ ∀ H', Same H H' → Q .non H'
section
variable {P : Program} {w : World} {K : PySem.W.Frag} {mg : Str → Option Value} {base : Heap}
theorem c_is_whole (T : Tx K mg) (B : Bl mg) : FnC P w K mg base 1 "is_whole" ["value", "low", "high"] (sp_is_whole K) := by
  obtain ⟨f, fd, gf, F⟩ := T.is_whole
  refine ⟨f, fd, gf, F.kp, F.binds (ps := ["value", "low", "high"]) fun _ _ _ _ _ _ us hl => match us, hl with | [_, _, _], _ => rfl, ?_⟩
  refine F.ok sc_is_whole (fun vs H Q E h => ?_) (fun cdv A outer s H vs Q E hr h => ?_)
  · obtain ⟨v, lo, hi, rfl, _⟩ := h
    rfl
  · obtain ⟨v, lo, hi, rfl, q⟩ := h
    refine ⟨_, (pss_one (ps_ret (pe_and (pe_callB (k_isi (K := K) rfl) (by rfl) B.isinstance_ (by decide +kernel) (pa_cons (pv 0) (pa_cons (pe_bltn (v := .ty "int") (by rfl) B.int_ (by decide +kernel) rfl) pa_nil))) (pe_and (pe_not (pe_callB (k_isi (K := K) rfl) (by rfl) B.isinstance_ (by decide +kernel) (pa_cons (pv 0) (pa_cons (pe_bltn (v := .ty "bool") (by rfl) B.bool_ (by decide +kernel) rfl) pa_nil)))) (pe_one (pe_chain op_le op_le (pv 1) (pv 0) (pv 2))))))), ?_⟩
    refine s_ret (ev_andV (ev_isi (ev_var rfl) (.int v) kit_ii) fun _ => ev_andV (ev_notV (ev_isi (ev_var rfl) (.int v) kit_ib)) fun _ => ev_chain (ev_var rfl) (ev_var rfl) rv_I0 (fun _ => ev_var rfl) fun _ => rv_I0) fun H1 e => ?_
    have e1 : (true && (!false && (decide (lo ≤ v) && decide (v ≤ hi)))) = decide (lo ≤ v ∧ v ≤ hi) := by simp
    rw [e1]
    exact q H1 e
theorem c_is_number (T : Tx K mg) (B : Bl mg) : FnC P w K mg base 1 "is_number" ["value", "low", "high"] (sp_is_number K) := by
  obtain ⟨f, fd, gf, F⟩ := T.is_number
  refine ⟨f, fd, gf, F.kp, F.binds (ps := ["value", "low", "high"]) fun _ _ _ _ _ _ us hl => match us, hl with | [_, _, _], _ => rfl, ?_⟩
  refine F.ok sc_is_number (fun vs H Q E h => ?_) (fun cdv A outer s H vs Q E hr h => ?_)
  · obtain ⟨v, lo, hi, rfl, _⟩ := h
    rfl
  · obtain ⟨v, lo, hi, rfl, q⟩ := h
    refine ⟨_, (pss_one (ps_ret (pe_and (pe_callB (k_isi (K := K) rfl) (by rfl) B.isinstance_ (by decide +kernel) (pa_cons (pv 0) (pa_cons (pe_bltn (v := .ty "int") (by rfl) B.int_ (by decide +kernel) rfl) pa_nil))) (pe_and (pe_not (pe_callB (k_isi (K := K) rfl) (by rfl) B.isinstance_ (by decide +kernel) (pa_cons (pv 0) (pa_cons (pe_bltn (v := .ty "bool") (by rfl) B.bool_ (by decide +kernel) rfl) pa_nil)))) (pe_one (pe_chain op_le op_le (pv 1) (pv 0) (pv 2))))))), ?_⟩
    refine s_ret (ev_andV (ev_isi (ev_var rfl) (.int v) kit_ii) fun _ => ev_andV (ev_notV (ev_isi (ev_var rfl) (.int v) kit_ib)) fun _ => ev_chain (ev_var rfl) (ev_var rfl) rv_I0 (fun _ => ev_var rfl) fun _ => rv_I0) fun H1 e => ?_
    have e1 : (true && (!false && (decide (lo ≤ v) && decide (v ≤ hi)))) = decide (lo ≤ v ∧ v ≤ hi) := by simp
    rw [e1]
    exact q H1 e
theorem ev_whole {sp : Sp} {σ : L2.St} {H : Hp} {ts : TA} {v lo hi : Int} {E : XK} (hs : sp = sp_is_whole K) (h : EvA ts σ H [.int v, .int lo, .int hi]) : Ev (tCall sp [] E ts) σ H (.bl (decide (lo ≤ v ∧ v ≤ hi))) := by
  subst hs
  exact v_call h fun H1 _ Q q E => ⟨v, lo, hi, rfl, q⟩
theorem c_is_climbing (T : Tx K mg) (B : Bl mg) : FnC P w K mg base 1 "is_climbing" ["value"] (sp_is_climbing K) := by
  obtain ⟨f, fd, gf, F⟩ := T.is_climbing
  refine ⟨f, fd, gf, F.kp, F.binds (ps := ["value"]) fun _ _ _ _ _ _ us hl => match us, hl with | [_], _ => rfl, ?_⟩
  refine F.ok sc_is_climbing (fun vs H Q E h => ?_) (fun cdv A outer s H vs Q E hr h => ?_)
  · obtain ⟨a, ns, rfl, _⟩ := h
    rfl
  · obtain ⟨a, ns, rfl, ha, hl, hp, q⟩ := h
    refine ⟨_, (pss_one (ps_ret (pe_callB (k_all (K := K) rfl rfl) (by rfl) B.all_ (by decide +kernel) (pa_cons (pe_lc (own := [("at", 1)]) rfl sc_is_climbing.nd (pi_range1 (by rfl) B.range_ (pa_cons (pe_op op_sub (pe_callB (k_len (K := K) rfl) (by rfl) B.len_ (by decide +kernel) (pa_cons (pv 0) pa_nil)) pe_int) pa_nil)) (blkOk_by (N := N_is_climbing) (sc := defScope s_is_climbing) (by decide +kernel)) (fun _ _ _ _ _ => (pg_name (i := 1) sc_is_climbing.nd rfl (.inl rfl))) (fun _ _ _ _ _ => pts_nil) (fun _ _ _ _ _ => (pe_cmpR op_lt (pe_ix (k_ixT (K := K) rfl) (pv 0) (pv 1) (fun _ _ => rfl)) (pe_ix (k_ixT (K := K) rfl) (pv 0) (pe_op op_add (pv 1) pe_int) (fun _ _ => rfl)) (nomark _)))) pa_nil)))), ?_⟩
    refine s_ret (v := .bl true) (ev_is (ev_all (l := List.range (ns.length - 1)) (f := fun _ => true) ?_) (by simp)) q
    refine evL_is (el_rng' (n := ns.length - 1) (p := fun _ => true) (q := fun _ => V.bl true) (z := ((ns.map V.int).length : Int) - 1) (ev_sub (ev_lenT (ev_var rfl) ha) ev_c) (by rw [List.length_map]; omega) (by rw [List.length_map]; omega) (fun _ => rfl) (fun i _ => et_yes) (fun i hi _ => ?_) (by rw [List.length_map]; omega)) rfl
    have h1 : i < ns.length := by omega
    have h2 : i + 1 < ns.length := by omega
    have lt : ns[i] < ns[i + 1] := List.pairwise_iff_getElem.mp hp i (i + 1) h1 h2 (Nat.lt_succ_self i)
    refine ev_is (ev_lt (ev_ixT (ev_var rfl) ha (ev_var rfl) (atI_ints (j := i) rfl (List.getElem?_eq_getElem h1))) (ev_ixT (ev_var rfl) ha (ev_add (ev_var rfl) ev_c) (atI_ints (j := i + 1) (by omega) (List.getElem?_eq_getElem h2)))) (by rw [decide_eq_true lt])
theorem c_are_variables (T : Tx K mg) (B : Bl mg) (C_is_climbing : FnC P w K mg base 1 "is_climbing" ["value"] (sp_is_climbing K)) (C_is_whole : FnC P w K mg base 1 "is_whole" ["value", "low", "high"] (sp_is_whole K)) : FnC P w K mg base 2 "are_variables" ["value"] (sp_are_variables K) := by
  obtain ⟨f, fd, gf, F⟩ := T.are_variables
  obtain ⟨t_MOST_VARIABLE, m_MOST_VARIABLE⟩ := B.MOST_VARIABLE_
  refine ⟨f, fd, gf, F.kp, F.binds (ps := ["value"]) fun _ _ _ _ _ _ us hl => match us, hl with | [_], _ => rfl, ?_⟩
  refine F.ok sc_are_variables (fun vs H Q E h => ?_) (fun cdv A outer s H vs Q E hr h => ?_)
  · obtain ⟨a, ns, rfl, _⟩ := h
    rfl
  · obtain ⟨a, ns, rfl, ha, hv, q⟩ := h
    refine ⟨_, (pss_cons (ps_if (PW.pt (pw_or (pt_not (pt_val (pe_callB (k_isi (K := K) rfl) (by rfl) B.isinstance_ (by decide +kernel) (pa_cons (pv 0) (pa_cons (pe_bltn (v := .ty "tuple") (by rfl) B.tuple_ (by decide +kernel) rfl) pa_nil))))) (pw_or1 (pt_not (pt_val (pe_callB (k_all (K := K) rfl rfl) (by rfl) B.all_ (by decide +kernel) (pa_cons (pe_lc (own := [("one", 1)]) rfl sc_are_variables.nd (kpi_tup (K := K) rfl (pv 0)) (blkOk_by (N := N_are_variables) (sc := defScope s_are_variables) (by decide +kernel)) (fun _ _ _ _ _ => (pg_name (i := 1) sc_are_variables.nd rfl (.inl rfl))) (fun _ _ _ _ _ => pts_nil) (fun _ _ _ _ _ => (pe_callC C_is_whole (hr.mono (by decide)) (by rfl) (pa_cons (pv 1) (pa_cons pe_int (pa_cons (pe_glob (v := .int 5) (by rfl) m_MOST_VARIABLE ⟨_, rfl⟩) pa_nil)))))) pa_nil))))))) (pss_one (ps_ret pe_bl)) pss_nil)
      (pss_one (ps_ret (pe_callC C_is_climbing (hr.mono (by decide)) (by rfl) (pa_cons (pv 0) pa_nil))))), ?_⟩
    refine q_when (b := false) (et_is (et_or (et_not (et_B (ev_isTup (ev_var rfl) ha))) fun _ => et_not (et_B (ev_all (l := ns) (f := fun x => decide (0 ≤ x ∧ x ≤ 5)) (el_tupI (ev_var rfl) ha (by have := hv.1; omega) (fun _ => rfl) (fun _ _ => et_yes) fun z hz _ => ev_whole rfl (ea_cons (ev_var rfl) (ea_cons ev_c (ea_cons ev_c ea_nil))))))) ?_) (fun z => nomatch z) (fun _ H1 e => ?_)
    · rw [all_true fun x hx => decide_eq_true (hv.2.2 x hx)]
      rfl
    · exact s_ret (v_call (vs := [.ref a]) (ea_cons (ev_var rfl) ea_nil) fun H2 e2 Q' q' E => ⟨a, ns, rfl, e2 _ _ (e _ _ ha), hv.1, hv.2.1, q'⟩) fun H2 e2 => q H2 (Same.trans e e2)
theorem c_is_scope (T : Tx K mg) (B : Bl mg) (C_are_variables : FnC P w K mg base 2 "are_variables" ["value"] (sp_are_variables K)) : FnC P w K mg base 3 "is_scope" ["value"] (sp_is_scope K) := by
  obtain ⟨f, fd, gf, F⟩ := T.is_scope
  obtain ⟨t_WIDEST_SCOPE, m_WIDEST_SCOPE⟩ := B.WIDEST_SCOPE_
  refine ⟨f, fd, gf, F.kp, F.binds (ps := ["value"]) fun _ _ _ _ _ _ us hl => match us, hl with | [_], _ => rfl, ?_⟩
  refine F.ok sc_is_scope (fun vs H Q E h => ?_) (fun cdv A outer s H vs Q E hr h => ?_)
  · obtain ⟨a, ns, rfl, _⟩ := h
    rfl
  · obtain ⟨a, ns, rfl, ha, hv, hl, q⟩ := h
    refine ⟨_, (pss_one (ps_ret (pe_and (pe_callC C_are_variables (hr.mono (by decide)) (by rfl) (pa_cons (pv 0) pa_nil)) (pe_one (pe_cmpR op_le (pe_callB (k_len (K := K) rfl) (by rfl) B.len_ (by decide +kernel) (pa_cons (pv 0) pa_nil)) (pe_glob (v := .int 3) (by rfl) m_WIDEST_SCOPE ⟨_, rfl⟩) (nomark _)))))), ?_⟩
    refine s_ret (v := .bl true) (ev_is (ev_andV (a := true) (v_call (vs := [.ref a]) (ea_cons (ev_var rfl) ea_nil) fun H2 e2 Q' q' E => ⟨a, ns, rfl, e2 _ _ ha, hv, q'⟩) fun _ => ev_op (ev_lenT (ev_var rfl) ha) ev_c rv_I0) ?_) q
    rw [List.length_map, decide_eq_true (show (ns.length : Int) ≤ 3 by omega)]
    rfl
theorem c_is_edge (T : Tx K mg) (B : Bl mg) (C_is_number : FnC P w K mg base 1 "is_number" ["value", "low", "high"] (sp_is_number K)) : FnC P w K mg base 2 "is_edge" ["value", "many"] (sp_is_edge K) := by
  obtain ⟨f, fd, gf, F⟩ := T.is_edge
  refine ⟨f, fd, gf, F.kp, F.binds (ps := ["value", "many"]) fun _ _ _ _ _ _ us hl => match us, hl with | [_, _], _ => rfl, ?_⟩
  refine F.ok sc_is_edge (fun vs H Q E h => ?_) (fun cdv A outer s H vs Q E hr h => ?_)
  · obtain ⟨a, p, n, rfl, _⟩ := h
    rfl
  · obtain ⟨a, p, n, rfl, ha, h0, h1, h2, q⟩ := h
    refine ⟨_, (pss_cons (ps_if (PW.pt (pw_or (pt_not (pt_val (pe_callB (k_isi (K := K) rfl) (by rfl) B.isinstance_ (by decide +kernel) (pa_cons (pv 0) (pa_cons (pe_bltn (v := .ty "tuple") (by rfl) B.tuple_ (by decide +kernel) rfl) pa_nil))))) (pw_or (pt_cmpR op_ne (pe_callB (k_len (K := K) rfl) (by rfl) B.len_ (by decide +kernel) (pa_cons (pv 0) pa_nil)) pe_int (nomark _)) (pw_or1 (pt_not (pt_val (pe_callB (k_all (K := K) rfl rfl) (by rfl) B.all_ (by decide +kernel) (pa_cons (pe_lc (own := [("one", 2)]) rfl sc_is_edge.nd (kpi_tup (K := K) rfl (pv 0)) (blkOk_by (N := N_is_edge) (sc := defScope s_is_edge) (by decide +kernel)) (fun _ _ _ _ _ => (pg_name (i := 2) sc_is_edge.nd rfl (.inl rfl))) (fun _ _ _ _ _ => pts_nil) (fun _ _ _ _ _ => (pe_callC C_is_number (hr.mono (by decide)) (by rfl) (pa_cons (pv 2) (pa_cons pe_int (pa_cons (pe_op op_sub (pv 1) pe_int) pa_nil)))))) pa_nil)))))))) (pss_one (ps_ret pe_bl)) pss_nil)
      (pss_one (ps_ret (pe_cmpR op_lt (pe_ix (k_ixT (K := K) rfl) (pv 0) pe_int (fun _ _ => rfl)) (pe_ix (k_ixT (K := K) rfl) (pv 0) pe_int (fun _ _ => rfl)) (nomark _))))), ?_⟩
    refine q_when (b := false) (et_is (et_or (et_not (et_B (ev_isTup (ev_var rfl) ha))) fun _ => et_or (et_test (ev_ne (ev_lenT (ev_var rfl) ha) ev_c rfl)) fun _ => et_not (et_B (ev_all (l := pr p) (f := fun x => decide (0 ≤ x ∧ x ≤ n - 1)) (el_tupI (ev_var rfl) ha (by show 2 ≤ 10000; omega) (fun _ => rfl) (fun _ _ => et_yes) fun z hz _ => ev_whole rfl (ea_cons (ev_var rfl) (ea_cons ev_c (ea_cons (ev_sub (ev_var rfl) ev_c) ea_nil))))))) ?_) (fun z => nomatch z) (fun _ H1 e => ?_)
    · rw [all_true (l := pr p) fun x hx => by
        have : x = p.1 ∨ x = p.2 := by simpa [pr] using hx
        exact decide_eq_true (by omega)]
      rfl
    · exact s_ret (v := .bl true) (ev_is (ev_lt (ev_ixT (ev_var rfl) (e _ _ ha) ev_c rfl) (ev_ixT (ev_var rfl) (e _ _ ha) ev_c rfl)) (by rw [decide_eq_true h1])) fun H2 e2 => q H2 (Same.trans e e2)
theorem lex_pr {p q : Int × Int} (h : p.1 < q.1 ∨ (p.1 = q.1 ∧ p.2 < q.2)) : HT.lexLt (pr p) (pr q) = true := by
  show (if p.1 = q.1 then (if p.2 = q.2 then HT.lexLt [] [] else decide (p.2 < q.2)) else decide (p.1 < q.1)) = true
  rcases h with h | ⟨h1, h2⟩
  · rw [if_neg (by omega), decide_eq_true h]
  · rw [if_pos h1, if_neg (by omega), decide_eq_true h2]
theorem c_is_graph (T : Tx K mg) (B : Bl mg) (C_is_edge : FnC P w K mg base 2 "is_edge" ["value", "many"] (sp_is_edge K)) (C_is_number : FnC P w K mg base 1 "is_number" ["value", "low", "high"] (sp_is_number K)) (C_is_scope : FnC P w K mg base 3 "is_scope" ["value"] (sp_is_scope K)) : FnC P w K mg base 4 "is_graph" ["value"] (sp_is_graph K) := by
  obtain ⟨f, fd, gf, F⟩ := T.is_graph
  obtain ⟨t_MOST_NODES, m_MOST_NODES⟩ := B.MOST_NODES_
  refine ⟨f, fd, gf, F.kp, F.binds (ps := ["value"]) fun _ _ _ _ _ _ us hl => match us, hl with | [_], _ => rfl, ?_⟩
  refine F.ok sc_is_graph (fun vs H Q E h => ?_) (fun cdv A outer s H vs Q E hr h => ?_)
  · obtain ⟨g, G, rfl, _⟩ := h
    rfl
  · obtain ⟨g, G, rfl, hG, W, q⟩ := h
    obtain ⟨a, sc, ed, ss, es, rfl, h1, h2, h3, h4, h5⟩ := id hG
    refine ⟨_, (pss_cons (ps_if (PW.pt (pw_or (pt_not (pt_val (pe_callB (k_isi (K := K) rfl) (by rfl) B.isinstance_ (by decide +kernel) (pa_cons (pv 0) (pa_cons (pe_bltn (v := .ty "tuple") (by rfl) B.tuple_ (by decide +kernel) rfl) pa_nil))))) (pw_or (pt_cmpR op_ne (pe_callB (k_len (K := K) rfl) (by rfl) B.len_ (by decide +kernel) (pa_cons (pv 0) pa_nil)) pe_int (nomark _)) (pw_or1 (pt_not (pt_val (pe_callC C_is_number (hr.mono (by decide)) (by rfl) (pa_cons (pe_ix (k_ixT (K := K) rfl) (pv 0) pe_int (fun _ _ => rfl)) (pa_cons pe_int (pa_cons pe_int pa_nil)))))))))) (pss_one (ps_ret pe_bl)) pss_nil)
      (pss_cons (ps_asg (pv 0) (kpg_tup (K := K) (n := 3) rfl rfl (pgs_cons (pg_name (i := 1) sc_is_graph.nd rfl (.inl rfl)) (pgs_cons (pg_name (i := 2) sc_is_graph.nd rfl (.inr rfl)) (pgs_cons (pg_name (i := 3) sc_is_graph.nd rfl (.inr rfl)) pgs_nil)))))
      (pss_cons (ps_if (PW.pt (pw_or (pt_not (pt_val (pe_callB (k_isi (K := K) rfl) (by rfl) B.isinstance_ (by decide +kernel) (pa_cons (pv 2) (pa_cons (pe_bltn (v := .ty "tuple") (by rfl) B.tuple_ (by decide +kernel) rfl) pa_nil))))) (pw_or1 (pt_not (pt_chain op_le op_le pe_int (pe_callB (k_len (K := K) rfl) (by rfl) B.len_ (by decide +kernel) (pa_cons (pv 2) pa_nil)) (pe_glob (v := .int 5) (by rfl) m_MOST_NODES ⟨_, rfl⟩)))))) (pss_one (ps_ret pe_bl)) pss_nil)
      (pss_cons (ps_if (pt_not (pt_val (pe_callB (k_all (K := K) rfl rfl) (by rfl) B.all_ (by decide +kernel) (pa_cons (pe_lc (own := [("one", 4)]) rfl sc_is_graph.nd (kpi_tup (K := K) rfl (pv 2)) (blkOk_by (N := N_is_graph) (sc := defScope s_is_graph) (by decide +kernel)) (fun _ _ _ _ _ => (pg_name (i := 4) sc_is_graph.nd rfl (.inl rfl))) (fun _ _ _ _ _ => pts_nil) (fun _ _ _ _ _ => (pe_callC C_is_scope (hr.mono (by decide)) (by rfl) (pa_cons (pv 4) pa_nil)))) pa_nil)))) (pss_one (ps_ret pe_bl)) pss_nil)
      (pss_cons (ps_if (PW.pt (pw_or (pt_not (pt_val (pe_callB (k_isi (K := K) rfl) (by rfl) B.isinstance_ (by decide +kernel) (pa_cons (pv 3) (pa_cons (pe_bltn (v := .ty "tuple") (by rfl) B.tuple_ (by decide +kernel) rfl) pa_nil))))) (pw_or1 (pt_not (pt_val (pe_callB (k_all (K := K) rfl rfl) (by rfl) B.all_ (by decide +kernel) (pa_cons (pe_lc (own := [("edge", 5)]) rfl sc_is_graph.nd (kpi_tup (K := K) rfl (pv 3)) (blkOk_by (N := N_is_graph) (sc := defScope s_is_graph) (by decide +kernel)) (fun _ _ _ _ _ => (pg_name (i := 5) sc_is_graph.nd rfl (.inl rfl))) (fun _ _ _ _ _ => pts_nil) (fun _ _ _ _ _ => (pe_callC C_is_edge (hr.mono (by decide)) (by rfl) (pa_cons (pv 5) (pa_cons (pe_callB (k_len (K := K) rfl) (by rfl) B.len_ (by decide +kernel) (pa_cons (pv 2) pa_nil)) pa_nil))))) pa_nil))))))) (pss_one (ps_ret pe_bl)) pss_nil)
      (pss_one (ps_ret (pe_callB (k_all (K := K) rfl rfl) (by rfl) B.all_ (by decide +kernel) (pa_cons (pe_lc (own := [("at", 6)]) rfl sc_is_graph.nd (pi_range1 (by rfl) B.range_ (pa_cons (pe_op op_sub (pe_callB (k_len (K := K) rfl) (by rfl) B.len_ (by decide +kernel) (pa_cons (pv 3) pa_nil)) pe_int) pa_nil)) (blkOk_by (N := N_is_graph) (sc := defScope s_is_graph) (by decide +kernel)) (fun _ _ _ _ _ => (pg_name (i := 6) sc_is_graph.nd rfl (.inl rfl))) (fun _ _ _ _ _ => pts_nil) (fun _ _ _ _ _ => (pe_cmpR (k_ltT (K := K) rfl hr.units0) (pe_ix (k_ixT (K := K) rfl) (pv 3) (pv 6) (fun _ _ => rfl)) (pe_ix (k_ixT (K := K) rfl) (pv 3) (pe_op op_add (pv 6) pe_int) (fun _ _ => rfl)) (nomark _)))) pa_nil))))))))), ?_⟩
    have lS : ss.length = G.scopes.length := h4.1
    have lE : es.length = G.edges.length := by rw [h5.1, List.length_map]
    have hm := W.many
    -- the first if
    refine q_when (b := false) (et_is (et_or (et_not (et_B (ev_isTup (ev_var rfl) h1))) fun _ => et_or (et_test (ev_ne (ev_lenT (ev_var rfl) h1) ev_c rfl)) fun _ => et_not (et_B (ev_whole rfl (ea_cons (ev_ixT (ev_var rfl) h1 ev_c rfl) (ea_cons ev_c (ea_cons ev_c ea_nil)))))) ?_) (fun z => nomatch z) (fun _ H1 e => ?_)
    · rw [decide_eq_true W.vals]
      rfl
    have k1 := e _ _ h1
    have k2 := e _ _ h2
    have k3 := e _ _ h3
    have k4 := h4.gw (Gw.of e)
    have k5 := h5.gw (Gw.of e)
    refine q_tup3 (ev_var rfl) k1 fun H2 e2 => ?_
    replace k1 := e2 _ _ k1
    replace k2 := e2 _ _ k2
    replace k3 := e2 _ _ k3
    replace k4 := k4.gw (Gw.of e2)
    replace k5 := k5.gw (Gw.of e2)
    refine q_when (b := false) (et_is (et_or (et_not (et_B (ev_isTup (ev_var rfl) k2))) fun _ => et_not (et_test (ev_chain ev_c (ev_lenT (ev_var rfl) k2) rv_I0 (fun _ => ev_c) fun _ => rv_I0))) ?_) (fun z => nomatch z) (fun _ H3 e3 => ?_)
    · rw [lS, decide_eq_true (show (1 : Int) ≤ (G.scopes.length : Int) by omega), decide_eq_true (show (G.scopes.length : Int) ≤ 5 by omega)]
      rfl
    replace k1 := e3 _ _ k1
    replace k2 := e3 _ _ k2
    replace k3 := e3 _ _ k3
    replace k4 := k4.gw (Gw.of e3)
    replace k5 := k5.gw (Gw.of e3)
    refine q_when (b := false) (et_is (et_not (et_B (ev_all (l := G.scopes) (f := fun _ => true) (el_tups (ev_var rfl) k2 k4 (by omega) (fun _ => rfl) (fun _ _ _ _ => et_yes) fun ns hns b hb _ => v_call (vs := [.ref b]) (ea_cons (ev_var rfl) ea_nil) fun H4 e4 Q' q' E => ⟨b, ns, rfl, e4 _ _ hb, (W.scopes ns hns).1, (W.scopes ns hns).2, q'⟩)))) ?_) (fun z => nomatch z) (fun _ H4 e4 => ?_)
    · rw [all_true fun _ _ => rfl]
      rfl
    replace k1 := e4 _ _ k1
    replace k2 := e4 _ _ k2
    replace k3 := e4 _ _ k3
    replace k4 := k4.gw (Gw.of e4)
    replace k5 := k5.gw (Gw.of e4)
    refine q_when (b := false) (et_is (et_or (et_not (et_B (ev_isTup (ev_var rfl) k3))) fun _ => et_not (et_B (ev_all (l := G.edges.map pr) (f := fun _ => true) (el_tups (ev_var rfl) k3 k5 (by rw [List.length_map]; have := W.few; omega) (fun _ => rfl) (fun _ _ _ _ => et_yes) fun ns hns b hb _ => v_call (vs := [.ref b, .int (G.scopes.length : Int)]) (ea_cons (ev_var rfl) (ea_cons (ev_is (ev_lenT (ev_var rfl) k2) (by rw [lS])) ea_nil)) fun H5 e5 Q' q' E => ?_)))) ?_) (fun z => nomatch z) (fun _ H5 e5 => ?_)
    · obtain ⟨p, hp, rfl⟩ := List.mem_map.mp hns
      obtain ⟨w1, w2, w3⟩ := W.edges p hp
      exact ⟨b, p, _, rfl, e5 _ _ hb, w1, w2, w3, q'⟩
    · rw [all_true fun _ _ => rfl]
      rfl
    replace k3 := e5 _ _ k3
    replace k5 := k5.gw (Gw.of e5)
    have hf := W.few
    refine s_ret (v := .bl true) (ev_is (ev_all (l := List.range (G.edges.length - 1)) (f := fun _ => true) ?_) (by simp)) fun H6 e6 => q H6 (Same.trans (Same.trans (Same.trans (Same.trans (Same.trans e e2) e3) e4) e5) e6)
    refine evL_is (el_rng' (n := G.edges.length - 1) (p := fun _ => true) (q := fun _ => V.bl true) (z := (es.length : Int) - 1) (ev_sub (ev_lenT (ev_var rfl) k3) ev_c) (by omega) (by omega) (fun _ => rfl) (fun i _ => et_yes) (fun i hi _ => ?_) (by omega)) rfl
    have i1 : i < G.edges.length := by omega
    have i2 : i + 1 < G.edges.length := by omega
    obtain ⟨b1, x1, y1⟩ := k5.at_ (i := i) (ns := pr G.edges[i]) (by rw [List.getElem?_map, List.getElem?_eq_getElem i1]; rfl)
    obtain ⟨b2, x2, y2⟩ := k5.at_ (i := i + 1) (ns := pr G.edges[i + 1]) (by rw [List.getElem?_map, List.getElem?_eq_getElem i2]; rfl)
    have lt := List.pairwise_iff_getElem.mp W.climb i (i + 1) i1 i2 (Nat.lt_succ_self i)
    refine ev_op (ev_ixT (ev_var rfl) k3 (ev_var rfl) (at_of (j := i) rfl x1)) (ev_ixT (ev_var rfl) k3 (ev_add (ev_var rfl) ev_c) (at_of (j := i + 1) (by omega) x2)) fun H7 e7 Q' q' => ⟨b1, b2, _, _, rfl, rfl, SqT.of (e7 _ _ y1), SqT.of (e7 _ _ y2), ?_⟩
    rw [lex_pr lt]
    exact q' H7 (Ex.refl _)
theorem c_check_graph (T : Tx K mg) (B : Bl mg) (C_is_graph : FnC P w K mg base 4 "is_graph" ["value"] (sp_is_graph K)) : FnC P w K mg base 5 "check_graph" ["value"] (sp_check_graph K) := by
  obtain ⟨f, fd, gf, F⟩ := T.check_graph
  refine ⟨f, fd, gf, F.kp, F.binds (ps := ["value"]) fun _ _ _ _ _ _ us hl => match us, hl with | [_], _ => rfl, ?_⟩
  refine F.ok sc_check_graph (fun vs H Q E h => ?_) (fun cdv A outer s H vs Q E hr h => ?_)
  · obtain ⟨g, G, rfl, _⟩ := h
    rfl
  · obtain ⟨g, G, rfl, hG, W, q⟩ := h
    refine ⟨_, (pss_one (ps_if (pt_not (pt_val (pe_callC C_is_graph (hr.mono (by decide)) (by rfl) (pa_cons (pv 0) pa_nil)))) (pss_one ps_never) pss_nil)), ?_⟩
    refine s_when (b := false) (et_is (et_not (et_B (v_call (z := .bl true) (vs := [g]) (ea_cons (ev_var rfl) ea_nil) fun H2 e2 Q' q' E => ⟨g, G, rfl, hG.gw (Gw.of e2), W, q'⟩))) rfl) (fun z => nomatch z) (fun _ H1 e => q H1 e)
end
end Tt

/-! graphs, in plain Lean -/
namespace Tt
/-- the neighbours of a node, in some order -/
def nbs (G : Gr) (i : Int) : List Int := (G.edges.filter fun p => decide (p.1 = i)).map (·.2) ++ (G.edges.filter fun p => decide (p.2 = i)).map (·.1)
theorem mem_nbs {G : Gr} {i y : Int} : y ∈ nbs G i ↔ (i, y) ∈ G.edges ∨ (y, i) ∈ G.edges := by
  unfold nbs
  rw [List.mem_append, List.mem_map, List.mem_map]
  constructor
  · rintro (⟨p, hp, rfl⟩ | ⟨p, hp, rfl⟩)
    · obtain ⟨h1, h2⟩ := List.mem_filter.mp hp
      have : p.1 = i := of_decide_eq_true h2
      subst this
      exact .inl h1
    · obtain ⟨h1, h2⟩ := List.mem_filter.mp hp
      have : p.2 = i := of_decide_eq_true h2
      subst this
      exact .inr h1
  · rintro (h | h)
    · exact .inl ⟨(i, y), List.mem_filter.mpr ⟨h, by simp⟩, rfl⟩
    · exact .inr ⟨(y, i), List.mem_filter.mpr ⟨h, by simp⟩, rfl⟩
theorem nbs_symm {G : Gr} {i y : Int} (h : y ∈ nbs G i) : i ∈ nbs G y := by
  rw [mem_nbs] at h ⊢
  exact h.symm
theorem WG.edge {G : Gr} (W : WG G) {a b : Int} (h : (a, b) ∈ G.edges) : 0 ≤ a ∧ a < b ∧ b < (G.scopes.length : Int) := W.edges (a, b) h
theorem WG.nbs_in {G : Gr} (W : WG G) {i y : Int} (h : y ∈ nbs G i) : 0 ≤ y ∧ y < (G.scopes.length : Int) := by
  rw [mem_nbs] at h
  rcases h with h | h
  · have := W.edge h; omega
  · have := W.edge h; omega
theorem WG.nbs_ne {G : Gr} (W : WG G) {i y : Int} (h : y ∈ nbs G i) : y ≠ i := by
  rw [mem_nbs] at h
  rcases h with h | h
  · have := W.edge h; omega
  · have := W.edge h; omega
theorem WG.nd {G : Gr} (W : WG G) : G.edges.Nodup := W.climb.imp fun {p q} h e => by
  subst e
  omega
theorem WG.nbs_nodup {G : Gr} (W : WG G) (i : Int) : (nbs G i).Nodup := by
  unfold nbs
  have inj1 : ((G.edges.filter fun p => decide (p.1 = i)).map (·.2)).Nodup := by
    refine List.pairwise_map.mpr ((W.nd.sublist List.filter_sublist).imp_of_mem fun {p q} hp hq ne e => ne ?_)
    have h1 : p.1 = i := of_decide_eq_true (List.mem_filter.mp hp).2
    have h2 : q.1 = i := of_decide_eq_true (List.mem_filter.mp hq).2
    exact Prod.ext (h1.trans h2.symm) e
  have inj2 : ((G.edges.filter fun p => decide (p.2 = i)).map (·.1)).Nodup := by
    refine List.pairwise_map.mpr ((W.nd.sublist List.filter_sublist).imp_of_mem fun {p q} hp hq ne e => ne ?_)
    have h1 : p.2 = i := of_decide_eq_true (List.mem_filter.mp hp).2
    have h2 : q.2 = i := of_decide_eq_true (List.mem_filter.mp hq).2
    exact Prod.ext e (h1.trans h2.symm)
  refine List.nodup_append.mpr ⟨inj1, inj2, fun a ha b hb e => ?_⟩
  subst e
  obtain ⟨p, hp, rfl⟩ := List.mem_map.mp ha
  obtain ⟨q, hq, e2⟩ := List.mem_map.mp hb
  obtain ⟨p1, p2⟩ := List.mem_filter.mp hp
  obtain ⟨q1, q2⟩ := List.mem_filter.mp hq
  have p3 : p.1 = i := of_decide_eq_true p2
  have q3 : q.2 = i := of_decide_eq_true q2
  have := W.edges p p1
  have := W.edges q q1
  have e3 : q.1 = p.2 := e2
  omega
/-- the nodes that have a variable -/
def hav (G : Gr) (v : Int) : List Int := ((List.range G.scopes.length).filter fun i => decide (v ∈ G.scopes.getD i [])).map Int.ofNat
theorem mem_hav {G : Gr} {v x : Int} : x ∈ hav G v ↔ ∃ i : Nat, x = (i : Int) ∧ i < G.scopes.length ∧ v ∈ G.scopes.getD i [] := by
  unfold hav
  rw [List.mem_map]
  constructor
  · rintro ⟨i, hi, rfl⟩
    obtain ⟨h1, h2⟩ := List.mem_filter.mp hi
    exact ⟨i, rfl, List.mem_range.mp h1, of_decide_eq_true h2⟩
  · rintro ⟨i, rfl, h1, h2⟩
    exact ⟨i, List.mem_filter.mpr ⟨List.mem_range.mpr h1, decide_eq_true h2⟩, rfl⟩
theorem hav_len (G : Gr) (v : Int) : (hav G v).length ≤ G.scopes.length := by
  unfold hav
  rw [List.length_map]
  have := List.length_filter_le (fun i => decide (v ∈ G.scopes.getD i [])) (List.range G.scopes.length)
  rw [List.length_range] at this
  exact this
theorem mem_rng {n : Nat} {x : Int} : x ∈ rng n ↔ 0 ≤ x ∧ x < (n : Int) := by
  unfold rng
  rw [List.mem_map]
  constructor
  · rintro ⟨i, hi, rfl⟩
    have := List.mem_range.mp hi
    constructor
    · exact Int.natCast_nonneg i
    · show (i : Int) < n; omega
  · rintro ⟨h1, h2⟩
    exact ⟨x.toNat, List.mem_range.mpr (by omega), by show (x.toNat : Int) = x; omega⟩
theorem rng_len (n : Nat) : (rng n).length = n := by unfold rng; rw [List.length_map, List.length_range]
theorem nodup_ofNat {l : List Nat} (h : l.Nodup) : (l.map Int.ofNat).Nodup := List.pairwise_map.mpr (h.imp fun {a b} ne e => ne (Int.ofNat.inj e))
theorem rng_nodup (n : Nat) : (rng n).Nodup := nodup_ofNat List.nodup_range
theorem hav_nodup (G : Gr) (v : Int) : (hav G v).Nodup := nodup_ofNat (List.nodup_range.sublist List.filter_sublist)
/-- a range's part that is taken is ascending -/
theorem climb_ofNat {l : List Nat} (h : l.Pairwise (· < ·)) : (l.map Int.ofNat).Pairwise (· < ·) := List.pairwise_map.mpr (h.imp fun {a b} ne => Int.ofNat_lt.mpr ne)
theorem rng_climb (n : Nat) : (rng n).Pairwise (· < ·) := climb_ofNat List.pairwise_lt_range
theorem hav_climb (G : Gr) (v : Int) : (hav G v).Pairwise (· < ·) := climb_ofNat (List.pairwise_lt_range.sublist List.filter_sublist)

/-! ### hanging together -/
/-- found in this order, from i, among as; the first k have given their neighbours -/
structure HangTo (G : Gr) (i : Int) (as found : List Int) (k : Nat) : Prop where
  first : ∃ rest, found = i :: rest
  nd : found.Nodup
  sub : ∀ x ∈ found, x = i ∨ x ∈ as
  back : ∀ (m : Nat) (x : Int), found[m]? = some x → 0 < m → ∃ (j : Nat) (y : Int), j < m ∧ found[j]? = some y ∧ y ∈ nbs G x
  closed : ∀ (j : Nat) (x : Int), j < k → found[j]? = some x → ∀ y ∈ nbs G x, y ∈ as → y ∈ found
def Hang (G : Gr) (i : Int) (as found : List Int) : Prop := HangTo G i as found found.length
theorem hang_start (G : Gr) (i : Int) (as : List Int) : HangTo G i as [i] 0 := by
  refine ⟨⟨[], rfl⟩, by simp, fun x hx => .inl (by simpa using hx), fun m x h hm => ?_, fun j x h => absurd h (Nat.not_lt_zero j)⟩
  cases m with
  | zero => omega
  | succ m => simp at h
theorem HangTo.len {G : Gr} {i : Int} {as found : List Int} {k : Nat} (h : HangTo G i as found k) : found.length ≤ as.length + 1 := by
  have := h.nd.length_le_of_subset (l₂ := i :: as) fun x hx => by
    rcases h.sub x hx with e | e
    · rw [e]; exact List.mem_cons_self
    · exact List.mem_cons_of_mem _ e
  simpa using this
/-- one turn: the neighbours ns of the k-th that are among as and not found yet -/
theorem HangTo.turn {G : Gr} (W : WG G) {i : Int} {as found ns : List Int} {k : Nat} {x : Int} (h : HangTo G i as found k) (hx : found[k]? = some x) (pm : ns.Perm (nbs G x)) :
    HangTo G i as (found ++ ns.filter fun y => decide (y ∈ as) && !decide (y ∈ found)) (k + 1) := by
  have hm : ∀ y, y ∈ (ns.filter fun y => decide (y ∈ as) && !decide (y ∈ found)) ↔ y ∈ nbs G x ∧ y ∈ as ∧ y ∉ found := fun y => by
    rw [List.mem_filter, pm.mem_iff]
    simp
  obtain ⟨rest, e⟩ := h.first
  have hk : k < found.length := (List.getElem?_eq_some_iff.mp hx).1
  refine ⟨⟨_, by rw [e]; rfl⟩, ?_, fun y hy => ?_, fun m y hy h0 => ?_, fun j y hj hy z hz ha => ?_⟩
  · refine List.nodup_append.mpr ⟨h.nd, (pm.nodup_iff.mpr (W.nbs_nodup x)).sublist List.filter_sublist, fun a ha b hb e2 => ?_⟩
    subst e2
    exact ((hm a).mp hb).2.2 ha
  · rcases List.mem_append.mp hy with hy | hy
    · exact h.sub y hy
    · exact .inr ((hm y).mp hy).2.1
  · by_cases hml : m < found.length
    · rw [List.getElem?_append_left hml] at hy
      obtain ⟨j, z, h1, h2, h3⟩ := h.back m y hy h0
      exact ⟨j, z, h1, by rw [List.getElem?_append_left (by omega)]; exact h2, h3⟩
    · rw [List.getElem?_append_right (by omega)] at hy
      have hy' := (hm y).mp (List.mem_of_getElem? hy)
      exact ⟨k, x, by omega, by rw [List.getElem?_append_left hk]; exact hx, nbs_symm hy'.1⟩
  · by_cases hjk : j = k
    · subst hjk
      rw [List.getElem?_append_left hk, hx] at hy
      have e2 := Option.some.inj hy
      subst e2
      by_cases hf : z ∈ found
      · exact List.mem_append_left _ hf
      · exact List.mem_append_right _ ((hm z).mpr ⟨hz, ha, hf⟩)
    · rw [List.getElem?_append_left (by omega)] at hy
      exact List.mem_append_left _ (h.closed j y (by omega) hy z hz ha)
theorem HangTo.done {G : Gr} {i : Int} {as found : List Int} {k : Nat} (h : HangTo G i as found k) (hk : found.length ≤ k) : Hang G i as found :=
  ⟨h.first, h.nd, h.sub, h.back, fun j x hj hx => h.closed j x (by omega) hx⟩
theorem Hang.close {G : Gr} {i : Int} {as found : List Int} (h : Hang G i as found) {x y : Int} (hx : x ∈ found) (hy : y ∈ nbs G x) (ha : y ∈ as) : y ∈ found := by
  obtain ⟨j, hj, e⟩ := List.getElem_of_mem hx
  exact h.closed j x hj (by rw [List.getElem?_eq_getElem hj, e]) y hy ha
/-- whoever is found stands on the same side as the first, where no edge leaves the side -/
theorem Hang.side {G : Gr} {i : Int} {as found : List Int} (h : Hang G i as found) (S : Int → Prop) (hS : ∀ x y, x ∈ found → y ∈ found → y ∈ nbs G x → (S x ↔ S y)) : ∀ x ∈ found, (S x ↔ S i) := by
  have all : ∀ (m : Nat) (x : Int), found[m]? = some x → (S x ↔ S i) := by
    intro m
    induction m using Nat.strongRecOn with
    | _ m ih =>
      intro x hx
      by_cases h0 : 0 < m
      · obtain ⟨j, y, h1, h2, h3⟩ := h.back m x hx h0
        exact (hS x y (List.mem_of_getElem? hx) (List.mem_of_getElem? h2) h3).trans (ih j h1 y h2)
      · obtain ⟨rest, e⟩ := h.first
        have hm : m = 0 := by omega
        subst hm
        rw [e] at hx
        have : i = x := Option.some.inj hx
        rw [this]
  intro x hx
  obtain ⟨j, hj, e⟩ := List.getElem_of_mem hx
  exact all j x (by rw [List.getElem?_eq_getElem hj, e])
end Tt

namespace Tt
open PySem PySem.Spec PyProof.Rows L2 TtR Evl
/-- a node? -/
def isNodeD (n : Nat) : PyData → Bool
  | .int i => decide (0 ≤ i ∧ i < (n : Int))
  | _ => false
def sp_is_node (K : PySem.W.Frag) : Sp := fun vs H Q _ => ∃ (v g : V) (d : PyData) (G : Gr), vs = [v, g] ∧ Is H v d ∧ GraphAt H g G ∧ ∀ H', Same H H' → Q (.bl (isNodeD G.scopes.length d)) H'
def sp_neighbours (K : PySem.W.Frag) : Sp := fun vs H Q _ => ∃ (g : V) (i : Int) (G : Gr), vs = [g, .int i] ∧ GraphAt H g G ∧ WG G ∧ ∀ (H' : Hp) (a : Addr) (ns : List Int), Same H H' → H' a = some (.tup (ns.map V.int)) → ns.Perm (nbs G i) → Q (.ref a) H'
def sp_hanging (K : PySem.W.Frag) : Sp := fun vs H Q _ => ∃ (g s : V) (i : Int) (as : List Int) (G : Gr), vs = [g, .int i, s] ∧ GraphAt H g G ∧ WG G ∧ SqI K H s as ∧ as.length ≤ 100 ∧
  ∀ (H' : Hp) (a : Addr) (r found : List Int), Same H H' → H' a = some (.tup (r.map V.int)) → r.Perm found → r.Pairwise (· ≤ ·) → Hang G i as found → Q (.ref a) H'
def sp_having (K : PySem.W.Frag) : Sp := fun vs H Q _ => ∃ (g : V) (v : Int) (G : Gr), vs = [g, .int v] ∧ GraphAt H g G ∧ WG G ∧ ∀ (H' : Hp) (a : Addr), Same H H' → H' a = some (.tup ((hav G v).map V.int)) → Q (.ref a) H'
def sp_scope_of (K : PySem.W.Frag) : Sp := fun vs H Q _ => ∃ (g : V) (l : Addr) (G : Gr), vs = [g, .ref l] ∧ GraphAt H g G ∧ WG G ∧ H l = some (.lst ((rng G.scopes.length).map V.int)) ∧ ∀ (H' : Hp) (a : Addr) (r : List Int), Same H H' → H' a = some (.tup (r.map V.int)) → r.length ≤ 100 → (∀ v : Int, v ∈ r ↔ ∃ ns ∈ G.scopes, v ∈ ns) → Q (.ref a) H'
def sp_variables_of (K : PySem.W.Frag) : Sp := fun vs H Q _ => ∃ (g : V) (G : Gr), vs = [g] ∧ GraphAt H g G ∧ WG G ∧ ∀ (H' : Hp) (a : Addr) (r : List Int), Same H H' → H' a = some (.tup (r.map V.int)) → r.length ≤ 100 → (∀ v : Int, v ∈ r ↔ ∃ ns ∈ G.scopes, v ∈ ns) → Q (.ref a) H'
theorem map_int {l : List Int} {p : Int → Bool} : (l.filter p).map V.int = (l.filter p).map V.int := rfl
section
variable {P : Program} {w : World} {K : PySem.W.Frag} {mg : Str → Option Value} {base : Heap}
theorem c_is_node (T : Tx K mg) (B : Bl mg) : FnC P w K mg base 1 "is_node" ["value", "graph"] (sp_is_node K) := by
  obtain ⟨f, fd, gf, F⟩ := T.is_node
  refine ⟨f, fd, gf, F.kp, F.binds (ps := ["value", "graph"]) fun _ _ _ _ _ _ us hl => match us, hl with | [_, _], _ => rfl, ?_⟩
  refine F.ok sc_is_node (fun vs H Q E h => ?_) (fun cdv A outer s H vs Q E hr h => ?_)
  · obtain ⟨v, g, d, G, rfl, _⟩ := h
    rfl
  · obtain ⟨v, g, d, G, rfl, hd, hG, q⟩ := h
    obtain ⟨a, sc, ed, ss, es, rfl, h1, h2, h3, h4, h5⟩ := id hG
    refine ⟨_, (pss_one (ps_ret (pe_and (pe_callB (k_isi (K := K) rfl) (by rfl) B.isinstance_ (by decide +kernel) (pa_cons (pv 0) (pa_cons (pe_bltn (v := .ty "int") (by rfl) B.int_ (by decide +kernel) rfl) pa_nil))) (pe_and (pe_not (pe_callB (k_isi (K := K) rfl) (by rfl) B.isinstance_ (by decide +kernel) (pa_cons (pv 0) (pa_cons (pe_bltn (v := .ty "bool") (by rfl) B.bool_ (by decide +kernel) rfl) pa_nil)))) (pe_one (pe_chain op_le op_lt pe_int (pv 0) (pe_callB (k_len (K := K) rfl) (by rfl) B.len_ (by decide +kernel) (pa_cons (pe_ix (k_ixT (K := K) rfl) (pv 1) pe_int (fun _ _ => rfl)) pa_nil)))))))), ?_⟩
    cases hd with
    | int i =>
      refine s_ret (ev_is (ev_andV (ev_isi (ev_var rfl) (.int i) kit_ii) fun _ => ev_andV (ev_notV (ev_isi (ev_var rfl) (.int i) kit_ib)) fun _ => ev_chain ev_c (ev_var rfl) rv_I0 (fun _ => ev_lenT (ev_ixT (ev_var rfl) h1 ev_c rfl) h2) fun _ => rv_I0) ?_) q
      rw [h4.1]
      show V.bl (true && (!false && (decide (0 ≤ i) && decide (i < (G.scopes.length : Int))))) = V.bl (decide (0 ≤ i ∧ i < (G.scopes.length : Int)))
      simp
    | bl b => exact s_ret (ev_andV (b := false) (ev_isi (ev_var rfl) (.bl b) kit_bi) fun _ => ev_andV (a := false) (b := false) (ev_notV (ev_isi (ev_var rfl) (.bl b) kit_bb)) fun z => nomatch z) q
    | non => exact s_ret (ev_andV (b := false) (ev_isi (ev_var rfl) .non (kit_int _ (by intro _ z; cases z))) fun z => nomatch z) q
    | str x => exact s_ret (ev_andV (b := false) (ev_isi (ev_var rfl) (.str x) (kit_int _ (by intro _ z; cases z))) fun z => nomatch z) q
    | lst e => exact s_ret (ev_andV (b := false) (ev_isi (ev_var rfl) (.lst e) (kit_int _ (by intro _ z; cases z))) fun z => nomatch z) q
    | tup e es => exact s_ret (ev_andV (b := false) (ev_isi (ev_var rfl) (.tup e es) (kit_int _ (by intro _ z; cases z))) fun z => nomatch z) q
theorem c_neighbours (T : Tx K mg) (B : Bl mg) : FnC P w K mg base 1 "neighbours" ["graph", "node"] (sp_neighbours K) := by
  obtain ⟨f, fd, gf, F⟩ := T.neighbours
  refine ⟨f, fd, gf, F.kp, F.binds (ps := ["graph", "node"]) fun _ _ _ _ _ _ us hl => match us, hl with | [_, _], _ => rfl, ?_⟩
  refine F.ok sc_neighbours (fun vs H Q E h => ?_) (fun cdv A outer s H vs Q E hr h => ?_)
  · obtain ⟨g, i, G, rfl, _⟩ := h
    rfl
  · obtain ⟨g, i, G, rfl, hG, W, q⟩ := h
    obtain ⟨a, sc, ed, ss, es, rfl, h1, h2, h3, h4, h5⟩ := id hG
    refine ⟨_, (pss_cons (ps_set (i := 2) sc_neighbours.nd rfl (.inl rfl) (pe_op op_cat (pe_lc (own := [("one", 3), ("other", 4)]) rfl sc_neighbours.nd (kpi_tup (K := K) rfl (pe_ix (k_ixT (K := K) rfl) (pv 0) pe_int (fun _ _ => rfl))) (blkOk_by (N := N_neighbours) (sc := defScope s_neighbours) (by decide +kernel)) (fun _ _ _ _ _ => (kpg_tup (K := K) (n := 2) rfl rfl (pgs_cons (pg_name (i := 3) sc_neighbours.nd rfl (.inl rfl)) (pgs_cons (pg_name (i := 4) sc_neighbours.nd rfl (.inl rfl)) pgs_nil)))) (fun _ _ _ _ _ => (pts_one (pt_cmpR op_eq (pv 3) (pv 1) (nomark _)))) (fun _ _ _ _ _ => (pv 4))) (pe_lc (own := [("one", 3), ("other", 4)]) rfl sc_neighbours.nd (kpi_tup (K := K) rfl (pe_ix (k_ixT (K := K) rfl) (pv 0) pe_int (fun _ _ => rfl))) (blkOk_by (N := N_neighbours) (sc := defScope s_neighbours) (by decide +kernel)) (fun _ _ _ _ _ => (kpg_tup (K := K) (n := 2) rfl rfl (pgs_cons (pg_name (i := 3) sc_neighbours.nd rfl (.inl rfl)) (pgs_cons (pg_name (i := 4) sc_neighbours.nd rfl (.inl rfl)) pgs_nil)))) (fun _ _ _ _ _ => (pts_one (pt_cmpR op_eq (pv 4) (pv 1) (nomark _)))) (fun _ _ _ _ _ => (pv 3)))))
      (pss_one (ps_ret (k_tupleOf (K := K) rfl (by rfl) B.tuple_ (pe_callB cr_sortedI (by rfl) B.sorted_ (by decide +kernel) (pa_cons (pv 2) pa_nil)))))), ?_⟩
    have hf := W.few
    have hl1 := List.length_filter_le (fun p : Int × Int => decide (p.1 = i)) G.edges
    have hl2 := List.length_filter_le (fun p : Int × Int => decide (p.2 = i)) G.edges
    refine q_asgL (xs := (nbs G i).map V.int) (evL_is (el_cat (el_prs (l := G.edges) (p := fun p => decide (p.1 = i)) (q := fun p => V.int p.2) (ev_ixT (ev_var rfl) h1 ev_c rfl) h3 h5 (by omega) (fun _ _ => rfl) (fun z _ => et_is (et_test (ev_eq (ev_var rfl) (ev_var rfl) rfl)) ?_) fun z _ _ => ev_var rfl) (el_prs (l := G.edges) (p := fun p => decide (p.2 = i)) (q := fun p => V.int p.1) (ev_ixT (ev_var rfl) h1 ev_c rfl) h3 h5 (by omega) (fun _ _ => rfl) (fun z _ => et_is (et_test (ev_eq (ev_var rfl) (ev_var rfl) rfl)) ?_) fun z _ _ => ev_var rfl) ?_) ?_) fun p H1 hp e1 hl => ?_
    · exact decide_eq_decide.mpr ⟨fun z => V.int.inj z, fun z => congrArg V.int z⟩
    · exact decide_eq_decide.mpr ⟨fun z => V.int.inj z, fun z => congrArg V.int z⟩
    · rw [List.length_map, List.length_map]; omega
    · unfold nbs
      rw [List.map_append, List.map_map, List.map_map]
      rfl
    refine r_ret (tup_ofR (ev_sortedL (EvR.of (ev_var rfl) fun H2 e2 => ⟨p, rfl, e2 _ _ hl⟩)) fun _ _ _ _ h => h) fun v H2 e2 ⟨b, xs, ev, hb, ms, ex, pm, _⟩ => ?_
    subst ev ex
    exact q H2 b ms (Same.trans e1 e2) hb pm
end
end Tt

namespace Tt
open PySem PySem.Spec PyProof.Rows L2 TtR Evl
/-- the keys of a dict of ints behind a store -/
theorem keys_put {kvs : List (Key × V)} {ks : List Int} {k : Int} {v : V} (e : kvs.map (·.1) = ks.map Sum.inl) : (putK kvs (.inl k) v).map (·.1) = (if k ∈ ks then ks else ks ++ [k]).map Sum.inl := by
  have hmem : (kvs.any fun kv => decide (kv.1 = Sum.inl k)) = true ↔ k ∈ ks := by
    constructor
    · intro h
      obtain ⟨kv, h1, h2⟩ := List.any_eq_true.mp h
      have h3 : kv.1 ∈ kvs.map (·.1) := List.mem_map.mpr ⟨kv, h1, rfl⟩
      rw [e, of_decide_eq_true h2] at h3
      obtain ⟨k', h4, h5⟩ := List.mem_map.mp h3
      rw [← Sum.inl.inj h5]
      exact h4
    · intro h
      have h3 : (Sum.inl k : Key) ∈ kvs.map (·.1) := by rw [e]; exact List.mem_map.mpr ⟨k, h, rfl⟩
      obtain ⟨kv, h1, h2⟩ := List.mem_map.mp h3
      exact List.any_eq_true.mpr ⟨kv, h1, decide_eq_true h2⟩
  unfold putK
  by_cases h : k ∈ ks
  · rw [if_pos (hmem.mpr h), if_pos h, ← e, List.map_map]
    refine List.map_congr_left fun kv _ => ?_
    show (if kv.1 = Sum.inl k then (kv.1, v) else kv).1 = kv.1
    split <;> rfl
  · rw [if_neg (fun z => h (hmem.mp z)), if_neg h, List.map_append, List.map_append, e]
    rfl
section
variable {P : Program} {w : World} {K : PySem.W.Frag} {mg : Str → Option Value} {base : Heap}
theorem r_nbs {σ : L2.St} {H : Hp} {ts : TA} {E : XK} {g : V} {i : Int} {G : Gr} (h : EvA ts σ H [g, .int i]) (hG : GraphAt H g G) (W : WG G) : EvR (tCall (sp_neighbours K) [] E ts) σ H fun v H2 => ∃ (a : Addr) (ns : List Int), v = .ref a ∧ H2 a = some (.tup (ns.map V.int)) ∧ ns.Perm (nbs G i) :=
  r_call h fun H1 e Q q E => ⟨g, i, G, rfl, hG.gw (Gw.of e), W, fun H' a ns s ha pm => q _ H' s ⟨a, ns, rfl, ha, pm⟩⟩
theorem nbs_len {G : Gr} (W : WG G) {i : Int} {ns : List Int} (pm : ns.Perm (nbs G i)) : ns.length ≤ 200 := by
  rw [pm.length_eq]
  unfold nbs
  rw [List.length_append, List.length_map, List.length_map]
  have hl1 := List.length_filter_le (fun p : Int × Int => decide (p.1 = i)) G.edges
  have hl2 := List.length_filter_le (fun p : Int × Int => decide (p.2 = i)) G.edges
  have := W.few
  omega
theorem c_hanging (T : Tx K mg) (B : Bl mg) (C_neighbours : FnC P w K mg base 1 "neighbours" ["graph", "node"] (sp_neighbours K)) : FnC P w K mg base 2 "hanging" ["graph", "node", "among"] (sp_hanging K) := by
  obtain ⟨f, fd, gf, F⟩ := T.hanging
  refine ⟨f, fd, gf, F.kp, F.binds (ps := ["graph", "node", "among"]) fun _ _ _ _ _ _ us hl => match us, hl with | [_, _, _], _ => rfl, ?_⟩
  refine F.ok sc_hanging (fun vs H Q E h => ?_) (fun cdv A outer s H vs Q E hr h => ?_)
  · obtain ⟨g, s0, i, as, G, rfl, _⟩ := h
    rfl
  · obtain ⟨g, s0, i, as, G, rfl, hG, W, hs, hl, q⟩ := h
    refine ⟨_, (pss_cons (ps_set (i := 3) sc_hanging.nd rfl (.inr rfl) (pe_lst (pa_cons (pv 1) pa_nil)))
      (pss_cons (ps_set (i := 4) sc_hanging.nd rfl (.inl rfl) pe_int)
      (pss_cons (ps_while PassesOwn.never (pt_cmpR op_lt (pv 4) (pe_callB (k_len (K := K) rfl) (by rfl) B.len_ (by decide +kernel) (pa_cons (pv 3) pa_nil)) (nomark _)) (pss_cons (ps_expr (pe_bm PySem.F.plainAttrs_list PySem.F.slot_list_extend PySem.F.type_list_extend mt_extend (pv 3) (pa_cons (pe_lc (own := [("other", 5)]) rfl sc_hanging.nd (kpi_tup (K := K) rfl (pe_callC C_neighbours (hr.mono (by decide)) (by rfl) (pa_cons (pv 0) (pa_cons (pe_ix (k_ixL (K := K) rfl) (pv 3) (pv 4) (fun _ _ => rfl)) pa_nil)))) (blkOk_by (N := N_hanging) (sc := defScope s_hanging) (by decide +kernel)) (fun _ _ _ _ _ => (pg_name (i := 5) sc_hanging.nd rfl (.inl rfl))) (fun _ _ _ _ _ => (pts_one (PW.pt (pw_and (pt_cmpR (k_in (K := K) rfl) (pv 5) (pv 2) (by rfl)) (pw_and1 (pt_cmpR (k_notin (K := K) rfl) (pv 5) (pv 3) (by rfl))))))) (fun _ _ _ _ _ => (pv 5))) pa_nil)))
      (pss_one (ps_set (i := 4) sc_hanging.nd rfl (.inl rfl) (pe_op op_add (pv 4) pe_int)))))
      (pss_one (ps_ret (k_tupleOf (K := K) rfl (by rfl) B.tuple_ (pe_callB cr_sortedI (by rfl) B.sorted_ (by decide +kernel) (pa_cons (pv 3) pa_nil)))))))), ?_⟩
    refine q_asgL (xs := [.int i]) (el_lst (ea_cons (ev_var rfl) ea_nil) (by show 1 ≤ 100000; omega)) fun p H1 hp e1 hl1 => ?_
    refine q_asg ev_c fun H2 e2 => ?_
    have hl2 := e2 _ _ hl1
    refine q_while (fun m σ' H' => ∃ (found : List Int) (k : Nat), σ' = [some g, some (.int i), some s0, some (.ref p), some (.int (k : Int)), none] ∧ m + k = as.length + 2 ∧ k ≤ found.length ∧ H' p = some (.lst (found.map V.int)) ∧ Same H H' ∧ HangTo G i as found k)
      (as.length + 2) ⟨[i], 0, rfl, rfl, Nat.zero_le _, hl2, Same.trans e1 e2, hang_start G i as⟩ fun m σ' H' hW => ?_
    obtain ⟨found, k, rfl, hm, hk, hf, sm, hh⟩ := hW
    have hlen := hh.len
    refine ⟨decide ((k : Int) < ((found.map V.int).length : Int)), et_test (ev_lt (ev_var rfl) (ev_lenL (ev_var rfl) hf)), fun hb H3 e3 => ?_, fun hb H3 e3 => ?_⟩
    · have hlt : k < found.length := by
        have := of_decide_eq_true hb
        rw [List.length_map] at this
        omega
      obtain ⟨x, hx⟩ : ∃ x, found[k]? = some x := ⟨found[k], List.getElem?_eq_getElem hlt⟩
      have hf3 := e3 _ _ hf
      have s3 : Same H H3 := sm.trans e3
      refine ⟨fun σ2 H4 => ∃ (found : List Int), σ2 = [some g, some (.int i), some s0, some (.ref p), some (.int ((k : Int) + 1)), none] ∧ k + 1 ≤ found.length ∧ H4 p = some (.lst (found.map V.int)) ∧ Same H H4 ∧ HangTo G i as found (k + 1), fun σ2 H4 ⟨found', e4, h4, h5, h6, h7⟩ => ⟨m - 1, by omega, found', k + 1, e4, by omega, h4, h5, h6, h7⟩, ?_⟩
      refine ⟨.ref p, rfl, .inl ⟨rfl, _, SqL.of hf3⟩, ?_⟩
      refine el_tupR (K := K) (R := fun ns => ns.Perm (nbs G x)) (p := fun y => decide (y ∈ as) && !decide (y ∈ found)) (q := V.int) (r_nbs (i := x) (G := G) (ea_cons (ev_var rfl) (ea_cons (ev_ixL (ev_var rfl) hf3 (ev_var rfl) (atI_ints (j := k) rfl hx)) ea_nil)) (hG.gw (Gw.of s3)) W) (fun _ => rfl) (fun ns pm => by have := nbs_len W pm; omega)
        (fun ns pm y hy => et_and (et_test (ev_in (ev_var rfl) (ev_var rfl) (Same.sqI s3 hs))) fun _ => et_test (ev_notin (ev_var rfl) (ev_var rfl) (SqI.lst hf3))) (fun ns pm y hy _ => ev_var rfl) H3 (Same.refl _) _ fun ns D H4 pm hD s4 e4 => ?_
      have hf4 := s4 _ _ hf3
      have tn := hh.turn W hx pm
      have tl := tn.len
      refine ⟨p, D, found.map V.int, _, rfl, rfl, hf4, e4, ?_, ?_⟩
      · rw [sizeLine_eq, List.length_map, List.length_map]
        rw [List.length_append] at tl
        omega
      · refine s_asg (ev_add (ev_var rfl) ev_c) fun H5 e5 => ⟨_, rfl, ?_, e5 _ _ ?_, Same.trans (Same.mut (Same.trans s3 s4) hp) e5, tn⟩
        · rw [List.length_append]; omega
        · rw [upd_same, List.map_append]
    · have hge : found.length ≤ k := by
        have := of_decide_eq_false hb
        rw [List.length_map] at this
        omega
      have hf3 := e3 _ _ hf
      refine r_ret (tup_ofR (ev_sortedL (EvR.of (ev_var rfl) fun H4 e4 => ⟨p, rfl, e4 _ _ hf3⟩)) fun _ _ _ _ h => h) fun v H4 e4 ⟨b, xs, ev, hb, ms, ex, pm, pw⟩ => ?_
      subst ev ex
      exact q H4 b ms found ((sm.trans e3).trans e4) hb pm pw (hh.done hge)
theorem c_having (T : Tx K mg) (B : Bl mg) : FnC P w K mg base 1 "having" ["graph", "variable"] (sp_having K) := by
  obtain ⟨f, fd, gf, F⟩ := T.having
  refine ⟨f, fd, gf, F.kp, F.binds (ps := ["graph", "variable"]) fun _ _ _ _ _ _ us hl => match us, hl with | [_, _], _ => rfl, ?_⟩
  refine F.ok sc_having (fun vs H Q E h => ?_) (fun cdv A outer s H vs Q E hr h => ?_)
  · obtain ⟨g, v, G, rfl, _⟩ := h
    rfl
  · obtain ⟨g, v, G, rfl, hG, W, q⟩ := h
    obtain ⟨a, sc, ed, ss, es, rfl, h1, h2, h3, h4, h5⟩ := id hG
    refine ⟨_, (pss_one (ps_ret (k_tupleOf (K := K) rfl (by rfl) B.tuple_ (pe_lc (own := [("node", 2), ("scope", 3)]) rfl sc_having.nd (pi_enumT (by rfl) B.enumerate_ (pa_cons (pe_ix (k_ixT (K := K) rfl) (pv 0) pe_int (fun _ _ => rfl)) pa_nil)) (blkOk_by (N := N_having) (sc := defScope s_having) (by decide +kernel)) (fun _ _ _ _ _ => (kpg_tup (K := K) (n := 2) rfl rfl (pgs_cons (pg_name (i := 2) sc_having.nd rfl (.inl rfl)) (pgs_cons (pg_name (i := 3) sc_having.nd rfl (.inl rfl)) pgs_nil)))) (fun _ _ _ _ _ => (pts_one (pt_cmpR (k_in (K := K) rfl) (pv 1) (pv 3) (by rfl)))) (fun _ _ _ _ _ => (pv 2)))))), ?_⟩
    refine s_retU (xs := (hav G v).map V.int) (tup_ofL (evL_is (el_enumT (n := G.scopes.length) (p := fun m => decide (v ∈ G.scopes.getD m [])) (q := fun m => V.int (m : Int)) (ev_ixT (ev_var rfl) h1 ev_c rfl) h2 h4.1 (by have := W.many; omega) (fun _ _ => rfl) (fun m x hx => ?_) (fun m x hx _ => ev_var rfl)) ?_)) fun p H1 _ e1 hp => q H1 p e1 hp
    · obtain ⟨b, ns, rfl, e2, e3⟩ := h4.of_x hx
      have eg : G.scopes.getD m [] = ns := by rw [List.getD_eq_getElem?_getD, e2]; rfl
      rw [eg]
      exact et_test (ev_in (ev_var rfl) (ev_var rfl) (SqI.tup e3))
    · unfold hav
      rw [List.map_map]
      rfl
end
end Tt

/-! cycles and the number of edges -/
namespace Tt
/-- the edges within some nodes -/
def cnt (G : Gr) (S : List Int) : Nat := (G.edges.filter fun p => decide (p.1 ∈ S) && decide (p.2 ∈ S)).length
theorem cnt_le (G : Gr) (S : List Int) : cnt G S ≤ G.edges.length := List.length_filter_le _ _
theorem filter_add {α : Type} [DecidableEq α] {p q : α → Bool} (hpq : ∀ a, p a = true → q a = true) : ∀ (l : List α), (l.filter p).length ≤ (l.filter q).length
  | [] => Nat.le_refl _
  | a :: l => by
    have ih := filter_add hpq l
    rw [List.filter_cons, List.filter_cons]
    cases hp : p a with
    | true => rw [if_pos rfl, if_pos (hpq a hp), List.length_cons, List.length_cons]; omega
    | false =>
      rw [if_neg (by decide)]
      split
      · rw [List.length_cons]; omega
      · exact ih
/-- what q has beyond p: at least the members of a list without doubles -/
theorem filter_more {α : Type} [DecidableEq α] {p q : α → Bool} (hpq : ∀ a, p a = true → q a = true) {l : List α} (hl : l.Nodup) {ds : List α} (hd : ds.Nodup) (h : ∀ a ∈ ds, a ∈ l ∧ p a = false ∧ q a = true) : (l.filter p).length + ds.length ≤ (l.filter q).length := by
  have nd : (l.filter p ++ ds).Nodup := List.nodup_append.mpr ⟨hl.sublist List.filter_sublist, hd, fun a ha b hb e => by
    subst e
    have h1 := (List.mem_filter.mp ha).2
    have h2 := (h a hb).2.1
    rw [h1] at h2
    cases h2⟩
  have := nd.length_le_of_subset (l₂ := l.filter q) fun a ha => by
    rcases List.mem_append.mp ha with ha | ha
    · obtain ⟨h1, h2⟩ := List.mem_filter.mp ha
      exact List.mem_filter.mpr ⟨h1, hpq a h2⟩
    · exact List.mem_filter.mpr ⟨(h a ha).1, (h a ha).2.2⟩
  rw [List.length_append] at this
  exact this
/-- the edge of two neighbours -/
def edg (x y : Int) : Int × Int := if x < y then (x, y) else (y, x)
theorem WG.edg {G : Gr} (W : WG G) {x y : Int} (h : y ∈ nbs G x) : Tt.edg x y ∈ G.edges := by
  rw [mem_nbs] at h
  unfold Tt.edg
  rcases h with h | h
  · have := W.edge h
    rw [if_pos (by omega)]
    exact h
  · have := W.edge h
    rw [if_neg (by omega)]
    exact h
theorem edg_ends {x y : Int} : ((edg x y).1 = x ∧ (edg x y).2 = y) ∨ ((edg x y).1 = y ∧ (edg x y).2 = x) := by
  unfold edg
  split
  · exact .inl ⟨rfl, rfl⟩
  · exact .inr ⟨rfl, rfl⟩
theorem cnt_mono (G : Gr) (S : List Int) (x : Int) : cnt G S ≤ cnt G (S ++ [x]) := filter_add (fun p h => by
  rw [Bool.and_eq_true, decide_eq_true_eq, decide_eq_true_eq] at h ⊢
  exact ⟨List.mem_append_left _ h.1, List.mem_append_left _ h.2⟩) _
theorem cnt_more {G : Gr} (W : WG G) {S : List Int} {x : Int} (hx : x ∉ S) {ys : List Int} (hy : ys.Nodup) (h : ∀ y ∈ ys, y ∈ S ∧ y ∈ nbs G x) : cnt G S + ys.length ≤ cnt G (S ++ [x]) := by
  have e : ys.length = (ys.map (edg x)).length := by rw [List.length_map]
  rw [e]
  refine filter_more (fun p h => ?_) W.nd (List.pairwise_map.mpr (hy.imp_of_mem fun {y z} m1 m2 ne e2 => ne ?_)) fun p hp => ?_
  · rw [Bool.and_eq_true, decide_eq_true_eq, decide_eq_true_eq] at h ⊢
    exact ⟨List.mem_append_left _ h.1, List.mem_append_left _ h.2⟩
  · obtain ⟨y, my, rfl⟩ := List.mem_map.mp hp
    obtain ⟨h1, h2⟩ := h y my
    refine ⟨W.edg h2, ?_, ?_⟩
    · rw [Bool.and_eq_false_iff, decide_eq_false_iff_not, decide_eq_false_iff_not]
      rcases edg_ends (x := x) (y := y) with ⟨q1, q2⟩ | ⟨q1, q2⟩
      · rw [q1]; exact .inl hx
      · rw [q2]; exact .inr hx
    · rw [Bool.and_eq_true, decide_eq_true_eq, decide_eq_true_eq]
      have m1 : x ∈ S ++ [x] := List.mem_append_right _ List.mem_cons_self
      have m2 : y ∈ S ++ [x] := List.mem_append_left _ h1
      rcases edg_ends (x := x) (y := y) with ⟨q1, q2⟩ | ⟨q1, q2⟩
      · rw [q1, q2]; exact ⟨m1, m2⟩
      · rw [q1, q2]; exact ⟨m2, m1⟩
  · have d1 : y ≠ x := fun q => hx (q ▸ (h y m1).1)
    have d2 : z ≠ x := fun q => hx (q ▸ (h z m2).1)
    have q1 := edg_ends (x := x) (y := y)
    have q2 := edg_ends (x := x) (y := z)
    rw [e2] at q1
    omega
/-- the nodes taken one by one, c of them without a neighbour taken before -/
inductive Taken (G : Gr) : List Int → Nat → Prop
  | nil : Taken G [] 0
  | root {L : List Int} {c : Nat} (x : Int) : Taken G L c → x ∉ L → Taken G (L ++ [x]) (c + 1)
  | more {L : List Int} {c : Nat} (x y : Int) : Taken G L c → x ∉ L → y ∈ L → y ∈ nbs G x → Taken G (L ++ [x]) c
theorem Taken.few {G : Gr} (W : WG G) {L : List Int} {c : Nat} (h : Taken G L c) : L.length ≤ cnt G L + c := by
  induction h with
  | nil => exact Nat.zero_le _
  | root x h hx ih =>
    have := cnt_mono G ‹_› x
    rw [List.length_append, List.length_singleton]
    omega
  | more x y h hx hy hn ih =>
    have := cnt_more W hx (ys := [y]) (by simp) (fun z hz => by
      have e : z = y := by simpa using hz
      subst e
      exact ⟨hy, hn⟩)
    rw [List.length_append, List.length_singleton]
    rw [List.length_singleton] at this
    omega
/-- a cycle: each a neighbour of the one before it, the first of the last -/
def IsCyc (G : Gr) (xs : List Int) : Prop := 3 ≤ xs.length ∧ xs.Nodup ∧ ∀ (k : Nat) (x y : Int), xs[k]? = some x → xs[if k = 0 then xs.length - 1 else k - 1]? = some y → y ∈ nbs G x
/-- each of a cycle has two neighbours in it -/
theorem IsCyc.two {G : Gr} {xs : List Int} (h : IsCyc G xs) {x : Int} (hx : x ∈ xs) : ∃ y z, y ∈ xs ∧ z ∈ xs ∧ y ≠ z ∧ y ∈ nbs G x ∧ z ∈ nbs G x := by
  obtain ⟨h3, nd, hn⟩ := h
  obtain ⟨k, hk, e⟩ := List.getElem_of_mem hx
  have nd' := List.pairwise_iff_getElem.mp nd
  have ex : xs[k]? = some x := by rw [List.getElem?_eq_getElem hk, e]
  obtain ⟨p, hp⟩ : ∃ p, p = if k = 0 then xs.length - 1 else k - 1 := ⟨_, rfl⟩
  have hpl : p < xs.length := by split at hp <;> omega
  obtain ⟨q, hq⟩ : ∃ q, q = if k + 1 = xs.length then 0 else k + 1 := ⟨_, rfl⟩
  have hql : q < xs.length := by split at hq <;> omega
  have hpq : p ≠ q := by split at hp <;> split at hq <;> omega
  have n1 := hn k x xs[p] ex (by rw [← hp, List.getElem?_eq_getElem hpl])
  have n2 := hn q xs[q] x (List.getElem?_eq_getElem hql) (by
    have e2 : (if q = 0 then xs.length - 1 else q - 1) = k := by split at hq <;> split <;> omega
    rw [e2]
    exact ex)
  refine ⟨xs[p], xs[q], List.getElem_mem hpl, List.getElem_mem hql, fun e2 => ?_, n1, nbs_symm n2⟩
  rcases Nat.lt_or_gt_of_ne hpq with lt | lt
  · exact nd' p q hpl hql lt e2
  · exact nd' q p hql hpl lt e2.symm
theorem Taken.cyc {G : Gr} (W : WG G) {xs : List Int} (hc : IsCyc G xs) {L : List Int} {c : Nat} (h : Taken G L c) (hs : ∀ x ∈ xs, x ∈ L) : L.length + 1 ≤ cnt G L + c := by
  induction h with
  | nil =>
    obtain ⟨h3, _⟩ := hc
    have hp : 0 < xs.length := by omega
    exact absurd (hs xs[0] (List.getElem_mem hp)) (by simp)
  | @root L c x h hx ih =>
    rw [List.length_append, List.length_singleton]
    by_cases hm : x ∈ xs
    · obtain ⟨y, z, hy, hz, ne, n1, n2⟩ := hc.two hm
      have inL : ∀ u ∈ xs, u ∈ nbs G x → u ∈ L := fun u hu hn => by
        rcases List.mem_append.mp (hs u hu) with q | q
        · exact q
        · exact absurd (by simpa using q) (W.nbs_ne hn)
      have := cnt_more W hx (ys := [y, z]) (by simp [ne]) (fun u hu => by
        have e : u = y ∨ u = z := by simpa using hu
        rcases e with rfl | rfl
        · exact ⟨inL _ hy n1, n1⟩
        · exact ⟨inL _ hz n2, n2⟩)
      have := h.few W
      rw [show ([y, z] : List Int).length = 2 from rfl] at *
      omega
    · have := ih fun u hu => by
        rcases List.mem_append.mp (hs u hu) with q | q
        · exact q
        · have e : u = x := by simpa using q
          subst e
          exact absurd hu hm
      have := cnt_mono G L x
      omega
  | @more L c x y0 h hx hy0 hn0 ih =>
    rw [List.length_append, List.length_singleton]
    by_cases hm : x ∈ xs
    · obtain ⟨y, z, hy, hz, ne, n1, n2⟩ := hc.two hm
      have inL : ∀ u ∈ xs, u ∈ nbs G x → u ∈ L := fun u hu hn => by
        rcases List.mem_append.mp (hs u hu) with q | q
        · exact q
        · exact absurd (by simpa using q) (W.nbs_ne hn)
      have := cnt_more W hx (ys := [y, z]) (by simp [ne]) (fun u hu => by
        have e : u = y ∨ u = z := by simpa using hu
        rcases e with rfl | rfl
        · exact ⟨inL _ hy n1, n1⟩
        · exact ⟨inL _ hz n2, n2⟩)
      have := h.few W
      rw [show ([y, z] : List Int).length = 2 from rfl] at *
      omega
    · have := ih fun u hu => by
        rcases List.mem_append.mp (hs u hu) with q | q
        · exact q
        · have e : u = x := by simpa using q
          subst e
          exact absurd hu hm
      have := cnt_more W hx (ys := [y0]) (by simp) (fun z hz => by
        have e : z = y0 := by simpa using hz
        subst e
        exact ⟨hy0, hn0⟩)
      rw [List.length_singleton] at this
      omega
/-- a whole component is taken -/
theorem Taken.hang {G : Gr} {L : List Int} {c : Nat} (h : Taken G L c) {i : Int} {as found : List Int} (hf : Hang G i as found) (hd : ∀ x ∈ found, x ∉ L) : Taken G (L ++ found) (c + 1) := by
  obtain ⟨rest, er⟩ := hf.first
  have all : ∀ k, k + 1 ≤ found.length → Taken G (L ++ found.take (k + 1)) (c + 1) := by
    intro k
    induction k with
    | zero =>
      intro _
      rw [er]
      exact Taken.root i h (hd i (by rw [er]; exact List.mem_cons_self))
    | succ k ih =>
      intro hk
      have hlt : k + 1 < found.length := by omega
      have t := ih (by omega)
      have e : found.take (k + 1 + 1) = found.take (k + 1) ++ [found[k + 1]] := by
        rw [List.take_add_one, List.getElem?_eq_getElem hlt]
        rfl
      rw [e, ← List.append_assoc]
      obtain ⟨j, y, h1, h2, h3⟩ := hf.back (k + 1) found[k + 1] (List.getElem?_eq_getElem hlt) (by omega)
      refine Taken.more _ y t (fun hm => ?_) (List.mem_append_right _ ?_) h3
      · rcases List.mem_append.mp hm with q | q
        · exact hd _ (List.getElem_mem hlt) q
        · obtain ⟨j2, hj2, e2⟩ := List.getElem_of_mem q
          rw [List.length_take] at hj2
          rw [List.getElem_take] at e2
          exact List.pairwise_iff_getElem.mp hf.nd j2 (k + 1) (by omega) hlt (by omega) e2
      · obtain ⟨hj, e2⟩ := List.getElem?_eq_some_iff.mp h2
        rw [← e2]
        exact List.mem_iff_getElem.mpr ⟨j, by rw [List.length_take]; omega, by rw [List.getElem_take]⟩
  have hp : 0 < found.length := by rw [er, List.length_cons]; omega
  have := all (found.length - 1) (by omega)
  rw [show found.length - 1 + 1 = found.length by omega, List.take_length] at this
  exact this
/-- who is found is the same, in whatever order -/
theorem Hang.sub_of {G : Gr} {i : Int} {as f1 f2 : List Int} (h1 : Hang G i as f1) (h2 : Hang G i as f2) : ∀ x ∈ f1, x ∈ f2 := by
  have all : ∀ (m : Nat) (x : Int), f1[m]? = some x → x ∈ f2 := by
    intro m
    induction m using Nat.strongRecOn with
    | _ m ih =>
      intro x hx
      obtain ⟨r2, e2⟩ := h2.first
      have hi : i ∈ f2 := by rw [e2]; exact List.mem_cons_self
      by_cases h0 : 0 < m
      · obtain ⟨j, y, a1, a2, a3⟩ := h1.back m x hx h0
        rcases h1.sub x (List.mem_of_getElem? hx) with e | e
        · rw [e]; exact hi
        · exact h2.close (ih j a1 y a2) (nbs_symm a3) e
      · obtain ⟨r1, e1⟩ := h1.first
        have hm : m = 0 := by omega
        subst hm
        rw [e1] at hx
        rw [← Option.some.inj hx]
        exact hi
  intro x hx
  obtain ⟨j, hj, e⟩ := List.getElem_of_mem hx
  exact all j x (by rw [List.getElem?_eq_getElem hj, e])
theorem Hang.iff {G : Gr} {i : Int} {as f1 f2 : List Int} (h1 : Hang G i as f1) (h2 : Hang G i as f2) (x : Int) : x ∈ f1 ↔ x ∈ f2 := ⟨h1.sub_of h2 x, h2.sub_of h1 x⟩
/-- the end: all nodes taken, c roots; with a cycle there are too many edges -/
theorem Taken.all {G : Gr} (W : WG G) {L : List Int} {c : Nat} (h : Taken G L c) (hn : L.Nodup) (hL : ∀ x, x ∈ L ↔ x ∈ rng G.scopes.length) {xs : List Int} (hc : IsCyc G xs) : (G.scopes.length : Int) - (G.edges.length : Int) < (c : Int) := by
  have hs : ∀ x ∈ xs, x ∈ L := fun x hx => by
    obtain ⟨y, z, _, _, _, n1, _⟩ := hc.two hx
    exact (hL x).mpr (mem_rng.mpr (W.nbs_in (nbs_symm n1)))
  have h1 := h.cyc W hc hs
  have h2 := cnt_le G L
  have h3 : L.length = G.scopes.length := by
    have := ((List.perm_ext_iff_of_nodup hn (rng_nodup G.scopes.length)).mpr hL).length_eq
    rw [rng_len] at this
    exact this
  omega
end Tt

namespace Tt
open PySem PySem.Spec PyProof.Rows L2 TtR Evl
/-! ### == of sequences of ints -/
theorem eqvAll_ints : ∀ xs ys : List Int, PyData.eqvAll (xs.map PyData.int) (ys.map PyData.int) = decide (xs = ys)
  | [], [] => by simp [PyData.eqvAll]
  | [], y :: ys => by simp [PyData.eqvAll]
  | x :: xs, [] => by simp [PyData.eqvAll]
  | x :: xs, y :: ys => by
    have ih := eqvAll_ints xs ys
    simp only [List.map_cons, PyData.eqvAll, PyData.eqv, ih]
    by_cases h : x = y
    · subst h; simp
    · have h' : (x == y) = false := beq_eq_false_iff_ne.mpr h
      rw [h', Bool.false_and, eq_comm, decide_eq_false_iff_not]
      exact fun q => h (List.cons.inj q).1
theorem lay_ints : ∀ xs : List Int, PyData.canLayAll0 (xs.map PyData.int) = true ∧ PyData.depthAll (xs.map PyData.int) = 0
  | [] => by simp [PyData.canLayAll0, PyData.depthAll]
  | x :: xs => by
    have ih := lay_ints xs
    simp only [List.map_cons, PyData.canLayAll0, PyData.depthAll, PyData.canLay0, PyData.depth, ih.1, ih.2]
    decide
theorem shaped_tup (xs : List Int) : SeqAt.shaped (.tuple (xs.map PyData.int)) = true := by
  have h := lay_ints xs
  show (PyData.canLay0 (.tuple (xs.map PyData.int)) && decide (PyData.depth (.tuple (xs.map PyData.int)) ≤ 64)) = true
  simp only [PyData.canLay0, PyData.depth, h.1, h.2]
  decide
theorem shaped_lst (xs : List Int) : SeqAt.shaped (.list (xs.map PyData.int)) = true := by
  have h := lay_ints xs
  show (PyData.canLay0 (.list (xs.map PyData.int)) && decide (PyData.depth (.list (xs.map PyData.int)) ≤ 64)) = true
  simp only [PyData.canLay0, PyData.depth, h.1, h.2]
  decide
theorem dp_ints {K : PySem.W.Frag} {H : Hp} : ∀ xs : List Int, DpAll K H (xs.map V.int) (xs.map PyData.int)
  | [] => .nil
  | x :: xs => .cons (.int x) (dp_ints xs)
theorem dp_tup {K : PySem.W.Frag} {H : Hp} {a : Addr} {xs : List Int} (h : H a = some (.tup (xs.map V.int))) : Dp K H (.ref a) (.tuple (xs.map PyData.int)) := .tup (SqT.of h) (dp_ints xs)
theorem dp_lst {K : PySem.W.Frag} {H : Hp} {a : Addr} {xs : List Int} (h : H a = some (.lst (xs.map V.int))) : Dp K H (.ref a) (.list (xs.map PyData.int)) := .lst (SqL.of h) (dp_ints xs)
theorem neT_ask {K : PySem.W.Frag} {H : Hp} {a b : Addr} {xs ys : List Int} {Q : VK} (ha : H a = some (.tup (xs.map V.int))) (hb : H b = some (.tup (ys.map V.int))) (q : Q (.bl (!decide (xs = ys))) H) : rNeD K (.ref a) (.ref b) H Q := by
  refine ⟨_, _, dp_tup ha, dp_tup hb, shaped_tup xs, shaped_tup ys, ?_⟩
  have e : PyData.eqv (.tuple (xs.map PyData.int)) (.tuple (ys.map PyData.int)) = decide (xs = ys) := by
    simp only [PyData.eqv]
    exact eqvAll_ints xs ys
  rw [e]
  exact q
theorem neL_ask {K : PySem.W.Frag} {H : Hp} {a b : Addr} {xs ys : List Int} {Q : VK} (ha : H a = some (.lst (xs.map V.int))) (hb : H b = some (.lst (ys.map V.int))) (q : Q (.bl (!decide (xs = ys))) H) : rNeD K (.ref a) (.ref b) H Q := by
  refine ⟨_, _, dp_lst ha, dp_lst hb, shaped_lst xs, shaped_lst ys, ?_⟩
  have e : PyData.eqv (.list (xs.map PyData.int)) (.list (ys.map PyData.int)) = decide (xs = ys) := by
    simp only [PyData.eqv]
    exact eqvAll_ints xs ys
  rw [e]
  exact q
/-! ### promises -/
def sp_has_cycle (K : PySem.W.Frag) : Sp := fun vs H Q _ => ∃ (g : V) (G : Gr), vs = [g] ∧ GraphAt H g G ∧ WG G ∧ ∀ (H' : Hp) (b : Bool), Same H H' → ((∃ xs, IsCyc G xs) → b = true) → Q (.bl b) H'
/-- the nodes of a variable hang together -/
def Whole (G : Gr) (v : Int) : Prop := ∃ x0 rest found, hav G v = x0 :: rest ∧ Hang G x0 (hav G v) found ∧ ∀ x ∈ hav G v, x ∈ found
def sp_split_variable (K : PySem.W.Frag) : Sp := fun vs H Q _ => ∃ (g : V) (G : Gr), vs = [g] ∧ GraphAt H g G ∧ WG G ∧ ∀ (H' : Hp) (u : V), Same H H' → ((u = .non ∧ ∀ v : Int, (∃ ns ∈ G.scopes, v ∈ ns) → Whole G v) ∨ ∃ v : Int, u = .int v ∧ ∃ ns ∈ G.scopes, v ∈ ns) → Q u H'
structure TreeOk (G : Gr) : Prop where
  nocyc : ¬ ∃ xs, IsCyc G xs
  one : ∃ found, Hang G 0 (rng G.scopes.length) found ∧ ∀ x ∈ rng G.scopes.length, x ∈ found
  whole : ∀ v : Int, (∃ ns ∈ G.scopes, v ∈ ns) → Whole G v
def sp_is_tree_like (K : PySem.W.Frag) : Sp := fun vs H Q _ => ∃ (g : V) (G : Gr), vs = [g] ∧ GraphAt H g G ∧ WG G ∧ ∀ (H' : Hp) (b : Bool), Same H H' → (b = true → TreeOk G) → Q (.bl b) H'
def sp_is_junction_tree (K : PySem.W.Frag) : Sp := sp_is_tree_like K
theorem mem_scopes {G : Gr} {v : Int} : (∃ ns ∈ G.scopes, v ∈ ns) ↔ ∃ (j : Nat) (ns : List Int), j < G.scopes.length ∧ G.scopes[j]? = some ns ∧ v ∈ ns := by
  constructor
  · rintro ⟨ns, h1, h2⟩
    obtain ⟨j, hj, e⟩ := List.getElem_of_mem h1
    exact ⟨j, ns, hj, by rw [List.getElem?_eq_getElem hj, e], h2⟩
  · rintro ⟨j, ns, _, h2, h3⟩
    exact ⟨ns, List.mem_of_getElem? h2, h3⟩
theorem hav_ne {G : Gr} {v : Int} (h : ∃ ns ∈ G.scopes, v ∈ ns) : ∃ x0 rest, hav G v = x0 :: rest := by
  obtain ⟨j, ns, hj, e, hv⟩ := mem_scopes.mp h
  have : (j : Int) ∈ hav G v := mem_hav.mpr ⟨j, rfl, hj, by rw [List.getD_eq_getElem?_getD, e]; exact hv⟩
  cases hh : hav G v with
  | nil => rw [hh] at this; simp at this
  | cons x0 rest => exact ⟨x0, rest, rfl⟩
section
variable {P : Program} {w : World} {K : PySem.W.Frag} {mg : Str → Option Value} {base : Heap}
theorem r_hang {σ : L2.St} {H : Hp} {ts : TA} {E : XK} {g s : V} {i : Int} {as : List Int} {G : Gr} (h : EvA ts σ H [g, .int i, s]) (hG : GraphAt H g G) (W : WG G) (hs : SqI K H s as) (hl : as.length ≤ 100) :
    EvR (tCall (sp_hanging K) [] E ts) σ H fun v H2 => ∃ (a : Addr) (r found : List Int), v = .ref a ∧ H2 a = some (.tup (r.map V.int)) ∧ r.Perm found ∧ r.Pairwise (· ≤ ·) ∧ Hang G i as found :=
  r_call h fun H1 e Q q E => ⟨g, s, i, as, G, rfl, hG.gw (Gw.of e), W, Same.sqI e hs, hl, fun H' a r found s ha pm pw hh => q _ H' s ⟨a, r, found, rfl, ha, pm, pw, hh⟩⟩
theorem c_scope_of (T : Tx K mg) (B : Bl mg) : FnC P w K mg base 1 "scope_of" ["graph", "nodes"] (sp_scope_of K) := by
  obtain ⟨f, fd, gf, F⟩ := T.scope_of
  refine ⟨f, fd, gf, F.kp, F.binds (ps := ["graph", "nodes"]) fun _ _ _ _ _ _ us hl => match us, hl with | [_, _], _ => rfl, ?_⟩
  refine F.ok sc_scope_of (fun vs H Q E h => ?_) (fun cdv A outer s H vs Q E hr h => ?_)
  · obtain ⟨g, l, G, rfl, _⟩ := h
    rfl
  · obtain ⟨g, l, G, rfl, hG, W, hl, q⟩ := h
    obtain ⟨a, sc, ed, ss, es, rfl, h1, h2, h3, h4, h5⟩ := id hG
    have hm := W.many
    refine ⟨_, (pss_cons (ps_set (i := 2) sc_scope_of.nd rfl (.inl rfl) pe_dnewK)
      (pss_cons (ps_for PassesOwn.never rfl (kpi_list (K := K) rfl (pv 1)) (pg_name (i := 3) sc_scope_of.nd rfl (.inl rfl)) (pss_one (ps_for PassesOwn.never rfl (kpi_tup (K := K) rfl (pe_ix (k_ixT (K := K) rfl) (pe_ix (k_ixT (K := K) rfl) (pv 0) pe_int (fun _ _ => rfl)) (pv 3) (fun _ _ => rfl))) (pg_name (i := 4) sc_scope_of.nd rfl (.inl rfl)) (pss_one (ps_dput (hu_of hr) (pv 2) (pv 4) pe_bl rfl)))))
      (pss_one (ps_ret (k_tupleOf (K := K) rfl (by rfl) B.tuple_ (pe_callB (call_sortedDI rfl) (by rfl) B.sorted_ (by decide +kernel) (pa_cons (pv 2) pa_nil))))))), ?_⟩
    refine fun d hd => ?_
    have s0 : Same H (upd H d (.dK [])) := Same.new hd
    refine q_forLn (xs := (rng G.scopes.length).map V.int) (ev_var rfl) (SqL.of (s0 _ _ hl)) (fun i σ' H' => ∃ y3 y4 kvs, ∃ ks : List Int, σ' = [some (.ref a), some (.ref l), some (.ref d), y3, y4] ∧ Same H H' ∧ H' d = some (.dK kvs) ∧ kvs.map (·.1) = ks.map Sum.inl ∧ ks.length ≤ 3 * i ∧ ∀ v, v ∈ ks ↔ ∃ (j : Nat) (ns : List Int), j < i ∧ G.scopes[j]? = some ns ∧ v ∈ ns)
      (fun H1 e1 => ⟨none, none, [], [], rfl, Same.trans s0 e1, e1 _ _ upd_same, rfl, by simp, fun v => by simp⟩) (fun i σ' H' _ ⟨_, _, _, _, _, sm, _⟩ => SqL.of (sm _ _ hl)) (fun i x σ' H' hx hP => ?_) (fun σ' H' hP => ?_)
    · obtain ⟨y3, y4, kvs, ks, rfl, sm, hk, ek, lk, mk⟩ := hP
      have hi : i < G.scopes.length := by
        have := (List.getElem?_eq_some_iff.mp hx).1
        rw [List.length_map, rng_len] at this
        exact this
      obtain rfl : V.int (i : Int) = x := by
        rw [List.getElem?_map] at hx
        unfold rng at hx
        rw [List.getElem?_map, List.getElem?_range hi] at hx
        exact Option.some.inj hx
      obtain ⟨ns, hns⟩ : ∃ ns, G.scopes[i]? = some ns := ⟨G.scopes[i], List.getElem?_eq_getElem hi⟩
      obtain ⟨b, hb, hbt⟩ := h4.at_ hns
      have hn3 := (W.scopes ns (List.mem_of_getElem? hns)).2
      refine s_forT (a := b) (xs := ns.map V.int) (ev_ixT (ev_ixT (ev_var rfl) (sm _ _ h1) ev_c rfl) (sm _ _ h2) (ev_var rfl) (at_of (j := i) rfl hb)) (SqT.of (sm _ _ hbt))
        (fun m σ' H' => ∃ y4 kvs, ∃ ks : List Int, σ' = [some (.ref a), some (.ref l), some (.ref d), some (.int (i : Int)), y4] ∧ Same H H' ∧ H' d = some (.dK kvs) ∧ kvs.map (·.1) = ks.map Sum.inl ∧ ks.length ≤ 3 * i + m ∧ ∀ v, v ∈ ks ↔ (∃ (j : Nat) (ns : List Int), j < i ∧ G.scopes[j]? = some ns ∧ v ∈ ns) ∨ v ∈ ns.take m)
        (fun H1 e1 => ⟨y4, kvs, ks, rfl, Same.trans sm e1, e1 _ _ hk, ek, by omega, fun v => by rw [mk v]; simp⟩) (fun m σ' H' _ ⟨_, _, _, _, sm', _⟩ => SqT.of (sm' _ _ hbt)) (fun m x σ' H' hx hP => ?_) (fun σ' H' hP => ?_)
      · obtain ⟨y4, kvs, ks, rfl, sm, hk, ek, lk, mk⟩ := hP
        rw [List.getElem?_map] at hx
        cases hz : ns[m]? with
        | none => rw [hz] at hx; cases hx
        | some z =>
          rw [hz] at hx
          obtain rfl : V.int z = x := Option.some.inj hx
          have hml : m < ns.length := (List.getElem?_eq_some_iff.mp hz).1
          have hkl : kvs.length = ks.length := by
            have := congrArg List.length ek
            rw [List.length_map, List.length_map] at this
            exact this
          refine ⟨.ref d, rfl, .int z, rfl, d, _, rfl, DPut.k (k := .inl z) hk (by rw [sizeLine_eq]; omega), ?_⟩
          refine ⟨_, _, _, rfl, Same.mut sm hd, upd_same, keys_put ek, ?_, fun v => ?_⟩
          · split
            · omega
            · rw [List.length_append, List.length_singleton]; omega
          · rw [List.take_add_one, hz]
            have e1 : v ∈ (if z ∈ ks then ks else ks ++ [z]) ↔ v ∈ ks ∨ v = z := by
              split
              · rename_i hzk
                constructor
                · exact fun h => .inl h
                · rintro (h | h)
                  · exact h
                  · rw [h]; exact hzk
              · simp
            rw [e1, mk v]
            simp [or_assoc]
      · obtain ⟨y4, kvs, ks, rfl, sm, hk, ek, lk, mk⟩ := hP
        rw [List.length_map] at lk
        refine ⟨_, _, _, _, rfl, sm, hk, ek, by omega, fun v => ?_⟩
        rw [mk v, List.length_map, List.take_length]
        constructor
        · rintro (⟨j, ns', hj, e, hv⟩ | hv)
          · exact ⟨j, ns', by omega, e, hv⟩
          · exact ⟨i, ns, by omega, hns, hv⟩
        · rintro ⟨j, ns', hj, e, hv⟩
          by_cases hji : j = i
          · subst hji
            rw [hns] at e
            obtain rfl := Option.some.inj e
            exact .inr hv
          · exact .inl ⟨j, ns', by omega, e, hv⟩
    · obtain ⟨y3, y4, kvs, ks, rfl, sm, hk, ek, lk, mk⟩ := hP
      rw [List.length_map, rng_len] at lk mk
      refine ⟨.ref d, rfl, d, kvs, ks, rfl, .inl hk, ek, by omega, fun ys p pm pw hp => ?_⟩
      refine .inl ⟨p, _, rfl, SqL.of upd_same, fun t ht => ?_⟩
      have s1 := Same.trans (Same.trans sm (Same.new hp)) (Same.new (o := .tup (ys.map V.int)) ht)
      refine q _ t ys s1 upd_same (by rw [pm.length_eq]; omega) fun v => ?_
      rw [pm.mem_iff, mk v, mem_scopes]
theorem c_variables_of (T : Tx K mg) (B : Bl mg) (C_scope_of : FnC P w K mg base 1 "scope_of" ["graph", "nodes"] (sp_scope_of K)) : FnC P w K mg base 2 "variables_of" ["graph"] (sp_variables_of K) := by
  obtain ⟨f, fd, gf, F⟩ := T.variables_of
  refine ⟨f, fd, gf, F.kp, F.binds (ps := ["graph"]) fun _ _ _ _ _ _ us hl => match us, hl with | [_], _ => rfl, ?_⟩
  refine F.ok sc_variables_of (fun vs H Q E h => ?_) (fun cdv A outer s H vs Q E hr h => ?_)
  · obtain ⟨g, G, rfl, _⟩ := h
    rfl
  · obtain ⟨g, G, rfl, hG, W, q⟩ := h
    obtain ⟨a, sc, ed, ss, es, rfl, h1, h2, h3, h4, h5⟩ := id hG
    have hm := W.many
    refine ⟨_, (pss_one (ps_ret (pe_callC C_scope_of (hr.mono (by decide)) (by rfl) (pa_cons (pv 0) (pa_cons (pe_listRg rfl (by rfl) B.list_ (prg_1 (by rfl) B.range_ (pe_callB (k_len (K := K) rfl) (by rfl) B.len_ (by decide +kernel) (pa_cons (pe_ix (k_ixT (K := K) rfl) (pv 0) pe_int (fun _ _ => rfl)) pa_nil)))) pa_nil))))), ?_⟩
    refine r_ret (P := fun v H2 => ∃ (b : Addr) (r : List Int), v = .ref b ∧ H2 b = some (.tup (r.map V.int)) ∧ r.length ≤ 100 ∧ ∀ v, v ∈ r ↔ ∃ ns ∈ G.scopes, v ∈ ns) (r_callR (R := fun vs H2 => ∃ l, vs = [.ref a, .ref l] ∧ H2 l = some (.lst ((rng G.scopes.length).map V.int))) (fun H1 e1 Q' q' => ⟨.ref a, rfl, ?_⟩) (fun vs H1 e1 ⟨l, ev, hl⟩ => ?_)) (fun v H1 e1 ⟨b, r, ev, hb, hl, hr⟩ => ?_)
    · exact (ev_lstRg (n := G.scopes.length) (ev_is (ev_lenT (ev_ixT (ev_var rfl) h1 ev_c rfl) h2) (by rw [h4.1])) (by omega)) H1 e1 _ fun p H2 hp e2 hl => q' _ H2 e2 ⟨p, rfl, hl⟩
    · subst ev
      exact fun H2 e2 Q' q' E => ⟨.ref a, l, G, rfl, hG.gw (Gw.of (Same.trans e1 e2)), W, e2 _ _ hl, fun H3 b r s3 hb hl hr => q' _ H3 s3 ⟨b, r, rfl, hb, hl, hr⟩⟩
    · subst ev
      exact q H1 b r e1 hb hl hr
end
end Tt

namespace Tt
open PySem PySem.Spec PyProof.Rows L2 TtR Evl
theorem take_filter_step {l : List Int} {i : Nat} {z : Int} {p : Int → Bool} (h : l[i]? = some z) : (l.take (i + 1)).filter p = (l.take i).filter p ++ (if p z = true then [z] else []) := by
  rw [List.take_add_one, h, List.filter_append]
  congr 1
  cases hp : p z <;> simp [hp]
section
variable {P : Program} {w : World} {K : PySem.W.Frag} {mg : Str → Option Value} {base : Heap}
theorem c_has_cycle (T : Tx K mg) (B : Bl mg) (C_hanging : FnC P w K mg base 2 "hanging" ["graph", "node", "among"] (sp_hanging K)) : FnC P w K mg base 3 "has_cycle" ["graph"] (sp_has_cycle K) := by
  obtain ⟨f, fd, gf, F⟩ := T.has_cycle
  refine ⟨f, fd, gf, F.kp, F.binds (ps := ["graph"]) fun _ _ _ _ _ _ us hl => match us, hl with | [_], _ => rfl, ?_⟩
  refine F.ok sc_has_cycle (fun vs H Q E h => ?_) (fun cdv A outer s H vs Q E hr h => ?_)
  · obtain ⟨g, G, rfl, _⟩ := h
    rfl
  · obtain ⟨g, G, rfl, hG, W, q⟩ := h
    obtain ⟨a, sc, ed, ss, es, rfl, h1, h2, h3, h4, h5⟩ := id hG
    have hm := W.many
    refine ⟨_, (pss_cons (ps_set (i := 1) sc_has_cycle.nd rfl (.inr rfl) (pe_listRg rfl (by rfl) B.list_ (prg_1 (by rfl) B.range_ (pe_callB (k_len (K := K) rfl) (by rfl) B.len_ (by decide +kernel) (pa_cons (pe_ix (k_ixT (K := K) rfl) (pv 0) pe_int (fun _ _ => rfl)) pa_nil)))))
      (pss_cons (ps_set (i := 2) sc_has_cycle.nd rfl (.inl rfl) pe_int)
      (pss_cons (ps_while PassesOwn.never (pt_truth (pv 1) (by intro _; rfl)) (pss_cons (ps_set (i := 1) sc_has_cycle.nd rfl (.inr rfl) (pe_lc (own := [("node", 3)]) rfl sc_has_cycle.nd (kpi_list (K := K) rfl (pv 1)) (blkOk_by (N := N_has_cycle) (sc := defScope s_has_cycle) (by decide +kernel)) (fun _ _ _ _ _ => (pg_name (i := 3) sc_has_cycle.nd rfl (.inl rfl))) (fun _ _ _ _ _ => (pts_one (pt_cmpR (k_notin (K := K) rfl) (pv 3) (pe_callC C_hanging (hr.mono (by decide)) (by rfl) (pa_cons (pv 0) (pa_cons (pe_ix (k_ixL (K := K) rfl) (pv 1) pe_int (fun _ _ => rfl)) (pa_cons (pv 1) pa_nil)))) (by rfl)))) (fun _ _ _ _ _ => (pv 3))))
      (pss_one (ps_set (i := 2) sc_has_cycle.nd rfl (.inl rfl) (pe_op op_add (pv 2) pe_int)))))
      (pss_one (ps_ret (pe_cmpR op_lt (pe_op op_sub (pe_callB (k_len (K := K) rfl) (by rfl) B.len_ (by decide +kernel) (pa_cons (pe_ix (k_ixT (K := K) rfl) (pv 0) pe_int (fun _ _ => rfl)) pa_nil)) (pe_callB (k_len (K := K) rfl) (by rfl) B.len_ (by decide +kernel) (pa_cons (pe_ix (k_ixT (K := K) rfl) (pv 0) pe_int (fun _ _ => rfl)) pa_nil))) (pv 2) (nomark _))))))), ?_⟩
    refine q_asgL (xs := (rng G.scopes.length).map V.int) (ev_lstRg (n := G.scopes.length) (ev_is (ev_lenT (ev_ixT (ev_var rfl) h1 ev_c rfl) h2) (by rw [h4.1])) (by omega)) fun p H1 hp e1 hl1 => ?_
    refine q_asg ev_c fun H2 e2 => ?_
    refine q_while (fun m σ' H' => ∃ (p : Addr) (L left : List Int) (c : Nat), σ' = [some (.ref a), some (.ref p), some (.int (c : Int)), none] ∧ m = left.length ∧ H' p = some (.lst (left.map V.int)) ∧ Same H H' ∧ Taken G L c ∧ L.Nodup ∧ left.Nodup ∧ (∀ x, x ∈ rng G.scopes.length ↔ x ∈ L ∨ x ∈ left) ∧ ∀ x ∈ left, x ∉ L)
      (rng G.scopes.length).length ⟨p, [], rng G.scopes.length, 0, rfl, rfl, e2 _ _ hl1, Same.trans e1 e2, .nil, by simp, rng_nodup _, fun x => by simp, fun x _ => by simp⟩ fun m σ' H' hW => ?_
    obtain ⟨p, L, left, c, rfl, hml, hp, sm, tk, ndL, ndl, hall, hdis⟩ := hW
    refine ⟨_, et_truL (ev_var rfl) hp, fun hb H3 e3 => ?_, fun hb H3 e3 => ?_⟩
    · obtain ⟨x0, rest, el⟩ : ∃ x0 rest, left = x0 :: rest := by
        cases left with
        | nil => cases hb
        | cons x0 rest => exact ⟨x0, rest, rfl⟩
      have hp3 := e3 _ _ hp
      have s3 : Same H H3 := sm.trans e3
      have hlen : left.length ≤ 5 := by
        have := ndl.length_le_of_subset (l₂ := rng G.scopes.length) fun x hx => (hall x).mpr (.inr hx)
        rw [rng_len] at this
        omega
      have hx0 : left[0]? = some x0 := by rw [el]; rfl
      refine ⟨fun σ2 H4 => ∃ (p : Addr) (L left' : List Int), σ2 = [some (.ref a), some (.ref p), some (.int ((c : Int) + 1)), none] ∧ left'.length < left.length ∧ H4 p = some (.lst (left'.map V.int)) ∧ Same H H4 ∧ Taken G L (c + 1) ∧ L.Nodup ∧ left'.Nodup ∧ (∀ x, x ∈ rng G.scopes.length ↔ x ∈ L ∨ x ∈ left') ∧ ∀ x ∈ left', x ∉ L,
        fun σ2 H4 ⟨p', L', left', g1, g2, g3, g4, g5, g6, g7, g8, g9⟩ => ⟨left'.length, by omega, p', L', left', c + 1, g1, rfl, g3, g4, g5, g6, g7, g8, g9⟩, ?_⟩
      -- left = [node for node in left if node not in hanging(graph, left[0], left)]
      refine ⟨.ref p, rfl, p, rfl, ⟨_, SqL.of hp3⟩, fun D hD => ?_⟩
      refine lc_gen walk_lstI (by omega) (fun i acc H' => Same H3 H' ∧ ((i = 0 ∧ acc = []) ∨ ∃ found, Hang G x0 left found ∧ acc = ((left.take i).filter fun y => !decide (y ∈ found)).map V.int)) (fun i acc H' c => SqL.of (c.1 _ _ hp3)) (fun i acc H' a' zs c hDa => ⟨Same.mut c.1 hD, c.2⟩) ⟨Same.new hD, .inl ⟨rfl, rfl⟩⟩ (fun i acc x H' H'' P2 P3 hi hDa hal c y k2 k3 => ?_) (fun acc H' hDa hal c => ?_)
      · obtain ⟨rfl, z, hz, rfl⟩ := y
        have hp' := c.1 _ _ hp3
        have hG' : GraphAt H'' (.ref a) G := hG.gw (Gw.of (s3.trans c.1))
        refine ⟨rfl, .int z, rfl, r_hang (i := x0) (s := .ref p) (G := G) (ea_cons (ev_var rfl) (ea_cons (ev_ixL (ev_var rfl) hp' ev_c (atI_ints (j := 0) rfl hx0)) (ea_cons (ev_var rfl) ea_nil))) hG' W (SqI.lst hp') (by omega) H'' (Same.refl _) _ fun v H4 s4 ⟨b, r, found, ev, hb, pm, pw, hh⟩ => ?_⟩
        subst ev
        have hacc : acc = ((left.take i).filter fun y => !decide (y ∈ found)).map V.int := by
          rcases c.2 with ⟨h0, h00⟩ | ⟨f0, hf0, e0⟩
          · subst h0
            rw [h00]
            rfl
          · rw [e0]
            refine congrArg (List.map V.int) (List.filter_congr fun y _ => ?_)
            rw [decide_eq_decide.mpr (hf0.iff hh y)]
        refine notin_ask (SqI.tup hb) ⟨_, rfl, ?_⟩
        by_cases hzr : z ∈ found
        · have hzr' : z ∈ r := pm.mem_iff.mpr hzr
          rw [decide_eq_true hzr']
          refine iteF (k3 H4 (s4 _ _ hDa) ⟨Same.trans c.1 s4, .inr ⟨found, hh, ?_⟩⟩)
          rw [hacc, take_filter_step hz, if_neg (by simp [hzr]), List.append_nil]
        · have hzr' : ¬ z ∈ r := fun q => hzr (pm.mem_iff.mp q)
          rw [decide_eq_false hzr']
          refine iteT ⟨.int z, rfl, k2 _ H4 (s4 _ _ hDa) ⟨Same.trans c.1 s4, .inr ⟨found, hh, ?_⟩⟩⟩
          rw [hacc, take_filter_step hz, if_pos (by simp [hzr]), List.map_append]
          rfl
      · obtain ⟨s4, c2⟩ := c
        rcases c2 with ⟨h0, _⟩ | ⟨found, hh, ea⟩
        · rw [el] at h0; cases h0
        · rw [List.take_length] at ea
          subst ea
          have hf0 : x0 ∈ found := by
            obtain ⟨r, e⟩ := hh.first
            rw [e]; exact List.mem_cons_self
          have fsub : ∀ x ∈ found, x ∈ left := fun x hx => by
            rcases hh.sub x hx with e | e
            · rw [e, el]; exact List.mem_cons_self
            · exact e
          refine s_asg (ev_add (ev_var rfl) ev_c) fun H5 e5 => ⟨D, L ++ found, left.filter fun y => !decide (y ∈ found), rfl, ?_, e5 _ _ hDa, Same.trans (Same.trans s3 s4) e5, tk.hang hh fun x hx => hdis x (fsub x hx), ?_, ndl.sublist List.filter_sublist, fun x => ?_, fun x hx hm => ?_⟩
          · refine List.length_filter_lt_length_iff_exists.mpr ⟨x0, by rw [el]; exact List.mem_cons_self, by simp [hf0]⟩
          · exact List.nodup_append.mpr ⟨ndL, hh.nd, fun y hy z hz e => by
              subst e
              exact hdis y (fsub y hz) hy⟩
          · rw [hall x, List.mem_append, List.mem_filter]
            constructor
            · rintro (h | h)
              · exact .inl (.inl h)
              · by_cases hxf : x ∈ found
                · exact .inl (.inr hxf)
                · exact .inr ⟨h, by simp [hxf]⟩
            · rintro ((h | h) | h)
              · exact .inl h
              · exact .inr (fsub x h)
              · exact .inr h.1
          · obtain ⟨h1, h2⟩ := List.mem_filter.mp hx
            rcases List.mem_append.mp hm with q | q
            · exact hdis x h1 q
            · simp [q] at h2
    · have el : left = [] := by
        cases left with
        | nil => rfl
        | cons x0 rest => cases hb
      subst el
      have s3 : Same H H3 := sm.trans e3
      refine s_ret (ev_lt (ev_sub (ev_lenT (ev_ixT (ev_var rfl) (s3 _ _ h1) ev_c rfl) (s3 _ _ h2)) (ev_lenT (ev_ixT (ev_var rfl) (s3 _ _ h1) ev_c rfl) (s3 _ _ h3))) (ev_var rfl)) fun H4 e4 => q H4 _ (Same.trans s3 e4) fun ⟨xs, hc⟩ => ?_
      have := tk.all W ndL (fun x => by rw [hall x]; simp) hc
      have l1 : ss.length = G.scopes.length := h4.1
      have l2 : es.length = G.edges.length := by rw [h5.1, List.length_map]
      rw [l1, l2]
      exact decide_eq_true this
end
end Tt

namespace Tt
open PySem PySem.Spec PyProof.Rows L2 TtR Evl
/-- two ascending lists with the same members are one -/
theorem climb_eq {r xs : List Int} (h1 : r.Pairwise (· ≤ ·)) (h2 : xs.Pairwise (· < ·)) (h : r.Perm xs) : r = xs :=
  List.Perm.eq_of_pairwise (fun a b _ _ h1 h2 => Int.le_antisymm h1 h2) h1 (h2.imp fun h => Int.le_of_lt h) h
section
variable {P : Program} {w : World} {K : PySem.W.Frag} {mg : Str → Option Value} {base : Heap}
theorem r_vars {σ : L2.St} {H : Hp} {ts : TA} {E : XK} {g : V} {G : Gr} (h : EvA ts σ H [g]) (hG : GraphAt H g G) (W : WG G) :
    EvR (tCall (sp_variables_of K) [] E ts) σ H fun v H2 => ∃ (a : Addr) (r : List Int), v = .ref a ∧ H2 a = some (.tup (r.map V.int)) ∧ r.length ≤ 100 ∧ ∀ v, v ∈ r ↔ ∃ ns ∈ G.scopes, v ∈ ns :=
  r_call h fun H1 e Q q E => ⟨g, G, rfl, hG.gw (Gw.of e), W, fun H' a r s ha hl hr => q _ H' s ⟨a, r, rfl, ha, hl, hr⟩⟩
theorem r_having {σ : L2.St} {H : Hp} {ts : TA} {E : XK} {g : V} {v : Int} {G : Gr} (h : EvA ts σ H [g, .int v]) (hG : GraphAt H g G) (W : WG G) :
    EvR (tCall (sp_having K) [] E ts) σ H fun u H2 => ∃ a : Addr, u = .ref a ∧ H2 a = some (.tup ((hav G v).map V.int)) :=
  r_call h fun H1 e Q q E => ⟨g, v, G, rfl, hG.gw (Gw.of e), W, fun H' a s ha => q _ H' s ⟨a, rfl, ha⟩⟩
/-- hanging(..) != nodes -/
theorem et_hang {σ : L2.St} {H : Hp} {ts : TA} {tb : TE} {E : XK} {g : V} {a : Addr} {i : Int} {as : List Int} {G : Gr} (h : EvA ts σ H [g, .int i, .ref a]) (hG : GraphAt H g G) (W : WG G) (ha : H a = some (.tup (as.map V.int))) (hl : as.length ≤ 100) (hb : Ev tb σ H (.ref a)) :
    ∀ H1, Same H H1 → ∀ Q : Bool → Hp → Prop, (∀ H2 found r, Same H1 H2 → Hang G i as found → r.Perm found → r.Pairwise (· ≤ ·) → Q (!decide (r = as)) H2) → tTest (tOp (rNeD K) (tCall (sp_hanging K) [] E ts) tb) σ H1 Q := fun H1 e Q q =>
  r_hang h hG W (SqI.tup ha) hl H1 e _ fun v H2 e2 ⟨b, r, found, ev, hbr, pm, pw, hh⟩ => by
    subst ev
    refine hb H2 (Same.trans e e2) _ fun H3 e3 => ?_
    exact neT_ask (e3 _ _ hbr) ((Same.trans (Same.trans e e2) e3) _ _ ha) ⟨_, rfl, q H3 found r (Same.trans e2 e3) hh pm pw⟩
theorem c_split_variable (T : Tx K mg) (B : Bl mg) (C_hanging : FnC P w K mg base 2 "hanging" ["graph", "node", "among"] (sp_hanging K)) (C_having : FnC P w K mg base 1 "having" ["graph", "variable"] (sp_having K)) (C_variables_of : FnC P w K mg base 2 "variables_of" ["graph"] (sp_variables_of K)) : FnC P w K mg base 3 "split_variable" ["graph"] (sp_split_variable K) := by
  obtain ⟨f, fd, gf, F⟩ := T.split_variable
  refine ⟨f, fd, gf, F.kp, F.binds (ps := ["graph"]) fun _ _ _ _ _ _ us hl => match us, hl with | [_], _ => rfl, ?_⟩
  refine F.ok sc_split_variable (fun vs H Q E h => ?_) (fun cdv A outer s H vs Q E hr h => ?_)
  · obtain ⟨g, G, rfl, _⟩ := h
    rfl
  · obtain ⟨g, G, rfl, hG, W, q⟩ := h
    have hm := W.many
    refine ⟨_, (pss_cons (ps_for PassesOwn.never rfl (kpi_tup (K := K) rfl (pe_callC C_variables_of (hr.mono (by decide)) (by rfl) (pa_cons (pv 0) pa_nil))) (pg_name (i := 1) sc_split_variable.nd rfl (.inl rfl)) (pss_cons (ps_set (i := 2) sc_split_variable.nd rfl (.inl rfl) (pe_callC C_having (hr.mono (by decide)) (by rfl) (pa_cons (pv 0) (pa_cons (pv 1) pa_nil))))
      (pss_one (ps_if (pt_cmpR (k_neD (K := K) rfl hr.units) (pe_callC C_hanging (hr.mono (by decide)) (by rfl) (pa_cons (pv 0) (pa_cons (pe_ix (k_ixT (K := K) rfl) (pv 2) pe_int (fun _ _ => rfl)) (pa_cons (pv 2) pa_nil)))) (pv 2) (nomark _)) (pss_one (ps_ret (pv 1))) pss_nil))))
      (pss_one (ps_ret pe_non))), ?_⟩
    refine r_vars (ea_cons (ev_var rfl) ea_nil) hG W H (Same.refl H) _ fun v H1 s1 ⟨a, r, ev, ha, hl, hr⟩ => ⟨a, ev, ⟨_, SqT.of ha⟩, ?_⟩
    refine for_tup (xs := r.map V.int) (fun i σ' H' => ∃ y1 y2, σ' = [some g, y1, y2] ∧ Same H1 H' ∧ ∀ (k : Nat) (v : Int), k < i → r[k]? = some v → Whole G v) ⟨none, none, rfl, Same.refl _, fun k v hk => absurd hk (Nat.not_lt_zero k)⟩ (fun i σ' H' _ ⟨_, _, _, s, _⟩ => SqT.of (s _ _ ha)) (fun i x σ' H' hx hP => ?_) (fun σ' H' hP => ?_)
    · obtain ⟨y1, y2, rfl, s2, hw⟩ := hP
      rw [List.getElem?_map] at hx
      cases hz : r[i]? with
      | none => rw [hz] at hx; cases hx
      | some v =>
        rw [hz] at hx
        obtain rfl : V.int v = x := Option.some.inj hx
        have hv := (hr v).mp (List.mem_of_getElem? hz)
        have G2 := hG.gw (Gw.of (Same.trans s1 s2))
        refine r_asg (r_having (ea_cons (ev_var rfl) (ea_cons (ev_var rfl) ea_nil)) G2 W) fun u H3 s3 ⟨b, eb, hb⟩ => ?_
        subst eb
        obtain ⟨x0, rest, ex⟩ := hav_ne hv
        have hl5 := hav_len G v
        refine et_hang (i := x0) (ea_cons (ev_var rfl) (ea_cons (ev_ixT (ev_var rfl) hb ev_c (atI_ints (j := 0) rfl (by rw [ex]; rfl))) (ea_cons (ev_var rfl) ea_nil))) (G2.gw (Gw.of s3)) W hb (by omega) (ev_var rfl) H3 (Same.refl _) _ fun H4 found r' s4 hh pm pw => ?_
        have s14 : Same H1 H4 := Same.trans (Same.trans s2 s3) s4
        by_cases hrr : r' = hav G v
        · rw [decide_eq_true hrr]
          refine iteF ⟨_, _, rfl, s14, fun k v' hk hkv => ?_⟩
          by_cases hki : k = i
          · subst hki
            rw [hz] at hkv
            obtain rfl := Option.some.inj hkv
            exact ⟨x0, rest, found, ex, hh, fun y hy => by
              rw [← hrr] at hy
              exact pm.mem_iff.mp hy⟩
          · exact hw k v' (by omega) hkv
        · rw [decide_eq_false hrr]
          exact iteT ⟨.int v, rfl, q H4 _ (Same.trans s1 s14) (.inr ⟨v, rfl, hv⟩)⟩
    · obtain ⟨y1, y2, rfl, s2, hw⟩ := hP
      rw [List.length_map] at hw
      refine q H' _ (Same.trans s1 s2) (.inl ⟨rfl, fun v hv => ?_⟩)
      obtain ⟨k, hk, e⟩ := List.getElem_of_mem ((hr v).mpr hv)
      exact hw k v hk (by rw [List.getElem?_eq_getElem hk, e])
theorem c_is_tree_like (T : Tx K mg) (B : Bl mg) (C_hanging : FnC P w K mg base 2 "hanging" ["graph", "node", "among"] (sp_hanging K)) (C_has_cycle : FnC P w K mg base 3 "has_cycle" ["graph"] (sp_has_cycle K)) (C_split_variable : FnC P w K mg base 3 "split_variable" ["graph"] (sp_split_variable K)) : FnC P w K mg base 4 "is_tree_like" ["graph"] (sp_is_tree_like K) := by
  obtain ⟨f, fd, gf, F⟩ := T.is_tree_like
  refine ⟨f, fd, gf, F.kp, F.binds (ps := ["graph"]) fun _ _ _ _ _ _ us hl => match us, hl with | [_], _ => rfl, ?_⟩
  refine F.ok sc_is_tree_like (fun vs H Q E h => ?_) (fun cdv A outer s H vs Q E hr h => ?_)
  · obtain ⟨g, G, rfl, _⟩ := h
    rfl
  · obtain ⟨g, G, rfl, hG, W, q⟩ := h
    obtain ⟨a, sc, ed, ss, es, rfl, h1, h2, h3, h4, h5⟩ := id hG
    have hm := W.many
    refine ⟨_, (pss_cons (ps_set (i := 1) sc_is_tree_like.nd rfl (.inl rfl) (pe_tupRg rfl (by rfl) B.tuple_ (prg_1 (by rfl) B.range_ (pe_callB (k_len (K := K) rfl) (by rfl) B.len_ (by decide +kernel) (pa_cons (pe_ix (k_ixT (K := K) rfl) (pv 0) pe_int (fun _ _ => rfl)) pa_nil)))))
      (pss_cons (ps_if (PW.pt (pw_or (pt_val (pe_callC C_has_cycle (hr.mono (by decide)) (by rfl) (pa_cons (pv 0) pa_nil))) (pw_or1 (pt_cmpR (k_neD (K := K) rfl hr.units) (pe_callC C_hanging (hr.mono (by decide)) (by rfl) (pa_cons (pv 0) (pa_cons pe_int (pa_cons (pv 1) pa_nil)))) (pv 1) (nomark _))))) (pss_one (ps_ret pe_bl)) pss_nil)
      (pss_one (ps_ret (pe_cmpR op_isN (pe_callC C_split_variable (hr.mono (by decide)) (by rfl) (pa_cons (pv 0) pa_nil)) pe_non (nomark _)))))), ?_⟩
    refine q_asgU (xs := (rng G.scopes.length).map V.int) (ev_tupRg (n := G.scopes.length) (ev_is (ev_lenT (ev_ixT (ev_var rfl) h1 ev_c rfl) h2) (by rw [h4.1])) (by omega)) fun p H1 hp s1 hp1 => ?_
    have G1 := hG.gw (Gw.of s1)
    -- has_cycle(graph)
    refine (r_call (P := fun v H2 => ∃ b, v = .bl b ∧ ((∃ xs, IsCyc G xs) → b = true)) (vs := [.ref a]) (ea_cons (ev_var rfl) ea_nil) fun H2 e2 Q' q' E => ⟨.ref a, G, rfl, G1.gw (Gw.of e2), W, fun H3 b s3 hb => q' _ H3 s3 ⟨b, rfl, hb⟩⟩) H1 (Same.refl H1) _ fun v H2 s2 ⟨b, ev, hb⟩ => ?_
    subst ev
    refine ⟨b, rfl, ?_⟩
    cases b with
    | true =>
      refine iteT (iteT ?_)
      exact q H2 false (Same.trans s1 s2) fun z => nomatch z
    | false =>
      refine iteF ?_
      refine et_hang (i := 0) (ea_cons (ev_var rfl) (ea_cons ev_c (ea_cons (ev_var rfl) ea_nil))) (G1.gw (Gw.of s2)) W (s2 _ _ hp1) (by rw [rng_len]; omega) (ev_var rfl) H2 (Same.refl _) _ fun H3 found r s3 hh pm pw => ?_
      have s13 := Same.trans (Same.trans s1 s2) s3
      by_cases hr : r = rng G.scopes.length
      · rw [decide_eq_true hr]
        refine iteF ?_
        refine (r_call (P := fun u H2 => (u = .non ∧ ∀ v : Int, (∃ ns ∈ G.scopes, v ∈ ns) → Whole G v) ∨ ∃ v : Int, u = .int v ∧ ∃ ns ∈ G.scopes, v ∈ ns) (vs := [.ref a]) (ea_cons (ev_var rfl) ea_nil) fun H4 e4 Q' q' E => ⟨.ref a, G, rfl, hG.gw (Gw.of (Same.trans s13 e4)), W, fun H5 u s5 hu => q' _ H5 s5 hu⟩) H3 (Same.refl H3) _ fun u H4 s4 hu => ⟨rfl, ?_⟩
        refine q H4 _ (Same.trans s13 s4) fun ht => ?_
        rcases hu with ⟨rfl, hu⟩ | ⟨v, rfl, _⟩
        · exact ⟨fun hc => (nomatch (hb hc)), ⟨found, hh, fun x hx => pm.mem_iff.mp (by rw [hr]; exact hx)⟩, hu⟩
        · cases ht
      · rw [decide_eq_false hr]
        refine iteT ?_
        exact q H3 false s13 fun z => nomatch z
theorem c_is_junction_tree (T : Tx K mg) (B : Bl mg) (C_check_graph : FnC P w K mg base 5 "check_graph" ["value"] (sp_check_graph K)) (C_is_tree_like : FnC P w K mg base 4 "is_tree_like" ["graph"] (sp_is_tree_like K)) : FnC P w K mg base 6 "is_junction_tree" ["graph"] (sp_is_junction_tree K) := by
  obtain ⟨f, fd, gf, F⟩ := T.is_junction_tree
  refine ⟨f, fd, gf, F.kp, F.binds (ps := ["graph"]) fun _ _ _ _ _ _ us hl => match us, hl with | [_], _ => rfl, ?_⟩
  refine F.ok sc_is_junction_tree (fun vs H Q E h => ?_) (fun cdv A outer s H vs Q E hr h => ?_)
  · obtain ⟨g, G, rfl, _⟩ := h
    rfl
  · obtain ⟨g, G, rfl, hG, W, q⟩ := h
    refine ⟨_, (pss_cons (ps_expr (pe_callC C_check_graph (hr.mono (by decide)) (by rfl) (pa_cons (pv 0) pa_nil)))
      (pss_one (ps_ret (pe_callC C_is_tree_like (hr.mono (by decide)) (by rfl) (pa_cons (pv 0) pa_nil))))), ?_⟩
    refine q_drop (v_call (z := .non) (vs := [g]) (ea_cons (ev_var rfl) ea_nil) fun H1 e1 Q' q' E => ⟨g, G, rfl, hG.gw (Gw.of e1), W, q'⟩) fun H1 e1 => ?_
    refine r_ret (r_call (P := fun v H2 => ∃ b, v = .bl b ∧ (b = true → TreeOk G)) (vs := [g]) (ea_cons (ev_var rfl) ea_nil) fun H2 e2 Q' q' E => ⟨g, G, rfl, hG.gw (Gw.of (Same.trans e1 e2)), W, fun H3 b s3 hb => q' _ H3 s3 ⟨b, rfl, hb⟩⟩) fun v H2 e2 ⟨b, ev, hb⟩ => ?_
    subst ev
    exact q H2 b (Same.trans e1 e2) hb
end
end Tt

namespace Tt
open PySem PySem.Spec PyProof.Rows L2 TtR Evl
/-- a row of different nodes -/
structure Row (G : Gr) (c : List Int) : Prop where
  ne : c ≠ []
  nd : c.Nodup
  mem : ∀ x ∈ c, 0 ≤ x ∧ x < (G.scopes.length : Int)
theorem Row.len {G : Gr} (W : WG G) {c : List Int} (r : Row G c) : c.length ≤ 5 := by
  have := r.nd.length_le_of_subset (l₂ := rng G.scopes.length) fun x hx => mem_rng.mpr (r.mem x hx)
  rw [rng_len] at this
  have := W.many
  omega
theorem Row.more {G : Gr} {c : List Int} (r : Row G c) {y : Int} (hy : 0 ≤ y ∧ y < (G.scopes.length : Int)) (hn : y ∉ c) : Row G (c ++ [y]) := by
  refine ⟨by simp, List.nodup_append.mpr ⟨r.nd, by simp, fun a ha b hb e => ?_⟩, fun x hx => ?_⟩
  · have e2 : b = y := by simpa using hb
    subst e2
    subst e
    exact hn ha
  · rcases List.mem_append.mp hx with h | h
    · exact r.mem x h
    · have e : x = y := by simpa using h
      subst e
      exact hy
/-- what a row may still give -/
def wt (c : List Int) : Nat := 6 ^ (5 - c.length)
theorem wt_more {G : Gr} (W : WG G) {c : List Int} (r : Row G c) {ys : List Int} (hy : ys.Nodup) (h : ∀ y ∈ ys, 0 ≤ y ∧ y < (G.scopes.length : Int) ∧ y ∉ c) : ((ys.map fun y => c ++ [y]).map wt).sum + 1 ≤ wt c := by
  have hl := r.len W
  have hk : ys.length ≤ 5 := by
    have := hy.length_le_of_subset (l₂ := rng G.scopes.length) fun x hx => mem_rng.mpr ⟨(h x hx).1, (h x hx).2.1⟩
    rw [rng_len] at this
    have := W.many
    omega
  have hs : ∀ l : List Int, ((l.map fun y => c ++ [y]).map wt).sum = l.length * 6 ^ (5 - (c.length + 1)) := by
    intro l
    induction l with
    | nil => simp
    | cons y l ih =>
      rw [List.map_cons, List.map_cons, List.sum_cons, ih, List.length_cons, Nat.succ_mul, Nat.add_comm]
      unfold wt
      rw [List.length_append, List.length_singleton]
  rw [hs]
  unfold wt
  by_cases h5 : c.length = 5
  · have : ys = [] := by
      cases ys with
      | nil => rfl
      | cons y ys =>
        have r2 := (r.more ⟨(h y List.mem_cons_self).1, (h y List.mem_cons_self).2.1⟩ (h y List.mem_cons_self).2.2).len W
        rw [List.length_append, List.length_singleton] at r2
        omega
    subst this
    rw [h5]
    simp
  · have e : 5 - c.length = (5 - (c.length + 1)) + 1 := by omega
    rw [e, Nat.pow_succ]
    have hp : 0 < 6 ^ (5 - (c.length + 1)) := Nat.pow_pos (by decide)
    have := Nat.mul_le_mul_right (6 ^ (5 - (c.length + 1))) hk
    omega
theorem Tups.dropLast {H : Hp} {xs : List V} {nss : List (List Int)} (h : Tups H xs nss) : Tups H xs.dropLast nss.dropLast := by
  refine ⟨by rw [List.length_dropLast, List.length_dropLast, h.1], fun i v ns h1 h2 => ?_⟩
  rw [List.getElem?_dropLast] at h1 h2
  split at h1
  · split at h2
    · exact h.2 i v ns h1 h2
    · cases h2
  · cases h1
def sp_cycles_from (K : PySem.W.Frag) : Sp := fun vs H Q _ => ∃ (g : V) (r : Addr) (i : Int) (G : Gr), vs = [g, .ref r] ∧ GraphAt H g G ∧ WG G ∧ H r = some (.tup [.int i]) ∧ 0 ≤ i ∧ i < (G.scopes.length : Int) ∧
  ∀ (H' : Hp) (p : Addr) (vs' : List V) (css : List (List Int)), Same H H' → H p = none → H' p = some (.lst vs') → Tups H' vs' css → (∀ c ∈ css, Row G c) → css.length ≤ 1296 → Q (.ref p) H'
theorem q_when_mid {σ : L2.St} {H : Hp} {t : TT} {b : Bool} {tu tz : TS} {D : Ends} (C : Hp → Prop) (h : EvT t σ H b) (k : ∀ H1, C H1 → tz D σ H1) (h1 : b = true → ∀ H1, Ex H H1 → ∀ nx : L2.St → Hp → Prop, (∀ H2, C H2 → nx σ H2) → tu { D with nx := nx } σ H1) (h2 : b = false → ∀ H1, Ex H H1 → C H1) :
    tSeq (tIfS t tu tNext) tz D σ H := q_when h (fun hb H1 e => h1 hb H1 e _ k) fun hb H1 e => k H1 (h2 hb H1 e)
section
variable {P : Program} {w : World} {K : PySem.W.Frag} {mg : Str → Option Value} {base : Heap}
theorem c_cycles_from (T : Tx K mg) (B : Bl mg) (C_neighbours : FnC P w K mg base 1 "neighbours" ["graph", "node"] (sp_neighbours K)) : FnC P w K mg base 2 "cycles_from" ["graph", "row"] (sp_cycles_from K) := by
  obtain ⟨f, fd, gf, F⟩ := T.cycles_from
  refine ⟨f, fd, gf, F.kp, F.binds (ps := ["graph", "row"]) fun _ _ _ _ _ _ us hl => match us, hl with | [_, _], _ => rfl, ?_⟩
  refine F.ok sc_cycles_from (fun vs H Q E h => ?_) (fun cdv A outer s H vs Q E hr h => ?_)
  · obtain ⟨g, r, i, G, rfl, _⟩ := h
    rfl
  · obtain ⟨g, r, i, G, rfl, hG, W, hr0, hi0, hi1, q⟩ := h
    refine ⟨_, (pss_cons (ps_set (i := 2) sc_cycles_from.nd rfl (.inl rfl) (pe_lst pa_nil))
      (pss_cons (ps_set (i := 3) sc_cycles_from.nd rfl (.inl rfl) (pe_lst (pa_cons (pv 1) pa_nil)))
      (pss_cons (ps_while PassesOwn.never (pt_truth (pv 3) (by intro _; rfl)) (pss_cons (ps_set (i := 4) sc_cycles_from.nd rfl (.inr rfl) (pe_bm0 PySem.F.plainAttrs_list PySem.F.slot_list_pop PySem.F.type_list_pop mt_pop (pv 3)))
      (pss_cons (ps_set (i := 5) sc_cycles_from.nd rfl (.inl rfl) (pe_callC C_neighbours (hr.mono (by decide)) (by rfl) (pa_cons (pv 0) (pa_cons (pe_ix (k_ixT (K := K) rfl) (pv 4) (pe_un un_neg pe_int) (fun _ _ => rfl)) pa_nil))))
      (pss_cons (ps_if (PW.pt (pw_and (pt_cmpR op_gt (pe_callB (k_len (K := K) rfl) (by rfl) B.len_ (by decide +kernel) (pa_cons (pv 4) pa_nil)) pe_int (nomark _)) (pw_and (pt_cmpR (k_in (K := K) rfl) (pe_ix (k_ixT (K := K) rfl) (pv 4) pe_int (fun _ _ => rfl)) (pv 5) (by rfl)) (pw_and1 (pt_cmpR op_lt (pe_ix (k_ixT (K := K) rfl) (pv 4) pe_int (fun _ _ => rfl)) (pe_ix (k_ixT (K := K) rfl) (pv 4) (pe_un un_neg pe_int) (fun _ _ => rfl)) (nomark _)))))) (pss_one (ps_expr (pe_bm PySem.F.plainAttrs_list PySem.F.slot_list_append PySem.F.type_list_append mt_append (pv 2) (pa_cons (pv 4) pa_nil)))) pss_nil)
      (pss_one (ps_expr (pe_bm PySem.F.plainAttrs_list PySem.F.slot_list_extend PySem.F.type_list_extend mt_extend (pv 3) (pa_cons (pe_lc (own := [("node", 6)]) rfl sc_cycles_from.nd (kpi_tup (K := K) rfl (pv 5)) (blkOk_by (N := N_cycles_from) (sc := defScope s_cycles_from) (by decide +kernel)) (fun _ _ _ _ _ => (pg_name (i := 6) sc_cycles_from.nd rfl (.inl rfl))) (fun _ _ _ _ _ => (pts_one (PW.pt (pw_and (pt_cmpR op_gt (pv 6) (pe_ix (k_ixT (K := K) rfl) (pv 4) pe_int (fun _ _ => rfl)) (nomark _)) (pw_and1 (pt_cmpR (k_notin (K := K) rfl) (pv 6) (pv 4) (by rfl))))))) (fun _ _ _ _ _ => (pe_op (k_catA (K := K) rfl) (pv 4) (pe_tup (pa_cons (pv 6) pa_nil))))) pa_nil))))))))
      (pss_one (ps_ret (pv 2)))))), ?_⟩
    refine q_asgL (xs := []) (el_lst ea_nil (by show 0 ≤ 100000; omega)) fun pf H1 hpf e1 hf1 => ?_
    refine q_asgL (xs := [.ref r]) (el_lst (ea_cons (ev_var rfl) ea_nil) (by show 1 ≤ 100000; omega)) fun pw H2 hpw e2 hw2 => ?_
    have hpw0 : H pw = none := fresh_back e1 hpw
    have hne : pf ≠ pw := ne_of_none hf1 hpw
    have row0 : Row G [i] := ⟨by simp, by simp, fun x hx => by
      have e : x = i := by simpa using hx
      subst e
      exact ⟨hi0, hi1⟩⟩
    refine q_while (fun m σ' H' => ∃ y4 y5, ∃ (fv wv : List V) (fc wc : List (List Int)), σ' = [some g, some (.ref r), some (.ref pf), some (.ref pw), y4, y5, none] ∧ m = (wc.map wt).sum ∧ fc.length + m ≤ 1296 ∧ Same H H' ∧ H' pf = some (.lst fv) ∧ H' pw = some (.lst wv) ∧ Tups H' fv fc ∧ Tups H' wv wc ∧ (∀ c ∈ fc, Row G c) ∧ ∀ c ∈ wc, Row G c)
      (([[i]] : List (List Int)).map wt).sum ⟨none, none, [], [.ref r], [], [[i]], rfl, rfl, by show 0 + (6 ^ 4 + 0) ≤ 1296; decide, Same.trans e1 e2, e2 _ _ hf1, hw2, Tups.nil, Tups.snoc Tups.nil (e2 _ _ (e1 _ _ hr0)), fun c hc => by simp at hc, fun c hc => by
        have e : c = [i] := by simpa using hc
        subst e
        exact row0⟩ fun m σ' H' hW => ?_
    obtain ⟨y4, y5, fv, wv, fc, wc, rfl, hm, hb, sm, hf, hw, tf, tw, rf, rw_⟩ := hW
    refine ⟨_, et_truL (ev_var rfl) hw, fun hbt H3 e3 => ?_, fun hbt H3 e3 => ?_⟩
    · -- a turn
      have hpos : 0 < wv.length := by
        cases wv with
        | nil => cases hbt
        | cons v wv => simp
      have hf3 := e3 _ _ hf
      have hw3 := e3 _ _ hw
      have tf3 := tf.gw (Gw.of e3)
      have tw3 := tw.gw (Gw.of e3)
      have s3 : Same H H3 := sm.trans e3
      have hlt : wc.length - 1 < wc.length := by rw [← tw.1]; omega
      obtain ⟨c, hc⟩ : ∃ c, wc[wc.length - 1]? = some c := ⟨_, List.getElem?_eq_getElem hlt⟩
      obtain ⟨b, hvb, hbc⟩ := tw3.at_ hc
      have rc : Row G c := rw_ c (List.mem_of_getElem? hc)
      have hcl := rc.len W
      have ewc : wc = wc.dropLast ++ [c] := by
        have h1 := List.dropLast_concat_getLast (l := wc) (by intro z; rw [z] at hlt; simp at hlt)
        rw [List.getLast_eq_getElem] at h1
        obtain ⟨h2, h3⟩ := List.getElem?_eq_some_iff.mp hc
        rw [h3] at h1
        exact h1.symm
      obtain ⟨x0, rest, ec⟩ : ∃ x0 rest, c = x0 :: rest := by
        cases c with
        | nil => exact absurd rfl rc.ne
        | cons x0 rest => exact ⟨x0, rest, rfl⟩
      obtain ⟨z, hz⟩ : ∃ z, c.getLast? = some z := ⟨c.getLast rc.ne, List.getLast?_eq_getLast rc.ne⟩
      have hzV : (c.map V.int).getLast? = some (.int z) := by rw [List.getLast?_map, hz]; rfl
      -- nodes = waiting.pop()
      refine ⟨fun σ2 H4 => ∃ y4 y5, ∃ (fv wv : List V) (fc wc' : List (List Int)), σ2 = [some g, some (.ref r), some (.ref pf), some (.ref pw), y4, y5, none] ∧ (wc'.map wt).sum < m ∧ fc.length + (wc'.map wt).sum ≤ 1296 ∧ Same H H4 ∧ H4 pf = some (.lst fv) ∧ H4 pw = some (.lst wv) ∧ Tups H4 fv fc ∧ Tups H4 wv wc' ∧ (∀ c ∈ fc, Row G c) ∧ ∀ c ∈ wc', Row G c,
        fun σ2 H4 ⟨a4, a5, fv', wv', fc', wc', g1, g2, g3, g4, g5, g6, g7, g8, g9, g10⟩ => ⟨_, g2, a4, a5, fv', wv', fc', wc', g1, rfl, g3, g4, g5, g6, g7, g8, g9, g10⟩, ?_⟩
      refine ⟨.ref pw, rfl, .inl ⟨rfl, _, SqL.of hw3⟩, pw, wv, .ref b, rfl, rfl, hw3, by rw [tw3.1]; exact hvb, ?_⟩
      have gw4 : Gw H3 (upd H3 pw (.lst wv.dropLast)) := Gw.upd hw3
      generalize hH4 : upd H3 pw (.lst wv.dropLast) = H4 at gw4 ⊢
      have s4 : Same H H4 := by rw [← hH4]; exact Same.mut s3 hpw0
      have hw4 : H4 pw = some (.lst wv.dropLast) := by rw [← hH4]; exact upd_same
      have hf4 : H4 pf = some (.lst fv) := by rw [← hH4, upd_ne hne]; exact hf3
      have hb4 := gw4.tup _ _ hbc
      have tf4 := tf3.gw gw4
      have tw4 : Tups H4 wv.dropLast wc.dropLast := (tw3.gw gw4).dropLast
      -- onward = neighbours(graph, nodes[-1])
      refine r_asg (r_nbs (i := z) (G := G) (ea_cons (ev_var rfl) (ea_cons (ev_ixT (ev_var rfl) hb4 (ev_un ev_c ru_neg) (atI_last' hzV)) ea_nil)) (hG.gw (Gw.of s4)) W) fun v H5 e5 ⟨a, ns, ev, ha, pm⟩ => ?_
      subst ev
      have hf5 := e5 _ _ hf4
      have hw5 := e5 _ _ hw4
      have hb5 := e5 _ _ hb4
      have tf5 := tf4.gw (Gw.of e5)
      have tw5 := tw4.gw (Gw.of e5)
      have s5 : Same H H5 := Same.trans s4 e5
      -- the if
      refine q_when_mid (fun H6 => ∃ (fv : List V) (fc' : List (List Int)), Same H H6 ∧ H6 pf = some (.lst fv) ∧ H6 pw = some (.lst wv.dropLast) ∧ Tups H6 fv fc' ∧ Tups H6 wv.dropLast wc.dropLast ∧ (∀ c ∈ fc', Row G c) ∧ fc'.length ≤ fc.length + 1 ∧ H6 b = some (.tup (c.map V.int)) ∧ H6 a = some (.tup (ns.map V.int)))
        (et_and (et_test (ev_gt (ev_lenT (ev_var rfl) hb5) ev_c)) fun h2 => et_and (et_test (ev_in (ev_ixT (ev_var rfl) hb5 ev_c (atI_ints (j := 0) rfl (by rw [ec]; rfl))) (ev_var rfl) (SqI.tup ha))) fun _ => et_test (ev_lt (ev_ixT (ev_var rfl) hb5 ev_c (atI_ints (x := c.getD 1 0) (j := 1) rfl (by
          have h3 := of_decide_eq_true h2
          rw [List.length_map] at h3
          rw [List.getD_eq_getElem?_getD, List.getElem?_eq_getElem (show 1 < c.length by omega)]
          rfl))) (ev_ixT (ev_var rfl) hb5 (ev_un ev_c ru_neg) (atI_last' hzV)))) (fun H6 hC => ?_) (fun _ H6 e6 nx hnx => ?_) (fun _ H6 e6 => ?_)
      · obtain ⟨fv', fc', s6, hf6, hw6, tf6, tw6, rf6, lf6, hb6, ha6⟩ := hC
        -- waiting.extend(..)
        refine ⟨.ref pw, rfl, .inl ⟨rfl, _, SqL.of hw6⟩, ?_⟩
        refine ⟨.ref a, rfl, a, rfl, ⟨_, SqT.of ha6⟩, fun D hD => ?_⟩
        have hnl := nbs_len W pm
        refine lc_gen walk_tupI (by omega) (fun k acc H' => Same H6 H' ∧ Tups H' acc (((ns.take k).filter fun y => decide (x0 < y) && !decide (y ∈ c)).map fun y => c ++ [y])) (fun k acc H' m => SqT.of (m.1 _ _ ha6)) (fun k acc H' a' zs m hDa => ⟨Same.mut m.1 hD, m.2.gw (Gw.upd hDa)⟩) ⟨Same.new hD, Tups.nil⟩ (fun k acc x H' H'' P2 P3 hk hDa hal m y k2 k3 => ?_) (fun acc H' hDa hal m => ?_)
        · obtain ⟨rfl, y, hy, rfl⟩ := y
          have hb7 := m.1 _ _ hb6
          refine ⟨rfl, (et_and (et_test (ev_gt (ev_var rfl) (ev_ixT (ev_var rfl) hb7 ev_c (atI_ints (j := 0) rfl (by rw [ec]; rfl))))) fun _ => et_test (ev_notin (ev_var rfl) (ev_var rfl) (SqI.tup hb7))) H'' (Ex.refl _) _ fun H8 e8 => ?_⟩
          have hb8 := e8 _ _ hb7
          have m8 : Same H6 H8 := Same.trans m.1 e8
          have t8 := m.2.gw (Gw.of e8)
          cases ht : decide (x0 < y) && !decide (y ∈ c) with
          | true =>
            refine iteT ⟨.ref b, rfl, .int y, rfl, by rw [sizeLine_eq]; show 1 ≤ 16777216; omega, fun T hT => ⟨b, T, c.map V.int, [.int y], rfl, rfl, SqT.of ((Same.new hT) _ _ hb8), SqT.of upd_same, by rw [sizeLine_eq, List.length_map]; show c.length + 1 ≤ 16777216; omega, fun z => ?_, fun _ z => ?_, fun _ _ p hp => ?_⟩⟩
            · rw [ec] at z; cases z
            · cases z
            · have g1 : Gw H8 (upd (upd H8 T (.tup [.int y])) p (.tup (c.map V.int ++ [.int y]))) := Gw.of (Same.trans (Same.new hT) (Same.new hp))
              refine k2 _ _ ((Same.trans (Same.new hT) (Same.new hp)) _ _ (e8 _ _ hDa)) ⟨Same.trans m8 (Same.trans (Same.new hT) (Same.new hp)), ?_⟩
              rw [take_filter_step hy, if_pos ht, List.map_append]
              exact (t8.gw g1).snoc (by rw [upd_same, List.map_append]; rfl)
          | false =>
            refine iteF (k3 _ (e8 _ _ hDa) ⟨m8, ?_⟩)
            rw [take_filter_step hy, if_neg (by rw [ht]; decide), List.append_nil]
            exact t8
        · obtain ⟨s7, t7⟩ := m
          rw [List.take_length] at t7
          have hw7 := s7 _ _ hw6
          have hf7 := s7 _ _ hf6
          have hys : ∀ y ∈ (ns.filter fun y => decide (x0 < y) && !decide (y ∈ c)), 0 ≤ y ∧ y < (G.scopes.length : Int) ∧ y ∉ c := fun y hy => by
            obtain ⟨h1, h2⟩ := List.mem_filter.mp hy
            have h3 := W.nbs_in (pm.mem_iff.mp h1)
            rw [Bool.and_eq_true] at h2
            exact ⟨h3.1, h3.2, by simpa using h2.2⟩
          have hwt := wt_more W rc (ys := ns.filter fun y => decide (x0 < y) && !decide (y ∈ c)) ((pm.nodup_iff.mpr (W.nbs_nodup z)).sublist List.filter_sublist) hys
          have hsum : (wc.map wt).sum = (wc.dropLast.map wt).sum + wt c := by
            rw [ewc, List.dropLast_concat, List.map_append, List.sum_append]
            simp
          have hlen7 := List.length_filter_le (fun y => decide (x0 < y) && !decide (y ∈ c)) ns
          have hwl : wc.length ≤ 1296 := by
            have : ∀ l : List (List Int), l.length ≤ (l.map wt).sum := fun l => by
              induction l with
              | nil => simp
              | cons c l ih =>
                rw [List.length_cons, List.map_cons, List.sum_cons]
                have : 0 < wt c := Nat.pow_pos (by decide)
                omega
            have := this wc
            omega
          refine ⟨pw, D, wv.dropLast, acc, rfl, rfl, hw7, hDa, ?_, ?_⟩
          · rw [sizeLine_eq, List.length_dropLast, tw.1]
            have := t7.1
            rw [List.length_map] at this
            omega
          · have gw8 : Gw H' (upd H' pw (.lst (wv.dropLast ++ acc))) := Gw.upd hw7
            refine ⟨_, _, fv', wv.dropLast ++ acc, fc', wc.dropLast ++ (ns.filter fun y => decide (x0 < y) && !decide (y ∈ c)).map fun y => c ++ [y], rfl, ?_, ?_, Same.mut (Same.trans s6 s7) hpw0, by rw [upd_ne hne]; exact hf7, upd_same, (tf6.gw (Gw.of s7)).gw gw8, ((tw6.gw (Gw.of s7)).gw gw8).append (t7.gw gw8), rf6, fun c' hc' => ?_⟩
            · rw [List.map_append, List.sum_append]
              omega
            · rw [List.map_append, List.sum_append]
              omega
            · rcases List.mem_append.mp hc' with h | h
              · exact rw_ c' (((List.dropLast_sublist wc).subset h))
              · obtain ⟨y, hy, rfl⟩ := List.mem_map.mp h
                obtain ⟨h1, h2, h3⟩ := hys y hy
                exact rc.more ⟨h1, h2⟩ h3
      · -- found.append(nodes)
        have hf6 := e6 _ _ hf5
        refine s_app (D := { nx := nx, rt := _, bk := _, ct := _ }) hf6 (ev_var rfl) (ev_var (v := .ref b) rfl) ?_ fun H7 e7 => hnx _ ?_
        · rw [tf.1]; omega
        · have hf7 := e7 _ _ hf6
          have gw7 : Gw H7 (upd H7 pf (.lst (fv ++ [.ref b]))) := Gw.upd hf7
          have e57 : Same H5 H7 := Same.trans e6 e7
          refine ⟨fv ++ [.ref b], fc ++ [c], Same.mut (Same.trans s5 e57) hpf, upd_same, by rw [upd_ne hne.symm]; exact e57 _ _ hw5, ((tf5.gw (Gw.of e57)).gw gw7).snoc (gw7.tup _ _ (e57 _ _ hb5)), (tw5.gw (Gw.of e57)).gw gw7, fun c' hc' => ?_, by rw [List.length_append, List.length_singleton]; omega, gw7.tup _ _ (e57 _ _ hb5), gw7.tup _ _ (e57 _ _ ha)⟩
          rcases List.mem_append.mp hc' with h | h
          · exact rf c' h
          · have e : c' = c := by simpa using h
            rw [e]; exact rc
      · exact ⟨fv, fc, Same.trans s5 e6, e6 _ _ hf5, e6 _ _ hw5, tf5.gw (Gw.of e6), tw5.gw (Gw.of e6), rf, by omega, e6 _ _ hb5, e6 _ _ ha⟩
    · refine s_ret (ev_var rfl) fun H4 e4 => ?_
      have e34 := Same.trans e3 e4
      exact q H4 pf fv fc (Same.trans sm e34) hpf (e34 _ _ hf) (tf.gw (Gw.of e34)) rf (by omega)
end
end Tt

namespace Tt
open PySem PySem.Spec PyProof.Rows L2 TtR Evl
/-- pairs of a length and a row -/
def PTups (H : Hp) (xs : List V) (css : List (List Int)) : Prop := xs.length = css.length ∧ ∀ (i : Nat) (v : V) (c : List Int), xs[i]? = some v → css[i]? = some c → ∃ t b, v = .ref t ∧ H t = some (.tup [.int (c.length : Int), .ref b]) ∧ H b = some (.tup (c.map V.int))
theorem PTups.gw {H H' : Hp} (g : Gw H H') {xs : List V} {css : List (List Int)} (h : PTups H xs css) : PTups H' xs css := ⟨h.1, fun i v c h1 h2 => by
  obtain ⟨t, b, e, q1, q2⟩ := h.2 i v c h1 h2
  exact ⟨t, b, e, g.tup t _ q1, g.tup b _ q2⟩⟩
theorem PTups.nil {H : Hp} : PTups H [] [] := ⟨rfl, fun i v ns h => by simp at h⟩
theorem PTups.append {H : Hp} {xs ys : List V} {nss mss : List (List Int)} (h : PTups H xs nss) (k : PTups H ys mss) : PTups H (xs ++ ys) (nss ++ mss) := by
  refine ⟨by simp [h.1, k.1], fun i v ms h1 h2 => ?_⟩
  by_cases hi : i < xs.length
  · rw [List.getElem?_append_left hi] at h1
    rw [List.getElem?_append_left (by rw [← h.1]; exact hi)] at h2
    exact h.2 i v ms h1 h2
  · rw [List.getElem?_append_right (by omega)] at h1
    rw [List.getElem?_append_right (by rw [← h.1]; omega), ← h.1] at h2
    exact k.2 _ v ms h1 h2
theorem PTups.one {H : Hp} {t b : Addr} {c : List Int} (h : H t = some (.tup [.int (c.length : Int), .ref b])) (hb : H b = some (.tup (c.map V.int))) : PTups H [.ref t] [c] := ⟨rfl, fun i v ns h1 h2 => by
  cases i with
  | zero =>
    have e1 := Option.some.inj (show some (V.ref t) = some v from h1)
    have e2 := Option.some.inj (show some c = some ns from h2)
    subst e1 e2
    exact ⟨t, b, rfl, h, hb⟩
  | succ i => simp at h1⟩
def pD (c : List Int) : PyData := .tuple [.int (c.length : Int), .tuple (c.map PyData.int)]
theorem PTups.dp {K : PySem.W.Frag} {H : Hp} : ∀ {xs : List V} {css : List (List Int)}, PTups H xs css → DpAll K H xs (css.map pD)
  | [], [], _ => .nil
  | [], c :: css, h => by have := h.1; simp at this
  | x :: xs, [], h => by have := h.1; simp at this
  | x :: xs, c :: css, h => by
    obtain ⟨t, b, e, q1, q2⟩ := h.2 0 x c rfl rfl
    subst e
    have l := h.1
    rw [List.length_cons, List.length_cons] at l
    exact .cons (.tup (SqT.of q1) (.cons (.int _) (.cons (.tup (SqT.of q2) (dp_ints c)) .nil))) (PTups.dp ⟨by omega, fun i v ns h1 h2 => h.2 (i + 1) v ns h1 h2⟩)
theorem alike_ints : ∀ xs ys : List Int, PySem.W.alikeAll (xs.map PyData.int) (ys.map PyData.int) = true
  | [], ys => by simp [PySem.W.alikeAll]
  | x :: xs, [] => by simp [PySem.W.alikeAll]
  | x :: xs, y :: ys => by simp [PySem.W.alikeAll, PySem.W.alike, alike_ints xs ys]
theorem alike_pD (c d : List Int) : PySem.W.alike (pD c) (pD d) = true := by
  unfold pD
  simp [PySem.W.alikeAll, PySem.W.alike, alike_ints c d]
theorem depth_pD : ∀ css : List (List Int), PyData.depthAll (css.map pD) ≤ 3
  | [] => by simp [PyData.depthAll]
  | c :: css => by
    have ih := depth_pD css
    have h := (lay_ints c).2
    simp only [List.map_cons, PyData.depthAll, pD, PyData.depth, h]
    omega
def sp_told_cycle (K : PySem.W.Frag) : Sp := fun vs H Q _ => ∃ (g : V) (G : Gr), vs = [g] ∧ GraphAt H g G ∧ WG G ∧ ∀ (H' : Hp) (u : V), Same H H' → (u = .non ∨ ∃ (a : Addr) (c : List Int), u = .ref a ∧ H' a = some (.tup (c.map V.int)) ∧ Row G c) → Q u H'
/-- what defect hands back: None, or a tuple with a word; with "cycle" a row of nodes -/
def DefT (G : Gr) (H : Hp) (u : V) : Prop := u = .non ∨ ∃ (t : Addr) (s : Str) (rest : List V), u = .ref t ∧ H t = some (.tup (.str s :: rest)) ∧ (s = "cycle" → ∃ (a : Addr) (c : List Int), rest = [.ref a] ∧ H a = some (.tup (c.map V.int)) ∧ Row G c)
def sp_defect_of (K : PySem.W.Frag) : Sp := fun vs H Q _ => ∃ (g : V) (G : Gr), vs = [g] ∧ GraphAt H g G ∧ WG G ∧ ∀ (H' : Hp) (u : V), Same H H' → DefT G H' u → Q u H'
def sp_defect (K : PySem.W.Frag) : Sp := sp_defect_of K
theorem s_retIf {σ : L2.St} {H : Hp} {t : TT} {b : Bool} {ta tb : TE} {D : Ends} (h : EvT t σ H b) (h1 : b = true → ∀ H1, Ex H H1 → ta σ H1 D.rt) (h2 : b = false → ∀ H1, Ex H H1 → tb σ H1 D.rt) : tRet (tIf t ta tb) D σ H := h H (Ex.refl _) _ fun H1 e => by
  cases b with
  | true => exact iteT (h1 rfl H1 e)
  | false => exact iteF (h2 rfl H1 e)
section
variable {P : Program} {w : World} {K : PySem.W.Frag} {mg : Str → Option Value} {base : Heap}
theorem c_told_cycle (T : Tx K mg) (B : Bl mg) (C_cycles_from : FnC P w K mg base 2 "cycles_from" ["graph", "row"] (sp_cycles_from K)) : FnC P w K mg base 3 "told_cycle" ["graph"] (sp_told_cycle K) := by
  obtain ⟨f, fd, gf, F⟩ := T.told_cycle
  refine ⟨f, fd, gf, F.kp, F.binds (ps := ["graph"]) fun _ _ _ _ _ _ us hl => match us, hl with | [_], _ => rfl, ?_⟩
  refine F.ok sc_told_cycle (fun vs H Q E h => ?_) (fun cdv A outer s H vs Q E hr h => ?_)
  · obtain ⟨g, G, rfl, _⟩ := h
    rfl
  · obtain ⟨g, G, rfl, hG, W, q⟩ := h
    obtain ⟨a, sc, ed, ss, es, rfl, h1, h2, h3, h4, h5⟩ := id hG
    have hm := W.many
    refine ⟨_, (pss_cons (ps_set (i := 1) sc_told_cycle.nd rfl (.inl rfl) (pe_lst pa_nil))
      (pss_cons (ps_for PassesOwn.never rfl (pi_range1 (by rfl) B.range_ (pa_cons (pe_callB (k_len (K := K) rfl) (by rfl) B.len_ (by decide +kernel) (pa_cons (pe_ix (k_ixT (K := K) rfl) (pv 0) pe_int (fun _ _ => rfl)) pa_nil)) pa_nil)) (pg_name (i := 2) sc_told_cycle.nd rfl (.inl rfl)) (pss_one (ps_expr (pe_bm PySem.F.plainAttrs_list PySem.F.slot_list_extend PySem.F.type_list_extend mt_extend (pv 1) (pa_cons (pe_lc (own := [("nodes", 3)]) rfl sc_told_cycle.nd (kpi_list (K := K) rfl (pe_callC C_cycles_from (hr.mono (by decide)) (by rfl) (pa_cons (pv 0) (pa_cons (pe_tup (pa_cons (pv 2) pa_nil)) pa_nil)))) (blkOk_by (N := N_told_cycle) (sc := defScope s_told_cycle) (by decide +kernel)) (fun _ _ _ _ _ => (pg_name (i := 3) sc_told_cycle.nd rfl (.inl rfl))) (fun _ _ _ _ _ => pts_nil) (fun _ _ _ _ _ => (pe_tup (pa_cons (pe_callB (k_len (K := K) rfl) (by rfl) B.len_ (by decide +kernel) (pa_cons (pv 3) pa_nil)) (pa_cons (pv 3) pa_nil))))) pa_nil)))))
      (pss_one (ps_ret (pe_ifExp (pt_truth (pv 1) (by intro _; rfl)) (pe_ix (k_ixT (K := K) rfl) (pe_callB (cr_minD rfl) (by rfl) B.min_ (by decide +kernel) (pa_cons (pv 1) pa_nil)) pe_int (fun _ _ => rfl)) pe_non))))), ?_⟩
    refine q_asgL (xs := []) (el_lst ea_nil (by show 0 ≤ 100000; omega)) fun p H1 hp e1 hp1 => ?_
    refine q_forR1 (n := (G.scopes.length : Int)) (ea_cons (ev_is (ev_lenT (ev_ixT (ev_var rfl) (e1 _ _ h1) ev_c rfl) (e1 _ _ h2)) (by rw [h4.1])) ea_nil) ⟨by omega, by omega⟩ (fun i σ' H' => ∃ y2, ∃ (fv : List V) (fc : List (List Int)), σ' = [some (.ref a), some (.ref p), y2, none] ∧ Same H H' ∧ H' p = some (.lst fv) ∧ PTups H' fv fc ∧ (∀ c ∈ fc, Row G c) ∧ fc.length ≤ 1296 * i)
      (fun H2 e2 => ⟨none, [], [], rfl, Same.trans e1 e2, e2 _ _ hp1, PTups.nil, fun c hc => by simp at hc, by simp⟩) (fun i σ' H' hi hP => ?_) (fun σ' H' hP => ?_)
    · obtain ⟨y2, fv, fc, rfl, sm, hf, tf, rf, lf⟩ := hP
      refine ⟨.ref p, rfl, .inl ⟨rfl, _, SqL.of hf⟩, ?_⟩
      -- cycles_from(graph, (node,))
      refine (r_callR (P := fun v H2 => ∃ (b : Addr) (vs' : List V) (css : List (List Int)), v = .ref b ∧ H2 b = some (.lst vs') ∧ Tups H2 vs' css ∧ (∀ c ∈ css, Row G c) ∧ css.length ≤ 1296) (R := fun vs H2 => ∃ r, vs = [.ref a, .ref r] ∧ H2 r = some (.tup [.int (i : Int)]))
        (fun H2 e2 Q' q' => ⟨.ref a, rfl, .int (i : Int), rfl, by rw [sizeLine_eq]; show 1 ≤ 16777216; omega, fun T hT => q' _ _ (Same.new hT) ⟨T, rfl, upd_same⟩⟩)
        (fun vs H2 e2 ⟨r, ev, hr⟩ => by
          subst ev
          exact fun H3 e3 Q' q' E => ⟨.ref a, r, (i : Int), G, rfl, hG.gw (Gw.of (Same.trans (Same.trans sm e2) e3)), W, e3 _ _ hr, by omega, hi, fun H4 b vs' css s4 _ hb tb rb lb => q' _ H4 s4 ⟨b, vs', css, rfl, hb, tb, rb, lb⟩⟩)) H' (Same.refl _) _ fun v H2 e2 ⟨b, vs', css, ev, hb, tb, rb, lb⟩ => ?_
      refine ⟨b, ev, ⟨_, SqL.of hb⟩, fun D hD => ?_⟩
      have hf2 := e2 _ _ hf
      have tf2 := tf.gw (Gw.of e2)
      refine lc_gen (walk_list (xs := vs')) (by rw [tb.1]; omega) (fun k acc H' => Same H2 H' ∧ PTups H' acc (css.take k)) (fun k acc H' m => SqL.of (m.1 _ _ hb)) (fun k acc H' a' zs m hDa => ⟨Same.mut m.1 hD, m.2.gw (Gw.upd hDa)⟩) ⟨Same.new hD, PTups.nil⟩ (fun k acc x H' H'' P2 P3 hk hDa hal m y k2 k3 => ?_) (fun acc H' hDa hal m => ?_)
      · obtain ⟨rfl, hx⟩ := y
        obtain ⟨b', c, rfl, hc, hbc⟩ := tb.of_x hx
        have hbc' := m.1 _ _ hbc
        refine ⟨rfl, iteT (B := P3 H'') ?_⟩
        refine (ev_lenT (xs := c.map V.int) (ev_var rfl) hbc') H'' (Ex.refl _) _ fun H4 e4 => ⟨.ref b', rfl, by rw [sizeLine_eq]; show 2 ≤ 16777216; omega, fun T hT => ?_⟩
        refine k2 _ _ ((Same.trans e4 (Same.new hT)) _ _ hDa) ⟨Same.trans m.1 (Same.trans e4 (Same.new hT)), ?_⟩
        rw [List.take_add_one, hc]
        refine (m.2.gw (Gw.of (Same.trans e4 (Same.new hT)))).append (PTups.one (b := b') ?_ ((Same.trans e4 (Same.new hT)) _ _ hbc'))
        rw [upd_same, List.length_map]
      · obtain ⟨s3, t3⟩ := m
        rw [tb.1, List.take_length] at t3
        refine ⟨p, D, fv, acc, rfl, rfl, s3 _ _ hf2, hDa, ?_, ?_⟩
        · rw [sizeLine_eq, tf.1]
          have := t3.1
          omega
        · have gw4 : Gw H' (upd H' p (.lst (fv ++ acc))) := Gw.upd (s3 _ _ hf2)
          refine ⟨_, fv ++ acc, fc ++ css, rfl, Same.mut (Same.trans (Same.trans sm e2) s3) hp, upd_same, ((tf2.gw (Gw.of s3)).gw gw4).append (t3.gw gw4), fun c hc => ?_, by rw [List.length_append]; omega⟩
          rcases List.mem_append.mp hc with h | h
          · exact rf c h
          · exact rb c h
    · obtain ⟨y2, fv, fc, rfl, sm, hf, tf, rf, lf⟩ := hP
      -- return min(found)[1] if found else None
      refine s_retIf (et_truL (ev_var rfl) hf) (fun hb H2 e2 => ?_) (fun _ H2 e2 => q H2 .non (Same.trans sm e2) (.inl rfl))
      cases fc with
      | nil =>
        have : fv = [] := by
          have := tf.1
          cases fv with
          | nil => rfl
          | cons x xs => simp at this
        subst this
        cases hb
      | cons c fc =>
        have tf2 := tf.gw (Gw.of e2)
        refine ⟨.ref p, rfl, p, fv, pD c, fc.map pD, rfl, SqL.of (e2 _ _ hf), tf2.dp, ⟨fun x hx y hy => ?_, fun x hx => ?_⟩, ?_, fun k u hu => ?_⟩
        · obtain ⟨c1, _, rfl⟩ := List.mem_map.mp (show x ∈ (c :: fc).map pD from hx)
          obtain ⟨c2, _, rfl⟩ := List.mem_map.mp (show y ∈ (c :: fc).map pD from hy)
          exact alike_pD c1 c2
        · obtain ⟨c1, _, rfl⟩ := List.mem_map.mp (show x ∈ (c :: fc).map pD from hx)
          intro z
          cases z
        · have h1 := depth_pD (c :: fc)
          have h2 := hr.un
          have h3 : (A.deeper (envOfC (Str.ofString "told_cycle") (defScope s_told_cycle) s.heap.objs.size f cdv)).units + 1 + PyData.depthAll ((c :: fc).map pD) < cLine := by omega
          exact h3
        · have hkl : k < (c :: fc).length := by rw [← tf.1]; exact (List.getElem?_eq_some_iff.mp hu).1
          obtain ⟨t, b, rfl, ht, hb⟩ := tf2.2 k u _ hu (List.getElem?_eq_getElem hkl)
          refine ⟨t, _, 1, .ref b, rfl, rfl, SqT.of ht, rfl, ?_⟩
          exact q H2 _ (Same.trans sm e2) (.inr ⟨b, _, rfl, hb, rf _ (List.getElem_mem hkl)⟩)
theorem r_split {σ : L2.St} {H : Hp} {ts : TA} {E : XK} {g : V} {G : Gr} (h : EvA ts σ H [g]) (hG : GraphAt H g G) (W : WG G) :
    EvR (tCall (sp_split_variable K) [] E ts) σ H fun u _ => u = .non ∨ ∃ v : Int, u = .int v ∧ ∃ ns ∈ G.scopes, v ∈ ns :=
  r_call h fun H1 e Q q E => ⟨g, G, rfl, hG.gw (Gw.of e), W, fun H' u s hu => q _ H' s (hu.imp (fun z => z.1) fun z => z)⟩
theorem c_defect_of (T : Tx K mg) (B : Bl mg) (C_hanging : FnC P w K mg base 2 "hanging" ["graph", "node", "among"] (sp_hanging K)) (C_having : FnC P w K mg base 1 "having" ["graph", "variable"] (sp_having K)) (C_split_variable : FnC P w K mg base 3 "split_variable" ["graph"] (sp_split_variable K)) (C_told_cycle : FnC P w K mg base 3 "told_cycle" ["graph"] (sp_told_cycle K)) : FnC P w K mg base 4 "defect_of" ["graph"] (sp_defect_of K) := by
  obtain ⟨f, fd, gf, F⟩ := T.defect_of
  refine ⟨f, fd, gf, F.kp, F.binds (ps := ["graph"]) fun _ _ _ _ _ _ us hl => match us, hl with | [_], _ => rfl, ?_⟩
  refine F.ok sc_defect_of (fun vs H Q E h => ?_) (fun cdv A outer s H vs Q E hr h => ?_)
  · obtain ⟨g, G, rfl, _⟩ := h
    rfl
  · obtain ⟨g, G, rfl, hG, W, q⟩ := h
    obtain ⟨a, sc, ed, ss, es, rfl, h1, h2, h3, h4, h5⟩ := id hG
    have hm := W.many
    refine ⟨_, (pss_cons (ps_set (i := 1) sc_defect_of.nd rfl (.inl rfl) (pe_callC C_told_cycle (hr.mono (by decide)) (by rfl) (pa_cons (pv 0) pa_nil)))
      (pss_cons (ps_if (pt_cmpR op_notN (pv 1) pe_non (nomark _)) (pss_one (ps_ret (pe_tup (pa_cons pe_str (pa_cons (pv 1) pa_nil))))) pss_nil)
      (pss_cons (ps_set (i := 2) sc_defect_of.nd rfl (.inl rfl) (pe_tupRg rfl (by rfl) B.tuple_ (prg_1 (by rfl) B.range_ (pe_callB (k_len (K := K) rfl) (by rfl) B.len_ (by decide +kernel) (pa_cons (pe_ix (k_ixT (K := K) rfl) (pv 0) pe_int (fun _ _ => rfl)) pa_nil)))))
      (pss_cons (ps_set (i := 3) sc_defect_of.nd rfl (.inl rfl) (pe_callC C_hanging (hr.mono (by decide)) (by rfl) (pa_cons (pv 0) (pa_cons pe_int (pa_cons (pv 2) pa_nil)))))
      (pss_cons (ps_if (pt_cmpR (k_neD (K := K) rfl hr.units) (pv 3) (pv 2) (nomark _)) (pss_one (ps_ret (pe_tup (pa_cons pe_str (pa_cons (pv 3) pa_nil))))) pss_nil)
      (pss_cons (ps_set (i := 4) sc_defect_of.nd rfl (.inl rfl) (pe_callC C_split_variable (hr.mono (by decide)) (by rfl) (pa_cons (pv 0) pa_nil)))
      (pss_cons (ps_if (pt_cmpR op_isN (pv 4) pe_non (nomark _)) (pss_one (ps_ret pe_non)) pss_nil)
      (pss_cons (ps_set (i := 5) sc_defect_of.nd rfl (.inl rfl) (pe_callC C_having (hr.mono (by decide)) (by rfl) (pa_cons (pv 0) (pa_cons (pv 4) pa_nil))))
      (pss_one (ps_ret (pe_tup (pa_cons pe_str (pa_cons (pv 4) (pa_cons (pe_callC C_hanging (hr.mono (by decide)) (by rfl) (pa_cons (pv 0) (pa_cons (pe_ix (k_ixT (K := K) rfl) (pv 5) pe_int (fun _ _ => rfl)) (pa_cons (pv 5) pa_nil)))) pa_nil)))))))))))))), ?_⟩
    -- cycle = told_cycle(graph)
    refine r_asg (r_call (P := fun u H2 => u = .non ∨ ∃ (a : Addr) (c : List Int), u = .ref a ∧ H2 a = some (.tup (c.map V.int)) ∧ Row G c) (vs := [.ref a]) (ea_cons (ev_var rfl) ea_nil) fun H1 e1 Q' q' E => ⟨.ref a, G, rfl, hG.gw (Gw.of e1), W, fun H2 u s2 hu => q' u H2 s2 hu⟩) fun u H1 e1 hu => ?_
    refine q_when (b := !decide (u = .non)) (et_test (ev_notN (ev_var rfl))) (fun hb H2 e2 => ?_) (fun hb H2 e2 => ?_)
    · rcases hu with rfl | ⟨b, c, rfl, hb', rc⟩
      · cases hb
      · refine s_retU (eu_tup (ea_cons ev_c (ea_cons (ev_var rfl) ea_nil)) (by show 2 ≤ 100000; omega)) fun p H3 hp e3 hp3 => ?_
        exact q H3 _ (Same.trans (Same.trans e1 e2) e3) (.inr ⟨p, _, _, rfl, hp3, fun _ => ⟨b, c, rfl, e3 _ _ (e2 _ _ hb'), rc⟩⟩)
    -- nodes = tuple(range(len(graph[1])))
    have s2 : Same H H2 := Same.trans e1 e2
    refine q_asgU (xs := (rng G.scopes.length).map V.int) (ev_tupRg (n := G.scopes.length) (ev_is (ev_lenT (ev_ixT (ev_var rfl) (s2 _ _ h1) ev_c rfl) (s2 _ _ h2)) (by rw [h4.1])) (by omega)) fun p H3 hp e3 hp3 => ?_
    have s3 : Same H H3 := Same.trans s2 e3
    -- part = hanging(graph, 0, nodes)
    refine r_asg (r_hang (i := 0) (s := .ref p) (ea_cons (ev_var rfl) (ea_cons ev_c (ea_cons (ev_var rfl) ea_nil))) (hG.gw (Gw.of s3)) W (SqI.tup hp3) (by rw [rng_len]; omega)) fun v H4 e4 ⟨b, r, found, ev, hb4, pm, pw, hh⟩ => ?_
    subst ev
    have s4 : Same H H4 := Same.trans s3 e4
    refine q_when (b := !decide (r = rng G.scopes.length)) (et_test (ev_op (ev_var rfl) (ev_var rfl) fun H5 e5 Q' q' => neT_ask (e5 _ _ hb4) (e5 _ _ (e4 _ _ hp3)) (q' H5 (Ex.refl _)))) (fun _ H5 e5 => ?_) (fun _ H5 e5 => ?_)
    · refine s_retU (eu_tup (ea_cons ev_c (ea_cons (ev_var rfl) ea_nil)) (by show 2 ≤ 100000; omega)) fun t H6 ht e6 ht6 => ?_
      exact q H6 _ (Same.trans (Same.trans s4 e5) e6) (.inr ⟨t, _, _, rfl, ht6, fun z => absurd z (by decide +kernel)⟩)
    -- variable = split_variable(graph)
    have s5 : Same H H5 := Same.trans s4 e5
    refine r_asg (r_split (ea_cons (ev_var rfl) ea_nil) (hG.gw (Gw.of s5)) W) fun u2 H6 e6 hu2 => ?_
    have s6 : Same H H6 := Same.trans s5 e6
    refine q_when (b := decide (u2 = .non)) (et_test (ev_isN (ev_var rfl))) (fun _ H7 e7 => ?_) (fun hb H7 e7 => ?_)
    · exact s_ret ev_c fun H8 e8 => q H8 _ (Same.trans (Same.trans s6 e7) e8) (.inl rfl)
    rcases hu2 with rfl | ⟨v, rfl, hv⟩
    · cases hb
    have s7 : Same H H7 := Same.trans s6 e7
    refine r_asg (r_having (ea_cons (ev_var rfl) (ea_cons (ev_var rfl) ea_nil)) (hG.gw (Gw.of s7)) W) fun u3 H8 e8 ⟨b8, eb8, hb8⟩ => ?_
    subst eb8
    obtain ⟨x0, rest, ex⟩ := hav_ne hv
    have hl5 := hav_len G v
    have s8 : Same H H8 := Same.trans s7 e8
    refine ⟨.int v, rfl, r_hang (i := x0) (s := .ref b8) (ea_cons (ev_var rfl) (ea_cons (ev_ixT (ev_var rfl) hb8 ev_c (atI_ints (j := 0) rfl (by rw [ex]; rfl))) (ea_cons (ev_var rfl) ea_nil))) (hG.gw (Gw.of s8)) W (SqI.tup hb8) (by omega) H8 (Ex.refl _) _ fun u9 H9 e9 _ => ⟨by rw [sizeLine_eq]; show 3 ≤ 16777216; omega, fun t ht => ?_⟩⟩
    exact q _ _ (Same.trans (Same.trans s8 e9) (Same.new ht)) (.inr ⟨t, _, _, rfl, upd_same, fun z => absurd z (by decide +kernel)⟩)
theorem c_defect (T : Tx K mg) (B : Bl mg) (C_check_graph : FnC P w K mg base 5 "check_graph" ["value"] (sp_check_graph K)) (C_defect_of : FnC P w K mg base 4 "defect_of" ["graph"] (sp_defect_of K)) : FnC P w K mg base 6 "defect" ["graph"] (sp_defect K) := by
  obtain ⟨f, fd, gf, F⟩ := T.defect
  refine ⟨f, fd, gf, F.kp, F.binds (ps := ["graph"]) fun _ _ _ _ _ _ us hl => match us, hl with | [_], _ => rfl, ?_⟩
  refine F.ok sc_defect (fun vs H Q E h => ?_) (fun cdv A outer s H vs Q E hr h => ?_)
  · obtain ⟨g, G, rfl, _⟩ := h
    rfl
  · obtain ⟨g, G, rfl, hG, W, q⟩ := h
    refine ⟨_, (pss_cons (ps_expr (pe_callC C_check_graph (hr.mono (by decide)) (by rfl) (pa_cons (pv 0) pa_nil)))
      (pss_one (ps_ret (pe_callC C_defect_of (hr.mono (by decide)) (by rfl) (pa_cons (pv 0) pa_nil))))), ?_⟩
    refine q_drop (v_call (z := .non) (vs := [g]) (ea_cons (ev_var rfl) ea_nil) fun H1 e1 Q' q' E => ⟨g, G, rfl, hG.gw (Gw.of e1), W, q'⟩) fun H1 e1 => ?_
    refine r_ret (r_call (P := fun v H2 => DefT G H2 v) (vs := [g]) (ea_cons (ev_var rfl) ea_nil) fun H2 e2 Q' q' E => ⟨g, G, rfl, hG.gw (Gw.of (Same.trans e1 e2)), W, fun H3 b s3 hb => q' _ H3 s3 hb⟩) fun v H2 e2 hv => ?_
    exact q H2 v (Same.trans e1 e2) hv
end
end Tt

namespace Tt
open PySem PySem.Spec PyProof.Rows L2 TtR Evl
/-! more readings: over data, two clauses, len of a dict comprehension, a pair among the edges -/
theorem k_listOf {X : Cx} {K : PySem.W.Frag} (h : X.K = K) : CallR X (.type "list") (rListS K) := h ▸ call_list_of
theorem IsAll.of_x {H : Hp} : ∀ {vs : List V} {ds : List PyData} {i : Nat} {v : V}, IsAll H vs ds → vs[i]? = some v → ∃ d, ds[i]? = some d ∧ Is H v d
  | _, _, _, _, .nil, h => by simp at h
  | _, _, 0, _, .cons q _, h => by
    have e := Option.some.inj (show some _ = some _ from h)
    subst e
    exact ⟨_, rfl, q⟩
  | _, _, i + 1, _, .cons _ qs, h => IsAll.of_x qs (i := i) (by simpa using h)
section
variable {K : PySem.W.Frag} {σ : L2.St} {H : Hp} {tl te tl1 ta tb : TE} {tt : TT} {vs vs1 : List Nat}
theorem walk_isAll {a : Addr} {xs : List V} {ds : List PyData} {H0 : Hp} (hx : IsAll H0 xs ds) : Walk (Itt K a) ds.length (fun H => SqT K H a xs) (fun i H x H' => H' = H ∧ ∃ d, ds[i]? = some d ∧ Is H0 x d) := by
  have w := walk_tup (K := K) (a := a) (xs := xs)
  rw [hx.len] at w
  refine w.mono (fun _ h => h) fun i H x H' hi h y => ?_
  obtain ⟨e, y⟩ := y
  obtain ⟨d, e1, e2⟩ := hx.of_x y
  exact ⟨e, d, e1, e2⟩
theorem yes_go {A B : Hp → Prop} (h : A H) : tYes σ H fun b H3 => if b = true then A H3 else B H3 := iteT (B := B H) h
/-- over a tuple of data -/
theorem el_isAll {a : Addr} {xs : List V} {ds : List PyData} {j : Nat} {p : PyData → Bool} {q : PyData → V} (h : Ev tl σ H (.ref a)) (ha : H a = some (.tup xs)) (hx : IsAll H xs ds) (hz : ds.length ≤ 10000) (hw : ∀ x, wipe ((wipe σ vs).set j (some x)) vs = wipe σ vs)
    (ht : ∀ d ∈ ds, ∀ v, Is H v d → EvT tt ((wipe σ vs).set j (some v)) H (p d)) (he : ∀ d ∈ ds, ∀ v, Is H v d → p d = true → Ev te ((wipe σ vs).set j (some v)) H (q d)) : EvL (tLc (iTup K tl) (gName j) tt te vs) σ H ((ds.filter p).map q) := fun H1 e Q k =>
  h H1 e _ fun H2 e2 => ⟨a, rfl, ⟨_, SqT.of (e2 _ _ (e _ _ ha))⟩, lc_fm ds (walk_isAll hx) p q hz (fun H' s => SqT.of (s _ _ (e2 _ _ (e _ _ ha)))) (fun i z x H' H'' P2 P3 hz s1 y k2 k3 => by
      obtain ⟨rfl, z', hz', hi⟩ := y
      obtain rfl : z' = z := Option.some.inj (hz'.symm.trans hz)
      have hm : z' ∈ ds := List.mem_of_getElem? hz
      have hH : Same H H'' := (Same.trans e e2).trans s1
      refine ⟨hw _, ht z' hm x hi H'' hH _ fun H3 s3 => ?_⟩
      cases hp : p z' with
      | true => exact iteT (he z' hm x hi hp H3 (hH.trans s3) _ fun H4 s4 => k2 _ (Same.trans s3 s4) hp)
      | false => exact iteF (k3 _ s3 hp)) (fun D H' hD s e3 => k D H' (fresh_back e2 hD) (Same.trans e2 s) e3)⟩
/-- two clauses: over a tuple of ints, then a list of ints -/
theorem el_two {a b : Addr} {ns ms : List Int} {i j : Nat} {q : Int → Int → V} (h : Ev tl σ H (.ref a)) (ha : H a = some (.tup (ns.map V.int))) (h1 : ∀ x, Ev tl1 ((wipe σ vs).set i (some (.int x))) H (.ref b)) (hb : H b = some (.lst (ms.map V.int))) (hz : ns.length * ms.length ≤ 10000)
    (hw : ∀ x, wipe ((wipe σ vs).set i (some x)) vs = wipe σ vs) (hw1 : ∀ x y, wipe ((wipe ((wipe σ vs).set i (some x)) vs1).set j (some y)) vs1 = wipe ((wipe σ vs).set i (some x)) vs1)
    (he : ∀ x ∈ ns, ∀ y ∈ ms, Ev te ((wipe ((wipe σ vs).set i (some (.int x))) vs1).set j (some (.int y))) H (q x y)) :
    EvL (tLc2 (iTup K tl) (gName i) tYes (iList K tl1) (gName j) tYes te vs vs1) σ H (ns.flatMap fun x => ms.map (q x)) := fun H1 e Q k =>
  h H1 e _ fun H2 e2 => ⟨a, rfl, ⟨_, SqT.of (e2 _ _ (e _ _ ha))⟩, fun D hD => by
    have sH : Same H H2 := Same.trans e e2
    have ha2 := sH _ _ ha
    have hb2 := sH _ _ hb
    have w := walk_tupI (K := K) (a := a) (ns := ns)
    have w1 := walk_lstI (K := K) (a := b) (ns := ms)
    have lenF : ∀ l : List Int, (l.flatMap fun x => ms.map (q x)).length = l.length * ms.length := fun l => by
      induction l with
      | nil => simp
      | cons x l ih => rw [List.flatMap_cons, List.length_append, ih, List.length_map, List.length_cons, Nat.succ_mul, Nat.add_comm]
    refine ⟨fun m k H => k = ns.length - m ∧ m ≤ ns.length ∧ Same H2 H ∧ H D = some (.lst ((ns.take m).flatMap fun x => ms.map (q x))), ⟨ns.length, by simp, Nat.zero_le _, Same.new hD, upd_same⟩, ?_⟩
    rintro m n' H' ⟨rfl, hm, s1, hl⟩
    have g1 : SqT K H' a (ns.map V.int) := SqT.of (s1 _ _ ha2)
    by_cases hlt : m < ns.length
    · refine .inr ⟨w.goes m H' hlt g1, fun H => m + 1 ≤ ns.length ∧ Same H2 H ∧ H D = some (.lst ((ns.take (m + 1)).flatMap fun x => ms.map (q x))), fun H3 c => ⟨ns.length - (m + 1), by omega, rfl, c.1, c.2.1, c.2.2⟩, fun x H3 y => ?_⟩
      obtain ⟨rfl, z, hz1, rfl⟩ := w.yields m H' x H3 hlt g1 y
      have hzm : z ∈ ns := List.mem_of_getElem? hz1
      refine ⟨hw _, yes_go ?_⟩
      refine h1 z H3 (Same.trans sH s1) _ fun H4 e4 => ⟨b, rfl, ⟨_, SqL.of ((Same.trans s1 e4) _ _ hb2)⟩, fun j' k' H => k' = ms.length - j' ∧ j' ≤ ms.length ∧ Same H2 H ∧ H D = some (.lst (((ns.take m).flatMap fun x => ms.map (q x)) ++ (ms.take j').map (q z))), ⟨ms.length, by simp, Nat.zero_le _, Same.trans s1 e4, by rw [e4 _ _ hl]; simp⟩, ?_⟩
      rintro j' k' H5 ⟨rfl, hj, s5, hl5⟩
      have g5 : SqL K H5 b (ms.map V.int) := SqL.of (s5 _ _ hb2)
      have step : (ns.take (m + 1)).flatMap (fun x => ms.map (q x)) = ((ns.take m).flatMap fun x => ms.map (q x)) ++ ms.map (q z) := by
        rw [List.take_add_one, hz1, List.flatMap_append]
        simp
      by_cases hj2 : j' < ms.length
      · refine .inr ⟨w1.goes j' H5 hj2 g5, fun H => j' + 1 ≤ ms.length ∧ Same H2 H ∧ H D = some (.lst (((ns.take m).flatMap fun x => ms.map (q x)) ++ (ms.take (j' + 1)).map (q z))), fun H6 c => ⟨ms.length - (j' + 1), by omega, rfl, c.1, c.2.1, c.2.2⟩, fun x5 H6 y5 => ?_⟩
        obtain ⟨rfl, z5, hz5, rfl⟩ := w1.yields j' H5 x5 H6 hj2 g5 y5
        refine ⟨hw1 _ _, yes_go ?_⟩
        refine he z hzm z5 (List.mem_of_getElem? hz5) H6 (Same.trans sH s5) _ fun H7 e7 => ⟨_, e7 _ _ hl5, ?_, by omega, Same.mut (Same.trans s5 e7) hD, ?_⟩
        · rw [List.length_append, lenF, List.length_take, List.length_map, List.length_take, sizeLine_eq]
          have h3 : min m ns.length * ms.length + ms.length ≤ ns.length * ms.length := by
            have := Nat.mul_le_mul_right ms.length (show min m ns.length + 1 ≤ ns.length by omega)
            rw [Nat.succ_mul] at this
            exact this
          omega
        · rw [upd_same, List.take_add_one, hz5, List.append_assoc, List.map_append]
          rfl
      · have ej : j' = ms.length := by omega
        subst ej
        refine .inl ⟨w1.stops H5 g5, by omega, s5, ?_⟩
        rw [hl5, step, List.take_length]
    · have em : m = ns.length := by omega
      subst em
      refine .inl ⟨w.stops H' g1, ?_⟩
      rw [List.take_length] at hl
      exact k D H' (fresh_back e2 hD) (Same.trans e2 s1) hl⟩
/-- list(t) -/
theorem el_listT {a : Addr} {xs : List V} (ha : Ev ta σ H (.ref a)) (h : H a = some (.tup xs)) : EvL (tCB (rListS K) (tCons ta tNil)) σ H xs := fun H1 e Q q =>
  ha H1 e _ fun H2 e2 => ⟨a, xs, rfl, .inr (SqT.of (e2 _ _ (e _ _ h))), fun l hl => q l _ (fresh_back e2 hl) (Same.trans e2 (Same.new hl)) upd_same⟩
theorem ev_anyB {bs : List Bool} (h : EvL ta σ H (bs.map V.bl)) : Ev (tCB (rAny K) (tCons ta tNil)) σ H (.bl (bs.any id)) := fun H1 e Q q =>
  h H1 e _ fun p H2 _ e2 hp => ⟨p, bs, rfl, SqL.of hp, q H2 e2⟩
/-- len({x: True for x in t}) -/
theorem ev_lenDc {a : Addr} {ns : List Int} {j : Nat} (h : Ev tl σ H (.ref a)) (ha : H a = some (.tup (ns.map V.int))) (hz : ns.length ≤ 10000) (hj : ∀ x, wipe ((wipe σ vs).set j (some x)) vs = wipe σ vs) (hv : ∀ x, ((wipe σ vs).set j (some x))[j]? = some (some x)) :
    EvR (tCB (fun xs H Q => ∃ a kvs, xs = [V.ref a] ∧ H a = some (.dK kvs) ∧ Q (.int kvs.length) H) (tCons (tDc (iTup K tl) (gName j) tYes (tVar j) (tC (.bl true)) vs) tNil)) σ H fun v _ => ∃ c : Nat, v = .int (c : Int) ∧ (c = ns.length ↔ ns.Nodup) := fun H1 e Q q =>
  h H1 e _ fun H2 e2 => ⟨a, rfl, ⟨_, SqT.of (e2 _ _ (e _ _ ha))⟩, fun D hD => by
    have ha2 := e2 _ _ (e _ _ ha)
    have s0 : Same H2 (upd H2 D (.dK [])) := Same.new hD
    refine dc_tup (xs := ns.map V.int) (fun i H' => Same H2 H' ∧ ∃ (kvs : List (Key × V)) (ks : List Int), H' D = some (.dK kvs) ∧ kvs.map (·.1) = ks.map Sum.inl ∧ ks.length ≤ i ∧ (ks.length = i ↔ (ns.take i).Nodup) ∧ ∀ v, v ∈ ks ↔ v ∈ ns.take i) ⟨s0, [], [], upd_same, rfl, Nat.le_refl _, by simp, by simp⟩ (fun i H' _ c => SqT.of (c.1 _ _ ha2)) (fun i x H' hx c => ?_) (fun H' c => ?_)
    · obtain ⟨s1, kvs, ks, hk, ek, lk, nk, mk⟩ := c
      rw [List.getElem?_map] at hx
      cases hz1 : ns[i]? with
      | none => rw [hz1] at hx; cases hx
      | some z =>
        rw [hz1] at hx
        obtain rfl : V.int z = x := Option.some.inj hx
        have hi : i < ns.length := (List.getElem?_eq_some_iff.mp hz1).1
        have hkl : kvs.length = ks.length := by
          have := congrArg List.length ek
          rw [List.length_map, List.length_map] at this
          exact this
        refine ⟨hj _, yes_go ?_⟩
        refine ⟨.int z, hv _, kvs, .inl z, rfl, hk, by rw [sizeLine_eq]; omega, Same.mut s1 hD, _, _, upd_same, keys_put ek, ?_, ?_, fun v => ?_⟩
        · split
          · omega
          · rw [List.length_append, List.length_singleton]; omega
        · rw [List.take_add_one, hz1]
          by_cases hzk : z ∈ ks
          · rw [if_pos hzk]
            constructor
            · intro h; omega
            · intro h
              exfalso
              have := (List.nodup_append.mp h).2.2 z ((mk z).mp hzk) z (by simp)
              exact this rfl
          · rw [if_neg hzk, List.length_append, List.length_singleton]
            constructor
            · intro h
              refine List.nodup_append.mpr ⟨nk.mp (by omega), by simp, fun x0 hx0 y0 hy0 exy => ?_⟩
              have e0 : y0 = z := by simpa using hy0
              exact hzk ((mk z).mpr (e0 ▸ exy ▸ hx0))
            · intro h
              have := nk.mpr (List.nodup_append.mp h).1
              omega
        · rw [List.take_add_one, hz1]
          have e1 : v ∈ (if z ∈ ks then ks else ks ++ [z]) ↔ v ∈ ks ∨ v = z := by
            split
            · rename_i hzk
              constructor
              · exact fun h => .inl h
              · rintro (h | h)
                · exact h
                · rw [h]; exact hzk
            · simp
          rw [e1, mk v]
          simp
    · obtain ⟨s1, kvs, ks, hk, ek, lk, nk, mk⟩ := c
      rw [List.length_map] at nk lk
      rw [List.take_length] at nk
      have hkl : kvs.length = ks.length := by
        have := congrArg List.length ek
        rw [List.length_map, List.length_map] at this
        exact this
      exact ⟨D, kvs, rfl, hk, q _ H' (Same.trans e2 s1) ⟨ks.length, by rw [hkl], nk⟩⟩⟩
def prD (p : Int × Int) : PyData := .tuple [.int p.1, .int p.2]
theorem Tups.dp {H : Hp} : ∀ {xs : List V} {l : List (Int × Int)}, Tups H xs (l.map pr) → DpAll K H xs (l.map prD)
  | [], [], _ => .nil
  | [], c :: css, h => by have := h.1; simp at this
  | x :: xs, [], h => by have := h.1; simp at this
  | x :: xs, c :: css, h => by
    obtain ⟨a, e, q⟩ := h.2 0 x (pr c) rfl rfl
    subst e
    have l := h.1
    rw [List.length_map, List.length_cons, List.length_cons] at l
    exact .cons (.tup (SqT.of q) (.cons (.int _) (.cons (.int _) .nil))) (Tups.dp ⟨by rw [List.length_map]; omega, fun i v ns h1 h2 => h.2 (i + 1) v ns h1 h2⟩)
theorem lay_prs : ∀ xs : List (Int × Int), PyData.canLayAll0 (xs.map prD) = true ∧ PyData.depthAll (xs.map prD) ≤ 2
  | [] => by simp [PyData.canLayAll0, PyData.depthAll]
  | x :: xs => by
    have ih := lay_prs xs
    have h1 : PyData.canLay0 (prD x) = true := by simp [prD, PyData.canLay0, PyData.canLayAll0]
    have h2 : PyData.depth (prD x) ≤ 2 := by simp [prD, PyData.depth, PyData.depthAll]
    simp only [List.map_cons, PyData.canLayAll0, PyData.depthAll, ih.1, h1]
    exact ⟨rfl, by omega⟩
theorem shaped_prs (xs : List (Int × Int)) : SeqAt.shaped (.tuple (xs.map prD)) = true := by
  have h := lay_prs xs
  show (PyData.canLay0 (.tuple (xs.map prD)) && decide (PyData.depth (.tuple (xs.map prD)) ≤ 64)) = true
  simp only [PyData.canLay0, PyData.depth, h.1, Bool.true_and, decide_eq_true_eq]
  have := h.2
  exact decide_eq_true (by omega)
theorem any_prs (p : Int × Int) : ∀ xs : List (Int × Int), ((xs.map prD).any fun z => PyData.eqv z (prD p)) = decide (p ∈ xs)
  | [] => by simp
  | x :: xs => by
    have ih := any_prs p xs
    have e : PyData.eqv (prD x) (prD p) = decide (x = p) := by
      obtain ⟨a, b⟩ := x
      obtain ⟨c, d⟩ := p
      simp only [prD, PyData.eqv, PyData.eqvAll, Prod.mk.injEq, Bool.and_true]
      by_cases h1 : a = c
      · subst h1
        by_cases h2 : b = d
        · subst h2; simp
        · simp [h2]
      · simp [h1]
    rw [List.map_cons, List.any_cons, e, ih]
    by_cases h1 : x = p
    · subst h1; simp
    · have h2 : p ≠ x := fun q => h1 q.symm
      simp [h1, h2]
def mn (a b : Int) : Int := if b < a then b else a
def mx (a b : Int) : Int := if b > a then b else a
end
end Tt

namespace Tt
open PySem PySem.Spec PyProof.Rows L2 TtR Evl
/-! what the judges answer, over data -/
def intOf : PyData → Int
  | .int i => i
  | _ => 0
def nodesOf : PyData → List Int
  | .tuple ds => ds.map intOf
  | _ => []
def dl : PyData → Nat
  | .tuple ds => ds.length
  | _ => 0
def areN (n : Nat) : PyData → Bool
  | .tuple ds => !ds.isEmpty && ds.all (isNodeD n) && decide ((ds.map intOf).Nodup)
  | _ => false
theorem areN_tup (n : Nat) (ds : List PyData) : areN n (.tuple ds) = (!ds.isEmpty && ds.all (isNodeD n) && decide ((ds.map intOf).Nodup)) := rfl
def outOf (ns as : List Int) : List Int := as.filter fun x => !decide (x ∈ ns)
def touch (G : Gr) (ns os : List Int) : Bool := ns.any fun a => os.any fun b => decide ((mn a b, mx a b) ∈ G.edges)
def partN (G : Gr) (ns as : List Int) : Bool := decide (ns.Pairwise (· ≤ ·)) && (ns.all (fun x => decide (x ∈ as)) && (decide (0 < (outOf ns as).length) && !touch G ns (outOf ns as)))
def cycN (G : Gr) (ns : List Int) : Bool := decide (3 ≤ ns.length) && (List.range ns.length).all fun k => decide (ns.getD (if k = 0 then ns.length - 1 else k - 1) 0 ∈ nbs G (ns.getD k 0))
def partM (G : Gr) (d : PyData) (as : List Int) : Bool := areN G.scopes.length d && partN G (nodesOf d) as
def cycM (G : Gr) (d : PyData) : Bool := areN G.scopes.length d && cycN G (nodesOf d)
def isDefectM (G : Gr) : PyData → Bool
  | .tuple [.str s, x] => if s = "cycle" then cycM G x else if s = "apart" then partM G x (rng G.scopes.length) else false
  | .tuple [.str s, .int v, y] => if s = "cycle" then false else if s = "apart" then false else if s = "split" then partM G y (hav G v) else false
  | _ => false
theorem node_ints {n : Nat} : ∀ {ds : List PyData}, ds.all (isNodeD n) = true → ds = (ds.map intOf).map PyData.int
  | [], _ => rfl
  | d :: ds, h => by
    rw [List.all_cons, Bool.and_eq_true] at h
    rw [List.map_cons, List.map_cons, ← node_ints h.2]
    cases d with
    | int i => rfl
    | _ => exact absurd h.1 (by simp [isNodeD])
theorem node_in {n : Nat} : ∀ {ds : List PyData}, ds.all (isNodeD n) = true → ∀ x ∈ ds.map intOf, 0 ≤ x ∧ x < (n : Int)
  | [], _, x, hx => by simp at hx
  | d :: ds, h, x, hx => by
    rw [List.all_cons, Bool.and_eq_true] at h
    rw [List.map_cons, List.mem_cons] at hx
    rcases hx with rfl | hx
    · cases d with
      | int i => exact of_decide_eq_true h.1
      | _ => exact absurd h.1 (by simp [isNodeD])
    · exact node_in h.2 x hx
def sp_are_nodes (K : PySem.W.Frag) : Sp := fun vs H Q _ => ∃ (v g : V) (d : PyData) (G : Gr), vs = [v, g] ∧ Is H v d ∧ dl d ≤ 100 ∧ GraphAt H g G ∧ ∀ H', Same H H' → Q (.bl (areN G.scopes.length d)) H'
def sp_is_part (K : PySem.W.Frag) : Sp := fun vs H Q _ => ∃ (v g : V) (b : Addr) (d : PyData) (as : List Int) (G : Gr), vs = [v, g, .ref b] ∧ Is H v d ∧ dl d ≤ 100 ∧ GraphAt H g G ∧ WG G ∧ H b = some (.tup (as.map V.int)) ∧ as.length ≤ 100 ∧ ∀ H', Same H H' → Q (.bl (partM G d as)) H'
def sp_is_cycle (K : PySem.W.Frag) : Sp := fun vs H Q _ => ∃ (v g : V) (d : PyData) (G : Gr), vs = [v, g] ∧ Is H v d ∧ dl d ≤ 100 ∧ GraphAt H g G ∧ WG G ∧ ∀ H', Same H H' → Q (.bl (cycM G d)) H'
/-- the members of a told value are short -/
def Low : PyData → Prop
  | .tuple ds => ∀ x ∈ ds, dl x ≤ 100
  | _ => True
def sp_is_defect (K : PySem.W.Frag) : Sp := fun vs H Q _ => ∃ (g v : V) (d : PyData) (G : Gr), vs = [g, v] ∧ GraphAt H g G ∧ WG G ∧ Is H v d ∧ Low d ∧ ∀ H', Same H H' → Q (.bl (isDefectM G d)) H'
def sp_accepts_defect (K : PySem.W.Frag) : Sp := sp_is_defect K
/-- nodes stand as ints -/
theorem areN_at {n : Nat} {H : Hp} {v : V} {d : PyData} (h : Is H v d) (hn : areN n d = true) : ∃ a, v = .ref a ∧ H a = some (.tup ((nodesOf d).map V.int)) ∧ nodesOf d ≠ [] ∧ (nodesOf d).Nodup ∧ (nodesOf d).length = dl d ∧ ∀ x ∈ nodesOf d, 0 ≤ x ∧ x < (n : Int) := by
  cases h with
  | tup h1 h2 =>
    rename_i a xs ds
    rw [areN_tup] at hn
    rw [Bool.and_eq_true, Bool.and_eq_true] at hn
    obtain ⟨⟨n1, n2⟩, n3⟩ := hn
    refine ⟨a, rfl, ?_, ?_, of_decide_eq_true n3, by show (ds.map intOf).length = ds.length; rw [List.length_map], node_in n2⟩
    · rw [h1, Is.ints_of h2 (node_ints n2)]
      rfl
    · intro z
      have z' : ds.map intOf = [] := z
      rw [List.map_eq_nil_iff] at z'
      rw [z'] at n1
      cases n1
  | _ => cases hn
section
variable {P : Program} {w : World} {K : PySem.W.Frag} {mg : Str → Option Value} {base : Heap}
theorem c_are_nodes (T : Tx K mg) (B : Bl mg) (C_is_node : FnC P w K mg base 1 "is_node" ["value", "graph"] (sp_is_node K)) : FnC P w K mg base 2 "are_nodes" ["value", "graph"] (sp_are_nodes K) := by
  obtain ⟨f, fd, gf, F⟩ := T.are_nodes
  refine ⟨f, fd, gf, F.kp, F.binds (ps := ["value", "graph"]) fun _ _ _ _ _ _ us hl => match us, hl with | [_, _], _ => rfl, ?_⟩
  refine F.ok sc_are_nodes (fun vs H Q E h => ?_) (fun cdv A outer s H vs Q E hr h => ?_)
  · obtain ⟨v, g, d, G, rfl, _⟩ := h
    rfl
  · obtain ⟨v, g, d, G, rfl, hd, hl, hG, q⟩ := h
    refine ⟨_, (pss_cons (ps_if (PW.pt (pw_or (pt_not (pt_val (pe_callB (k_isi (K := K) rfl) (by rfl) B.isinstance_ (by decide +kernel) (pa_cons (pv 0) (pa_cons (pe_bltn (v := .ty "tuple") (by rfl) B.tuple_ (by decide +kernel) rfl) pa_nil))))) (pw_or (pt_cmpR op_eq (pe_callB (k_len (K := K) rfl) (by rfl) B.len_ (by decide +kernel) (pa_cons (pv 0) pa_nil)) pe_int (nomark _)) (pw_or1 (pt_not (pt_val (pe_callB (k_all (K := K) rfl rfl) (by rfl) B.all_ (by decide +kernel) (pa_cons (pe_lc (own := [("node", 2)]) rfl sc_are_nodes.nd (kpi_tup (K := K) rfl (pv 0)) (blkOk_by (N := N_are_nodes) (sc := defScope s_are_nodes) (by decide +kernel)) (fun _ _ _ _ _ => (pg_name (i := 2) sc_are_nodes.nd rfl (.inl rfl))) (fun _ _ _ _ _ => pts_nil) (fun _ _ _ _ _ => (pe_callC C_is_node (hr.mono (by decide)) (by rfl) (pa_cons (pv 2) (pa_cons (pv 1) pa_nil))))) pa_nil)))))))) (pss_one (ps_ret pe_bl)) pss_nil)
      (pss_one (ps_ret (pe_cmpR op_eq (pe_callB call_lenD (by rfl) B.len_ (by decide +kernel) (pa_cons (pe_dc (own := [("node", 2)]) rfl sc_are_nodes.nd (kpi_tup (K := K) rfl (pv 0)) (blkOk_by (N := N_are_nodes) (sc := defScope s_are_nodes) (by decide +kernel)) (fun _ _ _ _ _ => (pg_name (i := 2) sc_are_nodes.nd rfl (.inl rfl))) (fun _ _ _ _ _ => pts_nil) (fun _ _ _ _ _ => (pv 2)) (fun _ _ _ _ _ => pe_bl)) pa_nil)) (pe_callB (k_len (K := K) rfl) (by rfl) B.len_ (by decide +kernel) (pa_cons (pv 0) pa_nil)) (nomark _))))), ?_⟩
    by_cases ht : kitB (tyD d) "tuple" = some true
    · cases hd with
      | tup ha hx =>
        rename_i a xs ds
        have hl' : ds.length ≤ 100 := hl
        refine q_when (et_or (et_not (et_B (ev_isTup (ev_var rfl) ha))) fun _ => et_or (et_test (ev_eq (ev_lenT (ev_var rfl) ha) ev_c rfl)) fun _ => et_not (et_B (ev_all (l := ds) (f := isNodeD G.scopes.length) (el_isAll (ev_var rfl) ha hx (by omega) (fun _ => rfl) (fun _ _ _ _ => et_yes) fun d' hd' v' hv' _ => v_call (vs := [v', g]) (ea_cons (ev_var rfl) (ea_cons (ev_var rfl) ea_nil)) fun H2 e2 Q' q' E => ⟨v', g, d', G, rfl, hv'.gw (Gw.of e2), hG.gw (Gw.of e2), q'⟩)))) (fun hb H1 e => ?_) (fun hb H1 e => ?_)
        · refine s_ret (v := .bl false) ev_c fun H2 e2 => ?_
          have er : areN G.scopes.length (.tuple ds) = false := by
            rw [areN_tup]
            cases h1 : ds.all (isNodeD G.scopes.length) with
            | false => rw [Bool.and_false, Bool.false_and]
            | true =>
              rw [h1] at hb
              have h2 : decide (V.int (xs.length : Int) = V.int 0) = true := by simpa using hb
              have h3 : (xs.length : Int) = 0 := V.int.inj (of_decide_eq_true h2)
              rw [hx.len] at h3
              have h4 : ds = [] := List.length_eq_zero_iff.mp (by omega)
              rw [h4]
              rfl
          rw [← er]
          exact q H2 (Same.trans e e2)
        · have hb1 : ds.all (isNodeD G.scopes.length) = true ∧ ds ≠ [] := by
            cases h1 : ds.all (isNodeD G.scopes.length) with
            | false => rw [h1] at hb; simp at hb
            | true =>
              refine ⟨rfl, fun z => ?_⟩
              rw [h1] at hb
              have h2 := hx.len
              rw [z] at h2
              have h3 : xs = [] := List.length_eq_zero_iff.mp h2
              rw [h3] at hb
              cases hb
          have hi := Is.ints_of hx (node_ints hb1.1)
          have ha' : H1 a = some (.tup ((ds.map intOf).map V.int)) := by rw [e _ _ ha, hi]
          refine s_ret (v := .bl (areN G.scopes.length (.tuple ds))) (ev_opRR (P := fun v _ => ∃ c : Nat, v = .int (c : Int) ∧ (c = (ds.map intOf).length ↔ (ds.map intOf).Nodup)) (P' := fun v _ => v = .int (((ds.map intOf).map V.int).length : Int)) (fun _ _ _ _ h => h) (ev_lenDc (ev_var rfl) ha' (by rw [List.length_map]; omega) (fun _ => rfl) (fun _ => rfl)) (EvR.of (ev_lenT (ev_var rfl) ha') fun _ _ => rfl) fun v u H2 e2 ⟨c, ev, hc⟩ eu => ?_) fun H2 e2 => q H2 (Same.trans e e2)
          subst ev eu
          have er : decide (V.int (c : Int) = V.int (((ds.map intOf).map V.int).length : Int)) = areN G.scopes.length (.tuple ds) := by
            have e1 : areN G.scopes.length (.tuple ds) = decide ((ds.map intOf).Nodup) := by
              rw [areN_tup]
              rw [hb1.1, Bool.and_true]
              cases ds with
              | nil => exact absurd rfl hb1.2
              | cons d ds => simp
            rw [e1]
            refine decide_eq_decide.mpr (Iff.trans ⟨fun h => ?_, fun h => ?_⟩ hc)
            · have := V.int.inj h
              rw [List.length_map] at this
              omega
            · rw [List.length_map, h]
          rw [← er]
          exact rv_eq rfl
      | non => exact absurd ht (by decide +kernel)
      | bl b => exact absurd ht (by show ¬ kitB "bool" "tuple" = some true; decide +kernel)
      | int i => exact absurd ht (by show ¬ kitB "int" "tuple" = some true; decide +kernel)
      | str x => exact absurd ht (by show ¬ kitB "str" "tuple" = some true; decide +kernel)
      | lst h => exact absurd ht (by show ¬ kitB "list" "tuple" = some true; decide +kernel)
    · have hk := kit_tup d hd.nodict
      have hf : kitB (tyD d) "tuple" = some false ∧ areN G.scopes.length d = false := by
        rw [hk] at ht ⊢
        cases d with
        | tuple ds => exact absurd rfl ht
        | _ => exact ⟨rfl, rfl⟩
      refine q_when (b := true) (et_or (a := true) (b := true) (et_not (et_B (ev_isi (ev_var rfl) hd hf.1))) (fun z => nomatch z)) (fun _ H1 e => ?_) (fun z => nomatch z)
      refine s_ret (v := .bl false) ev_c fun H2 e2 => ?_
      rw [← hf.2]
      exact q H2 (Same.trans e e2)
/-- is are_nodes(..) asked -/
theorem ev_areN {sp : Sp} {σ : L2.St} {H : Hp} {ts : TA} {E : XK} {v g : V} {d : PyData} {G : Gr} (hs : sp = sp_are_nodes K) (h : EvA ts σ H [v, g]) (hd : Is H v d) (hl : dl d ≤ 100) (hG : GraphAt H g G) : Ev (tCall sp [] E ts) σ H (.bl (areN G.scopes.length d)) := by
  subst hs
  exact v_call h fun H1 e Q q E => ⟨v, g, d, G, rfl, hd.gw (Gw.of e), hl, hG.gw (Gw.of e), q⟩
theorem decide_sorted {ns ms : List Int} (pm : ms.Perm ns) (pw : ms.Pairwise (· ≤ ·)) : decide (ns = ms) = decide (ns.Pairwise (· ≤ ·)) := by
  refine decide_eq_decide.mpr ⟨fun h => by rw [h]; exact pw, fun h => ?_⟩
  exact List.Perm.eq_of_pairwise (fun a b _ _ h1 h2 => Int.le_antisymm h1 h2) h pw pm.symm
theorem c_is_part (T : Tx K mg) (B : Bl mg) (C_are_nodes : FnC P w K mg base 2 "are_nodes" ["value", "graph"] (sp_are_nodes K)) : FnC P w K mg base 3 "is_part" ["value", "graph", "among"] (sp_is_part K) := by
  obtain ⟨f, fd, gf, F⟩ := T.is_part
  refine ⟨f, fd, gf, F.kp, F.binds (ps := ["value", "graph", "among"]) fun _ _ _ _ _ _ us hl => match us, hl with | [_, _, _], _ => rfl, ?_⟩
  refine F.ok sc_is_part (fun vs H Q E h => ?_) (fun cdv A outer s H vs Q E hr h => ?_)
  · obtain ⟨v, g, b, d, as, G, rfl, _⟩ := h
    rfl
  · obtain ⟨v, g, b, d, as, G, rfl, hd, hl, hG, W, hb, hal, q⟩ := h
    obtain ⟨a', sc, ed, ss, es, rfl, h1, h2, h3, h4, h5⟩ := id hG
    refine ⟨_, (pss_cons (ps_if (PW.pt (pw_or (pt_not (pt_val (pe_callC C_are_nodes (hr.mono (by decide)) (by rfl) (pa_cons (pv 0) (pa_cons (pv 1) pa_nil))))) (pw_or (pt_cmpR (k_neD (K := K) rfl hr.units) (pe_callTy (k_listOf (K := K) rfl) (by rfl) B.list_ (by decide +kernel) (pa_cons (pv 0) pa_nil)) (pe_callB cr_sortedTI (by rfl) B.sorted_ (by decide +kernel) (pa_cons (pv 0) pa_nil)) (nomark _)) (pw_or1 (pt_not (pt_val (pe_callB (k_all (K := K) rfl rfl) (by rfl) B.all_ (by decide +kernel) (pa_cons (pe_lc (own := [("node", 4)]) rfl sc_is_part.nd (kpi_tup (K := K) rfl (pv 0)) (blkOk_by (N := N_is_part) (sc := defScope s_is_part) (by decide +kernel)) (fun _ _ _ _ _ => (pg_name (i := 4) sc_is_part.nd rfl (.inl rfl))) (fun _ _ _ _ _ => pts_nil) (fun _ _ _ _ _ => (pe_cmpR (k_in (K := K) rfl) (pv 4) (pv 2) (by rfl)))) pa_nil)))))))) (pss_one (ps_ret pe_bl)) pss_nil)
      (pss_cons (ps_set (i := 3) sc_is_part.nd rfl (.inr rfl) (pe_lc (own := [("node", 4)]) rfl sc_is_part.nd (kpi_tup (K := K) rfl (pv 2)) (blkOk_by (N := N_is_part) (sc := defScope s_is_part) (by decide +kernel)) (fun _ _ _ _ _ => (pg_name (i := 4) sc_is_part.nd rfl (.inl rfl))) (fun _ _ _ _ _ => (pts_one (pt_cmpR (k_notin (K := K) rfl) (pv 4) (pv 0) (by rfl)))) (fun _ _ _ _ _ => (pv 4))))
      (pss_one (ps_ret (pe_and (pe_cmpR op_gt (pe_callB (k_len (K := K) rfl) (by rfl) B.len_ (by decide +kernel) (pa_cons (pv 3) pa_nil)) pe_int (nomark _)) (pe_one (pe_not (pe_callB (k_any (K := K) rfl rfl) (by rfl) B.any_ (by decide +kernel) (pa_cons (pe_lc2 (own := [("a", 5), ("b", 6)]) (vs1 := [6]) rfl sc_is_part.nd (kpi_tup (K := K) rfl (pv 0)) (blkOk_by (N := N_is_part) (sc := defScope s_is_part) (by decide +kernel)) (by decide) (fun _ _ _ _ _ => (pg_name (i := 5) sc_is_part.nd rfl (.inl rfl))) (fun _ _ _ _ _ => pts_nil) (fun _ _ _ _ _ => (kpi_list (K := K) rfl (pv 3))) (fun _ _ _ _ _ => (pg_name (i := 6) sc_is_part.nd rfl (.inl rfl))) (fun _ _ _ _ _ => pts_nil) (fun _ _ _ _ _ => (pe_cmpR (k_inDT (K := K) rfl (units65 hr)) (pe_tup (pa_cons (pe_callB (call_min2 rfl) (by rfl) B.min_ (by decide +kernel) (pa_cons (pv 5) (pa_cons (pv 6) pa_nil))) (pa_cons (pe_callB (call_max2 rfl) (by rfl) B.max_ (by decide +kernel) (pa_cons (pv 5) (pa_cons (pv 6) pa_nil))) pa_nil))) (pe_ix (k_ixT (K := K) rfl) (pv 1) pe_int (fun _ _ => rfl)) (by rfl)))) pa_nil))))))))), ?_⟩
    cases hn : areN G.scopes.length d with
    | false =>
      have er : partM G d as = false := by unfold partM; rw [hn, Bool.false_and]
      refine q_when (b := true) (et_or (a := true) (b := true) (et_not (et_B (ev_is (ev_areN rfl (ea_cons (ev_var rfl) (ea_cons (ev_var rfl) ea_nil)) hd hl hG) (by rw [hn])))) (fun z => nomatch z)) (fun _ H1 e => ?_) (fun z => nomatch z)
      refine s_ret (v := .bl false) ev_c fun H2 e2 => ?_
      rw [← er]
      exact q H2 (Same.trans e e2)
    | true =>
      obtain ⟨a, rfl, ha, hne, hnd, hnl, hin⟩ := areN_at hd hn
      generalize hns : nodesOf d = ns at ha hne hnd hnl hin
      have er : partM G d as = partN G ns as := by unfold partM; rw [hn, Bool.true_and, hns]
      rw [er] at q
      refine q_when (et_or (a := false) (et_not (et_B (ev_is (ev_areN rfl (ea_cons (ev_var rfl) (ea_cons (ev_var rfl) ea_nil)) hd hl hG) (by rw [hn])))) fun _ => et_or (et_test (ev_opRR (z := .bl (!decide (ns.Pairwise (· ≤ ·)))) (fun v H1 H2 e ⟨p, ev, hp⟩ => ⟨p, ev, e _ _ hp⟩) (evL_r (el_listT (ev_var rfl) ha)) (ev_sortedT (ev_var rfl) ha) fun v u H2 e2 ⟨p, ev, hp⟩ ⟨p2, xs, eu, hp2, ms, exs, pm, pw⟩ => ?_)) fun _ => et_not (et_B (ev_all (l := ns) (f := fun x => decide (x ∈ as)) (el_tupI (ev_var rfl) ha (by omega) (fun _ => rfl) (fun _ _ => et_yes) fun z hz _ => ev_in (ev_var rfl) (ev_var rfl) (SqI.tup hb))))) (fun hbb H1 e => ?_) (fun hbb H1 e => ?_)
      · subst ev eu exs
        exact fun H3 e3 Q q => neL_ask (e3 _ _ hp) (e3 _ _ hp2) (by rw [decide_sorted pm pw]; exact q H3 (Ex.refl _))
      · refine s_ret (v := .bl false) ev_c fun H2 e2 => ?_
        have e0 : partN G ns as = false := by
          unfold partN
          cases x1 : decide (ns.Pairwise (· ≤ ·)) with
          | false => rfl
          | true =>
            rw [x1] at hbb
            cases x2 : ns.all (fun x => decide (x ∈ as)) with
            | false => rfl
            | true => rw [x2] at hbb; cases hbb
        rw [← e0]
        exact q H2 (Same.trans e e2)
      · have hb1 := e _ _ hb
        have ha1 := e _ _ ha
        refine q_asgL (xs := (outOf ns as).map V.int) (evL_is (el_tupI (ns := as) (p := fun x => !decide (x ∈ ns)) (q := V.int) (ev_var rfl) hb1 (by omega) (fun _ => rfl) (fun z hz => et_test (ev_notin (ev_var rfl) (ev_var rfl) (SqI.tup ha1))) fun z hz _ => ev_var rfl) rfl) fun l H2 hl2 e2 hll => ?_
        have s2 := Same.trans e e2
        have lo : (outOf ns as).length ≤ 100 := Nat.le_trans (List.length_filter_le _ _) hal
        have e0 : partN G ns as = (decide (0 < (outOf ns as).length) && !touch G ns (outOf ns as)) := by
          unfold partN
          cases x1 : decide (ns.Pairwise (· ≤ ·)) with
          | false => rw [x1] at hbb; cases hbb
          | true =>
            cases x2 : ns.all (fun x => decide (x ∈ as)) with
            | false => rw [x1, x2] at hbb; cases hbb
            | true => rfl
        refine s_ret (v := .bl (partN G ns as)) (ev_is (ev_andV (ev_gt (ev_lenL (ev_var rfl) hll) ev_c) fun _ => ev_notV (ev_anyB (bs := ns.flatMap fun x => (outOf ns as).map fun y => decide ((mn x y, mx x y) ∈ G.edges)) (evL_is (el_two (q := fun x y => V.bl (decide ((mn x y, mx x y) ∈ G.edges))) (ev_var rfl) (s2 _ _ ha) (fun x => ev_var rfl) hll ?_ (fun _ => rfl) (fun _ _ => rfl) fun x hx y hy => ?_) ?_))) ?_) fun H3 e3 => q H3 (Same.trans s2 e3)
        · have := Nat.mul_le_mul (show ns.length ≤ 100 by omega) lo
          omega
        · intro H3 e3 Q q
          refine (eu_tup (vs := [.int (mn x y), .int (mx x y)]) (ea_cons (fun H4 e4 Q' q' => ⟨.int x, rfl, .int y, rfl, x, y, rfl, q' H4 (Ex.refl _)⟩) (ea_cons (fun H4 e4 Q' q' => ⟨.int x, rfl, .int y, rfl, x, y, rfl, q' H4 (Ex.refl _)⟩) ea_nil)) (by show 2 ≤ 100000; omega)) H3 e3 _ fun p H4 hp e4 hp4 => ?_
          · have s4 : Same H H4 := Same.trans (Same.trans s2 e3) e4
            refine ⟨.ref a', rfl, a', _, 2, _, rfl, rfl, SqT.of (s4 _ _ h1), rfl, ?_⟩
            refine ⟨prD (mn x y, mx x y), G.edges.map prD, .tup (SqT.of hp4) (.cons (.int _) (.cons (.int _) .nil)), .tup (SqT.of (s4 _ _ h3)) (h5.gw (Gw.of s4)).dp, shaped_tup [mn x y, mx x y], shaped_prs _, ?_⟩
            rw [any_prs]
            exact q H4 e4
        · rw [List.map_flatMap]
          congr 1
          funext x
          rw [List.map_map]
          rfl
        · rw [e0, List.length_map]
          unfold touch
          congr 1
          congr 1
          · exact decide_eq_decide.mpr (by omega)
          · congr 1
            rw [List.any_flatMap]
            congr 1
            funext x
            rw [List.any_map]
            rfl
theorem c_is_cycle (T : Tx K mg) (B : Bl mg) (C_are_nodes : FnC P w K mg base 2 "are_nodes" ["value", "graph"] (sp_are_nodes K)) (C_neighbours : FnC P w K mg base 1 "neighbours" ["graph", "node"] (sp_neighbours K)) : FnC P w K mg base 3 "is_cycle" ["value", "graph"] (sp_is_cycle K) := by
  obtain ⟨f, fd, gf, F⟩ := T.is_cycle
  refine ⟨f, fd, gf, F.kp, F.binds (ps := ["value", "graph"]) fun _ _ _ _ _ _ us hl => match us, hl with | [_, _], _ => rfl, ?_⟩
  refine F.ok sc_is_cycle (fun vs H Q E h => ?_) (fun cdv A outer s H vs Q E hr h => ?_)
  · obtain ⟨v, g, d, G, rfl, _⟩ := h
    rfl
  · obtain ⟨v, g, d, G, rfl, hd, hl, hG, W, q⟩ := h
    refine ⟨_, (pss_cons (ps_if (PW.pt (pw_or (pt_not (pt_val (pe_callC C_are_nodes (hr.mono (by decide)) (by rfl) (pa_cons (pv 0) (pa_cons (pv 1) pa_nil))))) (pw_or1 (pt_cmpR op_lt (pe_callB (k_len (K := K) rfl) (by rfl) B.len_ (by decide +kernel) (pa_cons (pv 0) pa_nil)) pe_int (nomark _))))) (pss_one (ps_ret pe_bl)) pss_nil)
      (pss_one (ps_ret (pe_callB (k_all (K := K) rfl rfl) (by rfl) B.all_ (by decide +kernel) (pa_cons (pe_lc (own := [("at", 2), ("node", 3)]) rfl sc_is_cycle.nd (pi_enumT (by rfl) B.enumerate_ (pa_cons (pv 0) pa_nil)) (blkOk_by (N := N_is_cycle) (sc := defScope s_is_cycle) (by decide +kernel)) (fun _ _ _ _ _ => (kpg_tup (K := K) (n := 2) rfl rfl (pgs_cons (pg_name (i := 2) sc_is_cycle.nd rfl (.inl rfl)) (pgs_cons (pg_name (i := 3) sc_is_cycle.nd rfl (.inl rfl)) pgs_nil)))) (fun _ _ _ _ _ => pts_nil) (fun _ _ _ _ _ => (pe_cmpR (k_in (K := K) rfl) (pe_ix (k_ixT (K := K) rfl) (pv 0) (pe_op op_sub (pv 2) pe_int) (fun _ _ => rfl)) (pe_callC C_neighbours (hr.mono (by decide)) (by rfl) (pa_cons (pv 1) (pa_cons (pv 3) pa_nil))) (by rfl)))) pa_nil))))), ?_⟩
    cases hn : areN G.scopes.length d with
    | false =>
      have er : cycM G d = false := by unfold cycM; rw [hn, Bool.false_and]
      refine q_when (b := true) (et_or (a := true) (b := true) (et_not (et_B (ev_is (ev_areN rfl (ea_cons (ev_var rfl) (ea_cons (ev_var rfl) ea_nil)) hd hl hG) (by rw [hn])))) (fun z => nomatch z)) (fun _ H1 e => ?_) (fun z => nomatch z)
      refine s_ret (v := .bl false) ev_c fun H2 e2 => ?_
      rw [← er]
      exact q H2 (Same.trans e e2)
    | true =>
      obtain ⟨a, rfl, ha, hne, hnd, hnl, hin⟩ := areN_at hd hn
      generalize hns : nodesOf d = ns at ha hne hnd hnl hin
      have er : cycM G d = cycN G ns := by unfold cycM; rw [hn, Bool.true_and, hns]
      rw [er] at q
      refine q_when (b := decide ((ns.length : Int) < 3)) (et_is (et_or (a := false) (et_not (et_B (ev_is (ev_areN rfl (ea_cons (ev_var rfl) (ea_cons (ev_var rfl) ea_nil)) hd hl hG) (by rw [hn])))) fun _ => et_test (ev_lt (ev_lenT (ev_var rfl) ha) ev_c)) (by rw [List.length_map]; rfl)) (fun hbb H1 e => ?_) (fun hbb H1 e => ?_)
      · refine s_ret (v := .bl false) ev_c fun H2 e2 => ?_
        have e0 : cycN G ns = false := by
          unfold cycN
          rw [decide_eq_false (show ¬ 3 ≤ ns.length by have := of_decide_eq_true hbb; omega), Bool.false_and]
        rw [← e0]
        exact q H2 (Same.trans e e2)
      · have hlen : 3 ≤ ns.length := by have := of_decide_eq_false hbb; omega
        have e0 : cycN G ns = (List.range ns.length).all fun k => decide (ns.getD (if k = 0 then ns.length - 1 else k - 1) 0 ∈ nbs G (ns.getD k 0)) := by
          unfold cycN
          rw [decide_eq_true hlen, Bool.true_and]
        rw [e0] at q
        have ha1 := e _ _ ha
        refine s_ret (ev_all (l := List.range ns.length) (f := fun k => decide (ns.getD (if k = 0 then ns.length - 1 else k - 1) 0 ∈ nbs G (ns.getD k 0))) (el_enumT (p := fun _ => true) (ev_var rfl) ha1 (by rw [List.length_map]) (by omega) (fun _ _ => rfl) (fun _ _ _ => et_yes) fun m x hx _ => ?_)) fun H2 e2 => q H2 (Same.trans e e2)
        rw [List.getElem?_map] at hx
        cases hz : ns[m]? with
        | none => rw [hz] at hx; cases hx
        | some z =>
          rw [hz] at hx
          obtain rfl : V.int z = x := Option.some.inj hx
          have hm : m < ns.length := (List.getElem?_eq_some_iff.mp hz).1
          have gz : ns.getD m 0 = z := by rw [List.getD_eq_getElem?_getD, hz]; rfl
          have hk : (if m = 0 then ns.length - 1 else m - 1) < ns.length := by split <;> omega
          obtain ⟨y, hy⟩ : ∃ y, ns[if m = 0 then ns.length - 1 else m - 1]? = some y := ⟨_, List.getElem?_eq_getElem hk⟩
          have gy : ns.getD (if m = 0 then ns.length - 1 else m - 1) 0 = y := by rw [List.getD_eq_getElem?_getD, hy]; rfl
          rw [gz, gy]
          refine ev_opR (ev_ixT (v := .int y) (ev_var rfl) ha1 (ev_sub (i := (m : Int)) (ev_var rfl) ev_c) ?_) (r_nbs (i := z) (G := G) (ea_cons (ev_var rfl) (ea_cons (ev_var rfl) ea_nil)) (hG.gw (Gw.of e)) W) fun v H2 e2 ⟨b, ms, ev, hb, pm⟩ => ?_
          · by_cases h0 : m = 0
            · subst h0
              rw [if_pos rfl] at hy
              have e1 : ((0 : Nat) : Int) - 1 = -1 := rfl
              rw [e1]
              refine atI_last' ?_
              rw [List.getLast?_map, List.getLast?_eq_getElem?, hy]
              rfl
            · rw [if_neg h0] at hy
              exact atI_ints (j := m - 1) (by omega) hy
          · subst ev
            intro H3 e3 Q q
            refine in_ask (SqI.tup (e3 _ _ hb)) ?_
            rw [decide_eq_decide.mpr (pm.mem_iff (a := y))]
            exact q H3 (Ex.refl _)
end
end Tt

namespace Tt
open PySem PySem.Spec PyProof.Rows L2 TtR Evl
theorem V.str_ne {s t : Str} (h : ¬ s = t) : decide (V.str s = V.str t) = false := decide_eq_false fun e => h (V.str.inj e)
theorem V.str_eq {s t : Str} (h : s = t) : decide (V.str s = V.str t) = true := decide_eq_true (by rw [h])
theorem i0 {x : V} {xs : List V} : atI (x :: xs) 0 = some x := at_of (j := 0) rfl rfl
section
variable {P : Program} {w : World} {K : PySem.W.Frag} {mg : Str → Option Value} {base : Heap}
theorem c_is_defect (T : Tx K mg) (B : Bl mg) (C_having : FnC P w K mg base 1 "having" ["graph", "variable"] (sp_having K)) (C_is_cycle : FnC P w K mg base 3 "is_cycle" ["value", "graph"] (sp_is_cycle K)) (C_is_part : FnC P w K mg base 3 "is_part" ["value", "graph", "among"] (sp_is_part K)) : FnC P w K mg base 4 "is_defect" ["graph", "value"] (sp_is_defect K) := by
  obtain ⟨f, fd, gf, F⟩ := T.is_defect
  refine ⟨f, fd, gf, F.kp, F.binds (ps := ["graph", "value"]) fun _ _ _ _ _ _ us hl => match us, hl with | [_, _], _ => rfl, ?_⟩
  refine F.ok sc_is_defect (fun vs H Q E h => ?_) (fun cdv A outer s H vs Q E hr h => ?_)
  · obtain ⟨g, v, d, G, rfl, _⟩ := h
    rfl
  · obtain ⟨g, v, d, G, rfl, hG, W, hd, hlow, q⟩ := h
    obtain ⟨a', sc, ed, ss, es, rfl, h1, h2, h3, h4, h5⟩ := id hG
    have hm := W.many
    refine ⟨_, (pss_cons (ps_if (PW.pt (pw_or (pt_not (pt_val (pe_callB (k_isi (K := K) rfl) (by rfl) B.isinstance_ (by decide +kernel) (pa_cons (pv 1) (pa_cons (pe_bltn (v := .ty "tuple") (by rfl) B.tuple_ (by decide +kernel) rfl) pa_nil))))) (pw_or (pt_not (pt_chain op_le op_le pe_int (pe_callB (k_len (K := K) rfl) (by rfl) B.len_ (by decide +kernel) (pa_cons (pv 1) pa_nil)) pe_int)) (pw_or1 (pt_not (pt_val (pe_callB (k_isi (K := K) rfl) (by rfl) B.isinstance_ (by decide +kernel) (pa_cons (pe_ix (k_ixT (K := K) rfl) (pv 1) pe_int (fun _ _ => rfl)) (pa_cons (pe_bltn (v := .ty "str") (by rfl) B.str_ (by decide +kernel) rfl) pa_nil))))))))) (pss_one (ps_ret pe_bl)) pss_nil)
      (pss_cons (ps_if (pt_cmpR op_eq (pe_ix (k_ixT (K := K) rfl) (pv 1) pe_int (fun _ _ => rfl)) pe_str (nomark _)) (pss_one (ps_ret (pe_and (pe_cmpR op_eq (pe_callB (k_len (K := K) rfl) (by rfl) B.len_ (by decide +kernel) (pa_cons (pv 1) pa_nil)) pe_int (nomark _)) (pe_one (pe_callC C_is_cycle (hr.mono (by decide)) (by rfl) (pa_cons (pe_ix (k_ixT (K := K) rfl) (pv 1) pe_int (fun _ _ => rfl)) (pa_cons (pv 0) pa_nil))))))) pss_nil)
      (pss_cons (ps_if (pt_cmpR op_eq (pe_ix (k_ixT (K := K) rfl) (pv 1) pe_int (fun _ _ => rfl)) pe_str (nomark _)) (pss_one (ps_ret (pe_and (pe_cmpR op_eq (pe_callB (k_len (K := K) rfl) (by rfl) B.len_ (by decide +kernel) (pa_cons (pv 1) pa_nil)) pe_int (nomark _)) (pe_one (pe_callC C_is_part (hr.mono (by decide)) (by rfl) (pa_cons (pe_ix (k_ixT (K := K) rfl) (pv 1) pe_int (fun _ _ => rfl)) (pa_cons (pv 0) (pa_cons (pe_tupRg rfl (by rfl) B.tuple_ (prg_1 (by rfl) B.range_ (pe_callB (k_len (K := K) rfl) (by rfl) B.len_ (by decide +kernel) (pa_cons (pe_ix (k_ixT (K := K) rfl) (pv 0) pe_int (fun _ _ => rfl)) pa_nil)))) pa_nil)))))))) pss_nil)
      (pss_cons (ps_if (PW.pt (pw_or (pt_cmpR op_ne (pe_ix (k_ixT (K := K) rfl) (pv 1) pe_int (fun _ _ => rfl)) pe_str (nomark _)) (pw_or (pt_cmpR op_ne (pe_callB (k_len (K := K) rfl) (by rfl) B.len_ (by decide +kernel) (pa_cons (pv 1) pa_nil)) pe_int (nomark _)) (pw_or (pt_not (pt_val (pe_callB (k_isi (K := K) rfl) (by rfl) B.isinstance_ (by decide +kernel) (pa_cons (pe_ix (k_ixT (K := K) rfl) (pv 1) pe_int (fun _ _ => rfl)) (pa_cons (pe_bltn (v := .ty "int") (by rfl) B.int_ (by decide +kernel) rfl) pa_nil))))) (pw_or1 (pt_val (pe_callB (k_isi (K := K) rfl) (by rfl) B.isinstance_ (by decide +kernel) (pa_cons (pe_ix (k_ixT (K := K) rfl) (pv 1) pe_int (fun _ _ => rfl)) (pa_cons (pe_bltn (v := .ty "bool") (by rfl) B.bool_ (by decide +kernel) rfl) pa_nil))))))))) (pss_one (ps_ret pe_bl)) pss_nil)
      (pss_one (ps_ret (pe_callC C_is_part (hr.mono (by decide)) (by rfl) (pa_cons (pe_ix (k_ixT (K := K) rfl) (pv 1) pe_int (fun _ _ => rfl)) (pa_cons (pv 0) (pa_cons (pe_callC C_having (hr.mono (by decide)) (by rfl) (pa_cons (pv 0) (pa_cons (pe_ix (k_ixT (K := K) rfl) (pv 1) pe_int (fun _ _ => rfl)) pa_nil))) pa_nil)))))))))), ?_⟩
    by_cases ht : ∃ s rest, d = .tuple (.str s :: rest) ∧ 1 ≤ rest.length ∧ rest.length ≤ 2
    · obtain ⟨s, rest, rfl, r1, r2⟩ := ht
      cases hd with
      | tup ha hx =>
        rename_i a xs
        cases hx with
        | cons hs hr =>
          rename_i v0 vr
          cases hs
          have lr := hr.len
          refine q_when (b := false) (et_is (et_or (et_not (et_B (ev_isTup (ev_var rfl) ha))) fun _ => et_or (et_not (et_test (ev_chain ev_c (ev_lenT (ev_var rfl) ha) rv_I0 (fun _ => ev_c) fun _ => rv_I0))) fun _ => et_not (et_B (ev_isi (ev_ixT (ev_var rfl) ha ev_c (at_of (j := 0) rfl rfl)) (.str s) kit_ss))) ?_) (fun z => nomatch z) (fun _ H1 e1 => ?_)
          · rw [List.length_cons, decide_eq_true (show (2 : Int) ≤ ((vr.length + 1 : Nat) : Int) by omega), decide_eq_true (show ((vr.length + 1 : Nat) : Int) ≤ 3 by omega)]
            rfl
          have ha1 := e1 _ _ ha
          have hr1 := IsAll.gw (Gw.of e1) hr
          have G1 := hG.gw (Gw.of e1)
          have low : ∀ x ∈ rest, dl x ≤ 100 := fun x hx => hlow x (List.mem_cons_of_mem _ hx)
          refine q_when (et_test (ev_eq (ev_ixT (ev_var rfl) ha1 ev_c i0) ev_c rfl)) (fun hb H2 e2 => ?_) (fun hb H2 e2 => ?_)
          · have es : s = "cycle" := V.str.inj (of_decide_eq_true hb)
            subst es
            have ha2 := e2 _ _ ha1
            match rest, vr, hr1, lr, low, q, ha2, r1, r2 with
            | [x], [vx], .cons hx1 .nil, _, low, q, ha2, _, _ =>
              refine s_ret (ev_andV (a := true) (ev_is (ev_eq (ev_lenT (ev_var rfl) ha2) ev_c rfl) rfl) fun _ => v_call (vs := [vx, .ref a']) (ea_cons (ev_ixT (ev_var rfl) ha2 ev_c rfl) (ea_cons (ev_var rfl) ea_nil)) fun H3 e3 Q' q' E => ⟨vx, _, x, G, rfl, hx1.gw (Gw.of (Same.trans e2 e3)), low x (by simp), G1.gw (Gw.of (Same.trans e2 e3)), W, q'⟩) fun H3 e3 => ?_
              exact q H3 (Same.trans (Same.trans e1 e2) e3)
            | [x, y], [vx, vy], hr1, _, low, q, ha2, _, _ =>
              have e0 : isDefectM G (.tuple [.str "cycle", x, y]) = false := by
                cases x with
                | int i => rfl
                | _ => rfl
              rw [e0] at q
              exact s_ret (v := .bl false) (ev_andV (a := false) (b := false) (ev_is (ev_eq (ev_lenT (ev_var rfl) ha2) ev_c rfl) rfl) fun z => nomatch z) fun H3 e3 => q H3 (Same.trans (Same.trans e1 e2) e3)
            | [], _, _, _, _, _, _, r1, _ => exact absurd r1 (by simp)
            | x :: y :: z :: l, _, _, _, _, _, _, _, r2 => exact absurd r2 (by simp)
            | [x], [], hr1, lr, _, _, _, _, _ => exact absurd lr (by simp)
            | [x], _ :: _ :: _, hr1, lr, _, _, _, _, _ => exact absurd lr (by simp)
            | [x, y], [], hr1, lr, _, _, _, _, _ => exact absurd lr (by simp)
            | [x, y], [_], hr1, lr, _, _, _, _, _ => exact absurd lr (by simp)
            | [x, y], _ :: _ :: _ :: _, hr1, lr, _, _, _, _, _ => exact absurd lr (by simp)
          have nc : ¬ s = "cycle" := fun es => by rw [V.str_eq es] at hb; cases hb
          have ha2 := e2 _ _ ha1
          have hr2 := IsAll.gw (Gw.of e2) hr1
          have G2 := G1.gw (Gw.of e2)
          have s2 := Same.trans e1 e2
          refine q_when (et_test (ev_eq (ev_ixT (ev_var rfl) ha2 ev_c i0) ev_c rfl)) (fun hb H3 e3 => ?_) (fun hb H3 e3 => ?_)
          · have es : s = "apart" := V.str.inj (of_decide_eq_true hb)
            subst es
            have ha3 := e3 _ _ ha2
            have s3 := Same.trans s2 e3
            match rest, vr, hr2, lr, low, q, ha3, r1, r2 with
            | [x], [vx], .cons hx1 .nil, _, low, q, ha3, _, _ =>
              refine s_ret (ev_andV (a := true) (ev_is (ev_eq (ev_lenT (ev_var rfl) ha3) ev_c rfl) rfl) fun _ => v_callR (R := fun vs H4 => ∃ b, vs = [vx, .ref a', .ref b] ∧ H4 b = some (.tup ((rng G.scopes.length).map V.int))) (fun H4 e4 Q' q' => ?_) fun vs H4 e4 ⟨b, ev, hb4⟩ Q' q' E => ?_) fun H4 e4 => q H4 (Same.trans s3 e4)
              · refine (ev_ixT (ev_var rfl) ha3 ev_c (v := vx) rfl) H4 e4 _ fun H5 e5 => ⟨_, rfl, ?_⟩
                have s5 := Same.trans s3 (Same.trans e4 e5)
                exact (ev_tupRg (n := G.scopes.length) (ev_is (ev_lenT (ev_ixT (ev_var rfl) (s5 _ _ h1) ev_c rfl) (s5 _ _ h2)) (by rw [h4.1])) (by omega)) H5 (Ex.refl _) _ fun p H6 hp e6 hp6 => q' _ H6 (Same.trans e5 e6) ⟨p, rfl, hp6⟩
              · subst ev
                exact ⟨vx, _, b, x, _, G, rfl, hx1.gw (Gw.of (Same.trans e3 e4)), low x (by simp), G2.gw (Gw.of (Same.trans e3 e4)), W, hb4, by rw [rng_len]; omega, q'⟩
            | [x, y], [vx, vy], hr2, _, low, q, ha3, _, _ =>
              have e0 : isDefectM G (.tuple [.str "apart", x, y]) = false := by
                cases x with
                | int i => rfl
                | _ => rfl
              rw [e0] at q
              exact s_ret (v := .bl false) (ev_andV (a := false) (b := false) (ev_is (ev_eq (ev_lenT (ev_var rfl) ha3) ev_c rfl) rfl) fun z => nomatch z) fun H4 e4 => q H4 (Same.trans s3 e4)
            | [], _, _, _, _, _, _, r1, _ => exact absurd r1 (by simp)
            | x :: y :: z :: l, _, _, _, _, _, _, _, r2 => exact absurd r2 (by simp)
            | [x], [], hr2, lr, _, _, _, _, _ => exact absurd lr (by simp)
            | [x], _ :: _ :: _, hr2, lr, _, _, _, _, _ => exact absurd lr (by simp)
            | [x, y], [], hr2, lr, _, _, _, _, _ => exact absurd lr (by simp)
            | [x, y], [_], hr2, lr, _, _, _, _, _ => exact absurd lr (by simp)
            | [x, y], _ :: _ :: _ :: _, hr2, lr, _, _, _, _, _ => exact absurd lr (by simp)
          have na : ¬ s = "apart" := fun es => by rw [V.str_eq es] at hb; cases hb
          have ha3 := e3 _ _ ha2
          have hr3 := IsAll.gw (Gw.of e3) hr2
          have G3 := G2.gw (Gw.of e3)
          have s3 := Same.trans s2 e3
          by_cases hok : ∃ i y, s = "split" ∧ rest = [.int i, y]
          · obtain ⟨i, y, rfl, rfl⟩ := hok
            match vr, hr3, ha3 with
            | [_, vy], .cons (.int _) (.cons hy .nil), ha3 =>
              refine q_when (b := false) (et_is (et_or (et_test (ev_ne (ev_ixT (ev_var rfl) ha3 ev_c i0) ev_c rfl)) fun _ => et_or (et_test (ev_ne (ev_lenT (ev_var rfl) ha3) ev_c rfl)) fun _ => et_or (et_not (et_B (ev_isi (ev_ixT (ev_var rfl) ha3 ev_c rfl) (.int i) kit_ii))) fun _ => et_B (ev_isi (ev_ixT (ev_var rfl) ha3 ev_c rfl) (.int i) kit_ib)) ?_) (fun z => nomatch z) (fun _ H4 e4 => ?_)
              · rw [V.str_eq rfl]
                rfl
              have ha4 := e4 _ _ ha3
              have s4 := Same.trans s3 e4
              have l5 := hav_len G i
              refine s_ret (v_callR (R := fun vs H5 => ∃ b, vs = [vy, .ref a', .ref b] ∧ H5 b = some (.tup ((hav G i).map V.int))) (fun H5 e5 Q' q' => ?_) fun vs H5 e5 ⟨b, ev, hb5⟩ Q' q' E => ?_) fun H5 e5 => q H5 (Same.trans s4 e5)
              · refine (ev_ixT (ev_var rfl) ha4 ev_c (v := vy) rfl) H5 e5 _ fun H6 e6 => ⟨_, rfl, ?_⟩
                have s6 := Same.trans e5 e6
                refine (r_having (v := i) (G := G) (ea_cons (ev_var rfl) (ea_cons (ev_ixT (ev_var rfl) ha4 ev_c rfl) ea_nil)) (G3.gw (Gw.of e4)) W) H6 s6 _ fun u H7 e7 ⟨b, eb, hb7⟩ => ?_
                subst eb
                exact q' _ H7 (Same.trans e6 e7) ⟨b, rfl, hb7⟩
              · subst ev
                exact ⟨vy, _, b, y, _, G, rfl, hy.gw (Gw.of (Same.trans e4 e5)), low y (by simp), G3.gw (Gw.of (Same.trans e4 e5)), W, hb5, by omega, q'⟩
          · have e0 : isDefectM G (.tuple (.str s :: rest)) = false := by
              match rest, r1, r2, hok with
              | [x], _, _, _ =>
                show (if s = "cycle" then _ else if s = "apart" then _ else false) = false
                rw [if_neg nc, if_neg na]
              | [.int i, y], _, _, hok =>
                show (if s = "cycle" then _ else if s = "apart" then _ else if s = "split" then _ else false) = false
                rw [if_neg nc, if_neg na, if_neg fun es => hok ⟨i, y, es, rfl⟩]
              | [.none, y], _, _, _ => rfl
              | [.bool _, y], _, _, _ => rfl
              | [.str _, y], _, _, _ => rfl
              | [.list _, y], _, _, _ => rfl
              | [.tuple _, y], _, _, _ => rfl
              | [.dict _, y], _, _, _ => rfl
              | [], r1, _, _ => exact absurd r1 (by simp)
              | x :: y :: z :: l, _, r2, _ => exact absurd r2 (by simp)
            rw [e0] at q
            refine q_when (b := true) ?_ (fun _ H4 e4 => s_ret (v := .bl false) ev_c fun H5 e5 => q H5 (Same.trans (Same.trans s3 e4) e5)) (fun z => nomatch z)
            by_cases hsp : s = "split"
            · match rest, vr, hr3, ha3, lr, r1, r2, hok with
              | [x], [vx], hr3, ha3, _, _, _, _ =>
                exact et_is (et_or (et_test (ev_ne (ev_ixT (ev_var rfl) ha3 ev_c i0) ev_c rfl)) fun _ => et_or (a := true) (b := true) (et_test (ev_is (ev_ne (ev_lenT (ev_var rfl) ha3) ev_c rfl) rfl)) fun z => nomatch z) (by rw [V.str_eq hsp]; rfl)
              | [x, y], [vx, vy], .cons hx (.cons hy .nil), ha3, _, _, _, hok =>
                by_cases hb : ∃ b, x = .bool b
                · obtain ⟨b, rfl⟩ := hb
                  cases hx
                  exact et_is (et_or (et_test (ev_ne (ev_ixT (ev_var rfl) ha3 ev_c i0) ev_c rfl)) fun _ => et_or (et_test (ev_ne (ev_lenT (ev_var rfl) ha3) ev_c rfl)) fun _ => et_or (et_not (et_B (ev_isi (ev_ixT (ev_var rfl) ha3 ev_c rfl) (.bl b) kit_bi))) fun _ => et_B (ev_isi (ev_ixT (ev_var rfl) ha3 ev_c rfl) (.bl b) kit_bb)) (by rw [V.str_eq hsp]; rfl)
                · have hk := kit_int x hx.nodict
                  have hf : kitB (tyD x) "int" = some false := by
                    rw [hk]
                    cases x with
                    | bool b => exact absurd ⟨b, rfl⟩ hb
                    | int i => exact absurd ⟨i, y, hsp, rfl⟩ hok
                    | _ => rfl
                  exact et_is (et_or (et_test (ev_ne (ev_ixT (ev_var rfl) ha3 ev_c i0) ev_c rfl)) fun _ => et_or (et_test (ev_ne (ev_lenT (ev_var rfl) ha3) ev_c rfl)) fun _ => et_or (a := true) (b := true) (et_not (et_B (ev_isi (ev_ixT (ev_var rfl) ha3 ev_c rfl) hx hf))) fun z => nomatch z) (by rw [V.str_eq hsp]; rfl)
              | [], _, _, _, _, r1, _, _ => exact absurd r1 (by simp)
              | x :: y :: z :: l, _, _, _, _, _, r2, _ => exact absurd r2 (by simp)
              | [x], [], _, _, lr, _, _, _ => exact absurd lr (by simp)
              | [x], _ :: _ :: _, _, _, lr, _, _, _ => exact absurd lr (by simp)
            · exact et_is (et_or (b := true) (et_test (ev_ne (ev_ixT (ev_var rfl) ha3 ev_c i0) ev_c rfl)) fun z => by rw [V.str_ne hsp] at z; cases z) (by rw [V.str_ne hsp]; rfl)
    · have e0 : isDefectM G d = false := by
        match d, ht with
        | .none, _ => rfl
        | .bool _, _ => rfl
        | .int _, _ => rfl
        | .str _, _ => rfl
        | .list _, _ => rfl
        | .dict _, _ => rfl
        | .tuple [], _ => rfl
        | .tuple [x], _ => cases x <;> rfl
        | .tuple (x :: y :: l), ht =>
          cases x with
          | str s =>
            match l, ht with
            | [], ht => exact absurd ⟨s, [y], rfl, by simp, by simp⟩ ht
            | [z], ht => exact absurd ⟨s, [y, z], rfl, by simp, by simp⟩ ht
            | _ :: _ :: _, _ => cases y <;> rfl
          | _ =>
            cases l with
            | nil => rfl
            | cons z l => cases y <;> (cases l <;> rfl)
      rw [e0] at q
      refine q_when (b := true) ?_ (fun _ H4 e4 => s_ret (v := .bl false) ev_c fun H5 e5 => q H5 (Same.trans e4 e5)) (fun z => nomatch z)
      by_cases hk : ∃ ds, d = .tuple ds
      · obtain ⟨ds, rfl⟩ := hk
        cases hd with
        | tup ha hx =>
          rename_i a xs
          have lx := hx.len
          by_cases hl : 2 ≤ ds.length ∧ ds.length ≤ 3
          · match ds, xs, hx, ha, hl, ht with
            | d0 :: rest, v0 :: vr, .cons h0 hr, ha, hl, ht =>
              have hns : ∀ s, d0 ≠ .str s := fun s es => ht ⟨s, rest, by rw [es], by have := hl.1; rw [List.length_cons] at this; omega, by have := hl.2; rw [List.length_cons] at this; omega⟩
              have hf : kitB (tyD d0) "str" = some false := by
                rw [kit_str d0 h0.nodict]
                cases d0 with
                | str s => exact absurd rfl (hns s)
                | _ => rfl
              have lv := IsAll.len (.cons h0 hr)
              refine et_is (et_or (et_not (et_B (ev_isTup (ev_var rfl) ha))) fun _ => et_or (et_not (et_test (ev_chain ev_c (ev_lenT (ev_var rfl) ha) rv_I0 (fun _ => ev_c) fun _ => rv_I0))) fun _ => et_not (et_B (ev_isi (ev_ixT (ev_var rfl) ha ev_c (at_of (j := 0) rfl rfl)) h0 hf))) ?_
              rw [decide_eq_true (show (2 : Int) ≤ ((v0 :: vr).length : Int) by rw [lv]; omega), decide_eq_true (show ((v0 :: vr).length : Int) ≤ 3 by rw [lv]; omega)]
              rfl
            | [], _, _, _, hl, _ => exact absurd hl (by simp)
          · refine et_is (et_or (b := true) (et_not (et_B (ev_isTup (ev_var rfl) ha))) fun _ => et_is (et_or (a := true) (b := true) (et_is (et_not (et_test (ev_chain ev_c (ev_lenT (ev_var rfl) ha) rv_I0 (fun _ => ev_c) fun _ => rv_I0))) ?_) fun z => nomatch z) rfl) rfl
            rw [lx]
            cases h1 : decide ((2 : Int) ≤ (ds.length : Int)) with
            | false => rfl
            | true =>
              rw [decide_eq_false (show ¬ (ds.length : Int) ≤ 3 by have := of_decide_eq_true h1; omega)]
              rfl
      · have hk2 := kit_tup d hd.nodict
        have hf : kitB (tyD d) "tuple" = some false := by
          rw [hk2]
          cases d with
          | tuple ds => exact absurd ⟨ds, rfl⟩ hk
          | _ => rfl
        exact et_is (et_or (a := true) (b := true) (et_not (et_B (ev_isi (ev_var rfl) hd hf))) (fun z => nomatch z)) rfl
theorem c_accepts_defect (T : Tx K mg) (B : Bl mg) (C_check_graph : FnC P w K mg base 5 "check_graph" ["value"] (sp_check_graph K)) (C_is_defect : FnC P w K mg base 4 "is_defect" ["graph", "value"] (sp_is_defect K)) : FnC P w K mg base 6 "accepts_defect" ["graph", "value"] (sp_accepts_defect K) := by
  obtain ⟨f, fd, gf, F⟩ := T.accepts_defect
  refine ⟨f, fd, gf, F.kp, F.binds (ps := ["graph", "value"]) fun _ _ _ _ _ _ us hl => match us, hl with | [_, _], _ => rfl, ?_⟩
  refine F.ok sc_accepts_defect (fun vs H Q E h => ?_) (fun cdv A outer s H vs Q E hr h => ?_)
  · obtain ⟨g, v, d, G, rfl, _⟩ := h
    rfl
  · obtain ⟨g, v, d, G, rfl, hG, W, hd, hlow, q⟩ := h
    refine ⟨_, (pss_cons (ps_expr (pe_callC C_check_graph (hr.mono (by decide)) (by rfl) (pa_cons (pv 0) pa_nil)))
      (pss_one (ps_ret (pe_callC C_is_defect (hr.mono (by decide)) (by rfl) (pa_cons (pv 0) (pa_cons (pv 1) pa_nil)))))), ?_⟩
    refine q_drop (v_call (z := .non) (vs := [g]) (ea_cons (ev_var rfl) ea_nil) fun H1 e1 Q' q' E => ⟨g, G, rfl, hG.gw (Gw.of e1), W, q'⟩) fun H1 e1 => ?_
    exact s_ret (v_call (vs := [g, v]) (ea_cons (ev_var rfl) (ea_cons (ev_var rfl) ea_nil)) fun H2 e2 Q' q' E => ⟨g, v, d, G, rfl, hG.gw (Gw.of (Same.trans e1 e2)), W, hd.gw (Gw.of (Same.trans e1 e2)), hlow, q'⟩) fun H2 e2 => q H2 (Same.trans e1 e2)
end
end Tt

namespace Tt
open PySem PySem.Spec PyProof.Rows L2 TtR Evl
/-! the law's stream: one list that changes -/
structure Sm (p l : Addr) (ns : List Int) (H : Hp) : Prop where
  at_ : ∃ c k : Int, H p = some (.lst [.ref l, .int c, .int k]) ∧ 0 ≤ k
  src : H l = some (.lst (ns.map V.int))
/-- what stands still, p's list aside -/
structure Nx (p l : Addr) (ns : List Int) (H H' : Hp) : Prop where
  keep : ∀ a o, a ≠ p → H a = some o → H' a = some o
  sm : Sm p l ns H'
section
variable {p l : Addr} {ns : List Int} {H H1 H2 : Hp}
theorem Sm.same (h : Sm p l ns H) (e : Same H H1) : Sm p l ns H1 := by
  obtain ⟨⟨c, k, h1, h2⟩, h3⟩ := h
  exact ⟨⟨c, k, e _ _ h1, h2⟩, e _ _ h3⟩
theorem Nx.refl (h : Sm p l ns H) : Nx p l ns H H := ⟨fun _ _ _ h => h, h⟩
theorem Nx.trans (a : Nx p l ns H H1) (b : Nx p l ns H1 H2) : Nx p l ns H H2 := ⟨fun c o h1 h2 => b.keep c o h1 (a.keep c o h1 h2), b.sm⟩
theorem Nx.same (a : Nx p l ns H H1) (e : Same H1 H2) : Nx p l ns H H2 := ⟨fun c o h1 h2 => e _ _ (a.keep c o h1 h2), a.sm.same e⟩
theorem Nx.of (h : Sm p l ns H) (e : Same H H1) : Nx p l ns H H1 := ⟨fun c o h1 h2 => e _ _ h2, h.same e⟩
theorem Sm.ne_tup (h : Sm p l ns H) {a : Addr} {xs : List V} (e : H a = some (.tup xs)) : a ≠ p := fun z => by
  obtain ⟨⟨c, k, h1, h2⟩, h3⟩ := h
  rw [z, h1] at e
  cases e
theorem Sm.ne_none (h : Sm p l ns H) {a : Addr} (e : H a = none) : a ≠ p ∧ a ≠ l := by
  obtain ⟨⟨c, k, h1, h2⟩, h3⟩ := h
  constructor
  · intro z
    rw [z, h1] at e
    cases e
  · intro z
    rw [z, h3] at e
    cases e
theorem Nx.gw (h : Sm p l ns H) (n : Nx p l ns H H1) : Gw H H1 := by
  refine ⟨fun a xs e => n.keep a _ (h.ne_tup e) e, fun a xs e => ?_⟩
  by_cases z : a = p
  · obtain ⟨⟨c, k, h1, h2⟩, h3⟩ := n.sm
    exact ⟨_, by rw [z]; exact h1⟩
  · exact ⟨xs, n.keep a _ z e⟩
/-- a list of one's own changes: a was none at the start -/
theorem Nx.mut {a : Addr} {o : HO} (h : Sm p l ns H) (ha : H a = none) (n : Nx p l ns H H1) : Nx p l ns H (upd H1 a o) := by
  obtain ⟨n1, n2⟩ := h.ne_none ha
  refine ⟨fun b u h1 h2 => ?_, ?_⟩
  · rw [upd_ne (ne_of_none h2 ha)]
    exact n.keep b u h1 h2
  · obtain ⟨⟨c, k, h1, h2⟩, h3⟩ := n.sm
    exact ⟨⟨c, k, by rw [upd_ne n1.symm]; exact h1, h2⟩, by rw [upd_ne n2.symm]; exact h3⟩
end
theorem q_if_mid {σ : L2.St} {H : Hp} {t : TT} {b : Bool} {tu tz : TS} {D : Ends} (C : L2.St → Hp → Prop) (h : EvT t σ H b) (k : ∀ σ1 H1, C σ1 H1 → tz D σ1 H1) (h1 : b = true → ∀ H1, Ex H H1 → ∀ nx : L2.St → Hp → Prop, (∀ σ2 H2, C σ2 H2 → nx σ2 H2) → tu { D with nx := nx } σ H1) (h2 : b = false → ∀ H1, Ex H H1 → C σ H1) :
    tSeq (tIfS t tu tNext) tz D σ H := q_when h (fun hb H1 e => h1 hb H1 e _ k) fun hb H1 e => k σ H1 (h2 hb H1 e)
theorem ev_mulC {σ : L2.St} {H : Hp} {ta : TE} {i c : Int} (ha : Ev ta σ H (.int i)) (hc : -(2 ^ 64) < c ∧ c < 2 ^ 64) : Ev (tOp (rI CMul fun i j => .int (i * j)) ta (tC (.int c))) σ H (.int (i * c)) := ev_op ha ev_c (rv_I (.inr hc))
theorem ev_int {σ : L2.St} {H : Hp} {ta : TE} {i : Int} (ha : Ev ta σ H (.int i)) : Ev (tCB (fun xs H Q => (∃ i, xs = [V.int i] ∧ Q (.int i) H) ∨ ∃ k, xs = [V.bl k] ∧ Q (.int (if k then 1 else 0)) H) (tCons ta tNil)) σ H (.int i) :=
  ev_cb (ea_cons ha ea_nil) fun H1 _ Q q => .inl ⟨i, rfl, q H1 (Ex.refl _)⟩
theorem ev_abs {σ : L2.St} {H : Hp} {ta : TE} {i : Int} (ha : Ev ta σ H (.int i)) : Ev (tCB (fun xs H Q => ∃ i, xs = [V.int i] ∧ Q (.int (if i < 0 then -i else i)) H) (tCons ta tNil)) σ H (.int (if i < 0 then -i else i)) :=
  ev_cb (ea_cons ha ea_nil) fun H1 _ Q q => ⟨i, rfl, q H1 (Ex.refl _)⟩
def sp_law_stream (K : PySem.W.Frag) : Sp := fun vs H Q _ => ∃ (s : Addr) (ns : List Int), vs = [.ref s] ∧ SqL K H s (ns.map V.int) ∧ ns.length ≤ 1000 ∧ ∀ (H' : Hp) (p l : Addr), Same H H' → H p = none → Sm p l ns H' → Q (.ref p) H'
def sp_law_next (K : PySem.W.Frag) : Sp := fun vs H Q _ => ∃ (p l : Addr) (ns : List Int) (m : Int), vs = [.ref p, .int m] ∧ Sm p l ns H ∧ 0 < m ∧ m < 1000 ∧ ∀ (H' : Hp) (d : Int), Nx p l ns H H' → 0 ≤ d → d < m → Q (.int d) H'
def sp_law_equal (K : PySem.W.Frag) : Sp := fun vs H Q _ => ∃ a b : Bool, vs = [.bl a, .bl b] ∧ ∀ H', Same H H' → Q (.bl (decide (a = b))) H'
section
variable {P : Program} {w : World} {K : PySem.W.Frag} {mg : Str → Option Value} {base : Heap}
theorem c_law_stream (T : Tx K mg) (B : Bl mg) : FnC P w K mg base 1 "_law_stream" ["_law_script"] (sp_law_stream K) := by
  obtain ⟨f, fd, gf, F⟩ := T.law_stream
  refine ⟨f, fd, gf, F.kp, F.binds (ps := ["_law_script"]) fun _ _ _ _ _ _ us hl => match us, hl with | [_], _ => rfl, ?_⟩
  refine F.ok sc_law_stream (fun vs H Q E h => ?_) (fun cdv A outer s H vs Q E hr h => ?_)
  · obtain ⟨s, ns, rfl, _⟩ := h
    rfl
  · obtain ⟨s, ns, rfl, hs, hl, q⟩ := h
    refine ⟨_, (pss_one (ps_ret (pe_lst (pa_cons (pe_callTy (k_listOf (K := K) rfl) (by rfl) B.list_ (by decide +kernel) (pa_cons (pv 0) pa_nil)) (pa_cons pe_int (pa_cons pe_int pa_nil)))))), ?_⟩
    refine (el_list (ev_var rfl) hs) H (Ex.refl _) _ fun l H1 hl1 e1 hll => ?_
    refine ⟨by rw [sizeLine_eq]; show 3 ≤ 16777216; omega, fun p hp => ?_⟩
    exact q _ p l (Same.trans e1 (Same.new hp)) (fresh_back e1 hp) ⟨⟨0, 0, upd_same, by omega⟩, (Same.new hp) _ _ hll⟩
theorem c_law_next (T : Tx K mg) (B : Bl mg) : FnC P w K mg base 1 "_law_next" ["_law_stream_here", "_law_many"] (sp_law_next K) := by
  obtain ⟨f, fd, gf, F⟩ := T.law_next
  refine ⟨f, fd, gf, F.kp, F.binds (ps := ["_law_stream_here", "_law_many"]) fun _ _ _ _ _ _ us hl => match us, hl with | [_, _], _ => rfl, ?_⟩
  refine F.ok sc_law_next (fun vs H Q E h => ?_) (fun cdv A outer s H vs Q E hr h => ?_)
  · obtain ⟨p, l, ns, m, rfl, _⟩ := h
    rfl
  · obtain ⟨p, l, ns, m, rfl, hs, m0, m1, q⟩ := h
    refine ⟨_, (pss_cons (ps_if (pt_cmpR op_eq (pe_ix (k_ixL (K := K) rfl) (pv 0) pe_int (fun _ _ => rfl)) pe_int (nomark _)) (pss_cons (ps_set (i := 2) sc_law_next.nd rfl (.inl rfl) (pe_ix (k_ixL (K := K) rfl) (pv 0) pe_int (fun _ _ => rfl)))
      (pss_cons (ps_set (i := 3) sc_law_next.nd rfl (.inl rfl) (pe_op op_add pe_int (pv 2)))
      (pss_cons (ps_if (pt_cmpR op_lt (pv 2) (pe_callB (k_len (K := K) rfl) (by rfl) B.len_ (by decide +kernel) (pa_cons (pe_ix (k_ixL (K := K) rfl) (pv 0) pe_int (fun _ _ => rfl)) pa_nil)) (nomark _)) (pss_one (ps_set (i := 3) sc_law_next.nd rfl (.inl rfl) (pe_callB call_abs (by rfl) B.abs_ (by decide +kernel) (pa_cons (pe_ix (k_ixL (K := K) rfl) (pe_ix (k_ixL (K := K) rfl) (pv 0) pe_int (fun _ _ => rfl)) (pv 2) (fun _ _ => rfl)) pa_nil)))) pss_nil)
      (pss_cons (ps_if (pt_cmpR op_lt (pv 3) (pe_op op_pow pe_int pe_int) (nomark _)) (pss_cons (ps_set (i := 3) sc_law_next.nd rfl (.inl rfl) (pe_op op_modN (pe_callTy call_int1 (by rfl) B.int_ (by decide +kernel) (pa_cons (pe_op op_add (pe_op op_add (pe_op op_mul (pv 3) pe_int) (pe_op op_mul (pv 2) pe_int)) pe_int) pa_nil)) pe_int))
      (pss_one (ps_set (i := 3) sc_law_next.nd rfl (.inl rfl) (pe_op op_add (pe_op op_mul (pe_op op_modN (pe_callTy call_int1 (by rfl) B.int_ (by decide +kernel) (pa_cons (pe_op op_add (pe_op op_mul (pv 3) pe_int) pe_int) pa_nil)) pe_int) pe_int) (pv 3))))) pss_nil)
      (pss_cons (ps_asg (pv 3) (pg_sub (pv 0) pe_int set_list))
      (pss_one (ps_asg (pe_op op_add (pv 2) pe_int) (pg_sub (pv 0) pe_int set_list)))))))) pss_nil)
      (pss_cons (ps_set (i := 4) sc_law_next.nd rfl (.inl rfl) (pe_op op_modN (pe_callTy call_int1 (by rfl) B.int_ (by decide +kernel) (pa_cons (pe_ix (k_ixL (K := K) rfl) (pv 0) pe_int (fun _ _ => rfl)) pa_nil)) (pv 1)))
      (pss_cons (ps_asg (pe_op op_fdivN (pe_ix (k_ixL (K := K) rfl) (pv 0) pe_int (fun _ _ => rfl)) (pv 1)) (pg_sub (pv 0) pe_int set_list))
      (pss_one (ps_ret (pv 4)))))), ?_⟩
    obtain ⟨⟨c, k, hp, k0⟩, hl⟩ := hs
    have hlp : l ≠ p := fun z => by
      rw [z, hp] at hl
      have := Option.some.inj hl
      cases ns with
      | nil => cases this
      | cons n ns => cases this
    refine q_if_mid (fun σ1 H1 => ∃ y2 y3, ∃ c k : Int, σ1 = [some (.ref p), some (.int m), y2, y3, none] ∧ 0 ≤ k ∧ H1 p = some (.lst [.ref l, .int c, .int k]) ∧ ∀ a o, a ≠ p → H a = some o → H1 a = some o)
      (et_test (ev_eq (ev_ixL (ev_var rfl) hp ev_c rfl) ev_c rfl)) (fun σ1 H1 hC => ?_) (fun _ H1 e1 nx hnx => ?_) (fun _ H1 e1 => ⟨none, none, c, k, rfl, k0, e1 _ _ hp, fun a o _ h => e1 _ _ h⟩)
    · obtain ⟨y2, y3, c, k, rfl, k0, hp1, fr⟩ := hC
      refine q_asg (v := .int (c.fmod m)) (ev_op (ev_int (ev_ixL (ev_var rfl) hp1 ev_c rfl)) (ev_var rfl) (rv_I (C := fun _ j => j ≠ 0) (show m ≠ 0 by omega))) fun H2 e2 => ?_
      have hp2 := e2 _ _ hp1
      refine q_setL (l := p) (j := 1) (v := .int (c.fdiv m)) hp2 (ev_op (ev_ixL (ev_var rfl) hp2 ev_c rfl) (ev_var rfl) (rv_I (C := CDivN) ⟨by omega, by omega⟩)) (ev_var rfl) ev_c (by show 1 < 3; omega) fun H3 e3 => ?_
      refine s_ret (ev_var rfl) fun H4 e4 => q H4 _ ⟨fun a o h1 h2 => e4 _ _ (by rw [upd_ne h1]; exact e3 _ _ (e2 _ _ (fr a o h1 h2))), ⟨⟨c.fdiv m, k, e4 _ _ upd_same, k0⟩, e4 _ _ (by rw [upd_ne hlp]; exact e3 _ _ (e2 _ _ (fr l _ hlp hl)))⟩⟩ ?_ ?_
      · rw [Int.fmod_eq_emod_of_nonneg c (by omega)]
        exact Int.emod_nonneg _ (by omega)
      · rw [Int.fmod_eq_emod_of_nonneg c (by omega)]
        exact Int.emod_lt_of_pos _ m0
    · have hp1 := e1 _ _ hp
      have hl1 := e1 _ _ hl
      refine q_asg (D := { nx := nx, rt := _, bk := _, ct := _ }) (ev_ixL (v := .int k) (ev_var rfl) hp1 ev_c rfl) fun H2 e2 => ?_
      have hp2 := e2 _ _ hp1
      have hl2 := e2 _ _ hl1
      refine q_asg (D := { nx := nx, rt := _, bk := _, ct := _ }) (ev_add (i := 7) (j := k) ev_c (ev_var rfl)) fun H3 e3 => ?_
      have hp3 := e3 _ _ hp2
      have hl3 := e3 _ _ hl2
      have s3 : Same H H3 := Same.trans (Same.trans e1 e2) e3
      refine q_if_mid (D := { nx := nx, rt := _, bk := _, ct := _ }) (fun σ1 H4 => ∃ z : Int, σ1 = [some (.ref p), some (.int m), some (.int k), some (.int z), none] ∧ Same H3 H4) (et_test (ev_lt (ev_var (v := .int k) rfl) (ev_lenL (ev_ixL (v := .ref l) (ev_var rfl) hp3 ev_c rfl) hl3))) (fun σ1 H4 hC => ?_) (fun hb H4 e4 nx2 hnx2 => ?_) (fun _ H4 e4 => ⟨_, rfl, e4⟩)
      · obtain ⟨z, rfl, e4⟩ := hC
        refine q_if_mid (D := { nx := nx, rt := _, bk := _, ct := _ }) (fun σ1 H5 => ∃ z : Int, σ1 = [some (.ref p), some (.int m), some (.int k), some (.int z), none] ∧ Same H3 H5) (et_test (ev_lt (i := z) (j := 10 ^ 18) (ev_var rfl) (ev_op ev_c ev_c (rv_I (C := CPow) ⟨by decide, by decide, by decide⟩)))) (fun σ1 H5 hC => ?_) (fun hb H5 e5 nx2 hnx2 => ?_) (fun _ H5 e5 => ⟨_, rfl, Same.trans e4 e5⟩)
        · obtain ⟨z, rfl, e5⟩ := hC
          have hp5 := e5 _ _ hp3
          refine q_setL (D := { nx := nx, rt := _, bk := _, ct := _ }) (l := p) (j := 1) (v := .int z) hp5 (ev_var rfl) (ev_var rfl) ev_c (by show 1 < 3; omega) fun H6 e6 => ?_
          refine s_setL (D := { nx := nx, rt := _, bk := _, ct := _ }) (l := p) (j := 2) (v := .int (k + 1)) upd_same (ev_add (ev_var rfl) ev_c) (ev_var rfl) ev_c (by show 2 < 3; omega) fun H7 e7 => ?_
          refine hnx _ _ ⟨_, _, z, k + 1, rfl, by omega, upd_same, fun a o h1 h2 => ?_⟩
          rw [upd_ne h1]
          refine e7 _ _ ?_
          rw [upd_ne h1]
          exact e6 _ _ (e5 _ _ (s3 _ _ h2))
        · refine q_asg (D := { nx := nx2, rt := _, bk := _, ct := _ }) (ev_op (ev_int (ev_add (ev_add (ev_mulC (i := z) (ev_var rfl) (by decide)) (ev_mulC (i := k) (ev_var rfl) (by decide))) ev_c)) ev_c (rv_I (C := fun _ j => j ≠ 0) (by decide))) fun H6 e6 => ?_
          refine s_asg (D := { nx := nx2, rt := _, bk := _, ct := _ }) (ev_add (ev_mulC (ev_op (ev_int (ev_add (ev_mulC (ev_var rfl) (by decide)) ev_c)) ev_c (rv_I (C := fun _ j => j ≠ 0) (by decide))) (by decide)) (ev_var rfl)) fun H7 e7 => hnx2 _ _ ⟨_, rfl, Same.trans (Same.trans (Same.trans e4 e5) e6) e7⟩
      · have hk : k < ((ns.map V.int).length : Int) := of_decide_eq_true hb
        rw [List.length_map] at hk
        have hk2 : k.toNat < ns.length := by omega
        exact s_asg (D := { nx := nx2, rt := _, bk := _, ct := _ }) (ev_abs (ev_ixL (ev_ixL (v := .ref l) (ev_var rfl) (e4 _ _ hp3) ev_c rfl) (e4 _ _ hl3) (ev_var rfl) (atI_ints (j := k.toNat) (by omega) (List.getElem?_eq_getElem hk2)))) fun H5 e5 => hnx2 _ _ ⟨_, rfl, Same.trans e4 e5⟩
theorem c_law_equal (T : Tx K mg) (B : Bl mg) : FnC P w K mg base 1 "_law_equal" ["_law_actual", "_law_due"] (sp_law_equal K) := by
  obtain ⟨f, fd, gf, F⟩ := T.law_equal
  refine ⟨f, fd, gf, F.kp, F.binds (ps := ["_law_actual", "_law_due"]) fun _ _ _ _ _ _ us hl => match us, hl with | [_, _], _ => rfl, ?_⟩
  refine F.ok sc_law_equal (fun vs H Q E h => ?_) (fun cdv A outer s H vs Q E hr h => ?_)
  · obtain ⟨a, b, rfl, _⟩ := h
    rfl
  · obtain ⟨a, b, rfl, q⟩ := h
    refine ⟨_, (pss_cons (ps_if (pt_cmpR op_isN (pv 1) pe_non (nomark _)) (pss_one (ps_ret (pe_cmpR op_isN (pv 0) pe_non (nomark _)))) pss_nil)
      (pss_cons (ps_if (pt_val (pe_callB (k_isi (K := K) rfl) (by rfl) B.isinstance_ (by decide +kernel) (pa_cons (pv 1) (pa_cons (pe_bltn (v := .ty "bool") (by rfl) B.bool_ (by decide +kernel) rfl) pa_nil)))) (pss_one (ps_ret (pe_and (pe_callB (k_isi (K := K) rfl) (by rfl) B.isinstance_ (by decide +kernel) (pa_cons (pv 0) (pa_cons (pe_bltn (v := .ty "bool") (by rfl) B.bool_ (by decide +kernel) rfl) pa_nil))) (pe_one (pe_cmpR op_eq (pv 0) (pv 1) (nomark _)))))) pss_nil)
      pss_never)), ?_⟩
    refine q_when (b := false) (et_test (ev_is (ev_isN (ev_var (v := .bl b) rfl)) rfl)) (fun z => nomatch z) (fun _ H1 e1 => ?_)
    refine q_when (b := true) (et_B (ev_isi (ev_var rfl) (.bl b) kit_bb)) (fun _ H2 e2 => ?_) (fun z => nomatch z)
    refine s_ret (ev_is (ev_andV (a := true) (ev_isi (ev_var rfl) (.bl a) kit_bb) fun _ => ev_eq (ev_var rfl) (ev_var rfl) rfl) ?_) fun H3 e3 => q H3 (Same.trans (Same.trans e1 e2) e3)
    rw [Bool.true_and]
    congr 1
    exact decide_eq_decide.mpr ⟨fun h => V.bl.inj h, fun h => by rw [h]⟩
end
end Tt

namespace Tt
open PySem PySem.Spec PyProof.Rows L2 TtR Evl
/-- a scope as drawn -/
structure Sc (V : Int) (xs : List Int) : Prop where
  up : xs.Pairwise (· < ·)
  mem : ∀ x ∈ xs, 0 ≤ x ∧ x < V
  few : xs.length ≤ 3
theorem Sc.vars {V : Int} {xs : List Int} (h : Sc V xs) (hV : V ≤ 6) : Vars xs ∧ xs.length ≤ 3 := ⟨⟨by have := h.few; omega, h.up, fun x hx => by have := h.mem x hx; omega⟩, h.few⟩
def sp_law_scope (K : PySem.W.Frag) : Sp := fun vs H Q _ => ∃ (p l : Addr) (ns : List Int) (n : Nat), vs = [.ref p, .int (n : Int)] ∧ Sm p l ns H ∧ n ≤ 6 ∧ ∀ (H' : Hp) (a : Addr) (xs : List Int), Nx p l ns H H' → H' a = some (.tup (xs.map V.int)) → Sc (n : Int) xs → Q (.ref a) H'
/-- asked: _law_next(stream, m) -/
theorem n_next {K : PySem.W.Frag} {σ : L2.St} {H : Hp} {ts : TA} {E : XK} {p l : Addr} {ns : List Int} {m : Int} {Q : VK} (h : EvA ts σ H [.ref p, .int m]) (hs : Sm p l ns H) (h0 : 0 < m) (h1 : m < 1000)
    (q : ∀ (d : Int) (H' : Hp), Nx p l ns H H' → 0 ≤ d → d < m → Q (.int d) H') : tCall (sp_law_next K) [] E ts σ H Q :=
  h H (Ex.refl H) _ fun H2 e => by
    show sp_law_next K ([V.ref p, .int m] ++ []) H2 Q E
    rw [List.append_nil]
    exact ⟨p, l, ns, m, rfl, hs.same e, h0, h1, fun H' d n d0 d1 => q d H' ((Nx.of hs e).trans n) d0 d1⟩
theorem cut_take (xs : List V) (n : Nat) : cutV xs none (some (n : Int)) = xs.take n := by
  unfold cutV
  rw [HT.sIx_none, HT.sIx_nat, List.drop_zero, Nat.sub_zero]
  by_cases h : n ≤ xs.length
  · rw [Nat.min_eq_left h]
  · rw [Nat.min_eq_right (by omega), List.take_length, List.take_of_length_le (by omega)]
section
variable {P : Program} {w : World} {K : PySem.W.Frag} {mg : Str → Option Value} {base : Heap}
theorem c_law_scope (T : Tx K mg) (B : Bl mg) (C_law_next : FnC P w K mg base 1 "_law_next" ["_law_stream_here", "_law_many"] (sp_law_next K)) : FnC P w K mg base 2 "_law_scope" ["_law_stream_here", "_law_variables"] (sp_law_scope K) := by
  obtain ⟨f, fd, gf, F⟩ := T.law_scope
  refine ⟨f, fd, gf, F.kp, F.binds (ps := ["_law_stream_here", "_law_variables"]) fun _ _ _ _ _ _ us hl => match us, hl with | [_, _], _ => rfl, ?_⟩
  refine F.ok sc_law_scope (fun vs H Q E h => ?_) (fun cdv A outer s H vs Q E hr h => ?_)
  · obtain ⟨p, l, ns, n, rfl, _⟩ := h
    rfl
  · obtain ⟨p, l, ns, n, rfl, hs, hn, q⟩ := h
    refine ⟨_, (pss_cons (ps_setLc (i := 2) (own := [("_law_variable", 3)]) rfl sc_law_scope.nd rfl rfl (sw_true rfl rfl rfl (by decide +kernel)) (pi_range1 (by rfl) B.range_ (pa_cons (pv 1) pa_nil)) (blkOk_by (N := N_law_scope) (sc := defScope s_law_scope) (by decide +kernel)) (fun _ _ _ _ _ => (pg_name (i := 3) sc_law_scope.nd rfl (.inl rfl))) (fun _ _ _ _ _ => (pts_one (pt_cmpR op_eq (pe_callC C_law_next (hr.mono (by decide)) (by rfl) (pa_cons (pv 0) (pa_cons pe_int pa_nil))) pe_int (nomark _)))) (fun _ _ _ _ _ => (pv 3)))
      (pss_one (ps_ret (k_tupleOf (K := K) rfl (by rfl) B.tuple_ (pe_slice sl_list (pv 2) po_none (po_some pe_int)))))), ?_⟩
    refine ⟨.int (n : Int), rfl, (n : Int), rfl, by omega, by omega, fun D hD => ?_⟩
    rw [show ((n : Int)).toNat = n by omega]
    obtain ⟨nD, nl⟩ := hs.ne_none hD
    refine lc_gen walk_range (by omega) (fun i acc H' => Nx p l ns H H' ∧ ∃ xs : List Int, acc = xs.map V.int ∧ xs.Pairwise (· < ·) ∧ ∀ x ∈ xs, 0 ≤ x ∧ x < (i : Int)) (fun _ _ _ _ => trivial) (fun i acc H' a' zs m hDa => ⟨m.1.mut hs hD, m.2⟩) ⟨(Nx.refl hs).mut hs hD, [], rfl, .nil, by simp⟩ (fun i acc x H' H'' P2 P3 hi hDa hal m y k2 k3 => ?_) (fun acc H' hDa hal m => ?_)
    · obtain ⟨rfl, rfl⟩ := y
      obtain ⟨n1, xs, rfl, up, mem⟩ := m
      refine ⟨rfl, n_next (m := 3) (ea_cons (ev_var rfl) (ea_cons ev_c ea_nil)) n1.sm (by decide) (by decide) fun d H4 n2 d0 d1 => ?_⟩
      have hD4 := n2.keep D _ nD hDa
      have n4 := n1.trans n2
      refine ⟨rfl, _, rfl, ?_⟩
      by_cases h0 : d = 0
      · subst h0
        refine iteT ⟨_, rfl, k2 _ _ hD4 ⟨n4, xs ++ [(i : Int)], ?_, ?_, fun x hx => ?_⟩⟩
        · rw [List.map_append]
          show xs.map V.int ++ [V.int (0 + (i : Int))] = xs.map V.int ++ [V.int (i : Int)]
          rw [Int.zero_add]
        · exact List.pairwise_append.mpr ⟨up, by simp, fun a ha b hb => by
            have e : b = (i : Int) := by simpa using hb
            rw [e]
            exact (mem a ha).2⟩
        · rcases List.mem_append.mp hx with h | h
          · have := mem x h
            omega
          · have e : x = (i : Int) := by simpa using h
            omega
      · rw [decide_eq_false fun e => h0 (V.int.inj e)]
        refine iteF (k3 _ hD4 ⟨n4, xs, rfl, up, fun x hx => ?_⟩)
        have := mem x hx
        omega
    · obtain ⟨n1, xs, rfl, up, mem⟩ := m
      refine (tup_ofL (el_sl (lo := none) (hi := some 3) (ev_var rfl) eo_none (eo_some ev_c) (SqL.of hDa))) H' (Ex.refl _) _ fun a H2 ha e2 ha2 => ?_
      have e3 : cutV (xs.map V.int) none (some 3) = (xs.take 3).map V.int := by
        rw [List.map_take]
        exact cut_take (xs.map V.int) 3
      rw [e3] at ha2
      exact q H2 a _ (n1.same e2) ha2 ⟨up.sublist (List.take_sublist _ _), fun x hx => mem x (List.mem_of_mem_take hx), by rw [List.length_take]; omega⟩
end
end Tt

namespace Tt
open PySem PySem.Spec PyProof.Rows L2 TtR Evl
def sp_law_any_graph (K : PySem.W.Frag) : Sp := fun vs H Q _ => ∃ (p l : Addr) (ns : List Int), vs = [.ref p, .int 5] ∧ Sm p l ns H ∧ ∀ (H' : Hp) (g : V) (G : Gr), Nx p l ns H H' → GraphAt H' g G → WG G → Q g H'
def sp_law_tree (K : PySem.W.Frag) : Sp := sp_law_any_graph K
def sp_law_some_graph (K : PySem.W.Frag) : Sp := sp_law_any_graph K
theorem n_scope {K : PySem.W.Frag} {σ : L2.St} {H : Hp} {ts : TA} {E : XK} {p l : Addr} {ns : List Int} {m : Int} {n : Nat} {Q : VK} (h : EvA ts σ H [.ref p, .int m]) (hm : m = (n : Int)) (hs : Sm p l ns H) (h1 : n ≤ 6)
    (q : ∀ (a : Addr) (xs : List Int) (H' : Hp), Nx p l ns H H' → H' a = some (.tup (xs.map V.int)) → Sc (n : Int) xs → Q (.ref a) H') : tCall (sp_law_scope K) [] E ts σ H Q :=
  h H (Ex.refl H) _ fun H2 e => by
    show sp_law_scope K ([V.ref p, .int m] ++ []) H2 Q E
    rw [List.append_nil, hm]
    exact ⟨p, l, ns, n, rfl, hs.same e, h1, fun H' a xs n ha sc => q a xs H' ((Nx.of hs e).trans n) ha sc⟩
/-- x = c + _law_next(stream, m) -/
theorem q_next {K : PySem.W.Frag} {σ : L2.St} {H : Hp} {ts : TA} {E : XK} {p l : Addr} {ns : List Int} {m c : Int} {i : Nat} {D : Ends} {tz : TS} (h : EvA ts σ H [.ref p, .int m]) (hs : Sm p l ns H) (h0 : 0 < m) (h1 : m < 1000)
    (k : ∀ (d : Int) (H' : Hp), Nx p l ns H H' → 0 ≤ d → d < m → tz D (σ.set i (some (.int (c + d)))) H') : tSeq (tAsg (tOp (rI0 fun i j => .int (i + j)) (tC (.int c)) (tCall (sp_law_next K) [] E ts)) (gName i)) tz D σ H :=
  n_next h hs h0 h1 fun d H' n d0 d1 => ⟨c, d, rfl, rfl, k d H' n d0 d1⟩
/-- edges in their order -/
structure Eds (many : Int) (ed : List (Int × Int)) : Prop where
  ok : ∀ p ∈ ed, 0 ≤ p.1 ∧ p.1 < p.2 ∧ p.2 < many
  up : ed.Pairwise fun p q => p.1 < q.1 ∨ (p.1 = q.1 ∧ p.2 < q.2)
section
variable {P : Program} {w : World} {K : PySem.W.Frag} {mg : Str → Option Value} {base : Heap}
theorem c_law_any_graph (T : Tx K mg) (B : Bl mg) (C_law_next : FnC P w K mg base 1 "_law_next" ["_law_stream_here", "_law_many"] (sp_law_next K)) (C_law_scope : FnC P w K mg base 2 "_law_scope" ["_law_stream_here", "_law_variables"] (sp_law_scope K)) : FnC P w K mg base 3 "_law_any_graph" ["_law_stream_here", "_law_most"] (sp_law_any_graph K) := by
  obtain ⟨f, fd, gf, F⟩ := T.law_any_graph
  refine ⟨f, fd, gf, F.kp, F.binds (ps := ["_law_stream_here", "_law_most"]) fun _ _ _ _ _ _ us hl => match us, hl with | [_, _], _ => rfl, ?_⟩
  refine F.ok sc_law_any_graph (fun vs H Q E h => ?_) (fun cdv A outer s H vs Q E hr h => ?_)
  · obtain ⟨p, l, ns, rfl, _⟩ := h
    rfl
  · obtain ⟨p, l, ns, rfl, hs, q⟩ := h
    refine ⟨_, (pss_cons (ps_set (i := 2) sc_law_any_graph.nd rfl (.inl rfl) (pe_op op_add pe_int (pe_callC C_law_next (hr.mono (by decide)) (by rfl) (pa_cons (pv 0) (pa_cons (pv 1) pa_nil)))))
      (pss_cons (ps_set (i := 3) sc_law_any_graph.nd rfl (.inr rfl) (pe_op op_add pe_int (pe_callC C_law_next (hr.mono (by decide)) (by rfl) (pa_cons (pv 0) (pa_cons pe_int pa_nil)))))
      (pss_cons (ps_set (i := 4) sc_law_any_graph.nd rfl (.inl rfl) (k_tupleOf (K := K) rfl (by rfl) B.tuple_ (pe_lc (own := [("_law_node", 8)]) rfl sc_law_any_graph.nd (pi_range1 (by rfl) B.range_ (pa_cons (pv 2) pa_nil)) (blkOk_by (N := N_law_any_graph) (sc := defScope s_law_any_graph) (by decide +kernel)) (fun _ _ _ _ _ => (pg_name (i := 8) sc_law_any_graph.nd rfl (.inl rfl))) (fun _ _ _ _ _ => pts_nil) (fun _ _ _ _ _ => (pe_callC C_law_scope (hr.mono (by decide)) (by rfl) (pa_cons (pv 0) (pa_cons (pv 3) pa_nil)))))))
      (pss_cons (ps_set (i := 5) sc_law_any_graph.nd rfl (.inl rfl) (pe_lst pa_nil))
      (pss_cons (ps_for PassesOwn.never rfl (pi_range1 (by rfl) B.range_ (pa_cons (pv 2) pa_nil)) (pg_name (i := 6) sc_law_any_graph.nd rfl (.inl rfl)) (pss_one (ps_for PassesOwn.never rfl (pi_range2 (by rfl) B.range_ (pa_cons (pe_op op_add (pv 6) pe_int) (pa_cons (pv 2) pa_nil))) (pg_name (i := 7) sc_law_any_graph.nd rfl (.inl rfl)) (pss_one (ps_if (pt_cmpR op_eq (pe_callC C_law_next (hr.mono (by decide)) (by rfl) (pa_cons (pv 0) (pa_cons pe_int pa_nil))) pe_int (nomark _)) (pss_one (ps_expr (pe_bm PySem.F.plainAttrs_list PySem.F.slot_list_append PySem.F.type_list_append mt_append (pv 5) (pa_cons (pe_tup (pa_cons (pv 6) (pa_cons (pv 7) pa_nil))) pa_nil)))) pss_nil)))))
      (pss_one (ps_ret (pe_tup (pa_cons (pe_op op_add pe_int (pe_callC C_law_next (hr.mono (by decide)) (by rfl) (pa_cons (pv 0) (pa_cons pe_int pa_nil)))) (pa_cons (pv 4) (pa_cons (k_tupleOf (K := K) rfl (by rfl) B.tuple_ (pv 5)) pa_nil))))))))))), ?_⟩
    refine q_next (m := 5) (ea_cons (ev_var rfl) (ea_cons (ev_var rfl) ea_nil)) hs (by decide) (by decide) fun d1 H1 n1 d10 d11 => ?_
    obtain ⟨many, em⟩ : ∃ many : Nat, 1 + d1 = (many : Int) := ⟨(1 + d1).toNat, by omega⟩
    rw [em]
    have hm : 1 ≤ many ∧ many ≤ 5 := by omega
    refine q_next (m := 5) (ea_cons (ev_var rfl) (ea_cons ev_c ea_nil)) n1.sm (by decide) (by decide) fun d2 H2 n2 d20 d21 => ?_
    obtain ⟨va, ev⟩ : ∃ va : Nat, 2 + d2 = (va : Int) := ⟨(2 + d2).toNat, by omega⟩
    rw [ev]
    have hv : va ≤ 6 := by omega
    replace n2 := n1.trans n2
    have hs2 := n2.sm
    refine ⟨.int (many : Int), rfl, (many : Int), rfl, by omega, by omega, fun D hD => ?_⟩
    rw [show ((many : Int)).toNat = many by omega]
    obtain ⟨nD, nl⟩ := hs2.ne_none hD
    refine lc_gen walk_range (by omega) (fun i acc H' => Nx p l ns H2 H' ∧ ∃ ss : List (List Int), Tups H' acc ss ∧ (∀ xs ∈ ss, Sc (va : Int) xs) ∧ ss.length = i) (fun _ _ _ _ => trivial) (fun i acc H' a' zs m hDa => ⟨m.1.mut hs2 hD, by
        obtain ⟨ss, t, h1, h2⟩ := m.2
        exact ⟨ss, t.gw (Gw.upd hDa), h1, h2⟩⟩) ⟨(Nx.refl hs2).mut hs2 hD, [], Tups.nil, by simp, rfl⟩ (fun i acc x H' H'' P2 P3 hi hDa hal m y k2 k3 => ?_) (fun acc H3 hDa hal m => ?_)
    · obtain ⟨rfl, rfl⟩ := y
      obtain ⟨n3, ss, t3, hss, hsl⟩ := m
      refine ⟨rfl, iteT (B := P3 H'') ?_⟩
      refine n_scope (n := va) (ea_cons (ev_var rfl) (ea_cons (ev_var rfl) ea_nil)) rfl n3.sm hv fun a xs H4 n4 ha sc => k2 _ _ (n4.keep D _ nD hDa) ⟨n3.trans n4, ss ++ [xs], (t3.gw (n4.gw n3.sm)).snoc ha, fun ys hy => ?_, by rw [List.length_append, hsl]; rfl⟩
      rcases List.mem_append.mp hy with h | h
      · exact hss ys h
      · have e : ys = xs := by simpa using h
        rw [e]
        exact sc
    · obtain ⟨n3, ss, t3, hss, hsl⟩ := m
      refine .inl ⟨D, acc, rfl, SqL.of hDa, fun sc hsc => ?_⟩
      have n4 : Nx p l ns H2 (upd H3 sc (.tup acc)) := n3.same (Same.new hsc)
      have t4 : Tups (upd H3 sc (.tup acc)) acc ss := t3.gw (Gw.new hsc)
      have hsc4 : upd H3 sc (.tup acc) sc = some (.tup acc) := upd_same
      generalize upd H3 sc (.tup acc) = H4 at n4 t4 hsc4 ⊢
      have n04 := n2.trans n4
      refine q_asgL (xs := []) (el_lst ea_nil (by show 0 ≤ 100000; omega)) fun pe H5 hpe e5 hpe5 => ?_
      have n5 : Nx p l ns H4 H5 := Nx.of n4.sm e5
      have npe := (n4.sm.ne_none hpe).1
      refine q_forR1 (n := (many : Int)) (ea_cons (ev_var rfl) ea_nil) ⟨by omega, by omega⟩ (fun i σ' H' => ∃ y6 y7, ∃ (es : List V) (ed : List (Int × Int)), σ' = [some (.ref p), some (.int 5), some (.int (many : Int)), some (.int (va : Int)), some (.ref sc), some (.ref pe), y6, y7, none] ∧ Nx p l ns H4 H' ∧ H' pe = some (.lst es) ∧ Tups H' es (ed.map pr) ∧ Eds (many : Int) ed ∧ (∀ p ∈ ed, p.1 < (i : Int)) ∧ ed.length ≤ 5 * i)
        (fun H6 e6 => ⟨none, none, [], [], rfl, n5.same e6, e6 _ _ hpe5, Tups.nil, ⟨by simp, .nil⟩, by simp, by simp⟩) (fun i σ' H' hi hP => ?_) (fun σ' H' hP => ?_)
      · obtain ⟨y6, y7, es, ed, rfl, n6, hp6, t6, eds, lo, le⟩ := hP
        refine s_forR2 (lo := (i : Int) + 1) (n := (many : Int)) (ea_cons (ev_add (ev_var rfl) ev_c) (ea_cons (ev_var rfl) ea_nil)) (by omega) (fun j σ' H' => ∃ y7, ∃ (es : List V) (ed : List (Int × Int)), σ' = [some (.ref p), some (.int 5), some (.int (many : Int)), some (.int (va : Int)), some (.ref sc), some (.ref pe), some (.int (i : Int)), y7, none] ∧ Nx p l ns H4 H' ∧ H' pe = some (.lst es) ∧ Tups H' es (ed.map pr) ∧ Eds (many : Int) ed ∧ (∀ p ∈ ed, p.1 < (i : Int) ∨ (p.1 = (i : Int) ∧ p.2 < (i : Int) + 1 + (j : Int))) ∧ ed.length ≤ 5 * i + j)
          (fun H7 e7 => ⟨y7, es, ed, rfl, n6.same e7, e7 _ _ hp6, t6.gw (Gw.of e7), eds, fun p hp => .inl (lo p hp), by omega⟩) (fun j σ' H' hj hP => ?_) (fun σ' H' hP => ?_)
        · obtain ⟨y7, es, ed, rfl, n7, hp7, t7, eds, lo, le⟩ := hP
          refine n_next (m := 2) (ea_cons (ev_var rfl) (ea_cons ev_c ea_nil)) n7.sm (by decide) (by decide) fun d H8 n8 d0 d1 => ⟨rfl, _, rfl, ?_⟩
          have n48 := n7.trans n8
          have hp8 := n8.keep pe _ npe hp7
          have t8 := t7.gw (n8.gw n7.sm)
          by_cases h0 : d = 0
          · subst h0
            refine iteT (s_appU hp8 (ev_var rfl) (eu_tup (vs := [.int (i : Int), .int ((i : Int) + 1 + (j : Int))]) (ea_cons (ev_var rfl) (ea_cons (ev_var rfl) ea_nil)) (by show 2 ≤ 100000; omega)) ?_ fun t H9 ht e9 ht9 => ?_)
            · have := t8.1
              rw [List.length_map] at this
              omega
            · have gw : Gw H9 (upd H9 pe (.lst (es ++ [.ref t]))) := Gw.upd (e9 _ _ hp8)
              refine ⟨_, es ++ [.ref t], ed ++ [((i : Int), (i : Int) + 1 + (j : Int))], rfl, (n48.same e9).mut n4.sm hpe, upd_same, ?_, ⟨fun p hp => ?_, ?_⟩, fun p hp => ?_, by rw [List.length_append, List.length_singleton]; omega⟩
              · rw [List.map_append]
                exact ((t8.gw (Gw.of e9)).gw gw).snoc (gw.tup _ _ ht9)
              · rcases List.mem_append.mp hp with h | h
                · exact eds.ok p h
                · have e : p = ((i : Int), (i : Int) + 1 + (j : Int)) := by simpa using h
                  subst e
                  exact ⟨by show (0 : Int) ≤ (i : Int); omega, by show (i : Int) < (i : Int) + 1 + (j : Int); omega, by show (i : Int) + 1 + (j : Int) < (many : Int); omega⟩
              · refine List.pairwise_append.mpr ⟨eds.up, by simp, fun a ha b hb => ?_⟩
                have e : b = ((i : Int), (i : Int) + 1 + (j : Int)) := by simpa using hb
                subst e
                exact lo a ha
              · rcases List.mem_append.mp hp with h | h
                · have := lo p h
                  omega
                · have e : p = ((i : Int), (i : Int) + 1 + (j : Int)) := by simpa using h
                  subst e
                  exact .inr ⟨rfl, by show (i : Int) + 1 + (j : Int) < (i : Int) + 1 + ((j + 1 : Nat) : Int); omega⟩
          · rw [decide_eq_false fun e => h0 (V.int.inj e)]
            refine iteF ⟨_, es, ed, rfl, n48, hp8, t8, eds, fun p hp => ?_, by omega⟩
            have := lo p hp
            omega
        · obtain ⟨y7, es, ed, rfl, n7, hp7, t7, eds, lo, le⟩ := hP
          refine ⟨_, _, es, ed, rfl, n7, hp7, t7, eds, fun p hp => ?_, by omega⟩
          have := lo p hp
          omega
      · obtain ⟨y6, y7, es, ed, rfl, n6, hp6, t6, eds, lo, le⟩ := hP
        have hs6 := n6.sm
        refine n_next (m := 2) (ea_cons (ev_var rfl) (ea_cons ev_c ea_nil)) hs6 (by decide) (by decide) fun d H7 n7 d0 d1 => ⟨2, d, rfl, rfl, .ref sc, rfl, .ref pe, rfl, ?_⟩
        have hp7 := n7.keep pe _ npe hp6
        have t7 := t6.gw (n7.gw hs6)
        have n47 := n6.trans n7
        refine .inl ⟨pe, es, rfl, SqL.of hp7, fun t ht => ⟨by rw [sizeLine_eq]; show 3 ≤ 16777216; omega, fun T hT => ?_⟩⟩
        have s9 : Same H7 (upd (upd H7 t (.tup es)) T (.tup [.int (2 + d), .ref sc, .ref t])) := Same.trans (Same.new ht) (Same.new hT)
        have gw := (n47.gw n4.sm).trans (Gw.of s9)
        refine q _ (.ref T) ⟨2 + d, ss, ed⟩ ((n04.trans n47).same s9) ⟨T, sc, t, acc, es, rfl, upd_same, gw.tup _ _ hsc4, (Same.new hT) _ _ upd_same, t4.gw gw, t7.gw (Gw.of s9)⟩ ⟨⟨by show 2 ≤ 2 + d; omega, by show 2 + d ≤ 3; omega⟩, ?_, fun xs hx => (hss xs hx).vars (by omega), fun p hp => ?_, eds.up, ?_⟩
        · show 1 ≤ ss.length ∧ ss.length ≤ 5
          omega
        · show 0 ≤ p.1 ∧ p.1 < p.2 ∧ p.2 < (ss.length : Int)
          rw [hsl]
          exact eds.ok p hp
        · show ed.length ≤ 100
          omega
end
end Tt

namespace Tt
open PySem PySem.Spec PyProof.Rows L2 TtR Evl
theorem Nx.back {p l : Addr} {ns : List Int} {H H1 : Hp} (n : Nx p l ns H H1) {a : Addr} (e : H1 a = none) : H a = none := by
  have hp := (n.sm.ne_none e).1
  cases q : H a with
  | none => rfl
  | some o =>
    rw [n.keep a o hp q] at e
    cases e
theorem Sc.more {V W : Int} {xs : List Int} (h : Sc V xs) (e : V ≤ W) : Sc W xs := ⟨h.up, fun x hx => by have := h.mem x hx; omega, h.few⟩
theorem w_and {t u : TT} {σ : L2.St} {H : Hp} {b : Bool} {Q : Bool → Hp → Prop} (h : EvT t σ H b) (k1 : b = true → ∀ H1, Ex H H1 → u σ H1 Q) (k2 : b = false → ∀ H1, Ex H H1 → Q false H1) : tAnd t u σ H Q := h H (Ex.refl H) _ fun H1 e => by
  cases b with
  | true => exact k1 rfl H1 e
  | false => exact k2 rfl H1 e
theorem s_appR {K : PySem.W.Frag} {σ : L2.St} {H : Hp} {ta te : TE} {D : Ends} {l : Addr} {xs : List V} {P : V → Hp → Prop} (hl : H l = some (.lst xs)) (ha : Ev ta σ H (.ref l)) (h : EvR te σ H P) (hz : xs.length < 100000) (k : ∀ v H1, Ex H H1 → P v H1 → D.nx σ (upd H1 l (.lst (xs ++ [v])))) :
    tDrop (tBM K "list" rAppend ta (tCons te tNil)) D σ H := ha H (Ex.refl H) _ fun H1 e1 =>
  ⟨Or.inl ⟨rfl, xs, sq_of (e1 l _ hl)⟩, h H1 e1 _ fun v H2 e2 p => ⟨l, xs, v, rfl, rfl, e2 l _ (e1 l _ hl), sz_lt hz, k v H2 (e1.trans e2) p⟩⟩
/-- the pair at a value -/
def prOf (H : Hp) : V → Int × Int
  | .ref t => match H t with
    | some (.tup [.int a, .int b]) => (a, b)
    | _ => (0, 0)
  | _ => (0, 0)
theorem prOf_ref {H : Hp} {t : Addr} {q : Int × Int} (h : H t = some (.tup ((pr q).map V.int))) : prOf H (.ref t) = q := by
  unfold prOf
  simp only [h, pr, List.map_cons, List.map_nil]
theorem Tups.keys {H : Hp} {es : List V} {ed : List (Int × Int)} (h : Tups H es (ed.map pr)) : es.map (prOf H) = ed := by
  refine List.ext_getElem? fun i => ?_
  rw [List.getElem?_map]
  cases hx : es[i]? with
  | none =>
    have h1 := List.getElem?_eq_none_iff.mp hx
    have h2 := h.1
    rw [List.length_map] at h2
    exact (List.getElem?_eq_none_iff.mpr (by omega)).symm
  | some x =>
    obtain ⟨a, ns, rfl, e1, e2⟩ := h.of_x hx
    rw [List.getElem?_map] at e1
    cases hq : ed[i]? with
    | none => rw [hq] at e1; cases e1
    | some q =>
      rw [hq] at e1
      obtain rfl : pr q = ns := Option.some.inj e1
      show some (prOf H (.ref a)) = some q
      rw [prOf_ref e2]
theorem Tups.of_keys {H : Hp} {ys : List V} (h : ∀ y ∈ ys, ∃ t, y = .ref t ∧ H t = some (.tup ((pr (prOf H y)).map V.int))) : Tups H ys ((ys.map (prOf H)).map pr) := by
  refine ⟨by simp, fun i v ns h1 h2 => ?_⟩
  obtain ⟨t, e1, e2⟩ := h v (List.mem_of_getElem? h1)
  rw [List.getElem?_map, List.getElem?_map, h1] at h2
  obtain rfl : pr (prOf H v) = ns := Option.some.inj h2
  exact ⟨t, e1, e2⟩
/-- sorted(edges) -/
theorem ev_sortedPO {K : PySem.W.Frag} {σ : L2.St} {H : Hp} {ta : TE} {a : Addr} {es : List V} {ed : List (Int × Int)} (h : Ev ta σ H (.ref a)) (ha : H a = some (.lst es)) (he : Tups H es (ed.map pr)) (nd : ed.Nodup) :
    EvR (tCB (rSortedPO K) (tCons ta tNil)) σ H fun v H2 => ∃ a ys, v = .ref a ∧ H2 a = some (.lst ys) ∧ ∃ ed' : List (Int × Int), Tups H2 ys (ed'.map pr) ∧ ed'.Perm ed ∧ ed'.Pairwise (fun p q => p.1 < q.1 ∨ (p.1 = q.1 ∧ p.2 < q.2)) := fun H1 e Q q =>
  h H1 e _ fun H2 e2 => by
    have he2 := he.gw (Gw.of (Same.trans e e2))
    have hk : ∀ x ∈ es, ∃ t, x = V.ref t ∧ H2 t = some (.tup ((pr (prOf H2 x)).map V.int)) := fun x hx => by
      obtain ⟨i, hi, rfl⟩ := List.getElem_of_mem hx
      obtain ⟨b, ns, e3, e4, e5⟩ := he2.of_x (List.getElem?_eq_getElem hi)
      rw [List.getElem?_map] at e4
      cases hq : ed[i]? with
      | none => rw [hq] at e4; cases e4
      | some q =>
        rw [hq] at e4
        obtain rfl : pr q = ns := Option.some.inj e4
        exact ⟨b, e3, by rw [e3, prOf_ref e5]; exact e5⟩
    refine ⟨a, es, prOf H2, rfl, SqL.of (e2 _ _ (e _ _ ha)), fun x hx => ?_, fun ys p hs hb hp => ?_⟩
    · obtain ⟨t, e3, e4⟩ := hk x hx
      exact ⟨t, e3, e4⟩
    · have pm := hb.perm
      have pk : (ys.map (prOf H2)).Perm ed := by
        rw [← he2.keys]
        exact pm.map _
      refine q _ _ (Same.trans e2 (Same.new hp)) ⟨p, ys, rfl, upd_same, ys.map (prOf H2), ?_, pk, ?_⟩
      · exact (Tups.of_keys fun y hy => hk y (pm.mem_iff.mp hy)).gw (Gw.new hp)
      · have ndk := pk.nodup_iff.mpr nd
        have hs2 : (ys.map (prOf H2)).Pairwise fun p q => SrtO.lexB q p = false := List.pairwise_map.mpr hs
        refine (hs2.and ndk).imp fun {p q} ⟨h1, h2⟩ => ?_
        have h3 : ¬ (q.1 < p.1 ∨ (q.1 = p.1 ∧ q.2 < p.2)) := fun z => by
          rw [SrtO.lexB_iff.mpr z] at h1
          cases h1
        by_cases e1 : p.1 = q.1
        · have : p.2 ≠ q.2 := fun e2 => h2 (Prod.ext e1 e2)
          omega
        · omega
end Tt

namespace Tt
open PySem PySem.Spec PyProof.Rows L2 TtR Evl
/-- a test with what it leaves -/
def TestR (t : TT) (σ : L2.St) (H : Hp) (R : Bool → Hp → Prop) : Prop := ∀ Q : Bool → Hp → Prop, (∀ H1, R true H1 → Q true H1) → (∀ H1, R false H1 → Q false H1) → t σ H Q
theorem q_ifR {σ : L2.St} {H : Hp} {t : TT} {R : Bool → Hp → Prop} {tu tz : TS} {D : Ends} (C : L2.St → Hp → Prop) (h : TestR t σ H R) (k : ∀ σ1 H1, C σ1 H1 → tz D σ1 H1) (h1 : ∀ H1, R true H1 → ∀ nx : L2.St → Hp → Prop, (∀ σ2 H2, C σ2 H2 → nx σ2 H2) → tu { D with nx := nx } σ H1) (h2 : ∀ H1, R false H1 → C σ H1) :
    tSeq (tIfS t tu tNext) tz D σ H := h (fun b H1 => if b = true then tu { D with nx := tz D } σ H1 else tNext { D with nx := tz D } σ H1) (fun H1 r => iteT (B := tNext { D with nx := tz D } σ H1) (h1 H1 r _ k)) fun H1 r => iteF (A := tu { D with nx := tz D } σ H1) (k σ H1 (h2 H1 r))
theorem q_appR {K : PySem.W.Frag} {σ : L2.St} {H : Hp} {ta te : TE} {D : Ends} {tz : TS} {l : Addr} {xs : List V} {P : V → Hp → Prop} (hl : H l = some (.lst xs)) (ha : Ev ta σ H (.ref l)) (h : EvR te σ H P) (hz : xs.length < 100000) (k : ∀ v H1, Ex H H1 → P v H1 → tz D σ (upd H1 l (.lst (xs ++ [v])))) :
    tSeq (tDrop (tBM K "list" rAppend ta (tCons te tNil))) tz D σ H := s_appR (D := { D with nx := tz D }) hl ha h hz k
theorem g_go {i : Nat} {v : V} {σ : L2.St} {H : Hp} {nx : L2.St → Hp → Prop} (h : nx (σ.set i (some v)) H) : gName i v σ H nx := h
theorem g_nx {i : Nat} {v : V} {σ : L2.St} {H : Hp} {a b c : L2.St → Hp → Prop} {r : V → Hp → Prop} (h : a (σ.set i (some v)) H) : gName i v σ H (Ends.mk a r b c).nx := h
theorem iff_true {b : Bool} (h : b = true) {A B : Prop} (k : A) : if b = true then A else B := by
  rw [if_pos h]
  exact k
section
variable {P : Program} {w : World} {K : PySem.W.Frag} {mg : Str → Option Value} {base : Heap}
theorem c_law_tree (T : Tx K mg) (B : Bl mg) (C_law_next : FnC P w K mg base 1 "_law_next" ["_law_stream_here", "_law_many"] (sp_law_next K)) (C_law_scope : FnC P w K mg base 2 "_law_scope" ["_law_stream_here", "_law_variables"] (sp_law_scope K)) : FnC P w K mg base 3 "_law_tree" ["_law_stream_here", "_law_most"] (sp_law_tree K) := by
  obtain ⟨f, fd, gf, F⟩ := T.law_tree
  refine ⟨f, fd, gf, F.kp, F.binds (ps := ["_law_stream_here", "_law_most"]) fun _ _ _ _ _ _ us hl => match us, hl with | [_, _], _ => rfl, ?_⟩
  refine F.ok sc_law_tree (fun vs H Q E h => ?_) (fun cdv A outer s H vs Q E hr h => ?_)
  · obtain ⟨p, l, ns, rfl, _⟩ := h
    rfl
  · obtain ⟨p, l, ns, rfl, hs, q⟩ := h
    refine ⟨_, (pss_cons (ps_set (i := 2) sc_law_tree.nd rfl (.inl rfl) (pe_op op_add pe_int (pe_callC C_law_next (hr.mono (by decide)) (by rfl) (pa_cons (pv 0) (pa_cons (pv 1) pa_nil)))))
      (pss_cons (ps_set (i := 3) sc_law_tree.nd rfl (.inl rfl) (pe_lst (pa_cons (pe_callC C_law_scope (hr.mono (by decide)) (by rfl) (pa_cons (pv 0) (pa_cons pe_int pa_nil))) pa_nil)))
      (pss_cons (ps_set (i := 4) sc_law_tree.nd rfl (.inl rfl) (pe_lst pa_nil))
      (pss_cons (ps_set (i := 5) sc_law_tree.nd rfl (.inl rfl) pe_int)
      (pss_cons (ps_for PassesOwn.never rfl (pi_range2 (by rfl) B.range_ (pa_cons pe_int (pa_cons (pv 2) pa_nil))) (pg_name (i := 6) sc_law_tree.nd rfl (.inl rfl)) (pss_cons (ps_set (i := 7) sc_law_tree.nd rfl (.inl rfl) (pe_callC C_law_next (hr.mono (by decide)) (by rfl) (pa_cons (pv 0) (pa_cons (pv 6) pa_nil))))
      (pss_cons (ps_setLc (i := 8) (own := [("_law_variable", 9)]) rfl sc_law_tree.nd rfl rfl (sw_true rfl rfl rfl (by decide +kernel)) (kpi_tup (K := K) rfl (pe_ix (k_ixL (K := K) rfl) (pv 3) (pv 7) (fun _ _ => rfl))) (blkOk_by (N := N_law_tree) (sc := defScope s_law_tree) (by decide +kernel)) (fun _ _ _ _ _ => (pg_name (i := 9) sc_law_tree.nd rfl (.inl rfl))) (fun _ _ _ _ _ => (pts_one (pt_cmpR op_gt (pe_callC C_law_next (hr.mono (by decide)) (by rfl) (pa_cons (pv 0) (pa_cons pe_int pa_nil))) pe_int (nomark _)))) (fun _ _ _ _ _ => (pv 9)))
      (pss_cons (ps_if (PW.pt (pw_and (pt_cmpR op_lt (pv 5) pe_int (nomark _)) (pw_and (pt_cmpR op_lt (pe_callB (k_len (K := K) rfl) (by rfl) B.len_ (by decide +kernel) (pa_cons (pv 8) pa_nil)) pe_int (nomark _)) (pw_and1 (pt_cmpR op_eq (pe_callC C_law_next (hr.mono (by decide)) (by rfl) (pa_cons (pv 0) (pa_cons pe_int pa_nil))) pe_int (nomark _)))))) (pss_cons (ps_expr (pe_bm PySem.F.plainAttrs_list PySem.F.slot_list_append PySem.F.type_list_append mt_append (pv 8) (pa_cons (pv 5) pa_nil)))
      (pss_one (ps_set (i := 5) sc_law_tree.nd rfl (.inl rfl) (pe_op op_add (pv 5) pe_int)))) pss_nil)
      (pss_cons (ps_expr (pe_bm PySem.F.plainAttrs_list PySem.F.slot_list_append PySem.F.type_list_append mt_append (pv 3) (pa_cons (k_tupleOf (K := K) rfl (by rfl) B.tuple_ (pe_callB cr_sortedI (by rfl) B.sorted_ (by decide +kernel) (pa_cons (pv 8) pa_nil))) pa_nil)))
      (pss_one (ps_expr (pe_bm PySem.F.plainAttrs_list PySem.F.slot_list_append PySem.F.type_list_append mt_append (pv 4) (pa_cons (pe_tup (pa_cons (pv 7) (pa_cons (pv 6) pa_nil))) pa_nil)))))))))
      (pss_one (ps_ret (pe_tup (pa_cons pe_int (pa_cons (k_tupleOf (K := K) rfl (by rfl) B.tuple_ (pv 3)) (pa_cons (k_tupleOf (K := K) rfl (by rfl) B.tuple_ (pe_callB cr_sortedPO (by rfl) B.sorted_ (by decide +kernel) (pa_cons (pv 4) pa_nil))) pa_nil))))))))))), ?_⟩
    refine q_next (m := 5) (ea_cons (ev_var rfl) (ea_cons (ev_var rfl) ea_nil)) hs (by decide) (by decide) fun d1 H1 n1 d10 d11 => ?_
    obtain ⟨many, em⟩ : ∃ many : Nat, 1 + d1 = (many : Int) := ⟨(1 + d1).toNat, by omega⟩
    rw [em]
    have hm : 1 ≤ many ∧ many ≤ 5 := by omega
    refine n_scope (n := 4) (ea_cons (ev_var rfl) (ea_cons ev_c ea_nil)) rfl n1.sm (by decide) fun a0 xs0 H2 n2 ha0 sc0 => ⟨by rw [sizeLine_eq]; show 1 ≤ 16777216; omega, fun L hL => ?_⟩
    have n02 : Nx p l ns H H2 := n1.trans n2
    have hL0 : H L = none := n02.back hL
    have nL := (hs.ne_none hL0).1
    have n3 : Nx p l ns H (upd H2 L (.lst [.ref a0])) := n02.mut hs hL0
    have ha3 : upd H2 L (.lst [.ref a0]) a0 = some (.tup (xs0.map V.int)) := (Same.new hL) _ _ ha0
    have hL3 : upd H2 L (.lst [.ref a0]) L = some (.lst [.ref a0]) := upd_same
    generalize upd H2 L (.lst [.ref a0]) = H3 at n3 ha3 hL3 ⊢
    refine q_asgL (xs := []) (el_lst ea_nil (by show 0 ≤ 100000; omega)) fun pe H4 hpe e4 hpe4 => ?_
    have hpe0 : H pe = none := n3.back hpe
    have npe := (hs.ne_none hpe0).1
    have hne : L ≠ pe := ne_of_none hL3 hpe
    refine q_asg ev_c fun H5 e5 => ?_
    have s35 := Same.trans e4 e5
    refine q_forR2 (lo := 1) (n := (many : Int)) (ea_cons ev_c (ea_cons (ev_var rfl) ea_nil)) (by omega) (fun i σ' H' => ∃ y6 y7 y8, ∃ (f : Int) (sv es : List V) (ss : List (List Int)) (ed : List (Int × Int)), σ' = [some (.ref p), some (.int 5), some (.int (many : Int)), some (.ref L), some (.ref pe), some (.int f), y6, y7, y8, none] ∧ Nx p l ns H H' ∧ H' L = some (.lst sv) ∧ H' pe = some (.lst es) ∧ Tups H' sv ss ∧ Tups H' es (ed.map pr) ∧ ss.length = i + 1 ∧ 4 ≤ f ∧ f ≤ 6 ∧ (∀ xs ∈ ss, Sc f xs) ∧ ed.length = i ∧ (∀ p ∈ ed, 0 ≤ p.1 ∧ p.1 < p.2 ∧ p.2 < (i : Int) + 1) ∧ ed.Pairwise fun p q => p.2 < q.2)
      (fun H6 e6 => ⟨none, none, none, 4, [.ref a0], [], [xs0], [], rfl, n3.same (Same.trans s35 e6), (Same.trans s35 e6) _ _ hL3, e6 _ _ (e5 _ _ hpe4), Tups.snoc Tups.nil ((Same.trans s35 e6) _ _ ha3), Tups.nil, rfl, by decide, by decide, fun xs hx => by
        have e : xs = xs0 := by simpa using hx
        rw [e]
        exact sc0, rfl, by simp, .nil⟩) (fun i σ' H' hi hP => ?_) (fun σ' H' hP => ?_)
    · obtain ⟨y6, y7, y8, f, sv, es, ss, ed, rfl, n6, hL6, hp6, ts, te, lss, f4, f6, hsc, led, oke, upe⟩ := hP
      -- near
      refine n_next (m := 1 + (i : Int)) (ea_cons (ev_var rfl) (ea_cons (ev_var rfl) ea_nil)) n6.sm (by omega) (by omega) fun near H7 n7 near0 near1 => ?_
      have hL7 := n7.keep L _ nL hL6
      have hp7 := n7.keep pe _ npe hp6
      have ts7 := ts.gw (n7.gw n6.sm)
      have te7 := te.gw (n7.gw n6.sm)
      have n07 := n6.trans n7
      have hnear : near.toNat < ss.length := by omega
      obtain ⟨xs, hxs⟩ : ∃ xs, ss[near.toNat]? = some xs := ⟨_, List.getElem?_eq_getElem hnear⟩
      obtain ⟨b, hb, hbt⟩ := ts7.at_ hxs
      have scx : Sc f xs := hsc xs (List.mem_of_getElem? hxs)
      have nb := n07.sm.ne_tup hbt
      -- scope_here
      refine (ev_ixL (v := .ref b) (ev_var rfl) hL7 (ev_var (v := .int near) rfl) (at_of (j := near.toNat) (by omega) hb)) H7 (Ex.refl _) _ fun H8 e8 => ⟨b, rfl, ⟨_, SqT.of (e8 _ _ hbt)⟩, fun D hD => ?_⟩
      have hs8 := n07.sm.same e8
      have hb8 := e8 _ _ hbt
      obtain ⟨nD, nlD⟩ := hs8.ne_none hD
      refine lc_gen walk_tupI (by have := scx.few; omega) (fun k acc H' => Nx p l ns H8 H' ∧ ∃ ys : List Int, acc = ys.map V.int ∧ ys.Sublist (xs.take k)) (fun k acc H' m => SqT.of (m.1.keep b _ nb hb8)) (fun k acc H' a' zs m hDa => ⟨m.1.mut hs8 hD, m.2⟩) ⟨(Nx.refl hs8).mut hs8 hD, [], rfl, by simp⟩ (fun k acc x H' H'' P2 P3 hk hDa hal m y k2 k3 => ?_) (fun acc H9 hDa hal m => ?_)
      · obtain ⟨rfl, z, hz, rfl⟩ := y
        obtain ⟨n9, ys, rfl, sub⟩ := m
        refine ⟨rfl, n_next (m := 3) (ea_cons (ev_var rfl) (ea_cons ev_c ea_nil)) n9.sm (by decide) (by decide) fun d H10 n10 d0 d1 => ⟨d, 0, rfl, rfl, _, rfl, ?_⟩⟩
        have hD10 := n10.keep D _ nD hDa
        have n810 := n9.trans n10
        have tk : xs.take (k + 1) = xs.take k ++ [z] := by rw [List.take_add_one, hz]; rfl
        by_cases h0 : 0 < d
        · rw [decide_eq_true h0]
          refine iteT ⟨_, rfl, k2 _ _ hD10 ⟨n810, ys ++ [z], by rw [List.map_append]; rfl, by rw [tk]; exact List.Sublist.append sub (List.Sublist.refl _)⟩⟩
        · rw [decide_eq_false h0]
          refine iteF (k3 _ hD10 ⟨n810, ys, rfl, by rw [tk]; exact sub.trans (List.sublist_append_left _ _)⟩)
      · obtain ⟨n9, ys, rfl, sub⟩ := m
        rw [List.take_length] at sub
        have scy : Sc f ys := ⟨scx.up.sublist sub, fun x hx => scx.mem x (sub.subset hx), Nat.le_trans sub.length_le scx.few⟩
        have n79 : Nx p l ns H7 H9 := (Nx.of n07.sm e8).trans n9
        have hD7 : H7 D = none := fresh_back e8 hD
        have sm9 := n79.sm
        -- the if
        refine g_nx ?_
        refine q_ifR (R := fun b H10 => Nx p l ns H9 H10 ∧ (b = true → f < 6 ∧ ys.length < 3)) (fun σ1 H10 => ∃ (f' : Int) (zs : List Int), σ1 = [some (.ref p), some (.int 5), some (.int (many : Int)), some (.ref L), some (.ref pe), some (.int f'), some (.int (1 + (i : Int))), some (.int near), some (.ref D), none] ∧ Nx p l ns H7 H10 ∧ H10 D = some (.lst (zs.map V.int)) ∧ Sc f' zs ∧ f ≤ f' ∧ f' ≤ 6) (fun Q1 q1 q0 => ?_) (fun σ1 H10 hC => ?_) (fun H10 hR nx hnx => ?_) (fun H10 hR => ?_)
        · refine w_and (et_test (ev_lt (i := f) (j := 6) (ev_var rfl) ev_c)) (fun hb1 H10 e10 => w_and (et_test (ev_lt (j := 3) (ev_lenL (ev_var rfl) (e10 _ _ hDa)) ev_c)) (fun hb2 H11 e11 => n_next (m := 2) (ea_cons (ev_var rfl) (ea_cons ev_c ea_nil)) (sm9.same (Same.trans e10 e11)) (by decide) (by decide) fun d H12 n12 d0 d1 => ⟨rfl, _, rfl, ?_⟩) (fun _ H11 e11 => q0 _ ⟨Nx.of sm9 (Same.trans e10 e11), fun z => nomatch z⟩)) (fun _ H10 e10 => q0 _ ⟨Nx.of sm9 e10, fun z => nomatch z⟩)
          have n912 : Nx p l ns H9 H12 := (Nx.of sm9 (Same.trans e10 e11)).trans n12
          cases decide (V.int d = V.int 1) with
          | true =>
            refine q1 _ ⟨n912, fun _ => ⟨of_decide_eq_true hb1, ?_⟩⟩
            have := of_decide_eq_true hb2
            rw [List.length_map] at this
            omega
          | false => exact q0 _ ⟨n912, fun z => nomatch z⟩
        · obtain ⟨f', zs, rfl, n10, hD10, scz, ff, f'6⟩ := hC
          have n010 := n07.trans n10
          have hL10 := n10.keep L _ nL hL7
          have hp10 := n10.keep pe _ npe hp7
          have ts10 := ts7.gw (n10.gw n07.sm)
          have te10 := te7.gw (n10.gw n07.sm)
          have lss10 := ts10.1
          have led10 := te10.1
          rw [List.length_map] at led10
          refine q_appR (P := fun v H2 => ∃ a xs, v = V.ref a ∧ H2 a = some (HO.tup xs) ∧ ∃ ms : List Int, xs = ms.map V.int ∧ ms.Perm zs ∧ ms.Pairwise (· ≤ ·)) hL10 (ev_var rfl) (tup_ofR (P := fun xs _ => ∃ ms : List Int, xs = ms.map V.int ∧ ms.Perm zs ∧ ms.Pairwise (· ≤ ·)) (ev_sortedL (EvR.of (v := .ref D) (ev_var rfl) fun H11 e11 => ⟨D, rfl, e11 _ _ hD10⟩)) fun _ _ _ _ h => h) (by omega) fun v H11 e11 ⟨t, xs', ev, ht, ms, exs, pm, pw⟩ => ?_
          subst ev exs
          have ezs : ms = zs := climb_eq pw scz.up pm
          subst ezs
          have gw11 : Gw H11 (upd H11 L (.lst (sv ++ [.ref t]))) := Gw.upd (e11 _ _ hL10)
          have n12 : Nx p l ns H (upd H11 L (.lst (sv ++ [.ref t]))) := (n010.same e11).mut hs hL0
          have hL12 : upd H11 L (.lst (sv ++ [.ref t])) L = some (.lst (sv ++ [.ref t])) := upd_same
          have hp12 : upd H11 L (.lst (sv ++ [.ref t])) pe = some (.lst es) := by rw [upd_ne hne.symm]; exact e11 _ _ hp10
          have ts12 := ((ts10.gw (Gw.of e11)).gw gw11).snoc (gw11.tup _ _ ht)
          have te12 := (te10.gw (Gw.of e11)).gw gw11
          generalize upd H11 L (.lst (sv ++ [.ref t])) = H12 at n12 hL12 hp12 ts12 te12 ⊢
          refine s_appU hp12 (ev_var rfl) (eu_tup (vs := [.int near, .int (1 + (i : Int))]) (ea_cons (ev_var rfl) (ea_cons (ev_var rfl) ea_nil)) (by show 2 ≤ 100000; omega)) (by omega) fun T H13 hT e13 hT13 => ?_
          have gw13 : Gw H13 (upd H13 pe (.lst (es ++ [.ref T]))) := Gw.upd (e13 _ _ hp12)
          refine ⟨_, _, _, f', sv ++ [.ref t], es ++ [.ref T], ss ++ [ms], ed ++ [(near, 1 + (i : Int))], rfl, (n12.same e13).mut hs hpe0, by rw [upd_ne hne]; exact e13 _ _ hL12, upd_same, (ts12.gw (Gw.of e13)).gw gw13, ?_, by rw [List.length_append, lss]; rfl, by omega, f'6, fun xs' hx => ?_, by rw [List.length_append, led]; rfl, fun p hp => ?_, ?_⟩
          · rw [List.map_append]
            exact ((te12.gw (Gw.of e13)).gw gw13).snoc (gw13.tup _ _ hT13)
          · rcases List.mem_append.mp hx with h | h
            · exact (hsc xs' h).more ff
            · have e : xs' = ms := by simpa using h
              rw [e]
              exact scz
          · rcases List.mem_append.mp hp with h | h
            · have := oke p h
              omega
            · have e : p = (near, 1 + (i : Int)) := by simpa using h
              subst e
              exact ⟨near0, near1, by show 1 + (i : Int) < ((i + 1 : Nat) : Int) + 1; omega⟩
          · refine List.pairwise_append.mpr ⟨upe, by simp, fun x hx y hy => ?_⟩
            have e : y = (near, 1 + (i : Int)) := by simpa using hy
            subst e
            have := oke x hx
            show x.2 < 1 + (i : Int)
            omega
        · obtain ⟨n10, hb10⟩ := hR
          obtain ⟨f5, y3⟩ := hb10 rfl
          refine q_app (D := { nx := nx, rt := _, bk := _, ct := _ }) (n10.keep D _ nD hDa) (ev_var rfl) (ev_var (v := .int f) rfl) (by rw [List.length_map]; omega) fun H11 e11 => ?_
          refine s_asg (D := { nx := nx, rt := _, bk := _, ct := _ }) (ev_add (ev_var rfl) ev_c) fun H12 e12 => ?_
          refine hnx _ _ ⟨f + 1, ys ++ [f], rfl, (((n79.trans n10).same e11).mut n07.sm hD7).same e12, ?_, ⟨?_, fun x hx => ?_, ?_⟩, by omega, by omega⟩
          · rw [List.map_append]
            exact e12 _ _ upd_same
          · refine List.pairwise_append.mpr ⟨scy.up, by simp, fun x hx y hy => ?_⟩
            have e : y = f := by simpa using hy
            subst e
            exact (scy.mem x hx).2
          · rcases List.mem_append.mp hx with h | h
            · have := scy.mem x h
              omega
            · have e : x = f := by simpa using h
              omega
          · rw [List.length_append, List.length_singleton]
            omega
        · exact ⟨f, ys, rfl, n79.trans hR.1, hR.1.keep D _ nD hDa, scy, by omega, f6⟩
    · obtain ⟨y6, y7, y8, f, sv, es, ss, ed, rfl, n6, hL6, hp6, ts, te, lss, f4, f6, hsc, led, oke, upe⟩ := hP
      have hmi : ((many : Int) - 1).toNat + 1 = many := by omega
      have hnd : ed.Nodup := upe.imp fun {a b} h e => by rw [e] at h; omega
      refine ⟨.ref L, rfl, .inl ⟨L, sv, rfl, SqL.of hL6, fun sc hsc' => ?_⟩⟩
      have s1 : Same H' (upd H' sc (.tup sv)) := Same.new hsc'
      have hsc1 : upd H' sc (.tup sv) sc = some (.tup sv) := upd_same
      generalize upd H' sc (.tup sv) = H7 at s1 hsc1 ⊢
      refine (tup_ofR (P := fun ys H2 => ∃ ed' : List (Int × Int), Tups H2 ys (ed'.map pr) ∧ ed'.Perm ed ∧ ed'.Pairwise (fun p q => p.1 < q.1 ∨ (p.1 = q.1 ∧ p.2 < q.2))) (ev_sortedPO (ev_var rfl) (s1 _ _ hp6) (te.gw (Gw.of s1)) hnd) fun _ _ _ e ⟨ed', t1, t2, t3⟩ => ⟨ed', t1.gw (Gw.of e), t2, t3⟩) H7 (Same.refl _) _ fun v H8 e8 ⟨t, ys, ev, ht, ed', t8, pm, up8⟩ => ?_
      subst ev
      refine ⟨by rw [sizeLine_eq]; show 3 ≤ 16777216; omega, fun T hT => ?_⟩
      have s9 : Same H7 (upd H8 T (.tup [.int 2, .ref sc, .ref t])) := Same.trans e8 (Same.new hT)
      refine q _ (.ref T) ⟨2, ss, ed'⟩ (n6.same (Same.trans s1 s9)) ⟨T, sc, t, sv, ys, rfl, upd_same, s9 _ _ hsc1, (Same.new hT) _ _ ht, ts.gw (Gw.of (Same.trans s1 s9)), t8.gw (Gw.new hT)⟩ ⟨⟨by show (2 : Int) ≤ 2; decide, by show (2 : Int) ≤ 3; decide⟩, ?_, fun xs hx => (hsc xs hx).vars f6, fun p hp => ?_, up8, ?_⟩
      · show 1 ≤ ss.length ∧ ss.length ≤ 5
        omega
      · show 0 ≤ p.1 ∧ p.1 < p.2 ∧ p.2 < (ss.length : Int)
        have := oke p (pm.mem_iff.mp hp)
        rw [lss]
        omega
      · show ed'.length ≤ 100
        rw [pm.length_eq]
        omega
end
end Tt

namespace Tt
open PySem PySem.Spec PyProof.Rows L2 TtR Evl
theorem cut_drop (xs : List V) (n : Nat) : cutV xs (some (n : Int)) none = xs.drop n := by
  unfold cutV
  rw [HT.sIx_none, HT.sIx_nat]
  by_cases h : n ≤ xs.length
  · rw [Nat.min_eq_left h, List.take_of_length_le (by rw [List.length_drop]; omega)]
  · rw [Nat.min_eq_right (by omega), List.drop_length, List.drop_of_length_le (by omega), List.take_nil]
theorem ev_slA {K : PySem.W.Frag} {σ : L2.St} {H : Hp} {te : TE} {tl th : TO} {a : Addr} {xs : List V} {lo hi : Option Int} (h : Ev te σ H (.ref a)) (ha : H a = some (.tup xs)) (h1 : EvO tl σ H lo) (h2 : EvO th σ H hi) :
    EvR (tSl (rSlA K) te tl th) σ H fun v H2 => ∃ a, v = .ref a ∧ H2 a = some (.tup (cutV xs lo hi)) := fun H1 e Q q =>
  h H1 e _ fun H2 e2 => h1 H2 (e.trans e2) _ fun H3 e3 => h2 H3 ((e.trans e2).trans e3) _ fun H4 e4 => by
    have s : Same H1 H4 := Same.trans (Same.trans e2 e3) e4
    have ha4 := s _ _ (e _ _ ha)
    refine ⟨a, xs, rfl, SqT.of ha4, fun z => q _ H4 s ⟨a, rfl, ?_⟩, fun _ p hp => q _ _ (Same.trans s (Same.new hp)) ⟨p, rfl, upd_same⟩⟩
    unfold cutV
    rw [z.1, z.2, List.drop_zero, Nat.sub_zero, List.take_length]
    exact ha4
theorem ev_catR {K : PySem.W.Frag} {σ : L2.St} {H : Hp} {ta tb : TE} {xs ys : List V} (h : EvR ta σ H fun v H2 => ∃ a, v = .ref a ∧ H2 a = some (.tup xs)) (hb : EvR tb σ H fun v H2 => ∃ a, v = .ref a ∧ H2 a = some (.tup ys)) (hz : xs.length + ys.length ≤ 10000) :
    EvR (tOp (rCatA K) ta tb) σ H fun v H2 => ∃ a, v = .ref a ∧ H2 a = some (.tup (xs ++ ys)) := fun H1 e Q q =>
  h H1 e _ fun v H2 e2 ⟨a, ea, ha⟩ => hb H2 (Same.trans e e2) _ fun u H3 e3 ⟨b, eb, hb⟩ => by
    subst ea eb
    refine ⟨a, b, xs, ys, rfl, rfl, SqT.of (e3 _ _ ha), SqT.of hb, by rw [sizeLine_eq]; omega, fun z => ?_, fun _ z => ?_, fun _ _ p hp => ?_⟩
    · subst z
      exact q _ H3 (Same.trans e2 e3) ⟨b, rfl, hb⟩
    · subst z
      rw [List.append_nil] at q
      exact q _ H3 (Same.trans e2 e3) ⟨a, rfl, e3 _ _ ha⟩
    · exact q _ _ (Same.trans (Same.trans e2 e3) (Same.new hp)) ⟨p, rfl, upd_same⟩
theorem Tups.take {H : Hp} {xs : List V} {nss : List (List Int)} (h : Tups H xs nss) (n : Nat) : Tups H (xs.take n) (nss.take n) := by
  refine ⟨by rw [List.length_take, List.length_take, h.1], fun i v ns h1 h2 => ?_⟩
  rw [List.getElem?_take] at h1 h2
  split at h1
  · rename_i hi
    rw [if_pos hi] at h2
    exact h.2 i v ns h1 h2
  · cases h1
theorem Tups.drop {H : Hp} {xs : List V} {nss : List (List Int)} (h : Tups H xs nss) (n : Nat) : Tups H (xs.drop n) (nss.drop n) := by
  refine ⟨by rw [List.length_drop, List.length_drop, h.1], fun i v ns h1 h2 => ?_⟩
  rw [List.getElem?_drop] at h1 h2
  exact h.2 _ v ns h1 h2
/-- fewer edges do no harm -/
theorem WG.less {G : Gr} (W : WG G) {ed : List (Int × Int)} (h : ed.Sublist G.edges) : WG ⟨G.vals, G.scopes, ed⟩ :=
  ⟨W.vals, W.many, W.scopes, fun p hp => W.edges p (h.subset hp), W.climb.sublist h, Nat.le_trans h.length_le W.few⟩
theorem cut_sub {α : Type} (l : List α) (n : Nat) : (l.take n ++ l.drop (n + 1)).Sublist l := by
  have h : l.take n ++ l.drop n = l := List.take_append_drop n l
  have h2 : (l.take n ++ l.drop (n + 1)).Sublist (l.take n ++ l.drop n) := List.Sublist.append (List.Sublist.refl _) (by
    rw [show n + 1 = n + 1 from rfl, ← List.drop_drop]
    exact List.drop_sublist _ _)
  rw [h] at h2
  exact h2
theorem n_graph {K : PySem.W.Frag} {σ : L2.St} {H : Hp} {ts : TA} {E : XK} {p l : Addr} {ns : List Int} {Q : VK} (h : EvA ts σ H [.ref p, .int 5]) (hs : Sm p l ns H)
    (q : ∀ (g : V) (G : Gr) (H' : Hp), Nx p l ns H H' → GraphAt H' g G → WG G → Q g H') : tCall (sp_law_any_graph K) [] E ts σ H Q :=
  h H (Ex.refl H) _ fun H2 e => by
    show sp_law_any_graph K ([V.ref p, .int 5] ++ []) H2 Q E
    rw [List.append_nil]
    exact ⟨p, l, ns, rfl, hs.same e, fun H' g G n hg W => q g G H' ((Nx.of hs e).trans n) hg W⟩
section
variable {P : Program} {w : World} {K : PySem.W.Frag} {mg : Str → Option Value} {base : Heap}
theorem c_law_some_graph (T : Tx K mg) (B : Bl mg) (C_law_any_graph : FnC P w K mg base 3 "_law_any_graph" ["_law_stream_here", "_law_most"] (sp_law_any_graph K)) (C_law_next : FnC P w K mg base 1 "_law_next" ["_law_stream_here", "_law_many"] (sp_law_next K)) (C_law_tree : FnC P w K mg base 3 "_law_tree" ["_law_stream_here", "_law_most"] (sp_law_tree K)) : FnC P w K mg base 4 "_law_some_graph" ["_law_stream_here", "_law_most"] (sp_law_some_graph K) := by
  obtain ⟨f, fd, gf, F⟩ := T.law_some_graph
  refine ⟨f, fd, gf, F.kp, F.binds (ps := ["_law_stream_here", "_law_most"]) fun _ _ _ _ _ _ us hl => match us, hl with | [_, _], _ => rfl, ?_⟩
  refine F.ok sc_law_some_graph (fun vs H Q E h => ?_) (fun cdv A outer s H vs Q E hr h => ?_)
  · obtain ⟨p, l, ns, rfl, _⟩ := h
    rfl
  · obtain ⟨p, l, ns, rfl, hs, q⟩ := h
    refine ⟨_, (pss_cons (ps_if (pt_cmpR op_eq (pe_callC C_law_next (hr.mono (by decide)) (by rfl) (pa_cons (pv 0) (pa_cons pe_int pa_nil))) pe_int (nomark _)) (pss_one (ps_ret (pe_callC C_law_any_graph (hr.mono (by decide)) (by rfl) (pa_cons (pv 0) (pa_cons (pv 1) pa_nil))))) pss_nil)
      (pss_cons (ps_set (i := 2) sc_law_some_graph.nd rfl (.inl rfl) (pe_callC C_law_tree (hr.mono (by decide)) (by rfl) (pa_cons (pv 0) (pa_cons (pv 1) pa_nil))))
      (pss_cons (ps_if (PW.pt (pw_and (pt_cmpR op_eq (pe_callC C_law_next (hr.mono (by decide)) (by rfl) (pa_cons (pv 0) (pa_cons pe_int pa_nil))) pe_int (nomark _)) (pw_and1 (pt_truth (pe_ix (k_ixT (K := K) rfl) (pv 2) pe_int (fun _ _ => rfl)) (by intro _; rfl))))) (pss_cons (ps_set (i := 3) sc_law_some_graph.nd rfl (.inl rfl) (pe_callC C_law_next (hr.mono (by decide)) (by rfl) (pa_cons (pv 0) (pa_cons (pe_callB (k_len (K := K) rfl) (by rfl) B.len_ (by decide +kernel) (pa_cons (pe_ix (k_ixT (K := K) rfl) (pv 2) pe_int (fun _ _ => rfl)) pa_nil)) pa_nil))))
      (pss_one (ps_set (i := 2) sc_law_some_graph.nd rfl (.inl rfl) (pe_tup (pa_cons (pe_ix (k_ixT (K := K) rfl) (pv 2) pe_int (fun _ _ => rfl)) (pa_cons (pe_ix (k_ixT (K := K) rfl) (pv 2) pe_int (fun _ _ => rfl)) (pa_cons (pe_op (k_catA (K := K) rfl) (pe_slice sl_tupA (pe_ix (k_ixT (K := K) rfl) (pv 2) pe_int (fun _ _ => rfl)) po_none (po_some (pv 3))) (pe_slice sl_tupA (pe_ix (k_ixT (K := K) rfl) (pv 2) pe_int (fun _ _ => rfl)) (po_some (pe_op op_add (pv 3) pe_int)) po_none)) pa_nil))))))) pss_nil)
      (pss_one (ps_ret (pv 2)))))), ?_⟩
    refine n_next (m := 2) (ea_cons (ev_var rfl) (ea_cons ev_c ea_nil)) hs (by decide) (by decide) fun d H1 n1 d0 d1 => ⟨rfl, _, rfl, ?_⟩
    cases decide (V.int d = V.int 0) with
    | true =>
      refine iteT (n_graph (ea_cons (ev_var rfl) (ea_cons (ev_var rfl) ea_nil)) n1.sm fun g G H2 n2 hg W => ?_)
      exact q H2 g G (n1.trans n2) hg W
    | false =>
      refine iteF ?_
      refine n_graph (ea_cons (ev_var rfl) (ea_cons (ev_var rfl) ea_nil)) n1.sm fun g G H2 n2 hg W => ?_
      have n02 := n1.trans n2
      obtain ⟨a, sc, ed, ss, es, rfl, h1, h2, h3, h4, h5⟩ := id hg
      have les := h5.1
      rw [List.length_map] at les
      have hfew := W.few
      refine g_nx ?_
      refine q_ifR (R := fun b H3 => Nx p l ns H2 H3 ∧ (b = true → 0 < G.edges.length)) (fun σ1 H3 => ∃ y3 g' G', σ1 = [some (.ref p), some (.int 5), some g', y3] ∧ Nx p l ns H2 H3 ∧ GraphAt H3 g' G' ∧ WG G') (fun Q1 q1 q0 => ?_) (fun σ1 H3 hC => ?_) (fun H3 hR nx hnx => ?_) (fun H3 hR => ⟨none, .ref a, G, rfl, hR.1, hg.gw (hR.1.gw n02.sm), W⟩)
      · refine n_next (m := 3) (ea_cons (ev_var rfl) (ea_cons ev_c ea_nil)) n02.sm (by decide) (by decide) fun d H3 n3 d0 d1 => ⟨rfl, _, rfl, ?_⟩
        cases decide (V.int d = V.int 0) with
        | false => exact iteF (q0 _ ⟨n3, fun z => nomatch z⟩)
        | true =>
          have gw := n3.gw n02.sm
          refine iteT ((et_truT (ev_ixT (ev_var rfl) (gw.tup _ _ h1) ev_c rfl) (gw.tup _ _ h3)) H3 (Ex.refl _) _ fun H4 e4 => ?_)
          cases hb : es.isEmpty with
          | true => exact q0 _ ⟨n3.same e4, fun z => nomatch z⟩
          | false =>
            refine q1 _ ⟨n3.same e4, fun _ => ?_⟩
            cases es with
            | nil => cases hb
            | cons x xs => rw [← les, List.length_cons]; omega
      · obtain ⟨y3, g', G', rfl, n3, hg', W'⟩ := hC
        exact s_ret (ev_var rfl) fun H4 e4 => q H4 g' G' ((n02.trans n3).same e4) (hg'.gw (Gw.of e4)) W'
      · obtain ⟨n3, hb⟩ := hR
        have gw := n3.gw n02.sm
        have hpos := hb rfl
        refine n_next (m := (es.length : Int)) (ea_cons (ev_var rfl) (ea_cons (ev_lenT (ev_ixT (ev_var rfl) (gw.tup _ _ h1) ev_c rfl) (gw.tup _ _ h3)) ea_nil)) n3.sm (by omega) (by omega) fun d H4 n4 d0 d1 => ?_
        obtain ⟨k, ek⟩ : ∃ k : Nat, d = (k : Int) := ⟨d.toNat, by omega⟩
        subst ek
        have n24 := n3.trans n4
        have gw4 := n24.gw n02.sm
        have k1 := gw4.tup _ _ h1
        have k3 := gw4.tup _ _ h3
        -- the new graph
        refine ⟨.ref a, rfl, a, _, 0, .int G.vals, rfl, rfl, SqT.of k1, rfl, .ref a, rfl, a, _, 1, .ref sc, rfl, rfl, SqT.of k1, rfl, ?_⟩
        refine (ev_catR (xs := es.take k) (ys := es.drop (k + 1)) (EvR.imp (ev_slA (lo := none) (hi := some (k : Int)) (ev_ixT (ev_var rfl) k1 ev_c rfl) k3 eo_none (eo_some (ev_var rfl))) fun v H5 _ ⟨b, ev, hb⟩ => ⟨b, ev, by rw [hb, cut_take]⟩) (EvR.imp (ev_slA (lo := some ((k : Int) + 1)) (hi := none) (ev_ixT (ev_var rfl) k1 ev_c rfl) k3 (eo_some (ev_add (ev_var rfl) ev_c)) eo_none) fun v H5 _ ⟨b, ev, hb⟩ => ⟨b, ev, by rw [hb, ← cut_drop]; rfl⟩) (by rw [List.length_take, List.length_drop]; omega)) H4 (Same.refl _) _ fun v H5 e5 ⟨b, ev, hb5⟩ => ⟨by rw [sizeLine_eq]; show 3 ≤ 16777216; omega, fun T hT => ?_⟩
        subst ev
        have s6 : Same H4 (upd H5 T (.tup [.int G.vals, .ref sc, .ref b])) := Same.trans e5 (Same.new hT)
        have gw6 := gw4.trans (Gw.of s6)
        refine hnx _ _ ⟨_, .ref T, ⟨G.vals, G.scopes, G.edges.take k ++ G.edges.drop (k + 1)⟩, rfl, n24.same s6, ⟨T, sc, b, ss, _, rfl, upd_same, gw6.tup _ _ h2, (Same.new hT) _ _ hb5, h4.gw gw6, ?_⟩, W.less (cut_sub _ _)⟩
        show Tups _ _ ((G.edges.take k ++ G.edges.drop (k + 1)).map pr)
        rw [List.map_append, List.map_take, List.map_drop]
        exact ((h5.gw gw6).take k).append ((h5.gw gw6).drop (k + 1))
end
end Tt

namespace Tt
open PySem PySem.Spec PyProof.Rows L2 TtR Evl
def lawPart (G : Gr) (ns as : List Int) : Bool := !ns.isEmpty && (decide (ns.Pairwise (· < ·)) && (ns.all (fun x => decide (x ∈ as)) && (!(outOf ns as).isEmpty && !(G.edges.any fun p => (decide (p.1 ∈ ns) && decide (p.2 ∈ outOf ns as)) || (decide (p.2 ∈ ns) && decide (p.1 ∈ outOf ns as))))))
def sp_law_near (K : PySem.W.Frag) : Sp := fun vs H Q _ => ∃ (g : V) (i : Int) (G : Gr), vs = [g, .int i] ∧ GraphAt H g G ∧ WG G ∧ ∀ (H' : Hp) (a : Addr) (ns : List Int), Same H H' → H' a = some (.lst (ns.map V.int)) → ns.Perm (nbs G i) → Q (.ref a) H'
def sp_law_having (K : PySem.W.Frag) : Sp := sp_having K
def sp_law_is_part (K : PySem.W.Frag) : Sp := fun vs H Q _ => ∃ (g : V) (a b : Addr) (ns as : List Int) (G : Gr), vs = [g, .ref a, .ref b] ∧ GraphAt H g G ∧ WG G ∧ H a = some (.tup (ns.map V.int)) ∧ ns.length ≤ 50 ∧ H b = some (.tup (as.map V.int)) ∧ as.length ≤ 50 ∧ ∀ H', Same H H' → Q (.bl (lawPart G ns as)) H'
def sp_law_drawn (K : PySem.W.Frag) : Sp := fun vs H Q _ => ∃ (p l : Addr) (ns : List Int) (n : Nat), vs = [.ref p, .int (n : Int)] ∧ Sm p l ns H ∧ 1 ≤ n ∧ n ≤ 5 ∧ ∀ (H' : Hp) (a : Addr) (xs : List Int), Nx p l ns H H' → H' a = some (.tup (xs.map V.int)) → xs.Nodup → (∀ x ∈ xs, 0 ≤ x ∧ x < (n : Int)) → Q (.ref a) H'
section
variable {K : PySem.W.Frag} {w : World} {σ : L2.St} {H : Hp} {ta : TE}
/-- sorted(set(t)) -/
theorem ev_sortedSetT {a : Addr} {ns : List Int} (h : Ev ta σ H (.ref a)) (ha : H a = some (.tup (ns.map V.int))) (hl : ns.length < 64) :
    EvR (tCB (rSortedSet w) (tCons (tCB (rSetTI K w) (tCons ta tNil)) tNil)) σ H fun v H2 => ∃ a xs, v = .ref a ∧ H2 a = some (.lst xs) ∧ ∃ ms : List Int, xs = ms.map V.int ∧ ms.Pairwise (· < ·) ∧ ∀ x, x ∈ ms ↔ x ∈ ns := fun H1 e Q q =>
  h H1 e _ fun H2 e2 => ⟨a, ns, rfl, SqT.of ((Same.trans e e2) _ _ ha), by omega, fun c p hc _ hp => ⟨p, _, c, rfl, upd_same, by omega, fun ms t up mem _ ht => q _ _ (Same.trans e2 (Same.trans (Same.new hp) (Same.new ht))) ⟨t, _, rfl, upd_same, ms, rfl, up, fun x => by rw [mem x]; exact decide_eq_true_iff⟩⟩⟩
/-- len(set(t)), t without doubles -/
theorem ev_lenSetT {a : Addr} {ns : List Int} (h : Ev ta σ H (.ref a)) (ha : H a = some (.tup (ns.map V.int))) (hl : ns.length < 64) (nd : ns.Nodup) :
    Ev (tCB (rLenSet w) (tCons (tCB (rSetTI K w) (tCons ta tNil)) tNil)) σ H (.int (ns.length : Int)) := fun H1 e Q q =>
  h H1 e _ fun H2 e2 => ⟨a, ns, rfl, SqT.of ((Same.trans e e2) _ _ ha), by omega, fun c p hc hn hp => ⟨p, _, c, rfl, upd_same, by rw [hn nd]; exact q _ (Same.trans e2 (Same.new hp))⟩⟩
end
theorem strict_sorted {ns ms : List Int} (up : ms.Pairwise (· < ·)) (mem : ∀ x, x ∈ ms ↔ x ∈ ns) : decide (ns = ms) = decide (ns.Pairwise (· < ·)) := by
  refine decide_eq_decide.mpr ⟨fun h => by rw [h]; exact up, fun h => ?_⟩
  have n1 : ns.Nodup := h.imp fun {a b} h e => by omega
  have n2 : ms.Nodup := up.imp fun {a b} h e => by omega
  exact climb_eq (h.imp fun h => Int.le_of_lt h) up ((List.perm_ext_iff_of_nodup n1 n2).mpr fun x => (mem x).symm)
section
variable {P : Program} {w : World} {K : PySem.W.Frag} {mg : Str → Option Value} {base : Heap}
theorem c_law_near (T : Tx K mg) (B : Bl mg) : FnC P w K mg base 1 "_law_near" ["_law_graph", "_law_node"] (sp_law_near K) := by
  obtain ⟨f, fd, gf, F⟩ := T.law_near
  refine ⟨f, fd, gf, F.kp, F.binds (ps := ["_law_graph", "_law_node"]) fun _ _ _ _ _ _ us hl => match us, hl with | [_, _], _ => rfl, ?_⟩
  refine F.ok sc_law_near (fun vs H Q E h => ?_) (fun cdv A outer s H vs Q E hr h => ?_)
  · obtain ⟨g, i, G, rfl, _⟩ := h
    rfl
  · obtain ⟨g, i, G, rfl, hG, W, q⟩ := h
    obtain ⟨a, sc, ed, ss, es, rfl, h1, h2, h3, h4, h5⟩ := id hG
    refine ⟨_, (pss_cons (ps_setLc (i := 2) (own := [("_law_one", 3), ("_law_other", 4)]) rfl sc_law_near.nd rfl rfl (sw_true rfl rfl rfl (by decide +kernel)) (kpi_tup (K := K) rfl (pe_ix (k_ixT (K := K) rfl) (pv 0) pe_int (fun _ _ => rfl))) (blkOk_by (N := N_law_near) (sc := defScope s_law_near) (by decide +kernel)) (fun _ _ _ _ _ => (kpg_tup (K := K) (n := 2) rfl rfl (pgs_cons (pg_name (i := 3) sc_law_near.nd rfl (.inl rfl)) (pgs_cons (pg_name (i := 4) sc_law_near.nd rfl (.inl rfl)) pgs_nil)))) (fun _ _ _ _ _ => (pts_one (pt_cmpR op_eq (pv 3) (pv 1) (nomark _)))) (fun _ _ _ _ _ => (pv 4)))
      (pss_one (ps_ret (pe_callB cr_sortedI (by rfl) B.sorted_ (by decide +kernel) (pa_cons (pe_op op_cat (pv 2) (pe_lc (own := [("_law_one", 3), ("_law_other", 4)]) rfl sc_law_near.nd (kpi_tup (K := K) rfl (pe_ix (k_ixT (K := K) rfl) (pv 0) pe_int (fun _ _ => rfl))) (blkOk_by (N := N_law_near) (sc := defScope s_law_near) (by decide +kernel)) (fun _ _ _ _ _ => (kpg_tup (K := K) (n := 2) rfl rfl (pgs_cons (pg_name (i := 3) sc_law_near.nd rfl (.inl rfl)) (pgs_cons (pg_name (i := 4) sc_law_near.nd rfl (.inl rfl)) pgs_nil)))) (fun _ _ _ _ _ => (pts_one (pt_cmpR op_eq (pv 4) (pv 1) (nomark _)))) (fun _ _ _ _ _ => (pv 3)))) pa_nil))))), ?_⟩
    have hf := W.few
    have hl1 := List.length_filter_le (fun p : Int × Int => decide (p.1 = i)) G.edges
    have hl2 := List.length_filter_le (fun p : Int × Int => decide (p.2 = i)) G.edges
    refine q_asgL (el_prs (l := G.edges) (p := fun p => decide (p.1 = i)) (q := fun p => V.int p.2) (ev_ixT (ev_var rfl) h1 ev_c rfl) h3 h5 (by omega) (fun _ _ => rfl) (fun z _ => et_is (et_test (ev_eq (ev_var rfl) (ev_var rfl) rfl)) ?_) fun z _ _ => ev_var rfl) fun p H1 hp e1 hl => ?_
    · exact decide_eq_decide.mpr ⟨fun z => V.int.inj z, fun z => congrArg V.int z⟩
    have k1 := e1 _ _ h1
    have k3 := e1 _ _ h3
    have k5 := h5.gw (Gw.of e1)
    refine r_ret (ev_sortedL (ns := nbs G i) fun H2 e2 Q2 q2 => ⟨_, rfl, ?_⟩) fun v H2 e2 ⟨b, xs, ev, hb, ms, ex, pm, _⟩ => ?_
    · refine (el_prs (l := G.edges) (p := fun p => decide (p.2 = i)) (q := fun p => V.int p.1) (ev_ixT (ev_var rfl) k1 ev_c rfl) k3 k5 (by omega) (fun _ _ => rfl) (fun z _ => et_is (et_test (ev_eq (ev_var rfl) (ev_var rfl) rfl)) ?_) fun z _ _ => ev_var rfl) H2 e2 _ fun D H3 hD e3 hD3 => ?_
      · exact decide_eq_decide.mpr ⟨fun z => V.int.inj z, fun z => congrArg V.int z⟩
      · refine ⟨p, D, _, _, rfl, rfl, (Same.trans e2 e3) _ _ hl, hD3, by rw [sizeLine_eq, List.length_map, List.length_map]; omega, fun t ht => q2 _ _ (Same.trans e3 (Same.new ht)) ⟨t, rfl, ?_⟩⟩
        rw [upd_same]
        unfold nbs
        rw [List.map_append, List.map_map, List.map_map]
        rfl
    · subst ev ex
      exact q H2 b ms (Same.trans e1 e2) hb pm
theorem c_law_having (T : Tx K mg) (B : Bl mg) : FnC P w K mg base 1 "_law_having" ["_law_graph", "_law_variable"] (sp_law_having K) := by
  obtain ⟨f, fd, gf, F⟩ := T.law_having
  refine ⟨f, fd, gf, F.kp, F.binds (ps := ["_law_graph", "_law_variable"]) fun _ _ _ _ _ _ us hl => match us, hl with | [_, _], _ => rfl, ?_⟩
  refine F.ok sc_law_having (fun vs H Q E h => ?_) (fun cdv A outer s H vs Q E hr h => ?_)
  · obtain ⟨g, v, G, rfl, _⟩ := h
    rfl
  · obtain ⟨g, v, G, rfl, hG, W, q⟩ := h
    obtain ⟨a, sc, ed, ss, es, rfl, h1, h2, h3, h4, h5⟩ := id hG
    refine ⟨_, (pss_one (ps_ret (k_tupleOf (K := K) rfl (by rfl) B.tuple_ (pe_lc (own := [("_law_node", 2)]) rfl sc_law_having.nd (pi_range1 (by rfl) B.range_ (pa_cons (pe_callB (k_len (K := K) rfl) (by rfl) B.len_ (by decide +kernel) (pa_cons (pe_ix (k_ixT (K := K) rfl) (pv 0) pe_int (fun _ _ => rfl)) pa_nil)) pa_nil)) (blkOk_by (N := N_law_having) (sc := defScope s_law_having) (by decide +kernel)) (fun _ _ _ _ _ => (pg_name (i := 2) sc_law_having.nd rfl (.inl rfl))) (fun _ _ _ _ _ => (pts_one (pt_cmpR (k_in (K := K) rfl) (pv 1) (pe_ix (k_ixT (K := K) rfl) (pe_ix (k_ixT (K := K) rfl) (pv 0) pe_int (fun _ _ => rfl)) (pv 2) (fun _ _ => rfl)) (by rfl)))) (fun _ _ _ _ _ => (pv 2)))))), ?_⟩
    have hm := W.many
    refine s_retU (xs := (hav G v).map V.int) (tup_ofL (evL_is (el_rng (n := G.scopes.length) (p := fun m => decide (v ∈ G.scopes.getD m [])) (q := fun m => V.int (m : Int)) (ev_is (ev_lenT (ev_ixT (ev_var rfl) h1 ev_c rfl) h2) (by rw [h4.1])) (by omega) (fun _ => rfl) (fun m hm => ?_) fun m hx _ => ev_var rfl) ?_)) fun p H1 _ e1 hp => q H1 p e1 hp
    · have e0 : G.scopes[m]? = some G.scopes[m] := List.getElem?_eq_getElem hm
      obtain ⟨b, hb, hbt⟩ := h4.at_ e0
      have eg : G.scopes.getD m [] = G.scopes[m] := by rw [List.getD_eq_getElem?_getD, e0]; rfl
      rw [eg]
      exact et_test (ev_in (ev_var rfl) (ev_ixT (ev_ixT (ev_var rfl) h1 ev_c rfl) h2 (ev_var rfl) (at_of (j := m) rfl hb)) (SqI.tup hbt))
    · unfold hav
      rw [List.map_map]
      rfl
theorem c_law_is_part (T : Tx K mg) (B : Bl mg) : FnC P w K mg base 1 "_law_is_part" ["_law_graph", "_law_part", "_law_among"] (sp_law_is_part K) := by
  obtain ⟨f, fd, gf, F⟩ := T.law_is_part
  refine ⟨f, fd, gf, F.kp, F.binds (ps := ["_law_graph", "_law_part", "_law_among"]) fun _ _ _ _ _ _ us hl => match us, hl with | [_, _, _], _ => rfl, ?_⟩
  refine F.ok sc_law_is_part (fun vs H Q E h => ?_) (fun cdv A outer s H vs Q E hr h => ?_)
  · obtain ⟨g, a, b, ns, as, G, rfl, _⟩ := h
    rfl
  · obtain ⟨g, a, b, ns, as, G, rfl, hG, W, ha, hnl, hb, hal, q⟩ := h
    obtain ⟨a', sc, ed, ss, es, rfl, h1, h2, h3, h4, h5⟩ := id hG
    refine ⟨_, (pss_cons (ps_if (PW.pt (pw_or (pt_not (pt_truth (pv 1) (by intro _; rfl))) (pw_or (pt_cmpR (k_neD (K := K) rfl hr.units) (pe_callTy (k_listOf (K := K) rfl) (by rfl) B.list_ (by decide +kernel) (pa_cons (pv 1) pa_nil)) (pe_callB (cr_sortedSet rfl) (by rfl) B.sorted_ (by decide +kernel) (pa_cons (pe_callTy (cr_setTI rfl) (by rfl) B.set_ (by decide +kernel) (pa_cons (pv 1) pa_nil)) pa_nil)) (nomark _)) (pw_or1 (pt_not (pt_val (pe_callB (k_all (K := K) rfl rfl) (by rfl) B.all_ (by decide +kernel) (pa_cons (pe_lc (own := [("_law_node", 6)]) rfl sc_law_is_part.nd (kpi_tup (K := K) rfl (pv 1)) (blkOk_by (N := N_law_is_part) (sc := defScope s_law_is_part) (by decide +kernel)) (fun _ _ _ _ _ => (pg_name (i := 6) sc_law_is_part.nd rfl (.inl rfl))) (fun _ _ _ _ _ => pts_nil) (fun _ _ _ _ _ => (pe_cmpR (k_in (K := K) rfl) (pv 6) (pv 2) (by rfl)))) pa_nil)))))))) (pss_one (ps_ret pe_bl)) pss_nil)
      (pss_cons (ps_setLc (i := 3) (own := [("_law_node", 6)]) rfl sc_law_is_part.nd rfl rfl (sw_true rfl rfl rfl (by decide +kernel)) (kpi_tup (K := K) rfl (pv 2)) (blkOk_by (N := N_law_is_part) (sc := defScope s_law_is_part) (by decide +kernel)) (fun _ _ _ _ _ => (pg_name (i := 6) sc_law_is_part.nd rfl (.inl rfl))) (fun _ _ _ _ _ => (pts_one (pt_cmpR (k_notin (K := K) rfl) (pv 6) (pv 1) (by rfl)))) (fun _ _ _ _ _ => (pv 6)))
      (pss_cons (ps_if (pt_not (pt_truth (pv 3) (by intro _; rfl))) (pss_one (ps_ret pe_bl)) pss_nil)
      (pss_cons (ps_for PassesOwn.never rfl (kpi_tup (K := K) rfl (pe_ix (k_ixT (K := K) rfl) (pv 0) pe_int (fun _ _ => rfl))) (kpg_tup (K := K) (n := 2) rfl rfl (pgs_cons (pg_name (i := 4) sc_law_is_part.nd rfl (.inl rfl)) (pgs_cons (pg_name (i := 5) sc_law_is_part.nd rfl (.inl rfl)) pgs_nil))) (pss_one (ps_if (PW.pt (pw_or (PW.pt (pw_and (pt_cmpR (k_in (K := K) rfl) (pv 4) (pv 1) (by rfl)) (pw_and1 (pt_cmpR (k_in (K := K) rfl) (pv 5) (pv 3) (by rfl))))) (pw_or1 (PW.pt (pw_and (pt_cmpR (k_in (K := K) rfl) (pv 5) (pv 1) (by rfl)) (pw_and1 (pt_cmpR (k_in (K := K) rfl) (pv 4) (pv 3) (by rfl)))))))) (pss_one (ps_ret pe_bl)) pss_nil)))
      (pss_one (ps_ret pe_bl)))))), ?_⟩
    have hf := W.few
    refine q_when (et_or (et_not (et_truT (ev_var rfl) ha)) fun _ => et_or (et_test (ev_opRR (z := .bl (!decide (ns.Pairwise (· < ·)))) (fun v H1 H2 e ⟨p, ev, hp⟩ => ⟨p, ev, e _ _ hp⟩) (evL_r (el_listT (ev_var rfl) ha)) (ev_sortedSetT (ev_var rfl) ha (by omega)) fun v u H2 e2 ⟨p, ev, hp⟩ ⟨p2, xs, eu, hp2, ms, exs, up, mem⟩ => ?_)) fun _ => et_not (et_B (ev_all (l := ns) (f := fun x => decide (x ∈ as)) (el_tupI (ev_var rfl) ha (by omega) (fun _ => rfl) (fun _ _ => et_yes) fun z hz _ => ev_in (ev_var rfl) (ev_var rfl) (SqI.tup hb))))) (fun hbb H1 e => ?_) (fun hbb H1 e => ?_)
    · subst ev eu exs
      exact fun H3 e3 Q q => neL_ask (e3 _ _ hp) (e3 _ _ hp2) (by rw [strict_sorted up mem]; exact q H3 (Ex.refl _))
    · refine s_ret (v := .bl false) ev_c fun H2 e2 => ?_
      have e0 : lawPart G ns as = false := by
        unfold lawPart
        cases x0 : ns.isEmpty with
        | true => rfl
        | false =>
          cases x1 : decide (ns.Pairwise (· < ·)) with
          | false => rfl
          | true =>
            rw [x1] at hbb
            cases x2 : ns.all (fun x => decide (x ∈ as)) with
            | false => rfl
            | true =>
              rw [x2] at hbb
              cases ns with
              | nil => cases x0
              | cons n ns => cases hbb
      rw [← e0]
      exact q H2 (Same.trans e e2)
    · have e0 : lawPart G ns as = (!(outOf ns as).isEmpty && !(G.edges.any fun p => (decide (p.1 ∈ ns) && decide (p.2 ∈ outOf ns as)) || (decide (p.2 ∈ ns) && decide (p.1 ∈ outOf ns as)))) := by
        unfold lawPart
        cases x0 : ns.isEmpty with
        | true =>
          cases ns with
          | nil => cases hbb
          | cons n ns => cases x0
        | false =>
          cases x1 : decide (ns.Pairwise (· < ·)) with
          | false => rw [x1] at hbb; cases ns <;> cases hbb
          | true =>
            cases x2 : ns.all (fun x => decide (x ∈ as)) with
            | false => rw [x1, x2] at hbb; cases ns <;> cases hbb
            | true => rfl
      rw [e0] at q
      have ha1 := e _ _ ha
      have hb1 := e _ _ hb
      refine q_asgL (xs := (outOf ns as).map V.int) (evL_is (el_tupI (ns := as) (p := fun x => !decide (x ∈ ns)) (q := V.int) (ev_var rfl) hb1 (by omega) (fun _ => rfl) (fun z hz => et_test (ev_notin (ev_var rfl) (ev_var rfl) (SqI.tup ha1))) fun z hz _ => ev_var rfl) rfl) fun l H2 hl2 e2 hll => ?_
      have s2 := Same.trans e e2
      refine q_when (et_is (et_not (et_truL (ev_var rfl) hll)) (b := (outOf ns as).isEmpty) (by cases outOf ns as <;> rfl)) (fun hbo H3 e3 => s_ret (v := .bl false) ev_c fun H4 e4 => ?_) (fun hbo H3 e3 => ?_)
      · rw [hbo] at q
        exact q H4 (Same.trans (Same.trans s2 e3) e4)
      · have s3 := Same.trans s2 e3
        rw [hbo] at q
        generalize hbd : (fun p : Int × Int => (decide (p.1 ∈ ns) && decide (p.2 ∈ outOf ns as)) || (decide (p.2 ∈ ns) && decide (p.1 ∈ outOf ns as))) = bad at q
        refine q_forT (a := ed) (xs := es) (ev_ixT (ev_var rfl) (s3 _ _ h1) ev_c rfl) (SqT.of (s3 _ _ h3)) (fun i σ' H' => ∃ y4 y5, σ' = [some (.ref a'), some (.ref a), some (.ref b), some (.ref l), y4, y5, none] ∧ Same H3 H' ∧ ∀ (k : Nat) (e : Int × Int), k < i → G.edges[k]? = some e → bad e = false)
          (fun H4 e4 => ⟨none, none, rfl, e4, fun k e hk => absurd hk (Nat.not_lt_zero k)⟩) (fun i σ' H' _ ⟨_, _, _, s4, _⟩ => SqT.of (s4 _ _ (s3 _ _ h3))) (fun i x σ' H' hx hP => ?_) (fun σ' H' hP => ?_)
        · obtain ⟨y4, y5, rfl, s4, hno⟩ := hP
          obtain ⟨t, ns', rfl, e1, ht⟩ := h5.of_x hx
          rw [List.getElem?_map] at e1
          cases hz : G.edges[i]? with
          | none => rw [hz] at e1; cases e1
          | some z =>
            rw [hz] at e1
            obtain rfl : pr z = ns' := Option.some.inj e1
            have s04 := Same.trans s3 s4
            refine ⟨t, _, rfl, SqT.of (s04 _ _ ht), rfl, _, _, rfl, _, _, rfl, rfl, ?_⟩
            have ha4 := s04 _ _ ha
            have hl4 := (Same.trans e3 s4) _ _ hll
            refine s_when (b := bad z) (et_is (et_or (et_and (et_test (ev_in (n := z.1) (ev_var rfl) (ev_var rfl) (SqI.tup ha4))) fun _ => et_test (ev_in (n := z.2) (ev_var rfl) (ev_var rfl) (SqI.lst hl4))) fun _ => et_and (et_test (ev_in (n := z.2) (ev_var rfl) (ev_var rfl) (SqI.tup ha4))) fun _ => et_test (ev_in (n := z.1) (ev_var rfl) (ev_var rfl) (SqI.lst hl4))) (by rw [← hbd])) (fun hbz H5 e5 => s_ret (v := .bl false) ev_c fun H6 e6 => ?_) (fun hbz H5 e5 => ⟨_, _, rfl, Same.trans s4 e5, fun k e hk hke => ?_⟩)
            · have e7 : G.edges.any bad = true := List.any_eq_true.mpr ⟨z, List.mem_of_getElem? hz, hbz⟩
              rw [e7] at q
              exact q H6 (Same.trans (Same.trans s04 e5) e6)
            · by_cases hki : k = i
              · subst hki
                rw [hz] at hke
                obtain rfl := Option.some.inj hke
                exact hbz
              · exact hno k e (by omega) hke
        · obtain ⟨y4, y5, rfl, s4, hno⟩ := hP
          have les := h5.1
          rw [List.length_map] at les
          have e7 : G.edges.any bad = false := by
            rw [List.any_eq_false]
            intro z hz
            obtain ⟨k, hk, ez⟩ := List.getElem_of_mem hz
            rw [hno k z (by omega) (by rw [List.getElem?_eq_getElem hk, ez])]
            decide
          rw [e7] at q
          exact s_ret (v := .bl true) ev_c fun H5 e5 => q H5 (Same.trans (Same.trans s3 s4) e5)
end
end Tt

namespace Tt
open PySem PySem.Spec PyProof.Rows L2 TtR Evl
/-- the law's own values -/
inductive Lv
  | cyc (c : List Int)
  | apart (ns : List Int)
  | split (v : Int) (ns : List Int)
def Lv.data : Lv → PyData
  | .cyc c => .tuple [.str "cycle", tupI c]
  | .apart ns => .tuple [.str "apart", tupI ns]
  | .split v ns => .tuple [.str "split", .int v, tupI ns]
/-- as the law makes them -/
def Lv.Ok (G : Gr) : Lv → Prop
  | .cyc c => c.Nodup ∧ ∀ x ∈ c, 0 ≤ x ∧ x < (G.scopes.length : Int)
  | .apart ns => ns.Pairwise (· < ·) ∧ ∀ x ∈ ns, 0 ≤ x ∧ x < (G.scopes.length : Int)
  | .split _ ns => ns.Pairwise (· < ·) ∧ ∀ x ∈ ns, 0 ≤ x ∧ x < (G.scopes.length : Int)
/-- what the law says of them -/
def lawD (G : Gr) : Lv → Bool
  | .cyc c => cycN G c
  | .apart ns => lawPart G ns (rng G.scopes.length)
  | .split v ns => lawPart G ns (hav G v)
theorem Is.tupI_at {H : Hp} {v : V} {ns : List Int} (h : Is H v (Tt.tupI ns)) : ∃ a, v = .ref a ∧ H a = some (.tup (ns.map V.int)) := by
  unfold Tt.tupI at h
  cases h with
  | tup h1 h2 => exact ⟨_, rfl, by rw [h1, Is.ints_of h2 rfl]⟩
theorem map_erase {α β : Type} (f : α → β) : ∀ (l : List α) (k : Nat), (l.map f).eraseIdx k = (l.eraseIdx k).map f
  | [], k => rfl
  | x :: l, 0 => rfl
  | x :: l, k + 1 => by
    show f x :: (l.map f).eraseIdx k = f x :: (l.eraseIdx k).map f
    rw [map_erase f l k]
theorem perm_erase {α : Type} : ∀ (l : List α) (k : Nat) (h : k < l.length), (l[k] :: l.eraseIdx k).Perm l
  | [], k, h => absurd h (Nat.not_lt_zero k)
  | x :: l, 0, _ => List.Perm.refl _
  | x :: l, k + 1, h => by
    have h' : k < l.length := Nat.lt_of_succ_lt_succ h
    show (l[k] :: x :: l.eraseIdx k).Perm (x :: l)
    exact (List.Perm.swap _ _ _).trans ((perm_erase l k h').cons x)
theorem in_len {n : Nat} {c : List Int} (nd : c.Nodup) (h : ∀ x ∈ c, 0 ≤ x ∧ x < (n : Int)) : c.length ≤ n := by
  have := nd.length_le_of_subset (l₂ := rng n) fun x hx => mem_rng.mpr (h x hx)
  rw [rng_len] at this
  exact this
theorem nd_of_lt {ns : List Int} (h : ns.Pairwise (· < ·)) : ns.Nodup := h.imp fun {a b} h e => by omega
def sp_law_is_defect (K : PySem.W.Frag) : Sp := fun vs H Q _ => ∃ (g v : V) (d : Lv) (G : Gr), vs = [g, v] ∧ GraphAt H g G ∧ WG G ∧ Is H v d.data ∧ d.Ok G ∧ ∀ H', Same H H' → Q (.bl (lawD G d)) H'
theorem q_forNext {K : PySem.W.Frag} {σ : L2.St} {H : Hp} {ts : TA} {E : XK} {p l : Addr} {ns : List Int} {m : Int} {j : Nat} {tu tz : TS} {D : Ends} (h : EvA ts σ H [.ref p, .int m]) (hs : Sm p l ns H) (hm0 : 0 < m) (hm1 : m < 1000)
    (Pv : Nat → Nat → L2.St → Hp → Prop) (h0 : ∀ (d : Nat) H1, Nx p l ns H H1 → (d : Int) < m → Pv d 0 σ H1)
    (hb : ∀ (d i : Nat) σ' H', i < d → (d : Int) < m → Pv d i σ' H' → tu { D with nx := Pv d (i + 1), ct := Pv d (i + 1), bk := tz D } (σ'.set j (some (.int (i : Int)))) H') (hd : ∀ (d : Nat) σ' H', (d : Int) < m → Pv d d σ' H' → tz D σ' H') :
    tSeq (tFor (iRng1 (tCons (tCall (sp_law_next K) [] E ts) tNil)) (gName j) tu) tz D σ H :=
  n_next h hs hm0 hm1 fun d H1 n d0 d1 => by
    obtain ⟨k, rfl⟩ : ∃ k : Nat, d = (k : Int) := ⟨d.toNat, by omega⟩
    refine ⟨(k : Int), rfl, by omega, by omega, ?_⟩
    have e : ((k : Int)).toNat = k := by omega
    rw [e]
    refine for_range (D := { D with nx := tz D }) (lo := 0) (n := k) (Pv k) (h0 k H1 n d1) (fun i σ' H' hi q => ?_) fun σ' H' q => hd k σ' H' d1 q
    have e0 : (0 : Int) + (i : Int) = (i : Int) := Int.zero_add _
    show tu _ (σ'.set j (some (.int ((0 : Int) + (i : Int))))) H'
    rw [e0]
    exact hb k i σ' H' hi d1 q
section
variable {P : Program} {w : World} {K : PySem.W.Frag} {mg : Str → Option Value} {base : Heap}
theorem c_law_drawn (T : Tx K mg) (B : Bl mg) (C_law_next : FnC P w K mg base 1 "_law_next" ["_law_stream_here", "_law_many"] (sp_law_next K)) : FnC P w K mg base 2 "_law_drawn" ["_law_stream_here", "_law_many"] (sp_law_drawn K) := by
  obtain ⟨f, fd, gf, F⟩ := T.law_drawn
  refine ⟨f, fd, gf, F.kp, F.binds (ps := ["_law_stream_here", "_law_many"]) fun _ _ _ _ _ _ us hl => match us, hl with | [_, _], _ => rfl, ?_⟩
  refine F.ok sc_law_drawn (fun vs H Q E h => ?_) (fun cdv A outer s H vs Q E hr h => ?_)
  · obtain ⟨p, l, ns, n, rfl, _⟩ := h
    rfl
  · obtain ⟨p, l, ns, n, rfl, hs, hn1, hn5, q⟩ := h
    refine ⟨_, (pss_cons (ps_set (i := 2) sc_law_drawn.nd rfl (.inl rfl) (pe_listRg rfl (by rfl) B.list_ (prg_1 (by rfl) B.range_ (pv 1))))
      (pss_cons (ps_set (i := 3) sc_law_drawn.nd rfl (.inl rfl) (pe_lst pa_nil))
      (pss_cons (ps_for PassesOwn.never rfl (pi_range1 (by rfl) B.range_ (pa_cons (pe_callC C_law_next (hr.mono (by decide)) (by rfl) (pa_cons (pv 0) (pa_cons (pe_op op_add (pv 1) pe_int) pa_nil))) pa_nil)) (pg_name (i := 4) sc_law_drawn.nd rfl (.inl rfl)) (pss_one (ps_expr (pe_bm PySem.F.plainAttrs_list PySem.F.slot_list_append PySem.F.type_list_append mt_append (pv 3) (pa_cons (pe_bm PySem.F.plainAttrs_list PySem.F.slot_list_pop PySem.F.type_list_pop mt_popAt (pv 2) (pa_cons (pe_callC C_law_next (hr.mono (by decide)) (by rfl) (pa_cons (pv 0) (pa_cons (pe_callB (k_len (K := K) rfl) (by rfl) B.len_ (by decide +kernel) (pa_cons (pv 2) pa_nil)) pa_nil))) pa_nil)) pa_nil)))))
      (pss_one (ps_ret (k_tupleOf (K := K) rfl (by rfl) B.tuple_ (pv 3))))))), ?_⟩
    refine q_asgL (xs := (rng n).map V.int) (ev_lstRg (n := n) (ev_var rfl) (by omega)) fun L H1 hL e1 hL1 => ?_
    refine q_asgL (xs := []) (el_lst ea_nil (by show 0 ≤ 100000; omega)) fun R H2 hR e2 hR2 => ?_
    have hR0 : H R = none := fresh_back e1 hR
    have hne : L ≠ R := ne_of_none hL1 hR
    obtain ⟨nL, _⟩ := hs.ne_none hL
    obtain ⟨nR, _⟩ := hs.ne_none hR0
    have n2 : Nx p l ns H H2 := Nx.of hs (Same.trans e1 e2)
    refine q_forNext (m := (n : Int) + 1) (ea_cons (ev_var rfl) (ea_cons (ev_add (ev_var rfl) ev_c) ea_nil)) n2.sm (by omega) (by omega) (fun _ i σ' H' => ∃ y4, ∃ left row : List Int, σ' = [some (.ref p), some (.int (n : Int)), some (.ref L), some (.ref R), y4] ∧ Nx p l ns H H' ∧ H' L = some (.lst (left.map V.int)) ∧ H' R = some (.lst (row.map V.int)) ∧ (row ++ left).Perm (rng n) ∧ row.length = i)
      (fun d H3 n3 hd => ⟨none, rng n, [], rfl, n2.trans n3, n3.keep L _ nL (e2 _ _ hL1), n3.keep R _ nR hR2, List.Perm.refl _, rfl⟩) (fun d i σ' H' hi hd hP => ?_) (fun d σ' H' hd hP => ?_)
    · obtain ⟨y4, left, row, rfl, n3, hL3, hR3, pm, lr⟩ := hP
      have ll : left.length + i = n := by
        have := pm.length_eq
        rw [List.length_append, rng_len] at this
        omega
      refine ⟨.ref R, rfl, .inl ⟨rfl, _, SqL.of hR3⟩, .ref L, rfl, .inl ⟨rfl, _, SqL.of hL3⟩, ?_⟩
      refine n_next (m := ((left.map V.int).length : Int)) (ea_cons (ev_var rfl) (ea_cons (ev_lenL (ev_var rfl) hL3) ea_nil)) n3.sm (by rw [List.length_map]; omega) (by rw [List.length_map]; omega) fun k H4 n4 k0 k1 => ?_
      rw [List.length_map] at k1
      obtain ⟨k', rfl⟩ : ∃ k' : Nat, k = (k' : Int) := ⟨k.toNat, by omega⟩
      have hk : k' < left.length := by omega
      have hL4 := n4.keep L _ nL hL3
      have hR4 := n4.keep R _ nR hR3
      refine ⟨L, left.map V.int, (k' : Int), k', .int left[k'], rfl, rfl, hL4, by omega, by omega, ?_, by rw [List.getElem?_map, List.getElem?_eq_getElem hk]; rfl, R, row.map V.int, .int left[k'], rfl, rfl, by rw [upd_ne hne.symm]; exact hR4, by rw [sizeLine_eq, List.length_map]; omega, ?_⟩
      · unfold seqIndex?
        rw [List.length_map]
        have h1 : ¬ ((k' : Int) < 0) := by omega
        simp only [h1, if_false]
        rw [if_pos (by simp; omega)]
        simp
      · refine ⟨_, left.eraseIdx k', row ++ [left[k']], rfl, ((n3.trans n4).mut hs hL).mut hs hR0, ?_, ?_, ?_, by rw [List.length_append, lr]; rfl⟩
        · rw [upd_ne hne, upd_same, map_erase]
        · rw [upd_same, List.map_append]
          rfl
        · refine List.Perm.trans ?_ pm
          rw [List.append_assoc]
          exact List.Perm.append_left row (perm_erase left k' hk)
    · obtain ⟨y4, left, row, rfl, n3, hL3, hR3, pm, lr⟩ := hP
      refine ⟨.ref R, rfl, .inl ⟨R, _, rfl, SqL.of hR3, fun t ht => ?_⟩⟩
      have nd := pm.nodup_iff.mpr (rng_nodup n)
      refine q _ t row (n3.same (Same.new ht)) upd_same (List.nodup_append.mp nd).1 fun x hx => ?_
      exact mem_rng.mp (pm.mem_iff.mp (List.mem_append_left _ hx))
theorem r_lhav {σ : L2.St} {H : Hp} {ts : TA} {E : XK} {g : V} {v : Int} {G : Gr} (h : EvA ts σ H [g, .int v]) (hG : GraphAt H g G) (W : WG G) :
    EvR (tCall (sp_law_having K) [] E ts) σ H fun u H2 => ∃ a : Addr, u = .ref a ∧ H2 a = some (.tup ((hav G v).map V.int)) := r_having (K := K) h hG W
theorem r_near {σ : L2.St} {H : Hp} {ts : TA} {E : XK} {g : V} {i : Int} {G : Gr} (h : EvA ts σ H [g, .int i]) (hG : GraphAt H g G) (W : WG G) :
    EvR (tCall (sp_law_near K) [] E ts) σ H fun v H2 => ∃ (a : Addr) (ns : List Int), v = .ref a ∧ H2 a = some (.lst (ns.map V.int)) ∧ ns.Perm (nbs G i) :=
  r_call h fun H1 e Q q E => ⟨g, i, G, rfl, hG.gw (Gw.of e), W, fun H' a ns s ha pm => q _ H' s ⟨a, ns, rfl, ha, pm⟩⟩
theorem c_law_is_defect (T : Tx K mg) (B : Bl mg) (C_law_having : FnC P w K mg base 1 "_law_having" ["_law_graph", "_law_variable"] (sp_law_having K)) (C_law_is_part : FnC P w K mg base 1 "_law_is_part" ["_law_graph", "_law_part", "_law_among"] (sp_law_is_part K)) (C_law_near : FnC P w K mg base 1 "_law_near" ["_law_graph", "_law_node"] (sp_law_near K)) : FnC P w K mg base 2 "_law_is_defect" ["_law_graph", "_law_value"] (sp_law_is_defect K) := by
  obtain ⟨f, fd, gf, F⟩ := T.law_is_defect
  refine ⟨f, fd, gf, F.kp, F.binds (ps := ["_law_graph", "_law_value"]) fun _ _ _ _ _ _ us hl => match us, hl with | [_, _], _ => rfl, ?_⟩
  refine F.ok sc_law_is_defect (fun vs H Q E h => ?_) (fun cdv A outer s H vs Q E hr h => ?_)
  · obtain ⟨g, v, d, G, rfl, _⟩ := h
    rfl
  · obtain ⟨g, v, d, G, rfl, hG, W, hd, hok, q⟩ := h
    obtain ⟨a', sc, ed, ss, es, rfl, h1, h2, h3, h4, h5⟩ := id hG
    have hm := W.many
    refine ⟨_, (pss_cons (ps_if (pt_cmpR op_eq (pe_ix (k_ixT (K := K) rfl) (pv 1) pe_int (fun _ _ => rfl)) pe_str (nomark _)) (pss_cons (ps_set (i := 2) sc_law_is_defect.nd rfl (.inr rfl) (pe_ix (k_ixT (K := K) rfl) (pv 1) pe_int (fun _ _ => rfl)))
      (pss_cons (ps_if (PW.pt (pw_or (pt_cmpR op_lt (pe_callB (k_len (K := K) rfl) (by rfl) B.len_ (by decide +kernel) (pa_cons (pv 2) pa_nil)) pe_int (nomark _)) (pw_or1 (pt_cmpR op_ne (pe_callB cr_lenSet (by rfl) B.len_ (by decide +kernel) (pa_cons (pe_callTy (cr_setTI rfl) (by rfl) B.set_ (by decide +kernel) (pa_cons (pv 2) pa_nil)) pa_nil)) (pe_callB (k_len (K := K) rfl) (by rfl) B.len_ (by decide +kernel) (pa_cons (pv 2) pa_nil)) (nomark _))))) (pss_one (ps_ret pe_bl)) pss_nil)
      (pss_one (ps_ret (pe_callB (k_all (K := K) rfl rfl) (by rfl) B.all_ (by decide +kernel) (pa_cons (pe_lc (own := [("_law_k", 3)]) rfl sc_law_is_defect.nd (pi_range1 (by rfl) B.range_ (pa_cons (pe_callB (k_len (K := K) rfl) (by rfl) B.len_ (by decide +kernel) (pa_cons (pv 2) pa_nil)) pa_nil)) (blkOk_by (N := N_law_is_defect) (sc := defScope s_law_is_defect) (by decide +kernel)) (fun _ _ _ _ _ => (pg_name (i := 3) sc_law_is_defect.nd rfl (.inl rfl))) (fun _ _ _ _ _ => pts_nil) (fun _ _ _ _ _ => (pe_cmpR (k_in (K := K) rfl) (pe_ix (k_ixT (K := K) rfl) (pv 2) (pe_op op_sub (pv 3) pe_int) (fun _ _ => rfl)) (pe_callC C_law_near (hr.mono (by decide)) (by rfl) (pa_cons (pv 0) (pa_cons (pe_ix (k_ixT (K := K) rfl) (pv 2) (pv 3) (fun _ _ => rfl)) pa_nil))) (by rfl)))) pa_nil)))))) pss_nil)
      (pss_cons (ps_if (pt_cmpR op_eq (pe_ix (k_ixT (K := K) rfl) (pv 1) pe_int (fun _ _ => rfl)) pe_str (nomark _)) (pss_one (ps_ret (pe_callC C_law_is_part (hr.mono (by decide)) (by rfl) (pa_cons (pv 0) (pa_cons (pe_ix (k_ixT (K := K) rfl) (pv 1) pe_int (fun _ _ => rfl)) (pa_cons (pe_tupRg rfl (by rfl) B.tuple_ (prg_1 (by rfl) B.range_ (pe_callB (k_len (K := K) rfl) (by rfl) B.len_ (by decide +kernel) (pa_cons (pe_ix (k_ixT (K := K) rfl) (pv 0) pe_int (fun _ _ => rfl)) pa_nil)))) pa_nil)))))) pss_nil)
      (pss_one (ps_ret (pe_callC C_law_is_part (hr.mono (by decide)) (by rfl) (pa_cons (pv 0) (pa_cons (pe_ix (k_ixT (K := K) rfl) (pv 1) pe_int (fun _ _ => rfl)) (pa_cons (pe_callC C_law_having (hr.mono (by decide)) (by rfl) (pa_cons (pv 0) (pa_cons (pe_ix (k_ixT (K := K) rfl) (pv 1) pe_int (fun _ _ => rfl)) pa_nil))) pa_nil)))))))), ?_⟩
    cases d with
    | cyc c =>
      obtain ⟨nd, rg⟩ := hok
      have cl := in_len nd rg
      cases hd with
      | tup ha hx =>
        rename_i a xs
        match xs, hx, ha with
        | [_, vc], .cons (.str _) (.cons hc .nil), ha =>
          obtain ⟨b, rfl, hb⟩ := hc.tupI_at
          refine q_when (b := true) (et_is (et_test (ev_eq (ev_ixT (ev_var rfl) ha ev_c rfl) ev_c rfl)) rfl) (fun _ H1 e1 => ?_) (fun z => nomatch z)
          refine q_asg (ev_ixT (v := .ref b) (ev_var rfl) (e1 _ _ ha) ev_c rfl) fun H2 e2 => ?_
          have s2 := Same.trans e1 e2
          have hb2 := s2 _ _ hb
          refine q_when (b := decide ((c.length : Int) < 3)) (et_is (et_or (et_test (ev_lt (ev_lenT (ev_var rfl) hb2) ev_c)) fun _ => et_test (ev_ne (ev_lenSetT (ev_var rfl) hb2 (by omega) nd) (ev_lenT (ev_var rfl) hb2) rfl)) ?_) (fun hbb H3 e3 => s_ret (v := .bl false) ev_c fun H4 e4 => ?_) (fun hbb H3 e3 => ?_)
          · rw [List.length_map, decide_eq_true (rfl : V.int (c.length : Int) = V.int (c.length : Int))]
            simp
          · have e0 : lawD G (.cyc c) = false := by
              show cycN G c = false
              unfold cycN
              rw [decide_eq_false (show ¬ 3 ≤ c.length by have := of_decide_eq_true hbb; omega), Bool.false_and]
            rw [← e0]
            exact q H4 (Same.trans (Same.trans s2 e3) e4)
          · have hlen : 3 ≤ c.length := by have := of_decide_eq_false hbb; omega
            have e0 : lawD G (.cyc c) = (List.range c.length).all fun k => decide (c.getD (if k = 0 then c.length - 1 else k - 1) 0 ∈ nbs G (c.getD k 0)) := by
              show cycN G c = _
              unfold cycN
              rw [decide_eq_true hlen, Bool.true_and]
            rw [e0] at q
            have hb3 := e3 _ _ hb2
            have s3 := Same.trans s2 e3
            refine s_ret (ev_all (l := List.range c.length) (f := fun k => decide (c.getD (if k = 0 then c.length - 1 else k - 1) 0 ∈ nbs G (c.getD k 0))) (el_rng (p := fun _ => true) (ev_is (ev_lenT (ev_var rfl) hb3) (by rw [List.length_map])) (by omega) (fun _ => rfl) (fun _ _ => et_yes) fun m hm2 _ => ?_)) fun H4 e4 => q H4 (Same.trans s3 e4)
            obtain ⟨z, hz⟩ : ∃ z, c[m]? = some z := ⟨_, List.getElem?_eq_getElem hm2⟩
            have gz : c.getD m 0 = z := by rw [List.getD_eq_getElem?_getD, hz]; rfl
            have hk : (if m = 0 then c.length - 1 else m - 1) < c.length := by split <;> omega
            obtain ⟨y, hy⟩ : ∃ y, c[if m = 0 then c.length - 1 else m - 1]? = some y := ⟨_, List.getElem?_eq_getElem hk⟩
            have gy : c.getD (if m = 0 then c.length - 1 else m - 1) 0 = y := by rw [List.getD_eq_getElem?_getD, hy]; rfl
            rw [gz, gy]
            refine ev_opR (ev_ixT (v := .int y) (ev_var rfl) hb3 (ev_sub (i := (m : Int)) (ev_var rfl) ev_c) ?_) (r_near (i := z) (G := G) (ea_cons (ev_var rfl) (ea_cons (ev_ixT (ev_var rfl) hb3 (ev_var rfl) (atI_ints (j := m) rfl hz)) ea_nil)) (hG.gw (Gw.of s3)) W) fun v H2 e2 ⟨b, ms, ev, hb, pm⟩ => ?_
            · by_cases h0 : m = 0
              · subst h0
                rw [if_pos rfl] at hy
                have e1 : ((0 : Nat) : Int) - 1 = -1 := rfl
                rw [e1]
                refine atI_last' ?_
                rw [List.getLast?_map, List.getLast?_eq_getElem?, hy]
                rfl
              · rw [if_neg h0] at hy
                exact atI_ints (j := m - 1) (by omega) hy
            · subst ev
              intro H3 e3 Q q
              refine in_ask (SqI.lst (e3 _ _ hb)) ?_
              rw [decide_eq_decide.mpr (pm.mem_iff (a := y))]
              exact q H3 (Ex.refl _)
    | apart ns =>
      obtain ⟨up, rg⟩ := hok
      have cl := in_len (nd_of_lt up) rg
      cases hd with
      | tup ha hx =>
        rename_i a xs
        match xs, hx, ha with
        | [_, vc], .cons (.str _) (.cons hc .nil), ha =>
          obtain ⟨b, rfl, hb⟩ := hc.tupI_at
          refine q_when (b := false) (et_is (et_test (ev_eq (ev_ixT (ev_var rfl) ha ev_c rfl) ev_c rfl)) rfl) (fun z => nomatch z) (fun _ H1 e1 => ?_)
          have ha1 := e1 _ _ ha
          refine q_when (b := true) (et_is (et_test (ev_eq (ev_ixT (ev_var rfl) ha1 ev_c rfl) ev_c rfl)) rfl) (fun _ H2 e2 => ?_) (fun z => nomatch z)
          have s2 := Same.trans e1 e2
          refine s_ret (v_callR (R := fun vs H4 => ∃ c, vs = [.ref a', .ref b, .ref c] ∧ H4 c = some (.tup ((rng G.scopes.length).map V.int))) (fun H4 e4 Q' q' => ⟨_, rfl, ?_⟩) fun vs H4 e4 ⟨c, ev, hc4⟩ Q' q' E => ?_) fun H4 e4 => q H4 (Same.trans s2 e4)
          · refine (ev_ixT (ev_var rfl) (e2 _ _ ha1) ev_c (v := .ref b) rfl) H4 e4 _ fun H5 e5 => ?_
            have s5 := Same.trans s2 (Same.trans e4 e5)
            exact (ev_tupRg (n := G.scopes.length) (ev_is (ev_lenT (ev_ixT (ev_var rfl) (s5 _ _ h1) ev_c rfl) (s5 _ _ h2)) (by rw [h4.1])) (by omega)) H5 (Ex.refl _) _ fun p H6 hp e6 hp6 => q' _ H6 (Same.trans e5 e6) ⟨p, rfl, hp6⟩
          · subst ev
            have s4 := Same.trans s2 e4
            exact ⟨_, b, c, ns, _, G, rfl, hG.gw (Gw.of s4), W, s4 _ _ hb, by omega, hc4, by rw [rng_len]; omega, q'⟩
    | split v ns =>
      obtain ⟨up, rg⟩ := hok
      have cl := in_len (nd_of_lt up) rg
      have hl := hav_len G v
      cases hd with
      | tup ha hx =>
        rename_i a xs
        match xs, hx, ha with
        | [_, _, vc], .cons (.str _) (.cons (.int _) (.cons hc .nil)), ha =>
          obtain ⟨b, rfl, hb⟩ := hc.tupI_at
          refine q_when (b := false) (et_is (et_test (ev_eq (ev_ixT (ev_var rfl) ha ev_c rfl) ev_c rfl)) rfl) (fun z => nomatch z) (fun _ H1 e1 => ?_)
          have ha1 := e1 _ _ ha
          refine q_when (b := false) (et_is (et_test (ev_eq (ev_ixT (ev_var rfl) ha1 ev_c rfl) ev_c rfl)) rfl) (fun z => nomatch z) (fun _ H2 e2 => ?_)
          have s2 := Same.trans e1 e2
          have ha2 := e2 _ _ ha1
          refine s_ret (v_callR (R := fun vs H4 => ∃ c, vs = [.ref a', .ref b, .ref c] ∧ H4 c = some (.tup ((hav G v).map V.int))) (fun H4 e4 Q' q' => ⟨_, rfl, ?_⟩) fun vs H4 e4 ⟨c, ev, hc4⟩ Q' q' E => ?_) fun H4 e4 => q H4 (Same.trans s2 e4)
          · refine (ev_ixT (ev_var rfl) ha2 ev_c (v := .ref b) rfl) H4 e4 _ fun H5 e5 => ?_
            refine (r_lhav (v := v) (G := G) (ea_cons (ev_var rfl) (ea_cons (ev_ixT (ev_var rfl) ha2 ev_c rfl) ea_nil)) (hG.gw (Gw.of s2)) W) H5 (Same.trans e4 e5) _ fun u H6 e6 ⟨c, eu, hc6⟩ => ?_
            subst eu
            exact q' _ H6 (Same.trans e5 e6) ⟨c, rfl, hc6⟩
          · subst ev
            have s4 := Same.trans s2 e4
            exact ⟨_, b, c, ns, _, G, rfl, hG.gw (Gw.of s4), W, s4 _ _ hb, by omega, hc4, by omega, q'⟩
end
end Tt

/-! the law, in plain Lean -/
namespace Tt
open PySem PySem.Spec
theorem nodesOf_tupI (c : List Int) : nodesOf (tupI c) = c := by
  unfold nodesOf tupI
  simp only [List.map_map]
  exact (List.map_congr_left fun x _ => rfl).trans (List.map_id c)
theorem areN_tupI {n : Nat} {c : List Int} (nd : c.Nodup) (rg : ∀ x ∈ c, 0 ≤ x ∧ x < (n : Int)) : areN n (tupI c) = !c.isEmpty := by
  have e1 : areN n (tupI c) = (!(c.map PyData.int).isEmpty && (c.map PyData.int).all (isNodeD n) && decide (((c.map PyData.int).map intOf).Nodup)) := rfl
  have e2 : (c.map PyData.int).map intOf = c := nodesOf_tupI c
  have e3 : (c.map PyData.int).all (isNodeD n) = true := by
    rw [List.all_map]
    exact List.all_eq_true.mpr fun x hx => decide_eq_true (rg x hx)
  rw [e1, e2, e3, decide_eq_true nd, Bool.and_true, Bool.and_true]
  cases c <;> rfl
theorem touch_eq {G : Gr} (W : WG G) (ns os : List Int) : touch G ns os = G.edges.any fun p => (decide (p.1 ∈ ns) && decide (p.2 ∈ os)) || (decide (p.2 ∈ ns) && decide (p.1 ∈ os)) := by
  rw [Bool.eq_iff_iff]
  unfold touch
  rw [List.any_eq_true, List.any_eq_true]
  constructor
  · rintro ⟨a, ha, h⟩
    obtain ⟨b, hb, h⟩ := List.any_eq_true.mp h
    have he := of_decide_eq_true h
    have hlt := (W.edge he).2.1
    refine ⟨_, he, ?_⟩
    by_cases hba : b < a
    · have e1 : mn a b = b := if_pos hba
      have e2 : mx a b = a := if_neg (by omega)
      rw [e1, e2]
      simp [ha, hb]
    · have e1 : mn a b = a := if_neg hba
      have e2 : mx a b = b := by
        unfold mx at hlt ⊢
        rw [e1] at hlt
        split at hlt
        · rename_i h2
          rw [if_pos h2]
        · omega
      rw [e1, e2]
      simp [ha, hb]
  · rintro ⟨p, hp, h⟩
    have hlt := (W.edges p hp).2.1
    rw [Bool.or_eq_true, Bool.and_eq_true, Bool.and_eq_true, decide_eq_true_eq, decide_eq_true_eq, decide_eq_true_eq, decide_eq_true_eq] at h
    rcases h with ⟨h1, h2⟩ | ⟨h1, h2⟩
    · refine ⟨p.1, h1, List.any_eq_true.mpr ⟨p.2, h2, decide_eq_true ?_⟩⟩
      have e1 : mn p.1 p.2 = p.1 := if_neg (by omega)
      have e2 : mx p.1 p.2 = p.2 := if_pos hlt
      rw [e1, e2]
      exact hp
    · refine ⟨p.2, h1, List.any_eq_true.mpr ⟨p.1, h2, decide_eq_true ?_⟩⟩
      have e1 : mn p.2 p.1 = p.1 := if_pos hlt
      have e2 : mx p.2 p.1 = p.2 := if_neg (by omega)
      rw [e1, e2]
      exact hp
theorem part_eq {G : Gr} (W : WG G) {ns as : List Int} (up : ns.Pairwise (· < ·)) (rg : ∀ x ∈ ns, 0 ≤ x ∧ x < (G.scopes.length : Int)) : partM G (tupI ns) as = lawPart G ns as := by
  unfold partM lawPart partN
  rw [nodesOf_tupI, areN_tupI (nd_of_lt up) rg, touch_eq W, decide_eq_true up, decide_eq_true (up.imp fun h => Int.le_of_lt h)]
  congr 3
  cases outOf ns as with
  | nil => rfl
  | cons x xs =>
    rw [decide_eq_true (show 0 < (x :: xs).length by simp)]
    rfl
theorem law_same {G : Gr} (W : WG G) {d : Lv} (ok : d.Ok G) : isDefectM G d.data = lawD G d := by
  cases d with
  | cyc c =>
    show cycM G (tupI c) = cycN G c
    unfold cycM
    rw [nodesOf_tupI, areN_tupI ok.1 ok.2]
    cases c with
    | nil => rfl
    | cons x xs => rw [show (!(x :: xs).isEmpty) = true from rfl, Bool.true_and]
  | apart ns =>
    show partM G (tupI ns) _ = lawPart G ns _
    exact part_eq W ok.1 ok.2
  | split v ns =>
    show partM G (tupI ns) _ = lawPart G ns _
    exact part_eq W ok.1 ok.2
theorem cyc_of {G : Gr} {c : List Int} (nd : c.Nodup) (h : cycN G c = true) : IsCyc G c := by
  unfold cycN at h
  rw [Bool.and_eq_true, decide_eq_true_eq] at h
  refine ⟨h.1, nd, fun k x y hx hy => ?_⟩
  have hk : k < c.length := (List.getElem?_eq_some_iff.mp hx).1
  have h2 := of_decide_eq_true (List.all_eq_true.mp h.2 k (List.mem_range.mpr hk))
  rw [List.getD_eq_getElem?_getD, List.getD_eq_getElem?_getD, hx, hy] at h2
  exact h2
theorem part_not {G : Gr} {ns as found : List Int} {i : Int} (hp : lawPart G ns as = true) (hh : Hang G i as found) (hi : i ∈ as) (hall : ∀ x ∈ as, x ∈ found) : False := by
  unfold lawPart at hp
  rw [Bool.and_eq_true, Bool.and_eq_true, Bool.and_eq_true, Bool.and_eq_true] at hp
  obtain ⟨h1, h2, h3, h4, h5⟩ := hp
  obtain ⟨a, ha⟩ : ∃ a, a ∈ ns := by
    cases ns with
    | nil => cases h1
    | cons x xs => exact ⟨x, List.mem_cons_self⟩
  obtain ⟨o, ho⟩ : ∃ o, o ∈ outOf ns as := by
    cases e : outOf ns as with
    | nil => rw [e] at h4; cases h4
    | cons x xs => exact ⟨x, List.mem_cons_self⟩
  have inas : ∀ x ∈ ns, x ∈ as := fun x hx => of_decide_eq_true (List.all_eq_true.mp h3 x hx)
  have isout : ∀ x, x ∈ outOf ns as ↔ x ∈ as ∧ x ∉ ns := fun x => by
    unfold outOf
    rw [List.mem_filter]
    simp
  have noedge : ∀ p ∈ G.edges, ¬ ((p.1 ∈ ns ∧ p.2 ∈ outOf ns as) ∨ (p.2 ∈ ns ∧ p.1 ∈ outOf ns as)) := fun p hp z => by
    have h6 : (G.edges.any fun p => (decide (p.1 ∈ ns) && decide (p.2 ∈ outOf ns as)) || (decide (p.2 ∈ ns) && decide (p.1 ∈ outOf ns as))) = false := by
      simpa using h5
    rw [List.any_eq_false] at h6
    refine h6 p hp ?_
    rw [Bool.or_eq_true, Bool.and_eq_true, Bool.and_eq_true, decide_eq_true_eq, decide_eq_true_eq, decide_eq_true_eq, decide_eq_true_eq]
    exact z
  have fas : ∀ x ∈ found, x ∈ as := fun x hx => by
    rcases hh.sub x hx with e | e
    · rw [e]; exact hi
    · exact e
  have one : ∀ x y, x ∈ found → y ∈ found → y ∈ nbs G x → x ∈ ns → y ∈ ns := fun x y hx hy hn hxs => by
    refine Classical.byContradiction fun hys => ?_
    have ho := (isout y).mpr ⟨fas y hy, hys⟩
    rcases mem_nbs.mp hn with e | e
    · exact noedge _ e (.inl ⟨hxs, ho⟩)
    · exact noedge _ e (.inr ⟨hxs, ho⟩)
  have side := hh.side (fun x => x ∈ ns) fun x y hx hy hn => ⟨one x y hx hy hn, one y x hy hx (nbs_symm hn)⟩
  have s1 := (side a (hall a (inas a ha))).mp ha
  have o2 := (isout o).mp ho
  exact o2.2 ((side o (hall o o2.1)).mpr s1)
theorem law_not {G : Gr} (W : WG G) {d : Lv} (ok : d.Ok G) (h : lawD G d = true) : ¬ TreeOk G := fun T => by
  cases d with
  | cyc c => exact T.nocyc ⟨c, cyc_of ok.1 h⟩
  | apart ns =>
    obtain ⟨found, hh, hall⟩ := T.one
    exact part_not h hh (mem_rng.mpr ⟨Int.le_refl 0, by have := W.many; omega⟩) hall
  | split v ns =>
    have h' : lawPart G ns (hav G v) = true := h
    have hne : ∃ x, x ∈ hav G v := by
      unfold lawPart at h'
      rw [Bool.and_eq_true, Bool.and_eq_true, Bool.and_eq_true] at h'
      obtain ⟨h1, h2, h3, h4⟩ := h'
      cases ns with
      | nil => cases h1
      | cons x xs => exact ⟨x, of_decide_eq_true (List.all_eq_true.mp h3 x List.mem_cons_self)⟩
    obtain ⟨x, hx⟩ := hne
    obtain ⟨i, _, hi, hv⟩ := mem_hav.mp hx
    have hv2 : ∃ ns ∈ G.scopes, v ∈ ns := by
      refine ⟨G.scopes[i], List.getElem_mem hi, ?_⟩
      rw [List.getD_eq_getElem?_getD, List.getElem?_eq_getElem hi] at hv
      exact hv
    obtain ⟨x0, rest, found, ex, hh, hall⟩ := T.whole v hv2
    exact part_not h' hh (by rw [ex]; exact List.mem_cons_self) hall
end Tt

namespace Tt
open PySem PySem.Spec PyProof.Rows L2 TtR Evl
section
variable {K : PySem.W.Frag} {σ : L2.St} {H : Hp} {te ta : TE} {ts tr : TA}
/-! displays of data -/
abbrev EvD (te : TE) (σ : L2.St) (H : Hp) (d : PyData) : Prop := EvR te σ H fun v H2 => Is H2 v d
abbrev EvDA (ts : TA) (σ : L2.St) (H : Hp) (ds : List PyData) : Prop := EvRA ts σ H fun vs H2 => IsAll H2 vs ds
theorem bd_c {v : V} {d : PyData} (h : ∀ H, Is H v d) : EvD (tC v) σ H d := fun H1 _ Q q => q v H1 (Same.refl _) (h H1)
theorem bd_non : EvD (tC .non) σ H .none := bd_c fun _ => .non
theorem bd_int {i : Int} : EvD (tC (.int i)) σ H (.int i) := bd_c fun _ => .int i
theorem bd_str {x : Str} : EvD (tC (.str x)) σ H (.str x) := bd_c fun _ => .str x
theorem bd_bl {b : Bool} : EvD (tC (.bl b)) σ H (.bool b) := bd_c fun _ => .bl b
theorem bd_nil : EvDA tNil σ H [] := fun H1 _ Q q => q [] H1 (Same.refl _) .nil
theorem bd_cons {d : PyData} {ds : List PyData} (h : EvD te σ H d) (hr : EvDA tr σ H ds) : EvDA (tCons te tr) σ H (d :: ds) := fun H1 e Q q =>
  h H1 e _ fun v H2 e2 i => hr H2 (Same.trans e e2) _ fun vs H3 e3 is => q _ H3 (Same.trans e2 e3) (.cons (i.gw (Gw.of e3)) is)
theorem bd_tup {ds : List PyData} (h : EvDA ts σ H ds) (hz : ds.length ≤ 100) : EvD (tTup ts) σ H (.tuple ds) := fun H1 e Q q =>
  h H1 e _ fun vs H2 e2 is => ⟨by rw [sizeLine_eq, is.len]; omega, fun p hp => q _ _ (Same.trans e2 (Same.new hp)) (.tup upd_same (IsAll.gw (Gw.new hp) is))⟩
theorem bd_lst {ds : List PyData} (h : EvDA ts σ H ds) (hz : ds.length ≤ 100) : EvD (tLst ts) σ H (.list []) := fun H1 e Q q =>
  h H1 e _ fun vs H2 e2 is => ⟨by rw [sizeLine_eq, is.len]; omega, fun p hp => q _ _ (Same.trans e2 (Same.new hp)) (.lst upd_same)⟩
/-- a list of data -/
def LsD (H : Hp) (v : V) (ds : List PyData) : Prop := ∃ a xs, v = .ref a ∧ H a = some (.lst xs) ∧ IsAll H xs ds
theorem LsD.same {H1 : Hp} {v : V} {ds : List PyData} (h : LsD H v ds) (e : Same H H1) : LsD H1 v ds := by
  obtain ⟨a, xs, e1, h1, h2⟩ := h
  exact ⟨a, xs, e1, e _ _ h1, IsAll.gw (Gw.of e) h2⟩
theorem bd_all {ds : List PyData} (h : EvDA ts σ H ds) (hz : ds.length ≤ 100) : EvR (tLst ts) σ H fun v H2 => LsD H2 v ds := fun H1 e Q q =>
  h H1 e _ fun vs H2 e2 is => ⟨by rw [sizeLine_eq, is.len]; omega, fun p hp => q _ _ (Same.trans e2 (Same.new hp)) ⟨p, vs, rfl, upd_same, IsAll.gw (Gw.new hp) is⟩⟩
theorem IsAll.append {H : Hp} : ∀ {vs ws : List V} {ds es : List PyData}, IsAll H vs ds → IsAll H ws es → IsAll H (vs ++ ws) (ds ++ es)
  | _, _, _, _, .nil, k => k
  | _, _, _, _, .cons h hs, k => .cons h (IsAll.append hs k)
theorem bd_cat {v : V} {ds es : List PyData} (hv : Ev ta σ H v) (h : LsD H v ds) (hb : EvR te σ H fun v H2 => LsD H2 v es) (hz : ds.length + es.length ≤ 100) : EvR (tOp rCat ta te) σ H fun v H2 => LsD H2 v (ds ++ es) := fun H1 e Q q =>
  hv H1 e _ fun H2 e2 => hb H2 (Same.trans e e2) _ fun u H3 e3 hu => by
    have s3 := Same.trans e (Same.trans e2 e3)
    obtain ⟨a, xs, rfl, h1, h2⟩ := h.same s3
    obtain ⟨b, ys, rfl, k1, k2⟩ := hu
    exact ⟨a, b, xs, ys, rfl, rfl, h1, k1, by rw [sizeLine_eq, h2.len, k2.len]; omega, fun p hp => q _ _ (Same.trans (Same.trans e2 e3) (Same.new hp)) ⟨p, xs ++ ys, rfl, upd_same, IsAll.gw (Gw.new hp) (h2.append k2)⟩⟩
/-! the values -/
def IsLv (G : Gr) (H : Hp) (v : V) : Prop := ∃ d : Lv, Is H v d.data ∧ d.Ok G
theorem IsLv.gw {G : Gr} {H1 : Hp} {v : V} (h : IsLv G H v) (g : Gw H H1) : IsLv G H1 v := by
  obtain ⟨d, h1, h2⟩ := h
  exact ⟨d, h1.gw g, h2⟩
def LvAll (G : Gr) (H : Hp) (vs : List V) : Prop := ∀ v ∈ vs, IsLv G H v
theorem LvAll.gw {G : Gr} {H1 : Hp} {vs : List V} (h : LvAll G H vs) (g : Gw H H1) : LvAll G H1 vs := fun v hv => (h v hv).gw g
theorem LvAll.snoc {G : Gr} {vs : List V} {v : V} (h : LvAll G H vs) (k : IsLv G H v) : LvAll G H (vs ++ [v]) := fun u hu => by
  rcases List.mem_append.mp hu with q | q
  · exact h u q
  · have e : u = v := by simpa using q
    rw [e]
    exact k
/-- nodes that may be told as a cycle -/
def CycOk (G : Gr) (c : List Int) : Prop := c.Nodup ∧ ∀ x ∈ c, 0 ≤ x ∧ x < (G.scopes.length : Int)
theorem isLv_cyc {G : Gr} {a T : Addr} {c : List Int} (hT : H T = some (.tup [.str "cycle", .ref a])) (ha : H a = some (.tup (c.map V.int))) (ok : CycOk G c) : IsLv G H (.ref T) := ⟨.cyc c, .tup hT (.cons (.str _) (.cons (Is.tupI ha) .nil)), ok⟩
theorem ev_cyc {G : Gr} {c : List Int} (h : EvR te σ H fun v H2 => ∃ a, v = .ref a ∧ H2 a = some (.tup (c.map V.int))) (ok : CycOk G c) : EvR (tTup (tCons (tC (.str "cycle")) (tCons te tNil))) σ H fun v H2 => IsLv G H2 v := fun H1 e Q q =>
  h H1 e _ fun v H2 e2 ⟨a, ev, ha⟩ => by
    subst ev
    exact ⟨by rw [sizeLine_eq]; show 2 ≤ 16777216; omega, fun T hT => q _ _ (Same.trans e2 (Same.new hT)) (isLv_cyc upd_same ((Same.new hT) _ _ ha) ok)⟩
theorem ev_rev {a : Addr} {ns : List Int} (h : Ev te σ H (.ref a)) (ha : H a = some (.tup (ns.map V.int))) : EvR (tRevT K te) σ H fun v H2 => ∃ a, v = .ref a ∧ H2 a = some (.tup (ns.reverse.map V.int)) := fun H1 e Q q =>
  h H1 e _ fun H2 e2 => ⟨a, _, rfl, SqT.of ((Same.trans e e2) _ _ ha), fun p hp => q _ _ (Same.trans e2 (Same.new hp)) ⟨p, rfl, by rw [upd_same, List.map_reverse]⟩⟩
theorem CycOk.perm {G : Gr} {c c' : List Int} (h : CycOk G c) (p : c'.Perm c) : CycOk G c' := ⟨p.nodup_iff.mpr h.1, fun x hx => h.2 x (p.mem_iff.mp hx)⟩
theorem CycOk.sub {G : Gr} {c c' : List Int} (h : CycOk G c) (p : c'.Sublist c) : CycOk G c' := ⟨h.1.sublist p, fun x hx => h.2 x (p.subset hx)⟩
end
/-! the fixed graph, the odd values -/
def G3 : Gr := ⟨2, [[0], [], [0]], [(0, 1), (1, 2)]⟩
def d3 : PyData := .tuple [.int 2, .tuple [tupI [0], tupI [], tupI [0]], .tuple [tupI [0, 1], tupI [1, 2]]]
theorem G3_ok : WG G3 := by
  refine ⟨by decide, by decide, fun ns h => ?_, fun p h => ?_, ?_, by decide⟩
  · have h' : ns = [0] ∨ ns = [] ∨ ns = [0] := by simpa [G3] using h
    rcases h' with rfl | rfl | rfl
    · exact ⟨⟨by decide, by decide, by decide⟩, by decide⟩
    · exact ⟨⟨by decide, by decide, by decide⟩, by decide⟩
    · exact ⟨⟨by decide, by decide, by decide⟩, by decide⟩
  · have h' : p = (0, 1) ∨ p = (1, 2) := by simpa [G3] using h
    rcases h' with rfl | rfl
    · decide
    · decide
  · show List.Pairwise _ [((0 : Int), (1 : Int)), (1, 2)]
    simp
theorem IsAll.two {H : Hp} {xs : List V} {a b : PyData} (h : IsAll H xs [a, b]) : ∃ x y, xs = [x, y] ∧ Is H x a ∧ Is H y b := by
  cases h with
  | cons h1 h =>
    cases h with
    | cons h2 h =>
      cases h
      exact ⟨_, _, rfl, h1, h2⟩
theorem IsAll.three {H : Hp} {xs : List V} {a b c : PyData} (h : IsAll H xs [a, b, c]) : ∃ x y z, xs = [x, y, z] ∧ Is H x a ∧ Is H y b ∧ Is H z c := by
  cases h with
  | cons h1 h =>
    obtain ⟨y, z, rfl, h2, h3⟩ := h.two
    exact ⟨_, y, z, rfl, h1, h2, h3⟩
theorem Is.tup_at {H : Hp} {v : V} {ds : List PyData} (h : Is H v (.tuple ds)) : ∃ a xs, v = .ref a ∧ H a = some (.tup xs) ∧ IsAll H xs ds := by
  cases h with
  | tup h1 h2 => exact ⟨_, _, rfl, h1, h2⟩
theorem G3_at {H : Hp} {v : V} (h : Is H v d3) : GraphAt H v G3 := by
  obtain ⟨a, xs, rfl, h1, h2⟩ := h.tup_at
  obtain ⟨x0, sc, ed, rfl, hi, hs, he⟩ := h2.three
  cases hi
  obtain ⟨b, ss, rfl, s1, s2⟩ := hs.tup_at
  obtain ⟨c, es, rfl, e1, e2⟩ := he.tup_at
  obtain ⟨x, y, z, rfl, k1, k2, k3⟩ := s2.three
  obtain ⟨u, w, rfl, m1, m2⟩ := e2.two
  obtain ⟨x', rfl, q1⟩ := k1.tupI_at
  obtain ⟨y', rfl, q2⟩ := k2.tupI_at
  obtain ⟨z', rfl, q3⟩ := k3.tupI_at
  obtain ⟨u', rfl, r1⟩ := m1.tupI_at
  obtain ⟨w', rfl, r2⟩ := m2.tupI_at
  exact ⟨a, b, c, _, _, rfl, h1, s1, e1, ((Tups.nil.snoc q1).snoc q2).snoc q3, (Tups.nil.snoc (ns := pr (0, 1)) r1).snoc (ns := pr (1, 2)) r2⟩
def oddA : List PyData := [.none, .str "split", .tuple [.str "split", .int 0], .list [], .tuple [.str "split", .int 0, .list []], .tuple [.str "split", .int 0, .tuple [.bool true]], .tuple [.str "split", .bool false, tupI [0]], .tuple [.str "split", .int 0, tupI [0, 2]], .tuple [.str "split", .int 0, tupI [0, 0]]]
def oddB : List PyData := [.tuple [.str "split", .int 0, tupI []], .tuple [.str "split", .int 0, tupI [1]], .tuple [.str "split", .str "0", tupI [0]], .tuple [.str "apart", tupI [0]], .tuple [.str "apart", tupI [0], tupI []], .tuple [.str "cycle", tupI [0, 1]], .tuple [.str "cycle", tupI [0, 1, 2]], .tuple [.str "cycle", .list []]]
def oddC : List PyData := [.tuple [.str "other", tupI [0]], .tuple [.none, tupI [0]], .tuple [.str "split", .int 0, tupI [3]], .tuple [.str "split", .int 0, tupI [0], tupI []], .tuple [.str "split", .int 7, tupI [0]], .tuple [.str "cycle", .none], .tuple [.str "apart", tupI [0, 1, 2]], .tuple [.str "cycle", tupI [0, 1, 0]]]
def odd : List PyData := oddA ++ oddB ++ oddC
theorem odd_len : odd.length = 25 := rfl
def lowB : PyData → Bool
  | .tuple ds => ds.all fun x => decide (dl x ≤ 100)
  | _ => true
theorem low_of {d : PyData} (h : lowB d = true) : Low d := by
  cases d with
  | tuple ds => exact fun x hx => of_decide_eq_true (List.all_eq_true.mp h x hx)
  | _ => trivial
theorem odd_no : odd.all (fun d => lowB d && !isDefectM G3 d) = true := by decide +kernel
theorem odd_at {k : Nat} {d : PyData} (h : odd[k]? = some d) : Low d ∧ isDefectM G3 d = false := by
  have h1 := List.all_eq_true.mp odd_no d (List.mem_of_getElem? h)
  rw [Bool.and_eq_true] at h1
  exact ⟨low_of h1.1, by simpa using h1.2⟩
theorem split_yes0 : isDefectM G3 (.tuple [.str "split", .int 0, tupI [0]]) = true := by decide +kernel
theorem split_yes2 : isDefectM G3 (.tuple [.str "split", .int 0, tupI [2]]) = true := by decide +kernel
theorem split_low (i : Int) : Low (.tuple [.str "split", .int 0, tupI [i]]) := low_of rfl
end Tt

namespace Tt
open PySem PySem.Spec PyProof.Rows L2 TtR Evl
def sp_law (K : PySem.W.Frag) : Sp := fun vs H Q _ => ∃ (a : Addr) (ns : List Int), vs = [.ref a] ∧ SqL K H a (ns.map V.int) ∧ ns.length ≤ 63 ∧ ∀ H', Q (.bl true) H'
theorem n_stream {K : PySem.W.Frag} {σ : L2.St} {H : Hp} {ts : TA} {E : XK} {s : Addr} {ns : List Int} {Q : VK} (h : EvA ts σ H [.ref s]) (hs : SqL K H s (ns.map V.int)) (hl : ns.length ≤ 1000)
    (q : ∀ (p l : Addr) (H' : Hp), Same H H' → Sm p l ns H' → Q (.ref p) H') : tCall (sp_law_stream K) [] E ts σ H Q :=
  h H (Ex.refl H) _ fun H2 e => ⟨s, ns, rfl, Same.seq e hs, hl, fun H' p l s1 _ sm => q p l H' (Same.trans e s1) sm⟩
theorem n_drawn {K : PySem.W.Frag} {σ : L2.St} {H : Hp} {ts : TA} {E : XK} {p l : Addr} {ns : List Int} {n : Nat} {Q : VK} (h : EvA ts σ H [.ref p, .int (n : Int)]) (hs : Sm p l ns H) (h1 : 1 ≤ n) (h5 : n ≤ 5)
    (q : ∀ (a : Addr) (xs : List Int) (H' : Hp), Nx p l ns H H' → H' a = some (.tup (xs.map V.int)) → xs.Nodup → (∀ x ∈ xs, 0 ≤ x ∧ x < (n : Int)) → Q (.ref a) H') : tCall (sp_law_drawn K) [] E ts σ H Q :=
  h H (Ex.refl H) _ fun H2 e => ⟨p, l, ns, n, rfl, hs.same e, h1, h5, fun H' a xs n2 ha nd rg => q a xs H' ((Nx.of hs e).trans n2) ha nd rg⟩
theorem DefT.gw {G : Gr} {H H1 : Hp} {u : V} (h : DefT G H u) (g : Gw H H1) : DefT G H1 u := by
  rcases h with h | ⟨t, s, rest, h1, h2, h3⟩
  · exact .inl h
  · refine .inr ⟨t, s, rest, h1, g.tup _ _ h2, fun e => ?_⟩
    obtain ⟨a, c, k1, k2, k3⟩ := h3 e
    exact ⟨a, c, k1, g.tup _ _ k2, k3⟩
abbrev EvLA (G : Gr) (n : Nat) (ts : TA) (σ : L2.St) (H : Hp) : Prop := EvRA ts σ H fun vs H2 => vs.length = n ∧ LvAll G H2 vs
theorem la_nil {G : Gr} {σ : L2.St} {H : Hp} : EvLA G 0 tNil σ H := fun H1 _ Q q => q [] H1 (Same.refl _) ⟨rfl, fun v hv => by simp at hv⟩
theorem la_cons {G : Gr} {n : Nat} {te : TE} {tr : TA} {σ : L2.St} {H : Hp} (h : EvR te σ H fun v H2 => IsLv G H2 v) (hr : EvLA G n tr σ H) : EvLA G (n + 1) (tCons te tr) σ H := fun H1 e Q q =>
  h H1 e _ fun v H2 e2 i => hr H2 (Same.trans e e2) _ fun vs H3 e3 is => q _ H3 (Same.trans e2 e3) ⟨by rw [List.length_cons, is.1], fun u hu => by
    rcases List.mem_cons.mp hu with z | z
    · rw [z]
      exact i.gw (Gw.of e3)
    · exact is.2 u z⟩
/-- values = values + [..] -/
theorem s_more {G : Gr} {n : Nat} {ta : TE} {ts : TA} {σ : L2.St} {H : Hp} {D : Ends} {i : Nat} {L : Addr} {vals : List V} (ha : Ev ta σ H (.ref L)) (hL : H L = some (.lst vals)) (hv : LvAll G H vals) (h : EvLA G n ts σ H) (hz : vals.length + n ≤ 10000)
    (k : ∀ (L' : Addr) (vals' : List V) (H' : Hp), H L' = none → Same H H' → H' L' = some (.lst vals') → LvAll G H' vals' → vals'.length = vals.length + n → D.nx (σ.set i (some (.ref L'))) H') : tAsg (tOp rCat ta (tLst ts)) (gName i) D σ H :=
  ha H (Same.refl _) _ fun H1 e1 => h H1 e1 _ fun vs H2 e2 ⟨lv, av⟩ => ⟨by rw [sizeLine_eq]; omega, fun q hq => by
    have s2 : Same H H2 := Same.trans e1 e2
    have s3 : Same H (upd H2 q (.lst vs)) := Same.trans s2 (Same.new hq)
    refine ⟨L, q, vals, vs, rfl, rfl, s3 _ _ hL, upd_same, by rw [sizeLine_eq]; omega, fun t ht => ?_⟩
    refine k t (vals ++ vs) _ (fresh_back s3 ht) (Same.trans s3 (Same.new ht)) upd_same (fun v hv2 => ?_) (by rw [List.length_append, lv])
    rcases List.mem_append.mp hv2 with z | z
    · exact (hv v z).gw (Gw.of (Same.trans s3 (Same.new ht)))
    · exact (av v z).gw (Gw.of (Same.trans (Same.new hq) (Same.new ht)))⟩
def pw : List Int := [1, 2, 4, 8, 16, 32]
theorem pw_at {m : Nat} (h : m < 6) : ∃ x, pw[m]? = some x ∧ 1 ≤ x ∧ x ≤ 32 := by
  have h' : m < pw.length := h
  refine ⟨pw[m], List.getElem?_eq_getElem h', ?_⟩
  have h2 : pw.all (fun x => decide (1 ≤ x ∧ x ≤ 32)) = true := by decide
  exact of_decide_eq_true (List.all_eq_true.mp h2 _ (List.getElem_mem h'))
theorem v_equal {K : PySem.W.Frag} {σ : L2.St} {H : Hp} {ts : TA} {E : XK} {a b : Bool} (h : EvA ts σ H [.bl a, .bl b]) : Ev (tCall (sp_law_equal K) [] E ts) σ H (.bl (decide (a = b))) :=
  v_call h fun H1 _ Q q E => ⟨a, b, rfl, q⟩
theorem v_accepts {K : PySem.W.Frag} {σ : L2.St} {H : Hp} {ts : TA} {E : XK} {g v : V} {d : PyData} {G : Gr} (h : EvA ts σ H [g, v]) (hG : GraphAt H g G) (W : WG G) (hd : Is H v d) (hl : Low d) : Ev (tCall (sp_accepts_defect K) [] E ts) σ H (.bl (isDefectM G d)) :=
  v_call h fun H1 e Q q E => ⟨g, v, d, G, rfl, hG.gw (Gw.of e), W, hd.gw (Gw.of e), hl, q⟩
theorem Lv.low {G : Gr} (W : WG G) {d : Lv} (ok : d.Ok G) : Low d.data := by
  have hm := W.many
  have hdl : ∀ c : List Int, c.Nodup → (∀ x ∈ c, 0 ≤ x ∧ x < (G.scopes.length : Int)) → dl (tupI c) ≤ 100 := fun c nd rg => by
    have := in_len nd rg
    show (c.map PyData.int).length ≤ 100
    rw [List.length_map]
    omega
  cases d with
  | cyc c =>
    intro x hx
    have h' : x = .str "cycle" ∨ x = tupI c := by simpa using hx
    rcases h' with rfl | rfl
    · exact Nat.zero_le _
    · exact hdl c ok.1 ok.2
  | apart ns =>
    intro x hx
    have h' : x = .str "apart" ∨ x = tupI ns := by simpa using hx
    rcases h' with rfl | rfl
    · exact Nat.zero_le _
    · exact hdl ns (nd_of_lt ok.1) ok.2
  | split v ns =>
    intro x hx
    have h' : x = .str "split" ∨ x = .int v ∨ x = tupI ns := by simpa using hx
    rcases h' with rfl | rfl | rfl
    · exact Nat.zero_le _
    · exact Nat.zero_le _
    · exact hdl ns (nd_of_lt ok.1) ok.2
theorem bd_l1 {σ : L2.St} {H : Hp} : EvD (tLst (tCons (tC (.int 0)) tNil)) σ H (.list []) := bd_lst (ds := [.int 0]) (bd_cons bd_int bd_nil) (by decide)
theorem bd_l3 {σ : L2.St} {H : Hp} : EvD (tLst (tCons (tC (.int 0)) (tCons (tC (.int 1)) (tCons (tC (.int 2)) tNil)))) σ H (.list []) := bd_lst (ds := [.int 0, .int 1, .int 2]) (bd_cons bd_int (bd_cons bd_int (bd_cons bd_int bd_nil))) (by decide)
theorem bd_ls {σ : L2.St} {H : Hp} : EvD (tLst (tCons (tC (.str "split")) (tCons (tC (.int 0)) (tCons (tTup (tCons (tC (.int 0)) tNil)) tNil)))) σ H (.list []) := bd_lst (ds := [.str "split", .int 0, .tuple [.int 0]]) (bd_cons bd_str (bd_cons bd_int (bd_cons (bd_tup (bd_cons bd_int bd_nil) (by decide)) bd_nil))) (by decide)
theorem v_acceptsD {K : PySem.W.Frag} {σ : L2.St} {H : Hp} {tg te : TE} {E : XK} {g : V} {d : PyData} {G : Gr} (hv : Ev tg σ H g) (hG : GraphAt H g G) (W : WG G) (hd : EvD te σ H d) (hl : Low d) : Ev (tCall (sp_accepts_defect K) [] E (tCons tg (tCons te tNil))) σ H (.bl (isDefectM G d)) :=
  v_callR (R := fun vs H2 => ∃ v, vs = [g, v] ∧ Is H2 v d) (fun H1 e1 Q q => hv H1 e1 _ fun H2 e2 => hd H2 (Same.trans e1 e2) _ fun v H3 e3 i => q _ H3 (Same.trans e2 e3) ⟨v, rfl, i⟩) fun vs H1 e1 ⟨v, ev, i⟩ Q q E => by
    subst ev
    exact ⟨g, v, d, G, rfl, hG.gw (Gw.of e1), W, i, hl, q⟩
section
variable {P : Program} {w : World} {K : PySem.W.Frag} {mg : Str → Option Value} {base : Heap}
theorem ok_law {f : Addr} {fd : FuncData} (F : Fun K "law" "law" s_law f fd) (B : Bl mg) (C_law_drawn : FnC P w K mg base 2 "_law_drawn" ["_law_stream_here", "_law_many"] (sp_law_drawn K)) (C_law_equal : FnC P w K mg base 1 "_law_equal" ["_law_actual", "_law_due"] (sp_law_equal K)) (C_law_is_defect : FnC P w K mg base 2 "_law_is_defect" ["_law_graph", "_law_value"] (sp_law_is_defect K)) (C_law_next : FnC P w K mg base 1 "_law_next" ["_law_stream_here", "_law_many"] (sp_law_next K)) (C_law_some_graph : FnC P w K mg base 4 "_law_some_graph" ["_law_stream_here", "_law_most"] (sp_law_some_graph K)) (C_law_stream : FnC P w K mg base 1 "_law_stream" ["_law_script"] (sp_law_stream K)) (C_accepts_defect : FnC P w K mg base 6 "accepts_defect" ["graph", "value"] (sp_accepts_defect K)) (C_defect : FnC P w K mg base 6 "defect" ["graph"] (sp_defect K)) (C_is_junction_tree : FnC P w K mg base 6 "is_junction_tree" ["graph"] (sp_is_junction_tree K)) : FnOk P w K mg base CX0 7 f fd ["_law_script"] (sp_law K) := by
  refine F.ok sc_law (fun vs H Q E h => ?_) (fun cdv A outer s H vs Q E hr h => ?_)
  · obtain ⟨s, ns, rfl, _⟩ := h
    rfl
  · obtain ⟨s0, ns, rfl, hs, hl, q⟩ := h
    refine ⟨_, (pss_cons (ps_set (i := 1) sc_law.nd rfl (.inr rfl) (pe_callC C_law_stream (hr.mono (by decide)) (by rfl) (pa_cons (pv 0) pa_nil)))
      (pss_cons (ps_set (i := 2) sc_law.nd rfl (.inl rfl) (pe_callC C_law_some_graph (hr.mono (by decide)) (by rfl) (pa_cons (pv 1) (pa_cons pe_int pa_nil))))
      (pss_cons (ps_set (i := 3) sc_law.nd rfl (.inr rfl) (pe_callB (k_len (K := K) rfl) (by rfl) B.len_ (by decide +kernel) (pa_cons (pe_ix (k_ixT (K := K) rfl) (pv 2) pe_int (fun _ _ => rfl)) pa_nil)))
      (pss_cons (ps_setLc (i := 4) (own := [("_law_turn", 13)]) rfl sc_law.nd rfl rfl (sw_true rfl rfl rfl (by decide +kernel)) (pi_range1 (by rfl) B.range_ (pa_cons pe_int pa_nil)) (blkOk_by (N := N_law) (sc := defScope s_law) (by decide +kernel)) (fun _ _ _ _ _ => (pg_name (i := 13) sc_law.nd rfl (.inl rfl))) (fun _ _ _ _ _ => pts_nil) (fun _ _ _ _ _ => (pe_tup (pa_cons pe_str (pa_cons (pe_callC C_law_drawn (hr.mono (by decide)) (by rfl) (pa_cons (pv 1) (pa_cons (pv 3) pa_nil))) pa_nil)))))
      (pss_cons (ps_set (i := 5) sc_law.nd rfl (.inl rfl) (pe_callC C_defect (hr.mono (by decide)) (by rfl) (pa_cons (pv 2) pa_nil)))
      (pss_cons (ps_if (PW.pt (pw_and (pt_cmpR op_notN (pv 5) pe_non (nomark _)) (pw_and1 (pt_cmpR op_eq (pe_ix (k_ixT (K := K) rfl) (pv 5) pe_int (fun _ _ => rfl)) pe_str (nomark _))))) (pss_one (ps_set (i := 4) sc_law.nd rfl (.inl rfl) (pe_op op_cat (pv 4) (pe_lst (pa_cons (pe_tup (pa_cons pe_str (pa_cons (pe_op (k_catA (K := K) rfl) (pe_slice sl_tupA (pe_ix (k_ixT (K := K) rfl) (pv 5) pe_int (fun _ _ => rfl)) (po_some pe_int) po_none) (pe_slice sl_tupA (pe_ix (k_ixT (K := K) rfl) (pv 5) pe_int (fun _ _ => rfl)) po_none (po_some pe_int))) pa_nil))) (pa_cons (pe_tup (pa_cons pe_str (pa_cons (pe_revT (pe_ix (k_ixT (K := K) rfl) (pv 5) pe_int (fun _ _ => rfl))) pa_nil))) (pa_cons (pe_tup (pa_cons pe_str (pa_cons (pe_slice sl_tupA (pe_ix (k_ixT (K := K) rfl) (pv 5) pe_int (fun _ _ => rfl)) (po_some pe_int) po_none) pa_nil))) pa_nil))))))) pss_nil)
      (pss_cons (ps_set (i := 6) sc_law.nd rfl (.inr rfl) (pe_lst (pa_cons pe_int (pa_cons pe_int (pa_cons pe_int (pa_cons pe_int (pa_cons pe_int (pa_cons pe_int pa_nil))))))))
      (pss_cons (ps_for PassesOwn.never rfl (pi_range1 (by rfl) B.range_ (pa_cons (pe_ix (k_ixL (K := K) rfl) (pv 6) (pv 3) (fun _ _ => rfl)) pa_nil)) (pg_name (i := 7) sc_law.nd rfl (.inr rfl)) (pss_cons (ps_set (i := 8) sc_law.nd rfl (.inl rfl) (k_tupleOf (K := K) rfl (by rfl) B.tuple_ (pe_lc (own := [("_law_node", 14)]) rfl sc_law.nd (pi_range1 (by rfl) B.range_ (pa_cons (pv 3) pa_nil)) (blkOk_by (N := N_law) (sc := defScope s_law) (by decide +kernel)) (fun _ _ _ _ _ => (pg_name (i := 14) sc_law.nd rfl (.inl rfl))) (fun _ _ _ _ _ => (pts_one (pt_cmpR op_eq (pe_op op_modN (pe_op op_fdivN (pv 7) (pe_ix (k_ixL (K := K) rfl) (pv 6) (pv 14) (fun _ _ => rfl))) pe_int) pe_int (nomark _)))) (fun _ _ _ _ _ => (pv 14)))))
      (pss_cons (ps_expr (pe_bm PySem.F.plainAttrs_list PySem.F.slot_list_append PySem.F.type_list_append mt_append (pv 4) (pa_cons (pe_tup (pa_cons pe_str (pa_cons (pv 8) pa_nil))) pa_nil)))
      (pss_one (ps_expr (pe_bm PySem.F.plainAttrs_list PySem.F.slot_list_append PySem.F.type_list_append mt_append (pv 4) (pa_cons (pe_tup (pa_cons pe_str (pa_cons (pe_callC C_law_next (hr.mono (by decide)) (by rfl) (pa_cons (pv 1) (pa_cons pe_int pa_nil))) (pa_cons (pv 8) pa_nil)))) pa_nil)))))))
      (pss_cons (ps_for PassesOwn.never rfl (kpi_list (K := K) rfl (pv 4)) (pg_name (i := 9) sc_law.nd rfl (.inl rfl)) (pss_cons (ps_set (i := 10) sc_law.nd rfl (.inl rfl) (pe_callC C_law_is_defect (hr.mono (by decide)) (by rfl) (pa_cons (pv 2) (pa_cons (pv 9) pa_nil))))
      (pss_cons (ps_if (pt_not (pt_val (pe_callC C_law_equal (hr.mono (by decide)) (by rfl) (pa_cons (pe_callC C_accepts_defect (hr.mono (by decide)) (by rfl) (pa_cons (pv 2) (pa_cons (pv 9) pa_nil))) (pa_cons (pv 10) pa_nil))))) (pss_one (ps_ret pe_bl)) pss_nil)
      (pss_one (ps_if (PW.pt (pw_and (pt_val (pv 10)) (pw_and1 (pt_not (pt_val (pe_callC C_law_equal (hr.mono (by decide)) (by rfl) (pa_cons (pe_callC C_is_junction_tree (hr.mono (by decide)) (by rfl) (pa_cons (pv 2) pa_nil)) (pa_cons pe_bl pa_nil)))))))) (pss_one (ps_ret pe_bl)) pss_nil)))))
      (pss_cons (ps_set (i := 11) sc_law.nd rfl (.inl rfl) (pe_tup (pa_cons pe_int (pa_cons (pe_tup (pa_cons (pe_tup (pa_cons pe_int pa_nil)) (pa_cons (pe_tup pa_nil) (pa_cons (pe_tup (pa_cons pe_int pa_nil)) pa_nil)))) (pa_cons (pe_tup (pa_cons (pe_tup (pa_cons pe_int (pa_cons pe_int pa_nil))) (pa_cons (pe_tup (pa_cons pe_int (pa_cons pe_int pa_nil))) pa_nil))) pa_nil)))))
      (pss_cons (ps_set (i := 12) sc_law.nd rfl (.inl rfl) (pe_lst (pa_cons pe_non (pa_cons pe_str (pa_cons (pe_tup (pa_cons pe_str (pa_cons pe_int pa_nil))) (pa_cons (pe_lst (pa_cons pe_str (pa_cons pe_int (pa_cons (pe_tup (pa_cons pe_int pa_nil)) pa_nil)))) (pa_cons (pe_tup (pa_cons pe_str (pa_cons pe_int (pa_cons (pe_lst (pa_cons pe_int pa_nil)) pa_nil)))) (pa_cons (pe_tup (pa_cons pe_str (pa_cons pe_int (pa_cons (pe_tup (pa_cons pe_bl pa_nil)) pa_nil)))) (pa_cons (pe_tup (pa_cons pe_str (pa_cons pe_bl (pa_cons (pe_tup (pa_cons pe_int pa_nil)) pa_nil)))) (pa_cons (pe_tup (pa_cons pe_str (pa_cons pe_int (pa_cons (pe_tup (pa_cons pe_int (pa_cons pe_int pa_nil))) pa_nil)))) (pa_cons (pe_tup (pa_cons pe_str (pa_cons pe_int (pa_cons (pe_tup (pa_cons pe_int (pa_cons pe_int pa_nil))) pa_nil)))) pa_nil)))))))))))
      (pss_cons (ps_set (i := 12) sc_law.nd rfl (.inl rfl) (pe_op op_cat (pv 12) (pe_lst (pa_cons (pe_tup (pa_cons pe_str (pa_cons pe_int (pa_cons (pe_tup pa_nil) pa_nil)))) (pa_cons (pe_tup (pa_cons pe_str (pa_cons pe_int (pa_cons (pe_tup (pa_cons pe_int pa_nil)) pa_nil)))) (pa_cons (pe_tup (pa_cons pe_str (pa_cons pe_str (pa_cons (pe_tup (pa_cons pe_int pa_nil)) pa_nil)))) (pa_cons (pe_tup (pa_cons pe_str (pa_cons (pe_tup (pa_cons pe_int pa_nil)) pa_nil))) (pa_cons (pe_tup (pa_cons pe_str (pa_cons (pe_tup (pa_cons pe_int pa_nil)) (pa_cons (pe_tup pa_nil) pa_nil)))) (pa_cons (pe_tup (pa_cons pe_str (pa_cons (pe_tup (pa_cons pe_int (pa_cons pe_int pa_nil))) pa_nil))) (pa_cons (pe_tup (pa_cons pe_str (pa_cons (pe_tup (pa_cons pe_int (pa_cons pe_int (pa_cons pe_int pa_nil)))) pa_nil))) (pa_cons (pe_tup (pa_cons pe_str (pa_cons (pe_lst (pa_cons pe_int (pa_cons pe_int (pa_cons pe_int pa_nil)))) pa_nil))) pa_nil)))))))))))
      (pss_cons (ps_set (i := 12) sc_law.nd rfl (.inl rfl) (pe_op op_cat (pv 12) (pe_lst (pa_cons (pe_tup (pa_cons pe_str (pa_cons (pe_tup (pa_cons pe_int pa_nil)) pa_nil))) (pa_cons (pe_tup (pa_cons pe_non (pa_cons (pe_tup (pa_cons pe_int pa_nil)) pa_nil))) (pa_cons (pe_tup (pa_cons pe_str (pa_cons pe_int (pa_cons (pe_tup (pa_cons pe_int pa_nil)) pa_nil)))) (pa_cons (pe_tup (pa_cons pe_str (pa_cons pe_int (pa_cons (pe_tup (pa_cons pe_int pa_nil)) (pa_cons (pe_tup pa_nil) pa_nil))))) (pa_cons (pe_tup (pa_cons pe_str (pa_cons pe_int (pa_cons (pe_tup (pa_cons pe_int pa_nil)) pa_nil)))) (pa_cons (pe_tup (pa_cons pe_str (pa_cons pe_non pa_nil))) (pa_cons (pe_tup (pa_cons pe_str (pa_cons (pe_tup (pa_cons pe_int (pa_cons pe_int (pa_cons pe_int pa_nil)))) pa_nil))) (pa_cons (pe_tup (pa_cons pe_str (pa_cons (pe_tup (pa_cons pe_int (pa_cons pe_int (pa_cons pe_int pa_nil)))) pa_nil))) pa_nil)))))))))))
      (pss_cons (ps_if (pt_not (pt_val (pe_callC C_law_equal (hr.mono (by decide)) (by rfl) (pa_cons (pe_callC C_accepts_defect (hr.mono (by decide)) (by rfl) (pa_cons (pv 11) (pa_cons (pe_ix (k_ixL (K := K) rfl) (pv 12) (pe_callC C_law_next (hr.mono (by decide)) (by rfl) (pa_cons (pv 1) (pa_cons pe_int pa_nil))) (fun _ _ => rfl)) pa_nil))) (pa_cons pe_bl pa_nil))))) (pss_one (ps_ret pe_bl)) pss_nil)
      (pss_one (ps_ret (pe_and (pe_callC C_law_equal (hr.mono (by decide)) (by rfl) (pa_cons (pe_callC C_accepts_defect (hr.mono (by decide)) (by rfl) (pa_cons (pv 11) (pa_cons (pe_tup (pa_cons pe_str (pa_cons pe_int (pa_cons (pe_tup (pa_cons pe_int pa_nil)) pa_nil)))) pa_nil))) (pa_cons pe_bl pa_nil))) (pe_one (pe_callC C_law_equal (hr.mono (by decide)) (by rfl) (pa_cons (pe_callC C_accepts_defect (hr.mono (by decide)) (by rfl) (pa_cons (pv 11) (pa_cons (pe_tup (pa_cons pe_str (pa_cons pe_int (pa_cons (pe_tup (pa_cons pe_int pa_nil)) pa_nil)))) pa_nil))) (pa_cons pe_bl pa_nil))))))))))))))))))))), ?_⟩
    refine n_stream (ea_cons (ev_var rfl) ea_nil) hs (by omega) fun p l H1 s1 sm => ?_
    refine g_nx ?_
    refine n_graph (ea_cons (ev_var rfl) (ea_cons ev_c ea_nil)) sm fun g G H2 n2 hg W => ?_
    refine g_nx ?_
    obtain ⟨a', sc, ed, ss, es, rfl, h1, h2, h3, h4, h5⟩ := id hg
    have hm := W.many
    refine q_asg (v := .int (G.scopes.length : Int)) (ev_is (ev_lenT (ev_ixT (ev_var rfl) h1 ev_c rfl) h2) (by rw [h4.1])) fun H3 e3 => ?_
    have hs3 := n2.sm.same e3
    have hg3 := hg.gw (Gw.of e3)
    -- the drawn tuples
    refine ⟨(4 : Int), rfl, by omega, by omega, fun L hL => ?_⟩
    rw [show ((4 : Int)).toNat = 4 from rfl]
    obtain ⟨nL, _⟩ := hs3.ne_none hL
    refine lc_gen walk_range (by omega) (fun i acc H' => Nx p l ns H3 H' ∧ LvAll G H' acc) (fun _ _ _ _ => trivial) (fun i acc H' a' zs m hDa => ⟨m.1.mut hs3 hL, m.2.gw (Gw.upd hDa)⟩) ⟨(Nx.refl hs3).mut hs3 hL, fun v hv => by simp at hv⟩ (fun i acc x H' H'' P2 P3 hi hDa hal m y k2 k3 => ?_) (fun vals H4 hDa hal m => ?_)
    · obtain ⟨rfl, rfl⟩ := y
      refine ⟨rfl, iteT (B := P3 H'') ?_⟩
      refine n_drawn (n := G.scopes.length) (ea_cons (ev_var rfl) (ea_cons (ev_var rfl) ea_nil)) m.1.sm (by omega) (by omega) fun a xs H5 n5 ha nd rg => ⟨by rw [sizeLine_eq]; show 2 ≤ 16777216; omega, fun T hT => ?_⟩
      have s6 : Same H5 (upd H5 T (.tup [.str "cycle", .ref a])) := Same.new hT
      exact k2 _ _ (s6 _ _ (n5.keep L _ nL hDa)) ⟨(m.1.trans n5).same s6, (m.2.gw ((n5.gw m.1.sm).trans (Gw.of s6))).snoc (isLv_cyc upd_same (s6 _ _ ha) ⟨nd, rg⟩)⟩
    · obtain ⟨n4, hv4⟩ := m
      refine g_nx ?_
      -- told = defect(graph)
      refine r_asg (r_call (P := fun u H => DefT G H u) (vs := [.ref a']) (ea_cons (ev_var rfl) ea_nil) fun H5 e5 Q' q' E => ⟨.ref a', G, rfl, hg3.gw ((n4.gw hs3).trans (Gw.of e5)), W, fun H6 u s6 hu => q' u H6 s6 hu⟩) fun u H5 e5 hu => ?_
      have n5 : Nx p l ns H3 H5 := n4.same e5
      refine q_ifR (R := fun b H6 => Same H5 H6 ∧ (b = true → ∃ (t a : Addr) (c : List Int), u = .ref t ∧ H5 t = some (.tup [.str "cycle", .ref a]) ∧ H5 a = some (.tup (c.map V.int)) ∧ Row G c)) (fun σ1 H6 => ∃ (L : Addr) (vals : List V), σ1 = [some (.ref s0), some (.ref p), some (.ref a'), some (.int (G.scopes.length : Int)), some (.ref L), some u, none, none, none, none, none, none, none, none, none] ∧ Same H5 H6 ∧ H6 L = some (.lst vals) ∧ LvAll G H6 vals ∧ vals.length ≤ 7 ∧ H3 L = none) (fun Q1 q1 q0 => ?_) (fun σ1 H6 hC => ?_) (fun H6 hR nx hnx => ?_) (fun H6 hR => ⟨L, vals, rfl, hR.1, hR.1 _ _ (e5 _ _ hDa), hv4.gw (Gw.of (Same.trans e5 hR.1)), by omega, hL⟩)
      · rcases hu with rfl | ⟨t, s, rest, rfl, ht, hc⟩
        · exact (et_and (a := false) (b := false) (et_is (et_test (ev_notN (ev_var (v := .non) rfl))) rfl) fun z => nomatch z) H5 (Same.refl _) _ fun H6 e6 => q0 _ ⟨e6, fun z => nomatch z⟩
        · refine (et_and (a := true) (et_is (et_test (ev_notN (ev_var (v := .ref t) rfl))) rfl) fun _ => et_test (ev_eq (ev_ixT (ev_var rfl) ht ev_c i0) ev_c rfl)) H5 (Same.refl _) _ fun H6 e6 => ?_
          by_cases hsc : s = "cycle"
          · subst hsc
            obtain ⟨a, c, rfl, ha, row⟩ := hc rfl
            rw [V.str_eq rfl]
            exact q1 _ ⟨e6, fun _ => ⟨t, a, c, rfl, ht, ha, row⟩⟩
          · rw [V.str_ne hsc]
            exact q0 _ ⟨e6, fun z => nomatch z⟩
      · obtain ⟨L, vals, rfl, s6, hL6, hv6, lv6, hL0⟩ := hC
        have n6 : Nx p l ns H3 H6 := n5.same s6
        refine q_asgL (xs := pw.map V.int) (el_lst (ea_cons ev_c (ea_cons ev_c (ea_cons ev_c (ea_cons ev_c (ea_cons ev_c (ea_cons ev_c ea_nil)))))) (by show 6 ≤ 100000; omega)) fun A7 H7 hA e7 hA7 => ?_
        have n7 : Nx p l ns H3 H7 := n6.same e7
        have hL7 := e7 _ _ hL6
        have hv7 := hv6.gw (Gw.of e7)
        have hLA : L ≠ A7 := ne_of_none hL6 hA
        have nL := (hs3.ne_none hL0).1
        have nA := (hs3.ne_none (n6.back hA)).1
        obtain ⟨top, et, top1, top2⟩ := pw_at (m := G.scopes.length) (by omega)
        refine q_forR1 (n := top) (ea_cons (ev_ixL (v := .int top) (ev_var rfl) hA7 (ev_var rfl) (atI_ints (j := G.scopes.length) rfl et)) ea_nil) ⟨by omega, by omega⟩ (fun i σ' H' => ∃ y7 y8, ∃ vals : List V, σ' = [some (.ref s0), some (.ref p), some (.ref a'), some (.int (G.scopes.length : Int)), some (.ref L), some u, some (.ref A7), y7, y8, none, none, none, none, none, none] ∧ Nx p l ns H3 H' ∧ H' L = some (.lst vals) ∧ LvAll G H' vals ∧ vals.length ≤ 7 + 2 * i ∧ H' A7 = some (.lst (pw.map V.int)))
          (fun H8 e8 => ⟨none, none, vals, rfl, n7.same e8, e8 _ _ hL7, hv7.gw (Gw.of e8), by omega, e8 _ _ hA7⟩) (fun i σ' H' hi hP => ?_) (fun σ' H' hP => ?_)
        · obtain ⟨y7, y8, vals, rfl, n8, hL8, hv8, lv8, hA8⟩ := hP
          refine q_asgU (xs := (((List.range G.scopes.length).filter fun m => decide (V.int (((i : Int).fdiv (pw.getD m 0)).fmod 2) = V.int 1)).map Int.ofNat).map V.int) (tup_ofL (evL_is (el_rng (n := G.scopes.length) (p := fun m => decide (V.int (((i : Int).fdiv (pw.getD m 0)).fmod 2) = V.int 1)) (q := fun m => V.int (m : Int)) (ev_var rfl) (by omega) (fun _ => rfl) (fun m hm2 => ?_) fun m _ _ => ev_var rfl) ?_)) fun t H9 ht e9 ht9 => ?_
          · obtain ⟨x, ex, x1, x2⟩ := pw_at (m := m) (by omega)
            have gx : pw.getD m 0 = x := by rw [List.getD_eq_getElem?_getD, ex]; rfl
            rw [gx]
            exact et_test (ev_eq (ev_op (ev_op (x := .int (i : Int)) (y := .int x) (ev_var rfl) (ev_ixL (ev_var rfl) hA8 (ev_var rfl) (atI_ints (j := m) rfl ex)) (rv_I (C := CDivN) (g := fun i j => .int (i.fdiv j)) ⟨by omega, by omega⟩)) ev_c (rv_I (C := fun _ j => j ≠ 0) (g := fun i j => .int (i.fmod j)) (by decide))) ev_c rfl)
          · rw [List.map_map]
            rfl
          · generalize hpart : ((List.range G.scopes.length).filter fun m => decide (V.int (((i : Int).fdiv (pw.getD m 0)).fmod 2) = V.int 1)).map Int.ofNat = part at ht9
            have okp : part.Pairwise (· < ·) ∧ ∀ x ∈ part, 0 ≤ x ∧ x < (G.scopes.length : Int) := by
              rw [← hpart]
              refine ⟨climb_ofNat (List.pairwise_lt_range.sublist List.filter_sublist), fun x hx => ?_⟩
              obtain ⟨m, hm2, rfl⟩ := List.mem_map.mp hx
              have hm3 := List.mem_range.mp (List.mem_filter.mp hm2).1
              exact ⟨Int.natCast_nonneg m, Int.ofNat_lt.mpr hm3⟩
            have n9 := n8.same e9
            refine q_appU (e9 _ _ hL8) (ev_var rfl) (eu_tup (vs := [.str "apart", .ref t]) (ea_cons ev_c (ea_cons (ev_var rfl) ea_nil)) (by show 2 ≤ 100000; omega)) (by omega) fun T H10 hT e10 hT10 => ?_
            have gw11 : Gw H10 (upd H10 L (.lst (vals ++ [.ref T]))) := Gw.upd (e10 _ _ (e9 _ _ hL8))
            have n11 : Nx p l ns H3 (upd H10 L (.lst (vals ++ [.ref T]))) := (n9.same e10).mut hs3 hL0
            have hL11 : upd H10 L (.lst (vals ++ [.ref T])) L = some (.lst (vals ++ [.ref T])) := upd_same
            have hA11 : upd H10 L (.lst (vals ++ [.ref T])) A7 = some (.lst (pw.map V.int)) := by rw [upd_ne hLA.symm]; exact e10 _ _ (e9 _ _ hA8)
            have ht11 := gw11.tup _ _ (e10 _ _ ht9)
            have hv11 : LvAll G (upd H10 L (.lst (vals ++ [.ref T]))) (vals ++ [.ref T]) := ((hv8.gw (Gw.of (Same.trans e9 e10))).gw gw11).snoc ⟨.apart part, .tup (gw11.tup _ _ hT10) (.cons (.str _) (.cons (Is.tupI ht11) .nil)), okp⟩
            generalize upd H10 L (.lst (vals ++ [.ref T])) = H11 at n11 hL11 hA11 ht11 hv11 ⊢
            -- the split value
            refine ⟨.ref L, rfl, .inl ⟨rfl, _, SqL.of hL11⟩, ?_⟩
            refine n_next (m := 6) (ea_cons (ev_var rfl) (ea_cons ev_c ea_nil)) n11.sm (by decide) (by decide) fun d H12 n12 d0 d1 => ⟨.ref t, rfl, by rw [sizeLine_eq]; show 3 ≤ 16777216; omega, fun T2 hT2 => ?_⟩
            have s13 : Same H12 (upd H12 T2 (.tup [.str "split", .int d, .ref t])) := Same.new hT2
            have hL13 := s13 _ _ (n12.keep L _ nL hL11)
            have gw13 : Gw H11 (upd H12 T2 (.tup [.str "split", .int d, .ref t])) := (n12.gw n11.sm).trans (Gw.of s13)
            refine ⟨L, vals ++ [.ref T], .ref T2, rfl, rfl, hL13, by rw [sizeLine_eq, List.length_append, List.length_singleton]; omega, ?_⟩
            have gw14 : Gw (upd H12 T2 (.tup [.str "split", .int d, .ref t])) (upd (upd H12 T2 (.tup [.str "split", .int d, .ref t])) L (.lst ((vals ++ [.ref T]) ++ [.ref T2]))) := Gw.upd hL13
            refine ⟨_, _, (vals ++ [.ref T]) ++ [.ref T2], rfl, ((n11.trans n12).same s13).mut hs3 hL0, upd_same, ((hv11.gw gw13).gw gw14).snoc ⟨.split d part, .tup (gw14.tup _ _ upd_same) (.cons (.str _) (.cons (.int _) (.cons (Is.tupI ((gw13.trans gw14).tup _ _ ht11)) .nil))), okp⟩, by rw [List.length_append, List.length_append, List.length_singleton, List.length_singleton]; omega, ?_⟩
            rw [upd_ne hLA.symm]
            exact s13 _ _ (n12.keep A7 _ nA hA11)
        · obtain ⟨y7, y8, vals, rfl, n8, hL8, hv8, lv8, hA8⟩ := hP
          have hg8 := hg3.gw (n8.gw hs3)
          generalize H' = H8 at n8 hL8 hv8 hA8 hg8 ⊢
          refine q_forLn (a := L) (xs := vals) (ev_var rfl) (SqL.of hL8) (fun i σ' H' => ∃ y9 y10, σ' = [some (.ref s0), some (.ref p), some (.ref a'), some (.int (G.scopes.length : Int)), some (.ref L), some u, some (.ref A7), y7, y8, y9, y10, none, none, none, none] ∧ Same H8 H') (fun H9 e9 => ⟨none, none, rfl, e9⟩) (fun i σ' H' hi ⟨_, _, _, s9⟩ => SqL.of (s9 _ _ hL8)) (fun i x σ' H' hx hP => ?_) (fun σ' H' hP => ?_)
          · obtain ⟨y9, y10, rfl, s9⟩ := hP
            obtain ⟨d, hd, ok⟩ := hv8 x (List.mem_of_getElem? hx)
            have hg9 := hg8.gw (Gw.of s9)
            have hd9 := hd.gw (Gw.of s9)
            refine q_asg (v := .bl (lawD G d)) (v_call (vs := [.ref a', x]) (ea_cons (ev_var rfl) (ea_cons (ev_var rfl) ea_nil)) fun H10 e10 Q' q' E => ⟨.ref a', x, d, G, rfl, hg9.gw (Gw.of e10), W, hd9.gw (Gw.of e10), ok, q'⟩) fun H10 e10 => ?_
            have hg10 := hg9.gw (Gw.of e10)
            refine q_when (b := false) (et_is (et_not (et_B (v_equal (ea_cons (v_accepts (ea_cons (ev_var rfl) (ea_cons (ev_var rfl) ea_nil)) hg10 W (hd9.gw (Gw.of e10)) (Lv.low W ok)) (ea_cons (ev_var rfl) ea_nil))))) (by rw [law_same W ok, decide_eq_true (rfl : lawD G d = lawD G d)]; rfl)) (fun z => nomatch z) (fun _ H11 e11 => ?_)
            refine s_when (b := false) (et_is (et_and (et_B (ev_var rfl)) fun hdue => et_not (et_B (v_equal (ea_cons (v_call (z := .bl false) (vs := [.ref a']) (ea_cons (ev_var rfl) ea_nil) fun H12 e12 Q' q' E => ⟨.ref a', G, rfl, hg10.gw (Gw.of (Same.trans e11 e12)), W, fun H13 b s13 hb => ?_⟩) (ea_cons ev_c ea_nil))))) (by simp)) (fun z => nomatch z) (fun _ H12 e12 => ⟨_, _, rfl, Same.trans (Same.trans (Same.trans s9 e10) e11) e12⟩)
            cases b with
            | false => exact q' H13 s13
            | true => exact absurd (hb rfl) (law_not W ok hdue)
          · obtain ⟨y9, y10, rfl, s9⟩ := hP
            have n9 : Nx p l ns H3 H' := n8.same s9
            have s8 : Same H8 H' := s9
            generalize H' = H9 at n9 s8 ⊢
            refine r_asg (P := fun v H2 => Is H2 v d3) ?_ fun v3 H10 e10 i10 => ?_
            · (repeat' (first | exact bd_nil | exact bd_non | exact bd_int | exact bd_str | exact bd_bl | refine bd_tup ?_ (by decide) | exact bd_l1 | exact bd_l3 | exact bd_ls | refine bd_cons ?_ ?_ | decide))
            have n10 : Nx p l ns H3 H10 := n9.same e10
            refine r_asg (P := fun v H2 => LsD H2 v oddA) (bd_all ?_ (by decide)) fun vA H11 e11 lA => ?_
            · (repeat' (first | exact bd_nil | exact bd_non | exact bd_int | exact bd_str | exact bd_bl | refine bd_tup ?_ (by decide) | exact bd_l1 | exact bd_l3 | exact bd_ls | refine bd_cons ?_ ?_ | decide))
            refine r_asg (P := fun v H2 => LsD H2 v (oddA ++ oddB)) (bd_cat (ev_var rfl) lA (bd_all ?_ (by decide)) (by decide)) fun vB H12 e12 lB => ?_
            · (repeat' (first | exact bd_nil | exact bd_non | exact bd_int | exact bd_str | exact bd_bl | refine bd_tup ?_ (by decide) | exact bd_l1 | exact bd_l3 | exact bd_ls | refine bd_cons ?_ ?_ | decide))
            refine r_asg (P := fun v H2 => LsD H2 v odd) (bd_cat (ev_var rfl) lB (bd_all ?_ (by decide)) (by decide)) fun vC H13 e13 lC => ?_
            · (repeat' (first | exact bd_nil | exact bd_non | exact bd_int | exact bd_str | exact bd_bl | refine bd_tup ?_ (by decide) | exact bd_l1 | exact bd_l3 | exact bd_ls | refine bd_cons ?_ ?_ | decide))
            have s13 : Same H10 H13 := Same.trans (Same.trans e11 e12) e13
            have n13 : Nx p l ns H3 H13 := n10.same s13
            have i13 := i10.gw (Gw.of s13)
            obtain ⟨o, xs, rfl, ho, ixs⟩ := lC
            have nO : o ≠ p := fun z => by
              obtain ⟨⟨c, k, q1, q2⟩, q3⟩ := n13.sm
              rw [z, q1] at ho
              have e1 := congrArg List.length (HO.lst.inj (Option.some.inj ho))
              rw [ixs.len, odd_len] at e1
              exact absurd e1 (show ¬ (3 = 25) by decide)
            refine q_ifR (R := fun b H14 => b = false ∧ Nx p l ns H13 H14) (fun σ1 H14 => σ1 = [some (.ref s0), some (.ref p), some (.ref a'), some (.int (G.scopes.length : Int)), some (.ref L), some u, some (.ref A7), y7, y8, y9, y10, some v3, some (.ref o), none, none] ∧ Nx p l ns H13 H14) (fun Q1 q1 q0 => ?_) (fun σ1 H14 hC => ?_) (fun H14 hR => nomatch hR.1) (fun H14 hR => ⟨rfl, hR.2⟩)
            · refine ⟨v3, rfl, .ref o, rfl, n_next (m := 25) (ea_cons (ev_var rfl) (ea_cons ev_c ea_nil)) n13.sm (by decide) (by decide) fun d H14 n14 d0 d1 => ?_⟩
              have hk : d.toNat < odd.length := by rw [odd_len]; omega
              obtain ⟨dd, hdd⟩ : ∃ dd, odd[d.toNat]? = some dd := ⟨_, List.getElem?_eq_getElem hk⟩
              obtain ⟨x, hx, ix⟩ := ixs.at_ hdd
              obtain ⟨low, hno⟩ := odd_at hdd
              have gw := n14.gw n13.sm
              refine ⟨o, xs, d, x, rfl, rfl, SqL.of (n14.keep o _ nO ho), at_of (j := d.toNat) (by omega) hx, ?_⟩
              refine ⟨v3, x, dd, G3, rfl, G3_at (i13.gw gw), G3_ok, ix.gw gw, low, fun H15 s15 => ?_⟩
              rw [hno]
              exact ⟨false, false, rfl, fun H16 s16 => ⟨true, rfl, q0 _ ⟨rfl, n14.same (Same.trans s15 s16)⟩⟩⟩
            · obtain ⟨rfl, n14⟩ := hC
              have i14 := i13.gw (n14.gw n13.sm)
              refine s_ret (v := .bl true) (ev_is (ev_andV (v_equal (ea_cons (v_acceptsD (d := .tuple [.str "split", .int 0, tupI [0]]) (ev_var rfl) (G3_at i14) G3_ok ?_ (split_low 0)) (ea_cons ev_c ea_nil))) fun _ => v_equal (ea_cons (v_acceptsD (d := .tuple [.str "split", .int 0, tupI [2]]) (ev_var rfl) (G3_at i14) G3_ok ?_ (split_low 2)) (ea_cons ev_c ea_nil))) (by rw [split_yes0, split_yes2]; rfl)) fun H15 _ => q H15
              · (repeat' (first | exact bd_nil | exact bd_non | exact bd_int | exact bd_str | exact bd_bl | refine bd_tup ?_ (by decide) | exact bd_l1 | exact bd_l3 | exact bd_ls | refine bd_cons ?_ ?_ | decide))
              · (repeat' (first | exact bd_nil | exact bd_non | exact bd_int | exact bd_str | exact bd_bl | refine bd_tup ?_ (by decide) | exact bd_l1 | exact bd_l3 | exact bd_ls | refine bd_cons ?_ ?_ | decide))
      · obtain ⟨s6, hb⟩ := hR
        obtain ⟨t, a, c, rfl, ht, ha, row⟩ := hb rfl
        have ht6 := s6 _ _ ht
        have ha6 := s6 _ _ ha
        have hv6 := hv4.gw (Gw.of (Same.trans e5 s6))
        have ok : CycOk G c := ⟨row.nd, row.mem⟩
        have hcl := row.len W
        refine s_more (D := { nx := nx, rt := _, bk := _, ct := _ }) (G := G) (n := 3) (ev_var rfl) (s6 _ _ (e5 _ _ hDa)) hv6 (la_cons (ev_cyc (c := c.drop 1 ++ c.take 1) (EvR.imp (ev_catR (xs := (c.map V.int).drop 1) (ys := (c.map V.int).take 1) (EvR.imp (ev_slA (lo := some 1) (hi := none) (ev_ixT (v := .ref a) (ev_var rfl) ht6 ev_c rfl) ha6 (eo_some ev_c) eo_none) fun v H7 _ ⟨b, ev, hb⟩ => ⟨b, ev, by rw [hb, ← cut_drop]; rfl⟩) (EvR.imp (ev_slA (lo := none) (hi := some 1) (ev_ixT (v := .ref a) (ev_var rfl) ht6 ev_c rfl) ha6 eo_none (eo_some ev_c)) fun v H7 _ ⟨b, ev, hb⟩ => ⟨b, ev, by rw [hb, ← cut_take]; rfl⟩) (by rw [List.length_drop, List.length_take, List.length_map]; omega)) fun v H7 _ ⟨b, ev, hb⟩ => ⟨b, ev, by rw [hb, List.map_append, List.map_drop, List.map_take]⟩) (ok.perm ?_)) (la_cons (ev_cyc (ev_rev (ev_ixT (v := .ref a) (ev_var rfl) ht6 ev_c rfl) ha6) (ok.perm (List.reverse_perm c))) (la_cons (ev_cyc (c := c.drop 1) (EvR.imp (ev_slA (lo := some 1) (hi := none) (ev_ixT (v := .ref a) (ev_var rfl) ht6 ev_c rfl) ha6 (eo_some ev_c) eo_none) fun v H7 _ ⟨b, ev, hb⟩ => ⟨b, ev, by rw [hb, List.map_drop, ← cut_drop]; rfl⟩) (ok.sub (List.drop_sublist _ _))) la_nil))) (by omega) fun L' vals' H7 hL' s7 hL7 hv7 lv7 => ?_
        · have h0 : c.take 1 ++ c.drop 1 = c := List.take_append_drop 1 c
          have h9 := List.perm_append_comm (l₁ := c.drop 1) (l₂ := c.take 1)
          rw [h0] at h9
          exact h9
        · exact hnx _ _ ⟨L', vals', rfl, Same.trans s6 s7, hL7, hv7, by omega, (n5.same s6).back hL'⟩
end
end Tt

namespace Tt
open PySem PySem.Spec PyProof.Rows L2 TtR Evl
theorem all_mk {l : PySem.W.OpenLaw} {w : World} {K : PySem.W.Frag} {h : Heap} {mg : Str → Option Value} {fa f1 f2 f3 f4 f5 f6 f7 f8 f9 f10 f11 f12 f13 f14 f15 f16 f17 f18 f19 f20 f21 f22 f23 f24 f25 f26 f27 f28 f29 f30 f31 f32 f33 f34 f35 f36 f37 f38 f39 f40 : Addr} (X : K.In h) (G : h.Ns mainGlobals mg) (hfa : mg "law" = some (.ref fa))
    {od1 an1 od2 an2 od3 an3 od4 an4 od5 an5 od6 an6 od7 an7 od8 an8 od9 an9 od10 an10 od11 an11 od12 an12 od13 an13 od14 an14 od15 an15 od16 an16 od17 an17 od18 an18 od19 an19 od20 an20 od21 an21 od22 an22 od23 an23 od24 an24 od25 an25 od26 an26 od27 an27 od28 an28 od29 an29 od30 an30 od31 an31 od32 an32 od33 an33 od34 an34 od35 an35 od36 an36 od37 an37 od38 an38 od39 an39 od40 an40 : Option Addr} {sl1 sl2 sl3 sl4 sl5 sl6 sl7 sl8 sl9 sl10 sl11 sl12 sl13 sl14 sl15 sl16 sl17 sl18 sl19 sl20 sl21 sl22 sl23 sl24 sl25 sl26 sl27 sl28 sl29 sl30 sl31 sl32 sl33 sl34 sl35 sl36 sl37 sl38 sl39 sl40 : Array (Option Value)} {oc1 kV1 dc1 pm1 cd1 ct1 oc2 kV2 dc2 pm2 cd2 ct2 oc3 kV3 dc3 pm3 cd3 ct3 oc4 kV4 dc4 pm4 cd4 ct4 oc5 kV5 dc5 pm5 cd5 ct5 oc6 kV6 dc6 pm6 cd6 ct6 oc7 kV7 dc7 pm7 cd7 ct7 oc8 kV8 dc8 pm8 cd8 ct8 oc9 kV9 dc9 pm9 cd9 ct9 oc10 kV10 dc10 pm10 cd10 ct10 oc11 kV11 dc11 pm11 cd11 ct11 oc12 kV12 dc12 pm12 cd12 ct12 oc13 kV13 dc13 pm13 cd13 ct13 oc14 kV14 dc14 pm14 cd14 ct14 oc15 kV15 dc15 pm15 cd15 ct15 oc16 kV16 dc16 pm16 cd16 ct16 oc17 kV17 dc17 pm17 cd17 ct17 oc18 kV18 dc18 pm18 cd18 ct18 oc19 kV19 dc19 pm19 cd19 ct19 oc20 kV20 dc20 pm20 cd20 ct20 oc21 kV21 dc21 pm21 cd21 ct21 oc22 kV22 dc22 pm22 cd22 ct22 oc23 kV23 dc23 pm23 cd23 ct23 oc24 kV24 dc24 pm24 cd24 ct24 oc25 kV25 dc25 pm25 cd25 ct25 oc26 kV26 dc26 pm26 cd26 ct26 oc27 kV27 dc27 pm27 cd27 ct27 oc28 kV28 dc28 pm28 cd28 ct28 oc29 kV29 dc29 pm29 cd29 ct29 oc30 kV30 dc30 pm30 cd30 ct30 oc31 kV31 dc31 pm31 cd31 ct31 oc32 kV32 dc32 pm32 cd32 ct32 oc33 kV33 dc33 pm33 cd33 ct33 oc34 kV34 dc34 pm34 cd34 ct34 oc35 kV35 dc35 pm35 cd35 ct35 oc36 kV36 dc36 pm36 cd36 ct36 oc37 kV37 dc37 pm37 cd37 ct37 oc38 kV38 dc38 pm38 cd38 ct38 oc39 kV39 dc39 pm39 cd39 ct39 oc40 kV40 dc40 pm40 cd40 ct40 : Value} {tk1 tk2 tk3 : Nat}
    (a1 : PySem.W.nsIn K mainGlobals "is_whole" = some (some (.ref f1))) (l1 : K.lookup f1 = some ⟨oc1, od1, .func (PySem.W.fnOf "is_whole" "is_whole" (defArgs s_is_whole) (defBody s_is_whole) (defScope s_is_whole) .none kV1 dc1 pm1 an1 cd1 ct1), sl1⟩) (c1 : PySem.W.codeIn K cd1 "is_whole" = true) (k1 : PySem.W.keepIn K (.ref f1) = true)
    (a2 : PySem.W.nsIn K mainGlobals "is_climbing" = some (some (.ref f2))) (l2 : K.lookup f2 = some ⟨oc2, od2, .func (PySem.W.fnOf "is_climbing" "is_climbing" (defArgs s_is_climbing) (defBody s_is_climbing) (defScope s_is_climbing) .none kV2 dc2 pm2 an2 cd2 ct2), sl2⟩) (c2 : PySem.W.codeIn K cd2 "is_climbing" = true) (k2 : PySem.W.keepIn K (.ref f2) = true)
    (a3 : PySem.W.nsIn K mainGlobals "are_variables" = some (some (.ref f3))) (l3 : K.lookup f3 = some ⟨oc3, od3, .func (PySem.W.fnOf "are_variables" "are_variables" (defArgs s_are_variables) (defBody s_are_variables) (defScope s_are_variables) .none kV3 dc3 pm3 an3 cd3 ct3), sl3⟩) (c3 : PySem.W.codeIn K cd3 "are_variables" = true) (k3 : PySem.W.keepIn K (.ref f3) = true)
    (a4 : PySem.W.nsIn K mainGlobals "is_scope" = some (some (.ref f4))) (l4 : K.lookup f4 = some ⟨oc4, od4, .func (PySem.W.fnOf "is_scope" "is_scope" (defArgs s_is_scope) (defBody s_is_scope) (defScope s_is_scope) .none kV4 dc4 pm4 an4 cd4 ct4), sl4⟩) (c4 : PySem.W.codeIn K cd4 "is_scope" = true) (k4 : PySem.W.keepIn K (.ref f4) = true)
    (a5 : PySem.W.nsIn K mainGlobals "is_number" = some (some (.ref f5))) (l5 : K.lookup f5 = some ⟨oc5, od5, .func (PySem.W.fnOf "is_number" "is_number" (defArgs s_is_number) (defBody s_is_number) (defScope s_is_number) .none kV5 dc5 pm5 an5 cd5 ct5), sl5⟩) (c5 : PySem.W.codeIn K cd5 "is_number" = true) (k5 : PySem.W.keepIn K (.ref f5) = true)
    (a6 : PySem.W.nsIn K mainGlobals "is_edge" = some (some (.ref f6))) (l6 : K.lookup f6 = some ⟨oc6, od6, .func (PySem.W.fnOf "is_edge" "is_edge" (defArgs s_is_edge) (defBody s_is_edge) (defScope s_is_edge) .none kV6 dc6 pm6 an6 cd6 ct6), sl6⟩) (c6 : PySem.W.codeIn K cd6 "is_edge" = true) (k6 : PySem.W.keepIn K (.ref f6) = true)
    (a7 : PySem.W.nsIn K mainGlobals "is_graph" = some (some (.ref f7))) (l7 : K.lookup f7 = some ⟨oc7, od7, .func (PySem.W.fnOf "is_graph" "is_graph" (defArgs s_is_graph) (defBody s_is_graph) (defScope s_is_graph) .none kV7 dc7 pm7 an7 cd7 ct7), sl7⟩) (c7 : PySem.W.codeIn K cd7 "is_graph" = true) (k7 : PySem.W.keepIn K (.ref f7) = true)
    (a8 : PySem.W.nsIn K mainGlobals "variables_of" = some (some (.ref f8))) (l8 : K.lookup f8 = some ⟨oc8, od8, .func (PySem.W.fnOf "variables_of" "variables_of" (defArgs s_variables_of) (defBody s_variables_of) (defScope s_variables_of) .none kV8 dc8 pm8 an8 cd8 ct8), sl8⟩) (c8 : PySem.W.codeIn K cd8 "variables_of" = true) (k8 : PySem.W.keepIn K (.ref f8) = true)
    (a9 : PySem.W.nsIn K mainGlobals "scope_of" = some (some (.ref f9))) (l9 : K.lookup f9 = some ⟨oc9, od9, .func (PySem.W.fnOf "scope_of" "scope_of" (defArgs s_scope_of) (defBody s_scope_of) (defScope s_scope_of) .none kV9 dc9 pm9 an9 cd9 ct9), sl9⟩) (c9 : PySem.W.codeIn K cd9 "scope_of" = true) (k9 : PySem.W.keepIn K (.ref f9) = true)
    (a10 : PySem.W.nsIn K mainGlobals "check_graph" = some (some (.ref f10))) (l10 : K.lookup f10 = some ⟨oc10, od10, .func (PySem.W.fnOf "check_graph" "check_graph" (defArgs s_check_graph) (defBody s_check_graph) (defScope s_check_graph) .none kV10 dc10 pm10 an10 cd10 ct10), sl10⟩) (c10 : PySem.W.codeIn K cd10 "check_graph" = true) (k10 : PySem.W.keepIn K (.ref f10) = true)
    (a11 : PySem.W.nsIn K mainGlobals "is_node" = some (some (.ref f11))) (l11 : K.lookup f11 = some ⟨oc11, od11, .func (PySem.W.fnOf "is_node" "is_node" (defArgs s_is_node) (defBody s_is_node) (defScope s_is_node) .none kV11 dc11 pm11 an11 cd11 ct11), sl11⟩) (c11 : PySem.W.codeIn K cd11 "is_node" = true) (k11 : PySem.W.keepIn K (.ref f11) = true)
    (a12 : PySem.W.nsIn K mainGlobals "neighbours" = some (some (.ref f12))) (l12 : K.lookup f12 = some ⟨oc12, od12, .func (PySem.W.fnOf "neighbours" "neighbours" (defArgs s_neighbours) (defBody s_neighbours) (defScope s_neighbours) .none kV12 dc12 pm12 an12 cd12 ct12), sl12⟩) (c12 : PySem.W.codeIn K cd12 "neighbours" = true) (k12 : PySem.W.keepIn K (.ref f12) = true)
    (a13 : PySem.W.nsIn K mainGlobals "hanging" = some (some (.ref f13))) (l13 : K.lookup f13 = some ⟨oc13, od13, .func (PySem.W.fnOf "hanging" "hanging" (defArgs s_hanging) (defBody s_hanging) (defScope s_hanging) .none kV13 dc13 pm13 an13 cd13 ct13), sl13⟩) (c13 : PySem.W.codeIn K cd13 "hanging" = true) (k13 : PySem.W.keepIn K (.ref f13) = true)
    (a14 : PySem.W.nsIn K mainGlobals "having" = some (some (.ref f14))) (l14 : K.lookup f14 = some ⟨oc14, od14, .func (PySem.W.fnOf "having" "having" (defArgs s_having) (defBody s_having) (defScope s_having) .none kV14 dc14 pm14 an14 cd14 ct14), sl14⟩) (c14 : PySem.W.codeIn K cd14 "having" = true) (k14 : PySem.W.keepIn K (.ref f14) = true)
    (a15 : PySem.W.nsIn K mainGlobals "has_cycle" = some (some (.ref f15))) (l15 : K.lookup f15 = some ⟨oc15, od15, .func (PySem.W.fnOf "has_cycle" "has_cycle" (defArgs s_has_cycle) (defBody s_has_cycle) (defScope s_has_cycle) .none kV15 dc15 pm15 an15 cd15 ct15), sl15⟩) (c15 : PySem.W.codeIn K cd15 "has_cycle" = true) (k15 : PySem.W.keepIn K (.ref f15) = true)
    (a16 : PySem.W.nsIn K mainGlobals "split_variable" = some (some (.ref f16))) (l16 : K.lookup f16 = some ⟨oc16, od16, .func (PySem.W.fnOf "split_variable" "split_variable" (defArgs s_split_variable) (defBody s_split_variable) (defScope s_split_variable) .none kV16 dc16 pm16 an16 cd16 ct16), sl16⟩) (c16 : PySem.W.codeIn K cd16 "split_variable" = true) (k16 : PySem.W.keepIn K (.ref f16) = true)
    (a17 : PySem.W.nsIn K mainGlobals "is_tree_like" = some (some (.ref f17))) (l17 : K.lookup f17 = some ⟨oc17, od17, .func (PySem.W.fnOf "is_tree_like" "is_tree_like" (defArgs s_is_tree_like) (defBody s_is_tree_like) (defScope s_is_tree_like) .none kV17 dc17 pm17 an17 cd17 ct17), sl17⟩) (c17 : PySem.W.codeIn K cd17 "is_tree_like" = true) (k17 : PySem.W.keepIn K (.ref f17) = true)
    (a18 : PySem.W.nsIn K mainGlobals "is_junction_tree" = some (some (.ref f18))) (l18 : K.lookup f18 = some ⟨oc18, od18, .func (PySem.W.fnOf "is_junction_tree" "is_junction_tree" (defArgs s_is_junction_tree) (defBody s_is_junction_tree) (defScope s_is_junction_tree) .none kV18 dc18 pm18 an18 cd18 ct18), sl18⟩) (c18 : PySem.W.codeIn K cd18 "is_junction_tree" = true) (k18 : PySem.W.keepIn K (.ref f18) = true)
    (a19 : PySem.W.nsIn K mainGlobals "cycles_from" = some (some (.ref f19))) (l19 : K.lookup f19 = some ⟨oc19, od19, .func (PySem.W.fnOf "cycles_from" "cycles_from" (defArgs s_cycles_from) (defBody s_cycles_from) (defScope s_cycles_from) .none kV19 dc19 pm19 an19 cd19 ct19), sl19⟩) (c19 : PySem.W.codeIn K cd19 "cycles_from" = true) (k19 : PySem.W.keepIn K (.ref f19) = true)
    (a20 : PySem.W.nsIn K mainGlobals "told_cycle" = some (some (.ref f20))) (l20 : K.lookup f20 = some ⟨oc20, od20, .func (PySem.W.fnOf "told_cycle" "told_cycle" (defArgs s_told_cycle) (defBody s_told_cycle) (defScope s_told_cycle) .none kV20 dc20 pm20 an20 cd20 ct20), sl20⟩) (c20 : PySem.W.codeIn K cd20 "told_cycle" = true) (k20 : PySem.W.keepIn K (.ref f20) = true)
    (a21 : PySem.W.nsIn K mainGlobals "defect_of" = some (some (.ref f21))) (l21 : K.lookup f21 = some ⟨oc21, od21, .func (PySem.W.fnOf "defect_of" "defect_of" (defArgs s_defect_of) (defBody s_defect_of) (defScope s_defect_of) .none kV21 dc21 pm21 an21 cd21 ct21), sl21⟩) (c21 : PySem.W.codeIn K cd21 "defect_of" = true) (k21 : PySem.W.keepIn K (.ref f21) = true)
    (a22 : PySem.W.nsIn K mainGlobals "defect" = some (some (.ref f22))) (l22 : K.lookup f22 = some ⟨oc22, od22, .func (PySem.W.fnOf "defect" "defect" (defArgs s_defect) (defBody s_defect) (defScope s_defect) .none kV22 dc22 pm22 an22 cd22 ct22), sl22⟩) (c22 : PySem.W.codeIn K cd22 "defect" = true) (k22 : PySem.W.keepIn K (.ref f22) = true)
    (a23 : PySem.W.nsIn K mainGlobals "are_nodes" = some (some (.ref f23))) (l23 : K.lookup f23 = some ⟨oc23, od23, .func (PySem.W.fnOf "are_nodes" "are_nodes" (defArgs s_are_nodes) (defBody s_are_nodes) (defScope s_are_nodes) .none kV23 dc23 pm23 an23 cd23 ct23), sl23⟩) (c23 : PySem.W.codeIn K cd23 "are_nodes" = true) (k23 : PySem.W.keepIn K (.ref f23) = true)
    (a24 : PySem.W.nsIn K mainGlobals "is_part" = some (some (.ref f24))) (l24 : K.lookup f24 = some ⟨oc24, od24, .func (PySem.W.fnOf "is_part" "is_part" (defArgs s_is_part) (defBody s_is_part) (defScope s_is_part) .none kV24 dc24 pm24 an24 cd24 ct24), sl24⟩) (c24 : PySem.W.codeIn K cd24 "is_part" = true) (k24 : PySem.W.keepIn K (.ref f24) = true)
    (a25 : PySem.W.nsIn K mainGlobals "is_cycle" = some (some (.ref f25))) (l25 : K.lookup f25 = some ⟨oc25, od25, .func (PySem.W.fnOf "is_cycle" "is_cycle" (defArgs s_is_cycle) (defBody s_is_cycle) (defScope s_is_cycle) .none kV25 dc25 pm25 an25 cd25 ct25), sl25⟩) (c25 : PySem.W.codeIn K cd25 "is_cycle" = true) (k25 : PySem.W.keepIn K (.ref f25) = true)
    (a26 : PySem.W.nsIn K mainGlobals "is_defect" = some (some (.ref f26))) (l26 : K.lookup f26 = some ⟨oc26, od26, .func (PySem.W.fnOf "is_defect" "is_defect" (defArgs s_is_defect) (defBody s_is_defect) (defScope s_is_defect) .none kV26 dc26 pm26 an26 cd26 ct26), sl26⟩) (c26 : PySem.W.codeIn K cd26 "is_defect" = true) (k26 : PySem.W.keepIn K (.ref f26) = true)
    (a27 : PySem.W.nsIn K mainGlobals "accepts_defect" = some (some (.ref f27))) (l27 : K.lookup f27 = some ⟨oc27, od27, .func (PySem.W.fnOf "accepts_defect" "accepts_defect" (defArgs s_accepts_defect) (defBody s_accepts_defect) (defScope s_accepts_defect) .none kV27 dc27 pm27 an27 cd27 ct27), sl27⟩) (c27 : PySem.W.codeIn K cd27 "accepts_defect" = true) (k27 : PySem.W.keepIn K (.ref f27) = true)
    (a28 : PySem.W.nsIn K mainGlobals "_law_stream" = some (some (.ref f28))) (l28 : K.lookup f28 = some ⟨oc28, od28, .func (PySem.W.fnOf "_law_stream" "_law_stream" (defArgs s_law_stream) (defBody s_law_stream) (defScope s_law_stream) .none kV28 dc28 pm28 an28 cd28 ct28), sl28⟩) (c28 : PySem.W.codeIn K cd28 "_law_stream" = true) (k28 : PySem.W.keepIn K (.ref f28) = true)
    (a29 : PySem.W.nsIn K mainGlobals "_law_next" = some (some (.ref f29))) (l29 : K.lookup f29 = some ⟨oc29, od29, .func (PySem.W.fnOf "_law_next" "_law_next" (defArgs s_law_next) (defBody s_law_next) (defScope s_law_next) .none kV29 dc29 pm29 an29 cd29 ct29), sl29⟩) (c29 : PySem.W.codeIn K cd29 "_law_next" = true) (k29 : PySem.W.keepIn K (.ref f29) = true)
    (a30 : PySem.W.nsIn K mainGlobals "_law_equal" = some (some (.ref f30))) (l30 : K.lookup f30 = some ⟨oc30, od30, .func (PySem.W.fnOf "_law_equal" "_law_equal" (defArgs s_law_equal) (defBody s_law_equal) (defScope s_law_equal) .none kV30 dc30 pm30 an30 cd30 ct30), sl30⟩) (c30 : PySem.W.codeIn K cd30 "_law_equal" = true) (k30 : PySem.W.keepIn K (.ref f30) = true)
    (a31 : PySem.W.nsIn K mainGlobals "_law_scope" = some (some (.ref f31))) (l31 : K.lookup f31 = some ⟨oc31, od31, .func (PySem.W.fnOf "_law_scope" "_law_scope" (defArgs s_law_scope) (defBody s_law_scope) (defScope s_law_scope) .none kV31 dc31 pm31 an31 cd31 ct31), sl31⟩) (c31 : PySem.W.codeIn K cd31 "_law_scope" = true) (k31 : PySem.W.keepIn K (.ref f31) = true)
    (a32 : PySem.W.nsIn K mainGlobals "_law_any_graph" = some (some (.ref f32))) (l32 : K.lookup f32 = some ⟨oc32, od32, .func (PySem.W.fnOf "_law_any_graph" "_law_any_graph" (defArgs s_law_any_graph) (defBody s_law_any_graph) (defScope s_law_any_graph) .none kV32 dc32 pm32 an32 cd32 ct32), sl32⟩) (c32 : PySem.W.codeIn K cd32 "_law_any_graph" = true) (k32 : PySem.W.keepIn K (.ref f32) = true)
    (a33 : PySem.W.nsIn K mainGlobals "_law_tree" = some (some (.ref f33))) (l33 : K.lookup f33 = some ⟨oc33, od33, .func (PySem.W.fnOf "_law_tree" "_law_tree" (defArgs s_law_tree) (defBody s_law_tree) (defScope s_law_tree) .none kV33 dc33 pm33 an33 cd33 ct33), sl33⟩) (c33 : PySem.W.codeIn K cd33 "_law_tree" = true) (k33 : PySem.W.keepIn K (.ref f33) = true)
    (a34 : PySem.W.nsIn K mainGlobals "_law_some_graph" = some (some (.ref f34))) (l34 : K.lookup f34 = some ⟨oc34, od34, .func (PySem.W.fnOf "_law_some_graph" "_law_some_graph" (defArgs s_law_some_graph) (defBody s_law_some_graph) (defScope s_law_some_graph) .none kV34 dc34 pm34 an34 cd34 ct34), sl34⟩) (c34 : PySem.W.codeIn K cd34 "_law_some_graph" = true) (k34 : PySem.W.keepIn K (.ref f34) = true)
    (a35 : PySem.W.nsIn K mainGlobals "_law_near" = some (some (.ref f35))) (l35 : K.lookup f35 = some ⟨oc35, od35, .func (PySem.W.fnOf "_law_near" "_law_near" (defArgs s_law_near) (defBody s_law_near) (defScope s_law_near) .none kV35 dc35 pm35 an35 cd35 ct35), sl35⟩) (c35 : PySem.W.codeIn K cd35 "_law_near" = true) (k35 : PySem.W.keepIn K (.ref f35) = true)
    (a36 : PySem.W.nsIn K mainGlobals "_law_having" = some (some (.ref f36))) (l36 : K.lookup f36 = some ⟨oc36, od36, .func (PySem.W.fnOf "_law_having" "_law_having" (defArgs s_law_having) (defBody s_law_having) (defScope s_law_having) .none kV36 dc36 pm36 an36 cd36 ct36), sl36⟩) (c36 : PySem.W.codeIn K cd36 "_law_having" = true) (k36 : PySem.W.keepIn K (.ref f36) = true)
    (a37 : PySem.W.nsIn K mainGlobals "_law_is_part" = some (some (.ref f37))) (l37 : K.lookup f37 = some ⟨oc37, od37, .func (PySem.W.fnOf "_law_is_part" "_law_is_part" (defArgs s_law_is_part) (defBody s_law_is_part) (defScope s_law_is_part) .none kV37 dc37 pm37 an37 cd37 ct37), sl37⟩) (c37 : PySem.W.codeIn K cd37 "_law_is_part" = true) (k37 : PySem.W.keepIn K (.ref f37) = true)
    (a38 : PySem.W.nsIn K mainGlobals "_law_is_defect" = some (some (.ref f38))) (l38 : K.lookup f38 = some ⟨oc38, od38, .func (PySem.W.fnOf "_law_is_defect" "_law_is_defect" (defArgs s_law_is_defect) (defBody s_law_is_defect) (defScope s_law_is_defect) .none kV38 dc38 pm38 an38 cd38 ct38), sl38⟩) (c38 : PySem.W.codeIn K cd38 "_law_is_defect" = true) (k38 : PySem.W.keepIn K (.ref f38) = true)
    (a39 : PySem.W.nsIn K mainGlobals "_law_drawn" = some (some (.ref f39))) (l39 : K.lookup f39 = some ⟨oc39, od39, .func (PySem.W.fnOf "_law_drawn" "_law_drawn" (defArgs s_law_drawn) (defBody s_law_drawn) (defScope s_law_drawn) .none kV39 dc39 pm39 an39 cd39 ct39), sl39⟩) (c39 : PySem.W.codeIn K cd39 "_law_drawn" = true) (k39 : PySem.W.keepIn K (.ref f39) = true)
    (a40 : PySem.W.nsIn K mainGlobals "law" = some (some (.ref f40))) (l40 : K.lookup f40 = some ⟨oc40, od40, .func (PySem.W.fnOf "law" "law" (defArgs s_law) (defBody s_law) (defScope s_law) .none kV40 dc40 pm40 an40 cd40 ct40), sl40⟩) (c40 : PySem.W.codeIn K cd40 "law" = true) (k40 : PySem.W.keepIn K (.ref f40) = true)
    (z1 : PySem.W.nsIn K mainGlobals "abs" = some none)
    (z2 : PySem.W.nsIn K mainGlobals "all" = some none)
    (z3 : PySem.W.nsIn K mainGlobals "any" = some none)
    (z4 : PySem.W.nsIn K mainGlobals "bool" = some none)
    (z5 : PySem.W.nsIn K mainGlobals "enumerate" = some none)
    (z6 : PySem.W.nsIn K mainGlobals "int" = some none)
    (z7 : PySem.W.nsIn K mainGlobals "isinstance" = some none)
    (z8 : PySem.W.nsIn K mainGlobals "len" = some none)
    (z9 : PySem.W.nsIn K mainGlobals "list" = some none)
    (z10 : PySem.W.nsIn K mainGlobals "max" = some none)
    (z11 : PySem.W.nsIn K mainGlobals "min" = some none)
    (z12 : PySem.W.nsIn K mainGlobals "range" = some none)
    (z13 : PySem.W.nsIn K mainGlobals "set" = some none)
    (z14 : PySem.W.nsIn K mainGlobals "sorted" = some none)
    (z15 : PySem.W.nsIn K mainGlobals "str" = some none)
    (z16 : PySem.W.nsIn K mainGlobals "tuple" = some none)
    (t1 : PySem.W.nsIn K mainGlobals "MOST_VARIABLE" = some (some (.int 5 tk1)))
    (t2 : PySem.W.nsIn K mainGlobals "WIDEST_SCOPE" = some (some (.int 3 tk2)))
    (t3 : PySem.W.nsIn K mainGlobals "MOST_NODES" = some (some (.int 5 tk3)))
    : ∃ fd : FuncData, (∀ (s : Shared) (v : Value), BindsTo s fd ⟨[v], []⟩ [("_law_script", v)]) ∧ ∀ base : Heap, K.In base → base.Ns mainGlobals mg → FnOk l.prog w K mg base CX0 7 fa fd ["_law_script"] (sp_law K) := by
  have e := hfa.symm.trans (PySem.W.mg_of X G a40)
  cases e
  have F1 := fun_mk (st := s_is_whole) l1 c1 k1
  have F2 := fun_mk (st := s_is_climbing) l2 c2 k2
  have F3 := fun_mk (st := s_are_variables) l3 c3 k3
  have F4 := fun_mk (st := s_is_scope) l4 c4 k4
  have F5 := fun_mk (st := s_is_number) l5 c5 k5
  have F6 := fun_mk (st := s_is_edge) l6 c6 k6
  have F7 := fun_mk (st := s_is_graph) l7 c7 k7
  have F8 := fun_mk (st := s_variables_of) l8 c8 k8
  have F9 := fun_mk (st := s_scope_of) l9 c9 k9
  have F10 := fun_mk (st := s_check_graph) l10 c10 k10
  have F11 := fun_mk (st := s_is_node) l11 c11 k11
  have F12 := fun_mk (st := s_neighbours) l12 c12 k12
  have F13 := fun_mk (st := s_hanging) l13 c13 k13
  have F14 := fun_mk (st := s_having) l14 c14 k14
  have F15 := fun_mk (st := s_has_cycle) l15 c15 k15
  have F16 := fun_mk (st := s_split_variable) l16 c16 k16
  have F17 := fun_mk (st := s_is_tree_like) l17 c17 k17
  have F18 := fun_mk (st := s_is_junction_tree) l18 c18 k18
  have F19 := fun_mk (st := s_cycles_from) l19 c19 k19
  have F20 := fun_mk (st := s_told_cycle) l20 c20 k20
  have F21 := fun_mk (st := s_defect_of) l21 c21 k21
  have F22 := fun_mk (st := s_defect) l22 c22 k22
  have F23 := fun_mk (st := s_are_nodes) l23 c23 k23
  have F24 := fun_mk (st := s_is_part) l24 c24 k24
  have F25 := fun_mk (st := s_is_cycle) l25 c25 k25
  have F26 := fun_mk (st := s_is_defect) l26 c26 k26
  have F27 := fun_mk (st := s_accepts_defect) l27 c27 k27
  have F28 := fun_mk (st := s_law_stream) l28 c28 k28
  have F29 := fun_mk (st := s_law_next) l29 c29 k29
  have F30 := fun_mk (st := s_law_equal) l30 c30 k30
  have F31 := fun_mk (st := s_law_scope) l31 c31 k31
  have F32 := fun_mk (st := s_law_any_graph) l32 c32 k32
  have F33 := fun_mk (st := s_law_tree) l33 c33 k33
  have F34 := fun_mk (st := s_law_some_graph) l34 c34 k34
  have F35 := fun_mk (st := s_law_near) l35 c35 k35
  have F36 := fun_mk (st := s_law_having) l36 c36 k36
  have F37 := fun_mk (st := s_law_is_part) l37 c37 k37
  have F38 := fun_mk (st := s_law_is_defect) l38 c38 k38
  have F39 := fun_mk (st := s_law_drawn) l39 c39 k39
  have F40 := fun_mk (st := s_law) l40 c40 k40
  have T : Tx K mg := ⟨⟨_, _, PySem.W.mg_of X G a1, F1⟩, ⟨_, _, PySem.W.mg_of X G a2, F2⟩, ⟨_, _, PySem.W.mg_of X G a3, F3⟩, ⟨_, _, PySem.W.mg_of X G a4, F4⟩, ⟨_, _, PySem.W.mg_of X G a5, F5⟩, ⟨_, _, PySem.W.mg_of X G a6, F6⟩, ⟨_, _, PySem.W.mg_of X G a7, F7⟩, ⟨_, _, PySem.W.mg_of X G a8, F8⟩, ⟨_, _, PySem.W.mg_of X G a9, F9⟩, ⟨_, _, PySem.W.mg_of X G a10, F10⟩, ⟨_, _, PySem.W.mg_of X G a11, F11⟩, ⟨_, _, PySem.W.mg_of X G a12, F12⟩, ⟨_, _, PySem.W.mg_of X G a13, F13⟩, ⟨_, _, PySem.W.mg_of X G a14, F14⟩, ⟨_, _, PySem.W.mg_of X G a15, F15⟩, ⟨_, _, PySem.W.mg_of X G a16, F16⟩, ⟨_, _, PySem.W.mg_of X G a17, F17⟩, ⟨_, _, PySem.W.mg_of X G a18, F18⟩, ⟨_, _, PySem.W.mg_of X G a19, F19⟩, ⟨_, _, PySem.W.mg_of X G a20, F20⟩, ⟨_, _, PySem.W.mg_of X G a21, F21⟩, ⟨_, _, PySem.W.mg_of X G a22, F22⟩, ⟨_, _, PySem.W.mg_of X G a23, F23⟩, ⟨_, _, PySem.W.mg_of X G a24, F24⟩, ⟨_, _, PySem.W.mg_of X G a25, F25⟩, ⟨_, _, PySem.W.mg_of X G a26, F26⟩, ⟨_, _, PySem.W.mg_of X G a27, F27⟩, ⟨_, _, PySem.W.mg_of X G a28, F28⟩, ⟨_, _, PySem.W.mg_of X G a29, F29⟩, ⟨_, _, PySem.W.mg_of X G a30, F30⟩, ⟨_, _, PySem.W.mg_of X G a31, F31⟩, ⟨_, _, PySem.W.mg_of X G a32, F32⟩, ⟨_, _, PySem.W.mg_of X G a33, F33⟩, ⟨_, _, PySem.W.mg_of X G a34, F34⟩, ⟨_, _, PySem.W.mg_of X G a35, F35⟩, ⟨_, _, PySem.W.mg_of X G a36, F36⟩, ⟨_, _, PySem.W.mg_of X G a37, F37⟩, ⟨_, _, PySem.W.mg_of X G a38, F38⟩, ⟨_, _, PySem.W.mg_of X G a39, F39⟩, ⟨_, _, PySem.W.mg_of X G a40, F40⟩⟩
  have B : Bl mg := ⟨PySem.W.mg_none_of X G z1, PySem.W.mg_none_of X G z2, PySem.W.mg_none_of X G z3, PySem.W.mg_none_of X G z4, PySem.W.mg_none_of X G z5, PySem.W.mg_none_of X G z6, PySem.W.mg_none_of X G z7, PySem.W.mg_none_of X G z8, PySem.W.mg_none_of X G z9, PySem.W.mg_none_of X G z10, PySem.W.mg_none_of X G z11, PySem.W.mg_none_of X G z12, PySem.W.mg_none_of X G z13, PySem.W.mg_none_of X G z14, PySem.W.mg_none_of X G z15, PySem.W.mg_none_of X G z16, ⟨tk1, PySem.W.mg_of X G t1⟩, ⟨tk2, PySem.W.mg_of X G t2⟩, ⟨tk3, PySem.W.mg_of X G t3⟩⟩
  refine ⟨PySem.W.fnOf "law" "law" (defArgs s_law) (defBody s_law) (defScope s_law) .none kV40 dc40 pm40 an40 cd40 ct40, fun s v => .of_eq rfl, fun base _ _ => ?_⟩
  have C_is_whole := c_is_whole (P := l.prog) (w := w) (base := base) T B
  have C_is_climbing := c_is_climbing (P := l.prog) (w := w) (base := base) T B
  have C_is_number := c_is_number (P := l.prog) (w := w) (base := base) T B
  have C_scope_of := c_scope_of (P := l.prog) (w := w) (base := base) T B
  have C_is_node := c_is_node (P := l.prog) (w := w) (base := base) T B
  have C_neighbours := c_neighbours (P := l.prog) (w := w) (base := base) T B
  have C_having := c_having (P := l.prog) (w := w) (base := base) T B
  have C_law_stream := c_law_stream (P := l.prog) (w := w) (base := base) T B
  have C_law_next := c_law_next (P := l.prog) (w := w) (base := base) T B
  have C_law_equal := c_law_equal (P := l.prog) (w := w) (base := base) T B
  have C_law_near := c_law_near (P := l.prog) (w := w) (base := base) T B
  have C_law_having := c_law_having (P := l.prog) (w := w) (base := base) T B
  have C_law_is_part := c_law_is_part (P := l.prog) (w := w) (base := base) T B
  have C_are_variables := c_are_variables (P := l.prog) (w := w) (base := base) T B C_is_climbing C_is_whole
  have C_is_edge := c_is_edge (P := l.prog) (w := w) (base := base) T B C_is_number
  have C_variables_of := c_variables_of (P := l.prog) (w := w) (base := base) T B C_scope_of
  have C_hanging := c_hanging (P := l.prog) (w := w) (base := base) T B C_neighbours
  have C_cycles_from := c_cycles_from (P := l.prog) (w := w) (base := base) T B C_neighbours
  have C_are_nodes := c_are_nodes (P := l.prog) (w := w) (base := base) T B C_is_node
  have C_law_scope := c_law_scope (P := l.prog) (w := w) (base := base) T B C_law_next
  have C_law_is_defect := c_law_is_defect (P := l.prog) (w := w) (base := base) T B C_law_having C_law_is_part C_law_near
  have C_law_drawn := c_law_drawn (P := l.prog) (w := w) (base := base) T B C_law_next
  have C_is_scope := c_is_scope (P := l.prog) (w := w) (base := base) T B C_are_variables
  have C_has_cycle := c_has_cycle (P := l.prog) (w := w) (base := base) T B C_hanging
  have C_split_variable := c_split_variable (P := l.prog) (w := w) (base := base) T B C_hanging C_having C_variables_of
  have C_told_cycle := c_told_cycle (P := l.prog) (w := w) (base := base) T B C_cycles_from
  have C_is_part := c_is_part (P := l.prog) (w := w) (base := base) T B C_are_nodes
  have C_is_cycle := c_is_cycle (P := l.prog) (w := w) (base := base) T B C_are_nodes C_neighbours
  have C_law_any_graph := c_law_any_graph (P := l.prog) (w := w) (base := base) T B C_law_next C_law_scope
  have C_law_tree := c_law_tree (P := l.prog) (w := w) (base := base) T B C_law_next C_law_scope
  have C_is_graph := c_is_graph (P := l.prog) (w := w) (base := base) T B C_is_edge C_is_number C_is_scope
  have C_is_tree_like := c_is_tree_like (P := l.prog) (w := w) (base := base) T B C_hanging C_has_cycle C_split_variable
  have C_defect_of := c_defect_of (P := l.prog) (w := w) (base := base) T B C_hanging C_having C_split_variable C_told_cycle
  have C_is_defect := c_is_defect (P := l.prog) (w := w) (base := base) T B C_having C_is_cycle C_is_part
  have C_law_some_graph := c_law_some_graph (P := l.prog) (w := w) (base := base) T B C_law_any_graph C_law_next C_law_tree
  have C_check_graph := c_check_graph (P := l.prog) (w := w) (base := base) T B C_is_graph
  have C_is_junction_tree := c_is_junction_tree (P := l.prog) (w := w) (base := base) T B C_check_graph C_is_tree_like
  have C_defect := c_defect (P := l.prog) (w := w) (base := base) T B C_check_graph C_defect_of
  have C_accepts_defect := c_accepts_defect (P := l.prog) (w := w) (base := base) T B C_check_graph C_is_defect
  exact ok_law F40 B C_law_drawn C_law_equal C_law_is_defect C_law_next C_law_some_graph C_law_stream C_accepts_defect C_defect C_is_junction_tree
end Tt
open PySem PySem.W PyProof.Rows
set_option maxHeartbeats 0 in
set_option maxRecDepth 100000 in
theorem PySem.Challenge.cw_tabletalk_k18_whole_any_defect_holds : PySem.Challenge.rw_tabletalk_k18_whole_any_defect.Holds := by
  w_on; o_law; k_head; (case hw => w_witness2)
  k_fill
  refine L2.walk_of (l := PySem.Challenge.rw_tabletalk_k18_whole_any_defect) (n := 63) (k := 7) (x := "_law_script") (CX := fun _ => L2.CX0) (sp := fun w => Tt.sp_law _) rfl (by decide) rfl ⟨rfl, by decide, by decide⟩ (fun w h Y => PySem.W.kIn_of Y) ?F (fun _ _ a ns hl _ hS => ⟨a, ns, rfl, hS, hl, fun _ => rfl⟩) (fun _ _ _ _ _ h => h)
  case F =>
    intro w mg fa h KX G hmg
    refine' Tt.all_mk KX G hmg ?a1 ?l1 ?c1 ?k1 ?a2 ?l2 ?c2 ?k2 ?a3 ?l3 ?c3 ?k3 ?a4 ?l4 ?c4 ?k4 ?a5 ?l5 ?c5 ?k5 ?a6 ?l6 ?c6 ?k6 ?a7 ?l7 ?c7 ?k7 ?a8 ?l8 ?c8 ?k8 ?a9 ?l9 ?c9 ?k9 ?a10 ?l10 ?c10 ?k10 ?a11 ?l11 ?c11 ?k11 ?a12 ?l12 ?c12 ?k12 ?a13 ?l13 ?c13 ?k13 ?a14 ?l14 ?c14 ?k14 ?a15 ?l15 ?c15 ?k15 ?a16 ?l16 ?c16 ?k16 ?a17 ?l17 ?c17 ?k17 ?a18 ?l18 ?c18 ?k18 ?a19 ?l19 ?c19 ?k19 ?a20 ?l20 ?c20 ?k20 ?a21 ?l21 ?c21 ?k21 ?a22 ?l22 ?c22 ?k22 ?a23 ?l23 ?c23 ?k23 ?a24 ?l24 ?c24 ?k24 ?a25 ?l25 ?c25 ?k25 ?a26 ?l26 ?c26 ?k26 ?a27 ?l27 ?c27 ?k27 ?a28 ?l28 ?c28 ?k28 ?a29 ?l29 ?c29 ?k29 ?a30 ?l30 ?c30 ?k30 ?a31 ?l31 ?c31 ?k31 ?a32 ?l32 ?c32 ?k32 ?a33 ?l33 ?c33 ?k33 ?a34 ?l34 ?c34 ?k34 ?a35 ?l35 ?c35 ?k35 ?a36 ?l36 ?c36 ?k36 ?a37 ?l37 ?c37 ?k37 ?a38 ?l38 ?c38 ?k38 ?a39 ?l39 ?c39 ?k39 ?a40 ?l40 ?c40 ?k40 ?z1 ?z2 ?z3 ?z4 ?z5 ?z6 ?z7 ?z8 ?z9 ?z10 ?z11 ?z12 ?z13 ?z14 ?z15 ?z16 ?t1 ?t2 ?t3
    (case a1 => k_is)
    (case l1 => k_is)
    (case c1 => k_is)
    (case k1 => k_is)
    (case a2 => k_is)
    (case l2 => k_is)
    (case c2 => k_is)
    (case k2 => k_is)
    (case a3 => k_is)
    (case l3 => k_is)
    (case c3 => k_is)
    (case k3 => k_is)
    (case a4 => k_is)
    (case l4 => k_is)
    (case c4 => k_is)
    (case k4 => k_is)
    (case a5 => k_is)
    (case l5 => k_is)
    (case c5 => k_is)
    (case k5 => k_is)
    (case a6 => k_is)
    (case l6 => k_is)
    (case c6 => k_is)
    (case k6 => k_is)
    (case a7 => k_is)
    (case l7 => k_is)
    (case c7 => k_is)
    (case k7 => k_is)
    (case a8 => k_is)
    (case l8 => k_is)
    (case c8 => k_is)
    (case k8 => k_is)
    (case a9 => k_is)
    (case l9 => k_is)
    (case c9 => k_is)
    (case k9 => k_is)
    (case a10 => k_is)
    (case l10 => k_is)
    (case c10 => k_is)
    (case k10 => k_is)
    (case a11 => k_is)
    (case l11 => k_is)
    (case c11 => k_is)
    (case k11 => k_is)
    (case a12 => k_is)
    (case l12 => k_is)
    (case c12 => k_is)
    (case k12 => k_is)
    (case a13 => k_is)
    (case l13 => k_is)
    (case c13 => k_is)
    (case k13 => k_is)
    (case a14 => k_is)
    (case l14 => k_is)
    (case c14 => k_is)
    (case k14 => k_is)
    (case a15 => k_is)
    (case l15 => k_is)
    (case c15 => k_is)
    (case k15 => k_is)
    (case a16 => k_is)
    (case l16 => k_is)
    (case c16 => k_is)
    (case k16 => k_is)
    (case a17 => k_is)
    (case l17 => k_is)
    (case c17 => k_is)
    (case k17 => k_is)
    (case a18 => k_is)
    (case l18 => k_is)
    (case c18 => k_is)
    (case k18 => k_is)
    (case a19 => k_is)
    (case l19 => k_is)
    (case c19 => k_is)
    (case k19 => k_is)
    (case a20 => k_is)
    (case l20 => k_is)
    (case c20 => k_is)
    (case k20 => k_is)
    (case a21 => k_is)
    (case l21 => k_is)
    (case c21 => k_is)
    (case k21 => k_is)
    (case a22 => k_is)
    (case l22 => k_is)
    (case c22 => k_is)
    (case k22 => k_is)
    (case a23 => k_is)
    (case l23 => k_is)
    (case c23 => k_is)
    (case k23 => k_is)
    (case a24 => k_is)
    (case l24 => k_is)
    (case c24 => k_is)
    (case k24 => k_is)
    (case a25 => k_is)
    (case l25 => k_is)
    (case c25 => k_is)
    (case k25 => k_is)
    (case a26 => k_is)
    (case l26 => k_is)
    (case c26 => k_is)
    (case k26 => k_is)
    (case a27 => k_is)
    (case l27 => k_is)
    (case c27 => k_is)
    (case k27 => k_is)
    (case a28 => k_is)
    (case l28 => k_is)
    (case c28 => k_is)
    (case k28 => k_is)
    (case a29 => k_is)
    (case l29 => k_is)
    (case c29 => k_is)
    (case k29 => k_is)
    (case a30 => k_is)
    (case l30 => k_is)
    (case c30 => k_is)
    (case k30 => k_is)
    (case a31 => k_is)
    (case l31 => k_is)
    (case c31 => k_is)
    (case k31 => k_is)
    (case a32 => k_is)
    (case l32 => k_is)
    (case c32 => k_is)
    (case k32 => k_is)
    (case a33 => k_is)
    (case l33 => k_is)
    (case c33 => k_is)
    (case k33 => k_is)
    (case a34 => k_is)
    (case l34 => k_is)
    (case c34 => k_is)
    (case k34 => k_is)
    (case a35 => k_is)
    (case l35 => k_is)
    (case c35 => k_is)
    (case k35 => k_is)
    (case a36 => k_is)
    (case l36 => k_is)
    (case c36 => k_is)
    (case k36 => k_is)
    (case a37 => k_is)
    (case l37 => k_is)
    (case c37 => k_is)
    (case k37 => k_is)
    (case a38 => k_is)
    (case l38 => k_is)
    (case c38 => k_is)
    (case k38 => k_is)
    (case a39 => k_is)
    (case l39 => k_is)
    (case c39 => k_is)
    (case k39 => k_is)
    (case a40 => k_is)
    (case l40 => k_is)
    (case c40 => k_is)
    (case k40 => k_is)
    (case z1 => k_is)
    (case z2 => k_is)
    (case z3 => k_is)
    (case z4 => k_is)
    (case z5 => k_is)
    (case z6 => k_is)
    (case z7 => k_is)
    (case z8 => k_is)
    (case z9 => k_is)
    (case z10 => k_is)
    (case z11 => k_is)
    (case z12 => k_is)
    (case z13 => k_is)
    (case z14 => k_is)
    (case z15 => k_is)
    (case z16 => k_is)
    (case t1 => k_is)
    (case t2 => k_is)
    (case t3 => k_is)
