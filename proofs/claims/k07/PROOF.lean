import PyProof.Rows.All
import HandS.ForMost
import HandS.SortRule
import HandS.Zip
import KE.GoesEnum
import PyProof.EnumMake
import HandS.Defaults
import HandS.MakeKw
import HandS.MakeKwOnly
import HandS.Lambda
import HandS.Nested
import HandS.IsInst
import HandS.SetKeys
import HandS.Style
import HandS.Flow
import HandS.Codes
import PySem.Challenge.RW_twinseam_k07_whole_blocks_of_long_sequen
import HandS.Walk
import HandS.EndTab
set_option Elab.async false
set_option linter.all false
set_option maxRecDepth 100000
set_option maxHeartbeats 8000000
section
/-! sorted of triples of ints, any number of them -/
namespace Tw
open PySem PySem.W PySem.Calls PyProof.Rows SrtO
/-- v is a tuple of the three ints -/
def IsTri (h : Heap) (v : Value) (x y z : Int) : Prop := ∃ a o t u r n, v = .ref a ∧ h.get? a = some o ∧ o.cls = .type "tuple" ∧ o.data = .seq #[.int x t, .int y u, .int z r] n
theorem IsTri.keeps {h h' : Heap} {v : Value} {x y z : Int} (p : IsTri h v x y z) (k : ∀ b o, h.get? b = some o → o.cls = .type "tuple" → h'.get? b = some o) : IsTri h' v x y z := by
  obtain ⟨a, o, t, u, r, n, e, ho, hc, hd⟩ := p
  exact ⟨a, o, t, u, r, n, e, k _ _ ho hc, hc, hd⟩
abbrev Tri := Int × Int × Int
def lexT (p q : Tri) : Bool := if p.1 = q.1 then (if p.2.1 = q.2.1 then decide (p.2.2 < q.2.2) else decide (p.2.1 < q.2.1)) else decide (p.1 < q.1)
theorem lexT_iff {p q : Tri} : lexT p q = true ↔ p.1 < q.1 ∨ (p.1 = q.1 ∧ (p.2.1 < q.2.1 ∨ (p.2.1 = q.2.1 ∧ p.2.2 < q.2.2))) := by
  unfold lexT
  by_cases e : p.1 = q.1
  · rw [if_pos e]
    by_cases e2 : p.2.1 = q.2.1
    · rw [if_pos e2, decide_eq_true_eq]; omega
    · rw [if_neg e2, decide_eq_true_eq]; omega
  · rw [if_neg e, decide_eq_true_eq]; omega
theorem lexT_no {p q : Tri} : lexT p q = false ↔ ¬ (p.1 < q.1 ∨ (p.1 = q.1 ∧ (p.2.1 < q.2.1 ∨ (p.2.1 = q.2.1 ∧ p.2.2 < q.2.2)))) := by
  rw [← lexT_iff]
  cases lexT p q <;> simp
theorem swo_tri {α : Type} (k : α → Tri) : Swo fun v u => lexT (k v) (k u) := by
  refine ⟨fun x y h => ?_, fun x y z h1 h2 => ?_⟩
  · have a := lexT_iff.mp h
    refine lexT_no.mpr ?_
    omega
  · have a := lexT_no.mp h1
    have b := lexT_no.mp h2
    refine lexT_no.mpr ?_
    omega
section
variable {prog : Program} {w : World} {A : Around} {E : Value → Shared → Prop} {s : Shared}
theorem tri_cmp {vs : List Value} {k : Value → Tri} (hp : ∀ v ∈ vs, IsTri s.heap v (k v).1 (k v).2.1 (k v).2.2) : Cmp prog w A s (tuples' true) (fun p => p.1 ∈ vs) (lt2 fun v u => lexT (k v) (k u)) := by
  intro p q hm hm'
  have h1 := hp _ hm
  have h2 := hp _ hm'
  show wpAny (model prog w) A (keyLt' (tuples' true) p.1 q.1) (fun r s' => s' = s ∧ r = lexT (k p.1) (k q.1)) (fun _ _ => False) s
  unfold lexT
  generalize (k p.1).1 = x at h1 ⊢
  generalize (k p.1).2.1 = y at h1 ⊢
  generalize (k p.1).2.2 = z at h1 ⊢
  generalize (k q.1).1 = x' at h2 ⊢
  generalize (k q.1).2.1 = y' at h2 ⊢
  generalize (k q.1).2.2 = z' at h2 ⊢
  obtain ⟨a, o, t, u, r, n, e, ho, hc, hd⟩ := h1
  obtain ⟨a', o', t', u', r', n', e', ho', hc', hd'⟩ := h2
  rw [e, e']
  refine PySem.W.kat_lt ho hd ho' hd' ?_
  show PySem.W.KatLex prog w A true (decide (3 < 3)) _ [(.int x t, .int x' t'), (.int y u, .int y' u'), (.int z r, .int z' r')] 0 s
  refine PySem.W.kat_cons (SeqAt.EqAt.int_int x t x' t' prog w _ _ ?_)
  refine PySem.W.kat_go (fun e1 => ?_) (fun e1 => ?_)
  · have ex : x = x' := by simpa using e1
    refine PySem.W.kat_yes (PySem.W.kat_cons (SeqAt.EqAt.int_int y u y' u' prog w _ _ ?_))
    refine PySem.W.kat_go (fun e2 => ?_) (fun e2 => ?_)
    · have ey : y = y' := by simpa using e2
      refine PySem.W.kat_yes (PySem.W.kat_cons (SeqAt.EqAt.int_int z r z' r' prog w _ _ ?_))
      refine PySem.W.kat_go (fun e3 => ?_) (fun e3 => ?_)
      · have ez : z = z' := by simpa using e3
        have e4 : (if x = x' then (if y = y' then decide (z < z') else decide (y < y')) else decide (x < x')) = false := by
          rw [if_pos ex, if_pos ey, ez]
          exact decide_eq_false (Int.lt_irrefl _)
        exact PySem.W.kat_yes (PySem.W.kat_nil ⟨rfl, e4.symm⟩)
      · have e4 : (if x = x' then (if y = y' then decide (z < z') else decide (y < y')) else decide (x < x')) = decide (z < z') := by rw [if_pos ex, if_pos ey]
        refine PySem.W.kat_no (PySem.W.kat_one _ _ (PyProof.Rows.lt_int ?_))
        exact (show s = s ∧ decide (z < z') = _ from ⟨rfl, e4.symm⟩)
    · have ey : ¬ y = y' := by simpa using e2
      have e4 : (if x = x' then (if y = y' then decide (z < z') else decide (y < y')) else decide (x < x')) = decide (y < y') := by rw [if_pos ex, if_neg ey]
      refine PySem.W.kat_no (PySem.W.kat_one _ _ (PyProof.Rows.lt_int ?_))
      exact (show s = s ∧ decide (y < y') = _ from ⟨rfl, e4.symm⟩)
  · have ex : ¬ x = x' := by simpa using e1
    have e3 : (if x = x' then (if y = y' then decide (z < z') else decide (y < y')) else decide (x < x')) = decide (x < x') := if_neg ex
    exact PySem.W.kat_no (oneLt_int ⟨rfl, e3.symm⟩)
theorem tri_firsts {h : Heap} : ∀ {vs : List Value}, (∀ v ∈ vs, ∃ x y z, IsTri h v x y z) → ∃ fs : List Value, PySem.W.KatTups h vs fs ∧ fs.length = vs.length ∧ ∀ f ∈ fs, ∃ x t, f = Value.int x t
  | [], _ => ⟨[], PySem.W.KatTups.nil, rfl, fun _ hm => by simp at hm⟩
  | v :: vs, hp => by
    obtain ⟨fs, h1, h2, h3⟩ := tri_firsts (vs := vs) fun v' hm => hp v' (List.mem_cons_of_mem _ hm)
    obtain ⟨x, y, z, a, o, t, u, r, n, e, ho, hc, hd⟩ := hp v (List.mem_cons_self ..)
    subst e
    refine ⟨.int x t :: fs, PySem.W.KatTups.cons ho hc hd rfl h1, by rw [List.length_cons, List.length_cons, h2], fun f hm => ?_⟩
    rcases List.mem_cons.mp hm with rfl | hm
    · exact ⟨x, t, rfl⟩
    · exact h3 f hm
theorem tri_sortable {a : Addr} {vs : List Value} {k : Value → Tri} (h0 : 0 < vs.length) (hp : ∀ v ∈ vs, IsTri s.heap v (k v).1 (k v).2.1 (k v).2.2) (ha : ∀ o, s.heap.get? a = some o → o.cls ≠ .type "tuple") : SortableO prog w A s a vs fun v u => lexT (k v) (k u) := by
  intro h' keep
  have hp' : ∀ v ∈ vs, IsTri h' v (k v).1 (k v).2.1 (k v).2.2 := fun v hm => (hp v hm).keeps fun b o e c => keep b o (fun z => by subst z; exact ha o e c) e
  obtain ⟨fs, h1, h2, h3⟩ := tri_firsts fun v hm => ⟨_, _, _, hp' v hm⟩
  refine ⟨tuples' true, fun Q E hq => ?_, tri_cmp hp'⟩
  refine PySem.W.kat_kind (T := .type "int") h1 (by omega) (fun f hm => ?_) (by rfl) ?_
  · obtain ⟨x, t, rfl⟩ := h3 f hm
    exact PySem.W.Looks.now
  · have e : (Value.type "int" != Value.type "tuple") = true := by first | decide +kernel | rfl | decide
    rw [e]
    exact hq
theorem sorted_tris {l : Addr} {vs : List Value} {k : Value → Tri} {Q : Value → Shared → Prop} (hl : s.heap.IsList l vs.toArray) (hz : vs.length ≤ sizeLine) (hp : ∀ v ∈ vs, IsTri s.heap v (k v).1 (k v).2.1 (k v).2.2)
    (h : ∀ (h' : Heap) (d : Addr) (out : List Value), Srtd (fun v u => lexT (k v) (k u)) out → Stb (fun v u => lexT (k v) (k u)) out vs → (∀ b o, s.heap.get? b = some o → h'.get? b = some o) → s.heap.objs.size ≤ d → (∃ n, h'.get? d = some (seqObj "list" out.toArray n)) → Q (.ref d) { s with heap := h' }) :
    wpAny (model prog w) A (call (.builtin "sorted") [.ref l]) Q E s := by
  refine sorted_ord (swo_tri k) hl hz (fun h2 h₁ a ha kk => ?_) fun out hs hb => ?_
  · refine tri_sortable (s := { s with heap := h₁ }) (by omega) (fun v hm => (hp v hm).keeps fun b o e _ => (kk b o e).2) fun o e => ?_
    have e' : some o = some (seqObj "list" vs.toArray 0) := e.symm.trans ha
    cases e'
    intro c
    exact absurd (Value.type.inj c) (by decide)
  · exact h _ _ out hs hb (fun b o e => sortedAll_old e) (Nat.le_succ _) (sortedAll_at s.heap vs out.toArray)
end
end Tw

namespace Tw
open PySem PySem.Spec PyProof.Rows L2
abbrev ltT (k : V → Tri) (x y : V) : Bool := lexT (k x) (k y)
/-- sorted(xs), xs a list of triples of ints of any length (k says which): a new list, sorted, the same things -/
def rSortedT (K : PySem.W.Frag) : List V → Hp → VK → Prop := fun vs H Q => ∃ (a : Addr) (xs : List V) (k : V → Tri), vs = [V.ref a] ∧ SqL K H a xs ∧ (∀ x ∈ xs, ∃ t, x = V.ref t ∧ H t = some (.tup [.int (k x).1, .int (k x).2.1, .int (k x).2.2])) ∧
  ∀ ys p, ys.Pairwise (fun x y => ltT k y x = false) → ys.Perm xs → H p = none → Q (.ref p) (upd H p (.lst ys))
section
variable {X : Cx}
theorem cr_sortedT : CallR X (.builtin "sorted") (rSortedT X.K) := by
  intro pins s σ H vs us Q I r h
  obtain ⟨a, xs, k, rfl, hs, hx, q⟩ := h
  obtain ⟨its, rv, hl, hz⟩ := I.list hs
  obtain ⟨u, rfl, ru⟩ := vals1 r
  obtain rfl : u = Value.ref a := ru
  obtain ⟨e1, e2⟩ := refs_back rv fun x m => by
    obtain ⟨t, e, _⟩ := hx x m
    exact ⟨t, e⟩
  refine sorted_tris (k := fun u => k (backV u)) hl.isList (by rw [← rv.length]; exact hz) (fun v hv => ?_) fun h' d out h1 h2 kp hd hn => ?_
  · obtain ⟨t, rfl⟩ := e2 v hv
    have hm : V.ref t ∈ xs := by rw [e1]; exact List.mem_map.mpr ⟨_, hv, rfl⟩
    obtain ⟨t', e, ht⟩ := hx _ hm
    cases e
    obtain ⟨_, its2, r2, o, ho, hc, n, hd⟩ := I.hok _ _ ht
    cases r2 with
    | cons ri r2 =>
      cases r2 with
      | cons rj r2 =>
        cases r2 with
        | cons rk r2 =>
          cases r2
          obtain ⟨t1, rfl⟩ := ri
          obtain ⟨t2, rfl⟩ := rj
          obtain ⟨t3, rfl⟩ := rk
          exact ⟨t, o, t1, t2, t3, n, rfl, ho, hc, hd⟩
  · have h3 : ∀ u ∈ out, ∃ a, u = Value.ref a := fun u hu => e2 u (h2.perm.mem_iff.mp hu)
    obtain ⟨n, hn⟩ := hn
    have hb : SrtO.Stb (ltT k) (out.map backV) xs := by
      rw [e1]
      exact SrtO.Stb.map (swo_tri k) backV h2
    refine ⟨.ref d, upd H d (.lst (out.map backV)), I.laid (t' := s.toks) kp hd ⟨?_, out, n, vals_back h3, hn⟩, rfl, q _ d (SrtO.srtd_map h1) hb.perm (I.hok.fresh hd)⟩
    rw [hb.len]
    exact hz
end
end Tw
end
section
/-! enumerate over a tuple in a for -/
namespace Tw
open PySem PySem.Spec PyProof.Rows
set_option maxHeartbeats 4000000 in
theorem meets_enumerate_newT {v : Value} {o : Obj} {H : Heap → Prop} (B : Begins v o H) :
    Meets (Builtin.«enumerate.__new__» ⟨[.type "enumerate", v], []⟩) (fun _ R s => H s.heap ∧
      R (.ok (.ret (.ref (s.heap.push o).objs.size))) { s with heap := (s.heap.push o).push { cls := .type "enumerate", data := .fields #[.none, .bool false, .ref s.heap.objs.size, rawInt 0, .none, .none] } }) :=
  .of_wp fun prog w A R s h => by
    obtain ⟨hp, g, d, tk, os⟩ := s; obtain ⟨h1, h⟩ := h
    have hsub := sub_enumerate
    have q1 : ∀ {A' : Around} {E : Value → Shared → Prop} {Q : Value → Shared → Prop}, Q (.ref hp.objs.size) ⟨hp.push o, g, d, tk, os⟩ → wpAny (model prog w) A' (pyIter v) Q E ⟨hp, g, d, tk, os⟩ :=
      fun q => B.iter prog w _ _ ⟨hp, g, d, tk, os⟩ _ h1 q
    wp_walk using q1
    refine wpAny_stack_any fun st => wpAny_pure ?_
    split
    · rename_i c _ _ _ _ _
      cases (c == Value.type "enumerate")
      · wp_walk using q1
        exact ⟨_, rfl, h⟩
      · wp_walk using q1
        exact ⟨_, rfl, h⟩
    · wp_walk using q1
      exact ⟨_, rfl, h⟩
section
variable {prog : Program} {w : World} {A : Around} {E : Value → Shared → Prop} {s : Shared}
theorem call_enumerate_tup {t : Addr} {items : Array Value} {Q : Value → Shared → Prop} (hT : s.heap.IsTuple t items)
    (h : ∀ h', IsEnum h' (s.heap.objs.size + 1) s.heap.objs.size 0 .none → h'.IsTupleIter s.heap.objs.size t 0 → h'.objs.size = s.heap.objs.size + 2 →
      (∀ b o, s.heap.get? b = some o → h'.get? b = some o) → Q (.ref (s.heap.objs.size + 1)) { s with heap := h' }) :
    wpAny (model prog w) A (call (.type "enumerate") [.ref t]) Q E s := by
  refine callType_new F.called_enumerate (by decide) (F.typeCall_enumerate_1 _) (F.newCall_enumerate_1 _) (fun obj => F.args_object_init_2 obj _) F.entry_enumerate_new
    (meets_enumerate_newT (begins_tuple t items)) ⟨hT, ?_⟩
  have hz : (s.heap.push { cls := .type "tuple_iterator", data := .fields #[.ref t, .int 0 0] }).objs.size = s.heap.objs.size + 1 := Heap.size_push ..
  show _ ∧ _
  rw [hz]
  have he : IsEnum ((s.heap.push { cls := .type "tuple_iterator", data := .fields #[.ref t, .int 0 0] }).push
      { cls := .type "enumerate", data := .fields #[.none, .bool false, .ref s.heap.objs.size, rawInt 0, .none, .none] }) (s.heap.objs.size + 1) s.heap.objs.size 0 .none := by
    have := Heap.get?_push_size (s.heap.push { cls := .type "tuple_iterator", data := .fields #[.ref t, .int 0 0] })
      (o := { cls := .type "enumerate", data := .fields #[.none, .bool false, .ref s.heap.objs.size, rawInt 0, .none, .none] }) rfl
    rw [hz] at this; exact this
  refine ⟨⟨_, he, rfl⟩, h _ he ⟨_, Heap.get?_push_of_some _ (Heap.get?_push_size _ rfl), rfl, rfl⟩ (by rw [Heap.size_push, hz]) fun b o y => Heap.get?_push_of_some _ (Heap.get?_push_of_some _ y)⟩
end
end Tw

namespace Tw
open PySem PySem.Spec PyProof.Rows L2
/-- the tuple at a as it stands at each turn, each item in a new pair -/
def IteT (K : PySem.W.Frag) (a : Addr) : It :=
  ⟨fun i H => ∃ (xs : List V) (x : V), SqT K H a xs ∧ xs[i]? = some x, fun i H v H' => ∃ T x, v = .ref T ∧ H T = none ∧ H' = upd H T (.tup [.int (i : Nat), x]) ∧ ∀ xs, SqT K H a xs → xs[i]? = some x, fun i H => ∃ xs : List V, SqT K H a xs ∧ xs.length ≤ i⟩
theorem turn_enumT {P : Program} {w : World} {K : PySem.W.Frag} {elts : List Expr} {kk : Nat} {tpos : Pos} (a e it : Addr) (hai : a ≠ it) (hae : a ≠ e) :
    Turn P w K (.Tuple elts kk tpos) (IteT K a) [e, it] e (fun i h => (∃ old, IsEnum h e it ((i : Nat) : Int) old) ∧ h.IsTupleIter it a i ∧ e ≠ it) where
  mem := by simp
  obj := fun i h st b hb => by
    obtain ⟨⟨old, he⟩, ⟨o, ho, hc, hd⟩, _⟩ := st
    have e' : b = e ∨ b = it := by simpa using hb
    rcases e' with z | z
    · rw [z]; exact ⟨_, he, fun v q => nomatch q⟩
    · rw [z]; exact ⟨o, ho, fun v q => by rw [hd] at q; cases q⟩
  keep := fun i h h' st k => let ⟨⟨old, he⟩, hi, hne⟩ := st; ⟨⟨old, k e (by simp) _ he⟩, hi.at fun o q => k it (by simp) o q, hne⟩
  item := by
    intro X hP hw hK hc i pins s σ H E I hf st hg
    subst hP hw hK
    obtain ⟨⟨old, he⟩, hit, hne⟩ := st
    obtain ⟨xs, x, hq, hx⟩ := hg
    obtain ⟨its, rv, p, hz⟩ := I.tuple hq
    obtain ⟨u, hu, ru⟩ := rv.get hx
    have hel : e < s.heap.objs.size := Heap.lt_size he
    have hil : it < s.heap.objs.size := by obtain ⟨_, q, _⟩ := hit; exact Heap.lt_size q
    have hef : e ∉ [it, a] := fun z => by
      rcases List.mem_cons.mp z with z | z
      · exact hne z
      · exact hae (List.mem_singleton.mp z).symm
    refine wpAny_pyNext_enum_itemC (Draws.tuple (A := X.A.in1) (I.ok.hd hc) it a hai its.toArray) he ⟨hit, p⟩ (by
      have := (List.getElem?_eq_some_iff.mp hu).1
      simpa using this) hne hef fun y h' tk hy ho hst hT hsz hk => ?_
    obtain ⟨hit', _⟩ := hst
    have hy' : its.toArray[i]? = some y := hy
    have eyu : y = u := by
      have z : its.toArray[i]? = some u := by simpa using hu
      rw [z] at hy'
      exact (Option.some.inj hy').symm
    subst eyu
    refine ⟨_, rfl, wpAny_letOwnedTupleGo_enum (s := { s with heap := h', toks := tk + 1 }) ho fun h'' he' sb => ?_⟩
    have hT2 : h''.get? s.heap.objs.size = some { cls := .type "tuple", data := .seq #[.int i tk, y] } := (sb.2 _ (Nat.ne_of_gt hel)).trans hT
    have new : ObjOk X.prog X.w (upd H s.heap.objs.size (.tup [.int (i : Nat), x])) h'' s.heap.objs.size (.tup [.int (i : Nat), x]) :=
      ⟨by show 2 ≤ sizeLine; decide, [.int i tk, y], .cons ⟨_, rfl⟩ (.cons ru .nil), ⟨_, hT2, rfl, _, rfl⟩⟩
    have I1 : Inv X pins σ (upd H s.heap.objs.size (.tup [.int (i : Nat), x])) { s with heap := h'', toks := tk + 1 } :=
      I.turnedNew (t' := tk + 1) (ch := [e, it]) (fun b ob hb q => (sb.2 b (fun z => hb (by simp [z]))).trans (hk b ob (fun z => hb (by simp [z])) (fun z => hb (by simp [z])) q)) hf (Nat.le_refl _) new
    refine ⟨.ref s.heap.objs.size, _, I1, rfl, ⟨_, x, rfl, I.hok.fresh (Nat.le_refl _), rfl, fun ys hy => by rw [I.tuple_inj hy hq]; exact hx⟩, ⟨⟨y, ?_⟩, hit'.at fun o q => (sb.2 it (Ne.symm hne)).trans q, hne⟩, fun b hb => ?_⟩
    · have e1 : ((i + 1 : Nat) : Int) = (i : Int) + 1 := by omega
      rw [e1]; exact he'
    · have hb' : b < s.heap.objs.size := by
        have e' : b = e ∨ b = it := by simpa using hb
        rcases e' with z | z
        · rw [z]; exact hel
        · rw [z]; exact hil
      rw [upd_ne (Nat.ne_of_lt hb')]
      exact (hf b hb).1
  done := by
    intro X hP hw hK hc i pins s σ H E I hf st hg
    subst hP hw hK
    obtain ⟨⟨old, he⟩, hit, hne⟩ := st
    obtain ⟨xs, hq, hx⟩ := hg
    obtain ⟨its, rv, p, hz⟩ := I.tuple hq
    obtain ⟨f0, f1, f2, f3, f4, f5⟩ := hf it (by simp)
    have hl := rv.length
    have hT : s.TypeIs (.ref e) "enumerate" := ⟨_, he, rfl⟩
    have fin : ∀ h' : Heap, Heap.ExtBut it s.heap h' → _ := fun h' eb => (⟨rfl, I.turned (t' := s.toks) (fun b o hb q => eb b o hb q) f0 f1 f3 f4 f5⟩ : (fun (x : Option Value) (s' : Shared) => x = none ∧ Inv X pins σ H s') none { s with heap := h' })
    unfold pyNext
    refine wpAny_bind (wpAny_attempt (wpAny_callSpecial?_slot (name := Str.ofString "__next__") hT F.slot_enumerate_next
      (wpAny_call_entry F.slot_enumerate_next hT F.entry_enumerate_next ?_ (F.args_enumerate_next_1 _))))
    show wpAny _ _ (field (.ref e) 2 >>= _) _ _ _
    refine wpAny_bind (wpAny_field he rfl (x := .ref it) rfl ?_)
    refine wpAny_bind (wpAny_nextOf_tuple_end (A := X.A.in1) (I.ok.hd hc) hit p (by simp; omega) fun h' x he' hx' => ?_)
    obtain ⟨o, ho, hc⟩ := hx'
    refine wpAny_bind (wpAny_isInstance (T := "StopIteration") (b := true) ⟨o, ho, hc⟩ isSubtype_stop ?_)
    exact wpAny_pure (fin _ he')
  self := fun A i s Q E st h => let ⟨⟨_, he⟩, _⟩ := st; wpAny_pyIter_enum he h
def iEnumT (K : PySem.W.Frag) (ta : TA) : TI := fun σ H R => ta σ H fun vs H1 => ∃ a xs, vs = [.ref a] ∧ SqT K H1 a xs ∧ R (IteT K a) H1
theorem pi_enumT {X : Cx} {e : Expr} {ta : TA} {p pos tpos : Pos} {elts : List Expr} {kk : Nat} (hg : Gl X "enumerate") (hm : X.mg "enumerate" = none) (ha : PA X [e] ta) (hs : starEach [e] X.env = [(false, eval e X.env)] := by rfl) :
    PI X (.Tuple elts kk tpos) (.Call (.Name "enumerate" p) [e] [] pos) (iEnumT X.K ta) := by
  refine ⟨fun pins s σ H R I h => ?_⟩
  refine Call_ (ld_blt I hg hm boot_enumerate (PyProof.Rows.callWith_type1 (thn (ha.run pos pins s σ H _ I h) fun us s1 ⟨vs, H1, I1, r1, q1⟩ => ?_) hs rfl))
  obtain ⟨a, xs, ex, hq, q⟩ := q1
  subst ex
  cases r1 with
  | cons r rr =>
    cases rr
    cases r
    obtain ⟨its, rv, p', hz⟩ := I1.tuple hq
    have alt : a < s1.heap.objs.size := by obtain ⟨_, q, _⟩ := id p'; exact Heap.lt_size q
    refine call_enumerate_tup (show s1.heap.IsTuple a its.toArray from p') fun h' he hit hsz hk => wpAny_pyIter_enum he ?_
    have I2 : Inv X pins σ H1 { s1 with heap := h' } := I1.kept (t' := s1.toks) hk
    refine ⟨s1.heap.objs.size + 1, [s1.heap.objs.size + 1, s1.heap.objs.size], _, _, H1, rfl, I2, turn_enumT a (s1.heap.objs.size + 1) s1.heap.objs.size (Nat.ne_of_lt alt) (Nat.ne_of_lt (Nat.lt_succ_of_lt alt)), ⟨⟨.none, he⟩, hit, Nat.succ_ne_self _⟩, fun b hb => ?_, q⟩
    have e' : b = s1.heap.objs.size + 1 ∨ b = s1.heap.objs.size := by simpa using hb
    have hle : s1.heap.objs.size ≤ b := by
      rcases e' with z | z
      · rw [z]; exact Nat.le_add_right _ _
      · rw [z]; exact Nat.le_refl _
    exact I1.fpOk hle (I1.hok.fresh hle)
/-- a loop over enumerate of a tuple -/
theorem for_enumT {K : PySem.W.Frag} {a : Addr} {xs : List V} {g : TG} {tb : TS} {D : Ends} {σ : L2.St} {H : Hp} (Pv : Nat → L2.St → Hp → Prop) (h0 : Pv 0 σ H) (hq : ∀ i σ H, Pv i σ H → SqT K H a xs)
    (hs : ∀ (i : Nat) (x : V) (T : Addr) (σ : L2.St) (H : Hp), xs[i]? = some x → Pv i σ H → H T = none → g (.ref T) σ (upd H T (.tup [.int (i : Nat), x])) fun σ2 H2 => tb { D with nx := Pv (i + 1), ct := Pv (i + 1), bk := D.nx } σ2 H2) (hd : ∀ σ H, Pv xs.length σ H → D.nx σ H) :
    ∃ W : Nat → Nat → L2.St → Hp → Prop, (∃ m, W 0 m σ H) ∧ ∀ i m σ H, W i m σ H →
      ((IteT K a).stop i H ∧ D.nx σ H) ∨ ((IteT K a).go i H ∧ ∃ N : L2.St → Hp → Prop, (∀ σ' H', N σ' H' → ∃ m', m' < m ∧ W (i + 1) m' σ' H') ∧ ∀ v H', (IteT K a).yld i H v H' → g v σ H' fun σ2 H2 => tb { D with nx := N, ct := N, bk := D.nx } σ2 H2) := by
  refine ⟨fun i m σ H => m = xs.length - i ∧ i ≤ xs.length ∧ Pv i σ H, ⟨xs.length, rfl, Nat.zero_le _, h0⟩, ?_⟩
  rintro i m σ H ⟨rfl, hi, p⟩
  have qx := hq i σ H p
  by_cases hlt : i < xs.length
  · have hx : xs[i]? = some xs[i] := List.getElem?_eq_getElem hlt
    refine .inr ⟨⟨xs, _, qx, hx⟩, Pv (i + 1), fun σ' H' p' => ⟨xs.length - (i + 1), by omega, rfl, hlt, p'⟩, fun v H' y => ?_⟩
    obtain ⟨T, x', rfl, hT, rfl, f1⟩ := y
    exact hs i x' T σ H (f1 xs qx) p hT
  · have e : i = xs.length := by omega
    subst e
    exact .inl ⟨⟨xs, qx, Nat.le_refl _⟩, hd σ H p⟩
/-- a loop over enumerate of a list -/
theorem for_enumL {K : PySem.W.Frag} {a : Addr} {xs : List V} {g : TG} {tb : TS} {D : Ends} {σ : L2.St} {H : Hp} (Pv : Nat → L2.St → Hp → Prop) (h0 : Pv 0 σ H) (hq : ∀ i σ H, Pv i σ H → SqL K H a xs)
    (hs : ∀ (i : Nat) (x : V) (T : Addr) (σ : L2.St) (H : Hp), xs[i]? = some x → Pv i σ H → H T = none → g (.ref T) σ (upd H T (.tup [.int (i : Nat), x])) fun σ2 H2 => tb { D with nx := Pv (i + 1), ct := Pv (i + 1), bk := D.nx } σ2 H2) (hd : ∀ σ H, Pv xs.length σ H → D.nx σ H) :
    ∃ W : Nat → Nat → L2.St → Hp → Prop, (∃ m, W 0 m σ H) ∧ ∀ i m σ H, W i m σ H →
      ((Ite K a).stop i H ∧ D.nx σ H) ∨ ((Ite K a).go i H ∧ ∃ N : L2.St → Hp → Prop, (∀ σ' H', N σ' H' → ∃ m', m' < m ∧ W (i + 1) m' σ' H') ∧ ∀ v H', (Ite K a).yld i H v H' → g v σ H' fun σ2 H2 => tb { D with nx := N, ct := N, bk := D.nx } σ2 H2) := by
  refine ⟨fun i m σ H => m = xs.length - i ∧ i ≤ xs.length ∧ Pv i σ H, ⟨xs.length, rfl, Nat.zero_le _, h0⟩, ?_⟩
  rintro i m σ H ⟨rfl, hi, p⟩
  have qx := hq i σ H p
  by_cases hlt : i < xs.length
  · have hx : xs[i]? = some xs[i] := List.getElem?_eq_getElem hlt
    refine .inr ⟨⟨xs, _, qx, hx⟩, Pv (i + 1), fun σ' H' p' => ⟨xs.length - (i + 1), by omega, rfl, hlt, p'⟩, fun v H' y => ?_⟩
    obtain ⟨T, x', rfl, hT, rfl, f1⟩ := y
    exact hs i x' T σ H (f1 xs qx) p hT
  · have e : i = xs.length := by omega
    subst e
    exact .inl ⟨⟨xs, qx, Nat.le_refl _⟩, hd σ H p⟩
end Tw
end
section
/-! a lambda of one parameter that captures a cell: made as a value, kept in an attribute, called there -/
namespace Tw
open PySem PySem.Spec PyProof.Rows L2 LamX NdefX
/-- a lambda's words, the cells that it captured, its code object -/
structure LF where
  qual : Str
  params : Arguments
  body : Expr
  scope : Scope
  cl : List (Str × Addr)
  c : Addr
abbrev LF.nf (F : LF) : NF := ⟨"<lambda>", F.qual, F.params, [], F.scope, F.cl, F.c⟩
def LamO (f : Addr) (F : LF) : HO := .ext fun h => ∃ (pm ctv : Value), h.get? f = some (PySem.W.kla_obj "<lambda>" F.qual F.params F.body F.scope F.cl pm F.c ctv)
theorem lamO_at {P : Program} {w : World} {H : Hp} {h : Heap} {f : Addr} {F : LF} (hok : HOk P w H h) (e : H f = some (LamO f F)) : ∃ (pm ctv : Value), h.get? f = some (PySem.W.kla_obj "<lambda>" F.qual F.params F.body F.scope F.cl pm F.c ctv) := by
  obtain ⟨z, _, _⟩ := hok f _ e
  exact z
section
variable {X : Cx} {pins : List (Addr × Obj)} {σ : L2.St} {H : Hp} {s : Shared}
theorem inv_lam {F : LF} {o : Obj} {t' : Nat} {pm ctv : Value} (I : Inv X pins σ H s) (ho : o = PySem.W.kla_obj "<lambda>" F.qual F.params F.body F.scope F.cl pm F.c ctv) :
    Inv X pins σ (upd H s.heap.objs.size (LamO s.heap.objs.size F)) { s with heap := s.heap.push o, toks := t' } := by
  subst ho
  refine I.laid (a := s.heap.objs.size) (fun b u e => Heap.get?_push_of_some _ e) (Nat.le_refl _) ?_
  have e : (s.heap.push (PySem.W.kla_obj "<lambda>" F.qual F.params F.body F.scope F.cl pm F.c ctv)).get? s.heap.objs.size = some (PySem.W.kla_obj "<lambda>" F.qual F.params F.body F.scope F.cl pm F.c ctv) := Heap.get?_push_size _ rfl
  exact ⟨⟨pm, ctv, e⟩, ⟨_, e⟩, fun h1 h2 ⟨p, t, z⟩ st => ⟨p, t, st _ z⟩⟩
/-- the lambda is made: its code object is new, or found in the table -/
theorem lam_make3 {T : List NTab} {nm : Nat → Nat → Str} {c P : Addr} {params : Arguments} {body : Expr} {scope : Scope} {pos : Pos} {E : Value → Shared → Prop} {Q : Value → Shared → Prop} (I : Inv X pins σ H s) (TB : TabB X.base X.mg c P) (hcode : X.env.code = .ref c)
    (hm : (P, nm) ∈ T) (hn : nm pos.line pos.col = X.env.qual ++ "<lambda>") (hu : ∀ p ∈ T, p.1 = P → p.2 = nm) (hT : TabsN T H) (hdef : defaultsOf params X.env = ([], [])) (hfree : ∀ y ∈ scope.names, y.2 = .free → ∃ c, X.env.cells.lookup y.1 = some c)
    (h : ∀ (f c' : Addr) (H1 : Hp) (s' : Shared), Inv X pins σ H1 s' → ExtN H H1 → (∀ b, H1 b = Option.none → H b = Option.none) → TabsN T H1 → H f = none → H1 f = some (LamO f ⟨X.env.qual ++ "<lambda>", params, body, scope, cloFrom X.env.cells scope.names [], c'⟩) → H1 c' = some (CodeO c' (X.env.qual ++ "<lambda>")) → Q (.ref f) s') :
    wpAny (model X.prog X.w) X.A (eval (.Lambda params body scope pos) X.env) Q E s := by
  obtain ⟨ps, hP, ht, ha⟩ := (show TabN H P nm from hT _ hm)
  refine PySem.W.kla_eval hdef ?_
  have bP : s.heap.BuiltinsAt X.mg P := TB.bm.keeps I.bk
  have hP' : s.heap.get? P = some { cls := .none, data := .fields ps } := I.hok P _ hP
  cases hc : codeAmong pos ps.toList with
  | none =>
    refine PySem.W.kla_makeFunction (mg := X.mg) (c := c) (P := P) (ps := ps) (closure_ok hfree) I.ok.glob (I.mod.glob.keeps I.bk) hcode (TB.code.keeps I.bk) hP' ht hc TB.gP bP fun c' ctv h' tk hx hge hlt hrec htb => ?_
    obtain ⟨c2, oc, vs, t, e2, hoc, hd, hv⟩ := hrec
    cases e2
    have nC : H c' = none := I.hok.fresh hge
    have I1 := inv_table (t' := tk) (more := #[rawInt pos.line, rawInt pos.col, .ref c']) (h' := h') I hP (fun b o hb e => hx b o hb e) htb hge ⟨oc, vs, t, hoc, hd, hv⟩
    have hE : ExtN H (upd (upd H P (.tbl (ps ++ #[rawInt pos.line, rawInt pos.col, .ref c']))) c' (CodeO c' (X.env.qual ++ "<lambda>"))) := fun b o e n => by
      rw [upd_ne (ne_of_none e nC), upd_ne (fun z => n ps (Option.some.inj (e.symm.trans (by rw [z]; exact hP))))]
      exact e
    have eL : (ps ++ #[rawInt pos.line, rawInt pos.col, .ref c']).toList = ps.toList ++ [rawInt pos.line, rawInt pos.col, .ref c'] := by simp
    have T1 : TabsN T (upd (upd H P (.tbl (ps ++ #[rawInt pos.line, rawInt pos.col, .ref c']))) c' (CodeO c' (X.env.qual ++ "<lambda>"))) := fun p hp => by
      by_cases hb : p.1 = P
      · rw [hu p hp hb, hb]
        refine ⟨_, by rw [upd_ne (ne_of_none hP nC), upd_same], by rw [eL]; exact PySem.TriplesOk_snoc _ _ _ _ ht, fun p' cv hcv => ?_⟩
        rw [eL] at hcv
        rcases among_app2 _ ht hcv with z | ⟨z, z1, z2⟩
        · obtain ⟨c0, e1, e2⟩ := ha p' cv z
          exact ⟨c0, e1, hE _ _ e2 codeO_ne⟩
        · refine ⟨c', z, ?_⟩
          rw [← z1, ← z2, hn]
          exact upd_same
      · obtain ⟨ps', a1, a2, a3⟩ := hT p hp
        refine ⟨ps', by rw [upd_ne (ne_of_none a1 nC), upd_ne hb]; exact a1, a2, fun p' cv hcv => ?_⟩
        obtain ⟨c0, e1, e2⟩ := a3 p' cv hcv
        exact ⟨c0, e1, hE _ _ e2 codeO_ne⟩
    have nF := I1.hok.fresh (Nat.le_refl _)
    have I2 := inv_lam (F := ⟨X.env.qual ++ "<lambda>", params, body, scope, cloFrom X.env.cells scope.names [], c'⟩) (t' := tk) (pm := (X.mg "__name__").getD .none) (ctv := ctv) I1 rfl
    refine h h'.objs.size c' _ _ I2 (fun b o e n => ?_) (fun b e => upd_none (upd_none (upd_none e))) (T1.ext fun b o e => ?_) (I.hok.fresh (Nat.le_trans hge (Nat.le_of_lt hlt))) upd_same ?_
    · have e1 := hE b o e n
      exact (upd_ne (ne_of_none e1 nF)).trans e1
    · exact (upd_ne (ne_of_none e nF)).trans e
    · exact (upd_ne (Nat.ne_of_lt hlt)).trans upd_same
  | some cv =>
    obtain ⟨c', e, hco⟩ := ha pos cv hc
    subst e
    rw [hn] at hco
    refine PySem.W.kla_makeFunctionHit (mg := X.mg) (c := c) (P := P) (ps := ps) (closure_ok hfree) I.ok.glob (I.mod.glob.keeps I.bk) hcode (TB.code.keeps I.bk) hP' ht hc bP fun ctv h' tk hx hsz => ?_
    have I1 : Inv X pins σ H { s with heap := h', toks := tk } := I.kept hx
    have nF : H h'.objs.size = none := I1.hok.fresh (Nat.le_refl _)
    have I2 := inv_lam (F := ⟨X.env.qual ++ "<lambda>", params, body, scope, cloFrom X.env.cells scope.names [], c'⟩) (t' := tk) (pm := (X.mg "__name__").getD .none) (ctv := ctv) I1 rfl
    refine h h'.objs.size c' _ _ I2 (fun b o e n => ?_) (fun b e => upd_none e) (hT.ext fun b o e => ?_) nF upd_same ?_
    · exact (upd_ne (ne_of_none e nF)).trans e
    · exact (upd_ne (ne_of_none e nF)).trans e
    · exact (upd_ne (ne_of_none hco nF)).trans hco
end
/-- the lambda as a value -/
def tLamE (T : List NTab) (mk : Addr → LF) : TE := fun σ H Q => TabsN T H ∧ ∀ (f c' : Addr) (H1 : Hp), ExtN H H1 → (∀ b, H1 b = Option.none → H b = Option.none) → TabsN T H1 → H f = none → H1 f = some (LamO f (mk c')) → H1 c' = some (CodeO c' (mk c').qual) → Q (.ref f) H1
theorem pe_lamE {X : Cx} {T : List NTab} {nm : Nat → Nat → Str} {c P : Addr} {params : Arguments} {body : Expr} {scope : Scope} {pos : Pos} (TB : TabB X.base X.mg c P) (hcode : X.env.code = .ref c) (hm : (P, nm) ∈ T) (hn : nm pos.line pos.col = X.env.qual ++ "<lambda>") (hu : ∀ p ∈ T, p.1 = P → p.2 = nm)
    (hdef : defaultsOf params X.env = ([], [])) (hfree : ∀ y ∈ scope.names, y.2 = .free → X.env.scope.names.lookup y.1 = some .cell ∨ X.env.scope.names.lookup y.1 = some .free) :
    PE X (.Lambda params body scope pos) (tLamE T fun c' => ⟨X.env.qual ++ "<lambda>", params, body, scope, cloFrom X.env.cells scope.names [], c'⟩) := by
  refine ⟨fun pins s σ H Q I h => ?_⟩
  obtain ⟨hT, h⟩ := h
  have hfr : ∀ y ∈ scope.names, y.2 = .free → ∃ c, X.env.cells.lookup y.1 = some c := fun y hy e => (hfree y hy e).elim (fun z => I.ok.has _ (.inl z)) fun z => I.ok.has _ (.inr z)
  exact lam_make3 I TB hcode hm hn hu hT hdef hfr fun f c' H1 s' I1 eN nn T1 f0 f1 c1 => ⟨.ref f, H1, I1, rfl, h f c' H1 eN nn T1 f0 f1 c1⟩

/-! ### the cells that it captured, told of the base -/
structure JC (base : Heap) (cl : List (Str × Addr)) (y : Str) (u : V) : Prop where
  all : ∀ z c, cl.lookup z = some c → ∃ v, base.IsCell c v
  inj : ∀ x z c, cl.lookup x = some c → cl.lookup z = some c → x = z
  at_ : ∃ c w, cl.lookup y = some c ∧ RelV u w ∧ base.IsCell c (some w)
/-- the callee runs: one parameter x, one captured name y -/
theorem lam_run {P : Program} {w : World} {K : PySem.W.Frag} {mg : Str → Option Value} {base : Heap} {f : Addr} {F : LF} {k : Nat} {x y : Str} {u0 : V} {A : Around} {outer : List Env} {s : Shared} {H : Hp} {u : Value} {v : V} {Q : VK} {te : TE}
    (S : NScope [x, y] [x] [y] F.scope) (hb : ∀ (pm ctv : Value) (u : Value), bindArgs (PySem.W.kla_fn "<lambda>" F.qual F.params F.body F.scope F.cl pm (.ref F.c) ctv) ⟨[u], []⟩ = pure [(x, u)])
    (hr : Room (k + 1) A) (e0 : Env0 P w K mg base A outer s H) (hf : H f = some (LamO f F)) (hc : H F.c = some (CodeO F.c F.qual)) (J : JC base F.cl y u0) (rv : RelV v u)
    (hbody : PE (ncx CX0 P w K mg base [x, y] F.nf f A outer s H E0) F.body te) (q : te [some v, some u0] H Q) :
    codeAny (model P w) A (.call (.ref f) ⟨[u], []⟩) (CR CX0 outer P w H s Q E0) s := by
  have lim : s.heap.NoLimit := e0.mod.nolimit.keeps fun b o e => (e0.bs b o e).1
  obtain ⟨pm, ctv, ho⟩ := lamO_at e0.hok hf
  refine PySem.W.kla_callFunE hr.depth ho rfl S.co S.gen rfl (codeO_at e0.hok hc) ?_
  rw [hb pm ctv u]
  refine wpAny_pure (wpAny_newFunctionEnv S.nocell (fun ⟨n, _⟩ hy => S.par n (by
    have z := List.mem_singleton.mp hy
    rw [(Prod.mk.inj z).1]
    exact List.mem_singleton.mpr rfl)) (fun h₁ hns hsb => ⟨lim.fresh _ hsb, ?_⟩) S.kind)
  show codeAny _ _ (.expr F.body (envF F.nf f s.heap.objs.size)) _ _
  have kp : ∀ b o, s.heap.get? b = some o → h₁.get? b = some o := fun b o e => hsb.extBut b o (Nat.ne_of_lt (Heap.lt_size e)) (Heap.get?_push_of_some _ e)
  have cellB : ∀ {c : Addr} {v : Option Value}, base.IsCell c v → s.heap.IsCell c v := fun {c v} ⟨o, ho, hd⟩ => ⟨o, (e0.bs _ _ ho).1, hd⟩
  have C : CellsAt F.cl [y] [some u0] s.heap H := by
    refine ⟨rfl, fun z c e => ?_, J.inj, fun i z e => ?_⟩
    · obtain ⟨v, hv⟩ := J.all z c e
      obtain ⟨o, ho, _⟩ := id hv
      exact ⟨(e0.bs _ _ ho).2, v, cellB hv⟩
    · obtain ⟨c, w', h1, h2, h3⟩ := J.at_
      match i, e with
      | 0, e =>
        have ez : z = y := (Option.some.inj e).symm
        subst ez
        refine ⟨c, h1, fun v ev => ?_⟩
        have : v = u0 := (Option.some.inj (Option.some.inj ev)).symm
        subst this
        exact ⟨w', h2, cellB h3⟩
  have I : Inv (ncx CX0 P w K mg base [x, y] F.nf f A outer s H E0) [] (startF [x, y] [v] [some u0]) H { s with heap := h₁, toks := s.toks + ([(x, u)] : List (Str × Value)).length } :=
    inv_startN (us := [u]) S hr.hd e0 rfl (.cons rv .nil) C hns kp
  refine PySem.W.kla_codeExpr (wpAny_mono (hbody.run [] _ (startF [x, y] [v] [some u0]) H Q I q) (fun v s' hq => ?_) fun e s' hq => hq)
  obtain ⟨w', H', J', rv, q⟩ := hq
  exact ⟨w', H', J'.os, J'.bare, J'.base, J'.hok, rv, q⟩
/-! ### o.m(e), m an attribute of the instance that holds such a lambda -/
def tAttrLam (K : PySem.W.Frag) (m : Str) (F : LF) (u0 : V) (tb : TE) (ta : TE) (te : TA) : TE := fun σ H Q => ta σ H fun x H1 => ∃ a C dx fs f, x = .ref a ∧ H1 a = some (.ins C dx fs) ∧ Cls K C ∧ NoAttr K C m ∧ fs.lookup m = some (.ref f) ∧ H1 f = some (LamO f F) ∧
  te σ H1 fun vs H2 => ∃ v, vs = [v] ∧ H2 f = some (LamO f F) ∧ H2 F.c = some (CodeO F.c F.qual) ∧ tb [some v, some u0] H2 Q
theorem lamFnAt {X : Cx} {pins : List (Addr × Obj)} {σ : L2.St} {H : Hp} {s : Shared} {f : Addr} {F : LF} (I : Inv X pins σ H s) (e : H f = some (LamO f F)) : PySem.W.FnAt f s.heap := by
  obtain ⟨pm, ctv, ho⟩ := lamO_at I.hok e
  exact ⟨_, _, _, _, ho⟩
theorem getattrm_ok {X : Cx} {pins : List (Addr × Obj)} {σ : L2.St} {H : Hp} {s : Shared} {A : Around} {E : Value → Shared → Prop} {a C dx : Addr} {fs : List (Str × V)} {m : Str} {v : V} {pl : Sem Bool} {Q : Value × List Value → Shared → Prop} (I : Inv X pins σ H s) (e : H a = some (.ins C dx fs)) (c : Cls X.K C) (n : NoAttr X.K C m) (l : fs.lookup m = some v)
    (h : ∀ u s', Inv X pins σ H s' → RelV v u → Q (u, []) s') : wpAny (model X.prog X.w) A (getMethod (.ref a) m pl) Q E s := by
  obtain ⟨mA, O, r, _, _, _⟩ := ins_get I.hok e
  obtain ⟨od, J, hl⟩ := O.look
  exact PySem.W.method_usual I.kIn J (PySem.W.plainGet_of (c.get m)).1 (PySem.W.plainGet_of (c.get m)).2 n (by rfl) (getattr_ok I e c n l fun u s' I' r' => h u s' I' r')
theorem pe_attrLam {X : Cx} {m : Str} {F : LF} {u0 : V} {tb ta : TE} {te : TA} {x y : Str} {k : Nat} {o e : Expr} {apos pos : Pos} {pl : Sem Bool} (he : PE X o ta) (ha : PA X [e] te)
    (S : NScope [x, y] [x] [y] F.scope) (hb : ∀ (pm ctv : Value) (u : Value), bindArgs (PySem.W.kla_fn "<lambda>" F.qual F.params F.body F.scope F.cl pm (.ref F.c) ctv) ⟨[u], []⟩ = pure [(x, u)])
    (hr : Room (k + 1) X.A) (J : JC X.base F.cl y u0) (hbody : ∀ (f : Addr) (A : Around) (outer : List Env) (s : Shared) (H : Hp), PE (ncx CX0 X.prog X.w X.K X.mg X.base [x, y] F.nf f A outer s H E0) F.body tb)
    (hst : starEach [e] X.env = (false, eval e X.env) :: starEach [] X.env := by rfl) (hpl : (backTo pos (starEach [] X.env)).any (·.1) = false := by rfl)
    (ht : eval (.Call (.Attribute o m apos) [e] [] pos) X.env = (do
      let ov ← eval o X.env
      standAt apos.atName
      let (f, first) ← holding [ov] (getMethod ov m pl)
      callWith pos f first (backTo pos (starEach [e] X.env)) (backToKw pos (keywordEach [] X.env))) := by rfl) :
    PE X (.Call (.Attribute o m apos) [e] [] pos) (tAttrLam X.K m F u0 tb ta te) := by
  refine ⟨fun pins s σ H Q I h => ?_⟩
  refine PySem.W.methodCall_KW (pl := pl) (thn (he.run pins s σ H _ I h) fun uo s1 ⟨vo, H1, I1, rx, a, C, dx, fs, f, ex, ea, c, n, l, hf, q⟩ => ?_) ht
  subst ex
  obtain rfl : uo = Value.ref a := rx
  refine getattrm_ok I1 ea c n l fun uf s2 I2 rf => ?_
  obtain rfl : uf = Value.ref f := rf
  refine PySem.W.callWith_F (first := []) (lamFnAt I2 hf) (thn (ha.run pos pins s2 σ H1 _ I2 q) fun us s3 ⟨vs, H2, I3, r, v, ev, h1, h2, q2⟩ => ⟨lamFnAt I3 h1, ?_⟩) hst hpl
  · subst ev
    cases r with
    | cons rv rr =>
      cases rr
      show wpAny _ _ (call (.ref f) [_]) _ _ _
      refine wpAny_call (codeAny_mono (lam_run S hb hr I3.env0 h1 h2 J rv (hbody _ _ _ _ _) q2) fun r s' hq => ?_)
      cases r with
      | error e => exact False.elim hq
      | ok fl =>
        cases fl with
        | ret u => exact I3.after hq
        | next => exact False.elim hq
        | brk => exact False.elim hq
        | cont => exact False.elim hq
end Tw
end
section
/-! C(e, .., k = v, ..) whose promise stands over a greater base: all that is not tracked and no frame -/
namespace Tw
open PySem PySem.Spec PyProof.Rows L2 LamX NdefX
def bigB (h : Heap) (H : Hp) (l : List Env) : Heap := PySem.W.hideAll (hidT h H) (frs l)
theorem bigB_get {h : Heap} {H : Hp} {l : List Env} {b : Addr} {o : Obj} (e : h.get? b = some o) (n : H b = none) (nf : b ∉ frs l) : (bigB h H l).get? b = some o :=
  PySem.W.hideAll_get _ (hidT_get e n) nf
theorem of_bigB {h : Heap} {H : Hp} {l : List Env} {b : Addr} {o : Obj} (e : (bigB h H l).get? b = some o) : h.get? b = some o ∧ H b = none := of_hidT (PySem.W.of_hideAll _ e)
theorem env0_big {P : Program} {w : World} {K : PySem.W.Frag} {mg : Str → Option Value} {base : Heap} {A : Around} {outer : List Env} {s : Shared} {H : Hp} (e : L2.Env0 P w K mg base A outer s H) :
    L2.Env0 P w K mg (bigB s.heap H outer) A outer s H := by
  have kb : ∀ b o, base.get? b = some o → (bigB s.heap H outer).get? b = some o := fun b o z => by
    obtain ⟨h1, h2⟩ := e.bs b o z
    refine bigB_get h1 h2 fun hb => ?_
    have := (e.funs.mem hb).1
    rw [z] at this; cases this
  refine ⟨e.frames, ⟨fun b o z => kb b o (e.mod.kin b o z), e.mod.glob.keeps kb, ?_, e.mod.nolimit.keeps kb⟩, fun b o z => of_bigB z, ?_, ?_, e.frf, e.hok, e.bare⟩
  · obtain ⟨mb, h1, h2⟩ := e.mod.blt
    exact ⟨mb, h1.keeps kb, h2⟩
  · show (bigB s.heap H outer).objs.size ≤ _
    unfold bigB
    rw [PySem.W.hideAll_size, hidT_size]
    exact Nat.le_refl _
  · have all : ∀ l : List Env, (∀ b ∈ frs l, b ∈ frs outer) → s.heap.FunFrames base l → s.heap.FunFrames (bigB s.heap H outer) l := by
      intro l
      induction l with
      | nil => intro _ _; trivial
      | cons env r ih =>
        intro hs hl
        obtain ⟨hk, ⟨L, o, hf, hn, ho, hd⟩, hr⟩ := hl
        have hL : L ∈ frs outer := hs L (by unfold frs; rw [List.filterMap_cons, hf]; exact List.mem_cons_self)
        refine ⟨hk, ⟨L, o, hf, ?_, ho, hd⟩, ih (fun b hb => hs b (by
          unfold frs; rw [List.filterMap_cons, hf]; exact List.mem_cons_of_mem _ hb)) hr⟩
        exact PySem.W.hideAll_none _ hL
    exact all outer (fun _ h => h) e.funs
section
variable {X : Cx} {CX : CXT} {k n : Nat} {f C : Addr} {fd : FuncData} {ps ks : List Str} {sp : Sp} {E : XK} {x : Str} {p pos : Pos} {e : Expr} {es : List Expr} {kws : List Keyword} {t tk : TA} {g : List Value → List Value → List Value} {gV : List V → List V → List V}
/-- what a lambda made here has captured, told of the greater base -/
theorem jc_of {pins : List (Addr × Obj)} {σ : L2.St} {H : Hp} {s : Shared} {scope : Scope} {y : Str} {i : Nat} {u : V} (I : Inv X pins σ H s) (hfn : ∀ z, X.fn z = true) (hfree : ∀ y ∈ scope.names, y.2 = .free → X.env.scope.names.lookup y.1 = some .cell ∨ X.env.scope.names.lookup y.1 = some .free)
    (hy : (y, NameKind.free) ∈ scope.names) (hc : X.env.scope.names.lookup y = some .cell) (hN : X.N[i]? = some y) (hs : σ[i]? = some (some u)) :
    JC (bigB s.heap H X.stack) (cloFrom X.env.cells scope.names []) y u := by
  have hf : ∀ y ∈ scope.names, y.2 = .free → ∃ c, X.env.cells.lookup y.1 = some c := fun y hy e => (hfree y hy e).elim (fun z => I.ok.has _ (.inl z)) fun z => I.ok.has _ (.inr z)
  have nfr : ∀ z c, X.env.cells.lookup z = some c → c ∉ frs X.stack := fun z c e hb => by
    rcases List.mem_cons.mp (I.stkSub c hb) with q | q
    · exact I.cne z c e q
    · have h1 := I.ok.cab z c (hfn z) e
      obtain ⟨_, o, ho, _⟩ := I.ok.funs.mem q
      exact absurd (Nat.lt_of_lt_of_le (Heap.lt_size ho) h1) (Nat.lt_irrefl _)
  have cellB : ∀ {z : Str} {c : Addr} {v : Option Value}, X.env.cells.lookup z = some c → s.heap.IsCell c v → (bigB s.heap H X.stack).IsCell c v := fun {z c v} e ⟨o, ho, hd⟩ => ⟨o, bigB_get ho (I.freeC z c e) (nfr z c e), hd⟩
  refine ⟨fun z c e => ?_, fun a b c e1 e2 => I.ok.inj a b c (clo_cm hf e1) (clo_cm hf e2), ?_⟩
  · obtain ⟨v, hv⟩ := I.cell z c (clo_cm hf e)
    exact ⟨v, cellB (clo_cm hf e) hv⟩
  · obtain ⟨c, hc'⟩ := hf _ hy rfl
    have hc' : X.env.cells.lookup y = some c := hc'
    obtain ⟨m, hn, hl⟩ := I.loc
    obtain ⟨w, r, l⟩ := hl i y u hN hs (.inr (.inl hc))
    rcases l with ⟨z, _⟩ | ⟨_, a', ha', hcell⟩
    · have z' : X.env.scope.names.lookup y = some .local := z
      rw [hc] at z'; cases z'
    · rw [hc'] at ha'
      cases ha'
      exact ⟨c, w, clo_has hf hy hc', r, cellB hc' hcell⟩
theorem run_makeKB {J : Heap → Prop} {pins : List (Addr × Obj)} {σ : L2.St} {H : Hp} {s : Shared} {Q : VK} {us ws : List Value} {vs zs : List V} (M : Mk X.K C f) (F : ∀ base, X.K.In base → J base → FnOk X.prog X.w X.K X.mg base CX k f fd ps sp) (hr : Room (k + 1) X.A) (hb : KBn X.K fd ps (n + 1) ks g gV) (hx : Passes CX X E)
    (hJ : ∀ (H' : Hp) (s' : Shared), Inv X pins σ H' s' → J (bigB s'.heap H' X.stack))
    (I : Inv X pins σ H s) (r : Vals vs us) (rz : Vals zs ws) (l1 : vs.length = n) (l2 : zs.length = ks.length)
    (h : ∀ x dx, H x = none → H dx = none → dx ≠ x → sp (gV (.ref x :: vs) zs) (upd (upd H dx (.own x)) x (.ins C dx [])) (fun v H2 => v = .non ∧ Q (.ref x) H2) E) :
    wpAny (model X.prog X.w) X.A (call (.ref C) us (ks.zip ws)) (EP X pins σ Q) X.xe s := by
  have hq := h (s.heap.objs.size + 1) s.heap.objs.size (I.hok.fresh (Nat.le_succ _)) (I.hok.fresh (Nat.le_refl _)) (Nat.ne_of_lt (Nat.lt_succ_self _))
  have I2 := Inv.made (C := C) I
  have r1 : Vals (V.ref (s.heap.objs.size + 1) :: vs) (Value.ref (s.heap.objs.size + 1) :: us) := .cons rfl r
  have r2 := hb.rel r1 rz
  have n1 : (Value.ref (s.heap.objs.size + 1) :: us).length = n + 1 := by
    rw [List.length_cons, ← r.length, l1]
  have e2 := env0_big I2.env0
  have F2 := F _ e2.mod.kin (hJ _ _ I2)
  refine wpAny_call (make_map (f := f) I.kIn M.makes M.init (beq_iff_eq.mp M.fn) (codeAny_mono (F2.run _ X.stack _ _ ⟨Value.ref (s.heap.objs.size + 1) :: us, ks.zip ws⟩ (g (Value.ref (s.heap.objs.size + 1) :: us) ws) _ _ E (hr.make C us (ks.zip ws))
    (e2.make C us (ks.zip ws)) (hb.to _ (Value.ref (s.heap.objs.size + 1) :: us) ws I2.kIn n1 (rz.length.symm.trans l2)) r2 hq) fun r s' hq' => ?_))
  cases r with
  | error e => exact hx pins σ _ _ e s' I2 hq'
  | ok fl =>
    cases fl with
    | ret u =>
      obtain ⟨v, H', I3, rv, ev, q3⟩ := I2.after hq'
      subst ev
      exact ⟨rv, ⟨V.ref (s.heap.objs.size + 1), H', I3, rfl, q3⟩⟩
    | next => exact False.elim hq'
    | brk => exact False.elim hq'
    | cont => exact False.elim hq'
/-- C(e, .., k = v, ..); Jσ: what the slots must hold for J -/
def tMakeKB (Js : L2.St → Prop) (C : Addr) (n m : Nat) (sp : Sp) (gV : List V → List V → List V) (E : XK) (t tk : TA) : TE := fun σ H Q => Js σ ∧ tMakeK C n m sp gV E t tk σ H Q
theorem pe_makeKB {J : Heap → Prop} {Js : L2.St → Prop} (M : Mk X.K C f) (F : ∀ base, X.K.In base → J base → FnOk X.prog X.w X.K X.mg base CX k f fd ps sp) (hr : Room (k + 1) X.A) (hg : Gl X x) (hm : X.mg x = some (.ref C)) (hb : KBn X.K fd ps (n + 1) ks g gV) (hx : Passes CX X E) (ha : PA X (e :: es) t) (hkw : PK X kws tk)
    (hJ : ∀ (pins : List (Addr × Obj)) (σ : L2.St) (H' : Hp) (s' : Shared), Js σ → Inv X pins σ H' s' → J (bigB s'.heap H' X.stack))
    (hall : (backToKw pos (keywordEach kws X.env)).all (·.1.isSome) = true := by rfl) (hks : (backToKw pos (keywordEach kws X.env)).filterMap (·.1) = ks := by rfl) (hdb : (x == ("__debug__" : Str)) = false := by decide)
    (he : starEach (e :: es) X.env = (false, eval e X.env) :: starEach es X.env := by rfl) (hpl : ((backTo pos (starEach (e :: es) X.env)).any (·.1) || (backToKw pos (keywordEach kws X.env)).any (·.1.isNone)) = false := by rfl) :
    PE X (.Call (.Name x p) (e :: es) kws pos) (tMakeKB Js C n ks.length sp gV E t tk) := by
  refine ⟨fun pins s σ H Q I h => ?_⟩
  obtain ⟨hj, h⟩ := h
  refine wpAny_Call_Name_kw (ld_glob I hg hm ?_ hdb)
  refine PySem.W.callWith_KW (h₀ := X.base) I.ok.mod.kin M.kp hall (thn (ha.run pos pins s σ H _ I h) fun us s1 ⟨vs, H1, I1, r, q⟩ => ?_) hpl he
  refine thn (hkw.run pos pins s1 σ H1 _ I1 q) fun ws s2 ⟨zs, H2, I2, rz, l1, l2, q2⟩ => ⟨I2.kIn, ?_⟩
  rw [hks]
  exact run_makeKB M F hr hb hx (fun H' s' => hJ pins σ H' s' hj) I2 r rz l1 l2 q2
end
end Tw
end
section
/-! plain mathematics: the first longest run of a region, growth, the blocks, the codes -/
namespace Tw
section
variable {α : Type} [DecidableEq α]
/-- a part of both sequences -/
structure Rg where
  lo : Nat
  hi : Nat
  lo2 : Nat
  hi2 : Nat
abbrev Bk := Nat × Nat × Nat
def Rg.wf (R : Rg) : Prop := R.lo ≤ R.hi ∧ R.lo2 ≤ R.hi2
/-! ### runs, the best one -/
def RunM (M : Nat → Nat → Bool) (R : Rg) (i j n : Nat) : Prop := R.lo ≤ i ∧ i + n ≤ R.hi ∧ R.lo2 ≤ j ∧ j + n ≤ R.hi2 ∧ ∀ k, k < n → M (i + k) (j + k) = true
structure Best (M : Nat → Nat → Bool) (R : Rg) (i j n : Nat) : Prop where
  z : n = 0 → i = R.lo ∧ j = R.lo2
  run : RunM M R i j n
  mx : ∀ i' j' n', RunM M R i' j' n' → n' ≤ n ∧ (n' = n → 0 < n → i < i' ∨ (i = i' ∧ j ≤ j'))
theorem Best.uniq {M : Nat → Nat → Bool} {R : Rg} {i j n i' j' n' : Nat} (h : Best M R i j n) (h' : Best M R i' j' n') : i = i' ∧ j = j' ∧ n = n' := by
  have a := h.mx _ _ _ h'.run
  have b := h'.mx _ _ _ h.run
  have e : n = n' := by omega
  subst e
  by_cases h0 : n = 0
  · have z1 := h.z h0
    have z2 := h'.z h0
    omega
  · have a2 := a.2 rfl (by omega)
    have b2 := b.2 rfl (by omega)
    omega
theorem least_of {P : Nat → Prop} (h : ∃ n, P n) : ∃ n, P n ∧ ∀ m, P m → n ≤ m := by
  obtain ⟨n, hn⟩ := h
  induction n using Nat.strongRecOn with
  | _ n ih =>
    by_cases h : ∃ m, m < n ∧ P m
    · obtain ⟨m, h1, h2⟩ := h
      exact ih m h1 h2
    · refine ⟨n, hn, fun m hm => ?_⟩
      by_cases hlt : m < n
      · exact absurd ⟨m, hlt, hm⟩ h
      · omega
theorem most_of {P : Nat → Prop} (B : Nat) (hB : ∀ n, P n → n ≤ B) (h : ∃ n, P n) : ∃ n, P n ∧ ∀ m, P m → m ≤ n := by
  obtain ⟨d, ⟨hd, hP⟩, hl⟩ := least_of (P := fun d => d ≤ B ∧ P (B - d)) (by
    obtain ⟨n, hn⟩ := h
    refine ⟨B - n, Nat.sub_le _ _, ?_⟩
    have := hB n hn
    rw [show B - (B - n) = n by omega]
    exact hn)
  refine ⟨B - d, hP, fun m hm => ?_⟩
  have h1 := hB m hm
  have h2 := hl (B - m) ⟨Nat.sub_le _ _, by rw [show B - (B - m) = m by omega]; exact hm⟩
  omega
theorem best_ex {M : Nat → Nat → Bool} {R : Rg} (w : R.wf) : ∃ i j n, Best M R i j n := by
  obtain ⟨n, ⟨i0, j0, h0⟩, hm⟩ := most_of (P := fun n => ∃ i j, RunM M R i j n) R.hi (fun n ⟨i, j, h⟩ => by
    have := h.2.1; omega) ⟨0, R.lo, R.lo2, Nat.le_refl _, w.1, Nat.le_refl _, w.2, fun k hk => absurd hk (Nat.not_lt_zero _)⟩
  by_cases hz : n = 0
  · refine ⟨R.lo, R.lo2, 0, fun _ => ⟨rfl, rfl⟩, ⟨Nat.le_refl _, w.1, Nat.le_refl _, w.2, fun k hk => absurd hk (Nat.not_lt_zero _)⟩, fun i' j' n' h => ⟨?_, fun _ z => absurd z (Nat.lt_irrefl _)⟩⟩
    have := hm n' ⟨i', j', h⟩
    omega
  · obtain ⟨i, ⟨j1, h1⟩, hi⟩ := least_of (P := fun i => ∃ j, RunM M R i j n) ⟨i0, j0, h0⟩
    obtain ⟨j, h2, hj⟩ := least_of (P := fun j => RunM M R i j n) ⟨j1, h1⟩
    refine ⟨i, j, n, fun z => absurd z hz, h2, fun i' j' n' h => ⟨hm n' ⟨i', j', h⟩, fun e _ => ?_⟩⟩
    subst e
    have a := hi i' ⟨j', h⟩
    by_cases e : i = i'
    · subst e
      have b := hj j' h
      omega
    · omega
open Classical in
noncomputable def best (M : Nat → Nat → Bool) (R : Rg) : Bk := if h : ∃ p : Bk, Best M R p.1 p.2.1 p.2.2 then Classical.choose h else (R.lo, R.lo2, 0)
theorem best_eq {M : Nat → Nat → Bool} {R : Rg} {i j n : Nat} (h : Best M R i j n) : best M R = (i, j, n) := by
  have hx : ∃ p : Bk, Best M R p.1 p.2.1 p.2.2 := ⟨(i, j, n), h⟩
  unfold best
  rw [dif_pos hx]
  obtain ⟨e1, e2, e3⟩ := (Classical.choose_spec hx).uniq h
  exact Prod.ext e1 (Prod.ext e2 e3)
theorem best_spec {M : Nat → Nat → Bool} {R : Rg} (w : R.wf) : Best M R (best M R).1 (best M R).2.1 (best M R).2.2 := by
  obtain ⟨i, j, n, h⟩ := best_ex (M := M) w
  rw [best_eq h]
  exact h
/-! ### by the lengths of runs that end at a place -/
def tl (M : Nat → Nat → Bool) (lo lo2 : Nat) : Nat → Nat → Nat
  | i + 1, j + 1 => if lo ≤ i ∧ lo2 ≤ j ∧ M i j = true then tl M lo lo2 i j + 1 else 0
  | _, _ => 0
theorem tl_le {M : Nat → Nat → Bool} {lo lo2 : Nat} : ∀ e f, tl M lo lo2 e f ≤ e ∧ tl M lo lo2 e f ≤ f
  | 0, f => by simp [tl]
  | e + 1, 0 => by simp [tl]
  | e + 1, f + 1 => by
    have ih := tl_le (M := M) (lo := lo) (lo2 := lo2) e f
    unfold tl
    split <;> omega
theorem tl_run {M : Nat → Nat → Bool} {lo lo2 : Nat} : ∀ e f n, n ≤ tl M lo lo2 e f → 0 < n → lo ≤ e - n ∧ lo2 ≤ f - n ∧ ∀ k, k < n → M (e - n + k) (f - n + k) = true
  | 0, f, n, h, h0 => by simp [tl] at h; omega
  | e + 1, 0, n, h, h0 => by simp [tl] at h; omega
  | e + 1, f + 1, n, h, h0 => by
    unfold tl at h
    split at h
    · rename_i c
      have lt := tl_le (M := M) (lo := lo) (lo2 := lo2) e f
      by_cases h1 : n = 1
      · subst h1
        refine ⟨by omega, by omega, fun k hk => ?_⟩
        have : k = 0 := by omega
        subst this
        simpa using c.2.2
      · obtain ⟨a1, a2, a3⟩ := tl_run (M := M) (lo := lo) (lo2 := lo2) e f (n - 1) (by omega) (by omega)
        refine ⟨by omega, by omega, fun k hk => ?_⟩
        by_cases hl : k = n - 1
        · have e1 : e + 1 - n + k = e := by omega
          have e2 : f + 1 - n + k = f := by omega
          rw [e1, e2]
          exact c.2.2
        · have := a3 k (by omega)
          have e1 : e + 1 - n + k = e - (n - 1) + k := by omega
          have e2 : f + 1 - n + k = f - (n - 1) + k := by omega
          rw [e1, e2]
          exact this
    · omega
theorem tl_max {M : Nat → Nat → Bool} {lo lo2 : Nat} : ∀ n i j, lo ≤ i → lo2 ≤ j → (∀ k, k < n → M (i + k) (j + k) = true) → n ≤ tl M lo lo2 (i + n) (j + n)
  | 0, i, j, _, _, _ => Nat.zero_le _
  | n + 1, i, j, h1, h2, h3 => by
    have ih := tl_max n i j h1 h2 fun k hk => h3 k (by omega)
    show n + 1 ≤ tl M lo lo2 (i + n + 1) (j + n + 1)
    unfold tl
    rw [if_pos ⟨by omega, by omega, h3 n (by omega)⟩]
    omega
theorem tl_yes {M : Nat → Nat → Bool} {lo lo2 i j : Nat} (h1 : lo ≤ i) (h2 : lo2 ≤ j) (h : M i j = true) : tl M lo lo2 (i + 1) (j + 1) = tl M lo lo2 i j + 1 := by
  rw [tl, if_pos ⟨h1, h2, h⟩]
theorem tl_no {M : Nat → Nat → Bool} {lo lo2 i j : Nat} (h : ¬ (lo ≤ i ∧ lo2 ≤ j ∧ M i j = true)) : tl M lo lo2 (i + 1) (j + 1) = 0 := by
  rw [tl, if_neg h]
theorem tl_lo {M : Nat → Nat → Bool} {lo lo2 : Nat} (e f : Nat) (h : e ≤ lo) : tl M lo lo2 e f = 0 := by
  cases e with
  | zero => simp [tl]
  | succ e =>
    cases f with
    | zero => simp [tl]
    | succ f => exact tl_no (by omega)
/-- the best among the ends in P -/
structure BP (M : Nat → Nat → Bool) (lo lo2 : Nat) (P : Nat → Nat → Prop) (i j n : Nat) : Prop where
  z : n = 0 → i = lo ∧ j = lo2
  at_ : 0 < n → P (i + n) (j + n) ∧ n ≤ tl M lo lo2 (i + n) (j + n)
  mx : ∀ e f, P e f → tl M lo lo2 e f ≤ n ∧ (tl M lo lo2 e f = n → 0 < n → i + n < e ∨ (i + n = e ∧ j + n ≤ f))
theorem BP.start {M : Nat → Nat → Bool} {lo lo2 : Nat} {P : Nat → Nat → Prop} (h : ∀ e f, P e f → tl M lo lo2 e f = 0) : BP M lo lo2 P lo lo2 0 :=
  ⟨fun _ => ⟨rfl, rfl⟩, fun h => absurd h (Nat.lt_irrefl _), fun e f hp => ⟨by rw [h e f hp]; exact Nat.le_refl _, fun _ z => absurd z (Nat.lt_irrefl _)⟩⟩
theorem BP.more {M : Nat → Nat → Bool} {lo lo2 : Nat} {P P' : Nat → Nat → Prop} {i j n : Nat} (b : BP M lo lo2 P i j n) (h1 : ∀ e f, P e f → P' e f) (h2 : ∀ e f, P' e f → P e f ∨ tl M lo lo2 e f = 0) : BP M lo lo2 P' i j n := by
  refine ⟨b.z, fun h => ⟨h1 _ _ (b.at_ h).1, (b.at_ h).2⟩, fun e f hp => ?_⟩
  rcases h2 e f hp with h | h
  · exact b.mx e f h
  · exact ⟨by omega, fun _ _ => by omega⟩
theorem BP.step {M : Nat → Nat → Bool} {lo lo2 : Nat} {P P' : Nat → Nat → Prop} {i j n e f : Nat} (b : BP M lo lo2 P i j n) (ho : ∀ e' f', P e' f' → e' < e ∨ (e' = e ∧ f' < f)) (h1 : ∀ e' f', P e' f' → P' e' f') (h2 : P' e f) (h3 : ∀ e' f', P' e' f' → P e' f' ∨ (e' = e ∧ f' = f)) :
    (n < tl M lo lo2 e f → BP M lo lo2 P' (e - tl M lo lo2 e f) (f - tl M lo lo2 e f) (tl M lo lo2 e f)) ∧ (¬ n < tl M lo lo2 e f → BP M lo lo2 P' i j n) := by
  have lt := tl_le (M := M) (lo := lo) (lo2 := lo2) e f
  constructor
  · intro h
    have e1 : e - tl M lo lo2 e f + tl M lo lo2 e f = e := by omega
    have e2 : f - tl M lo lo2 e f + tl M lo lo2 e f = f := by omega
    refine ⟨fun z => by omega, fun _ => ?_, fun e' f' hp => ?_⟩
    · rw [e1, e2]
      exact ⟨h2, Nat.le_refl _⟩
    · rw [e1, e2]
      rcases h3 e' f' hp with q | ⟨rfl, rfl⟩
      · have a := (b.mx e' f' q).1
        exact ⟨by omega, fun z _ => by omega⟩
      · exact ⟨Nat.le_refl _, fun _ _ => .inr ⟨rfl, Nat.le_refl _⟩⟩
  · intro h
    refine ⟨b.z, fun h0 => ⟨h1 _ _ (b.at_ h0).1, (b.at_ h0).2⟩, fun e' f' hp => ?_⟩
    rcases h3 e' f' hp with q | ⟨rfl, rfl⟩
    · exact b.mx e' f' q
    · refine ⟨by omega, fun z h0 => ?_⟩
      have o := ho _ _ (b.at_ h0).1
      omega
theorem BP.best {M : Nat → Nat → Bool} {R : Rg} {P : Nat → Nat → Prop} {i j n : Nat} (w : R.wf) (b : BP M R.lo R.lo2 P i j n) (h1 : ∀ e f, P e f → e ≤ R.hi ∧ f ≤ R.hi2) (h2 : ∀ e f, e ≤ R.hi → f ≤ R.hi2 → R.lo < e → R.lo2 < f → P e f) : Best M R i j n := by
  have hr : RunM M R i j n := by
    by_cases h0 : n = 0
    · obtain ⟨z1, z2⟩ := b.z h0
      subst h0
      have := w.1
      have := w.2
      exact ⟨by omega, by omega, by omega, by omega, fun k hk => absurd hk (Nat.not_lt_zero _)⟩
    · obtain ⟨p, q⟩ := b.at_ (by omega)
      have bd := h1 _ _ p
      obtain ⟨r1, r2, r3⟩ := tl_run _ _ n q (by omega)
      refine ⟨by omega, by omega, by omega, by omega, fun k hk => ?_⟩
      have := r3 k hk
      rw [show i + n - n + k = i + k by omega, show j + n - n + k = j + k by omega] at this
      exact this
  refine ⟨b.z, hr, fun i' j' n' h => ?_⟩
  by_cases h0 : n' = 0
  · subst h0
    exact ⟨Nat.zero_le _, fun z h0 => by omega⟩
  · obtain ⟨a1, a2, a3, a4, a5⟩ := h
    have t := tl_max (M := M) (lo := R.lo) (lo2 := R.lo2) n' i' j' a1 a3 a5
    have p := h2 (i' + n') (j' + n') a2 a4 (by omega) (by omega)
    obtain ⟨m1, m2⟩ := b.mx _ _ p
    refine ⟨by omega, fun z h0 => ?_⟩
    have := m2 (by omega) h0
    omega
/-! ### by the lengths of runs that begin at a place -/
def hd (M : Nat → Nat → Bool) (hi hi2 : Nat) (i j : Nat) : Nat := if h : i < hi ∧ j < hi2 ∧ M i j = true then hd M hi hi2 (i + 1) (j + 1) + 1 else 0
termination_by hi - i
theorem hd_yes {M : Nat → Nat → Bool} {hi hi2 i j : Nat} (h1 : i < hi) (h2 : j < hi2) (h : M i j = true) : hd M hi hi2 i j = hd M hi hi2 (i + 1) (j + 1) + 1 := by
  rw [hd, dif_pos ⟨h1, h2, h⟩]
theorem hd_no {M : Nat → Nat → Bool} {hi hi2 i j : Nat} (h : ¬ (i < hi ∧ j < hi2 ∧ M i j = true)) : hd M hi hi2 i j = 0 := by
  rw [hd, dif_neg h]
theorem hd_run {M : Nat → Nat → Bool} {hi hi2 : Nat} : ∀ n i j, n ≤ hd M hi hi2 i j → 0 < n → i + n ≤ hi ∧ j + n ≤ hi2 ∧ ∀ k, k < n → M (i + k) (j + k) = true
  | 0, i, j, _, h0 => absurd h0 (Nat.lt_irrefl _)
  | n + 1, i, j, h, _ => by
    by_cases c : i < hi ∧ j < hi2 ∧ M i j = true
    · rw [hd_yes c.1 c.2.1 c.2.2] at h
      by_cases hn : n = 0
      · subst hn
        refine ⟨by omega, by omega, fun k hk => ?_⟩
        have : k = 0 := by omega
        subst this
        simpa using c.2.2
      · obtain ⟨a1, a2, a3⟩ := hd_run (M := M) (hi := hi) (hi2 := hi2) n (i + 1) (j + 1) (by omega) (by omega)
        refine ⟨by omega, by omega, fun k hk => ?_⟩
        cases k with
        | zero => simpa using c.2.2
        | succ k =>
          have := a3 k (by omega)
          rw [show i + (k + 1) = i + 1 + k by omega, show j + (k + 1) = j + 1 + k by omega]
          exact this
    · rw [hd_no c] at h
      omega
theorem hd_max {M : Nat → Nat → Bool} {hi hi2 : Nat} : ∀ n i j, i + n ≤ hi → j + n ≤ hi2 → (∀ k, k < n → M (i + k) (j + k) = true) → n ≤ hd M hi hi2 i j
  | 0, _, _, _, _, _ => Nat.zero_le _
  | n + 1, i, j, h1, h2, h3 => by
    have ih := hd_max (M := M) (hi := hi) (hi2 := hi2) n (i + 1) (j + 1) (by omega) (by omega) fun k hk => by
      have := h3 (k + 1) (by omega)
      rw [show i + 1 + k = i + (k + 1) by omega, show j + 1 + k = j + (k + 1) by omega]
      exact this
    rw [hd_yes (show i < hi by omega) (show j < hi2 by omega) (by simpa using h3 0 (by omega))]
    omega
structure BQ (M : Nat → Nat → Bool) (R : Rg) (P : Nat → Nat → Prop) (i j n : Nat) : Prop where
  z : n = 0 → i = R.lo ∧ j = R.lo2
  at_ : 0 < n → P i j ∧ n ≤ hd M R.hi R.hi2 i j
  mx : ∀ e f, P e f → hd M R.hi R.hi2 e f ≤ n ∧ (hd M R.hi R.hi2 e f = n → 0 < n → i < e ∨ (i = e ∧ j ≤ f))
theorem BQ.start {M : Nat → Nat → Bool} {R : Rg} {P : Nat → Nat → Prop} (h : ∀ e f, ¬ P e f) : BQ M R P R.lo R.lo2 0 :=
  ⟨fun _ => ⟨rfl, rfl⟩, fun h => absurd h (Nat.lt_irrefl _), fun e f hp => absurd hp (h e f)⟩
theorem BQ.more {M : Nat → Nat → Bool} {R : Rg} {P P' : Nat → Nat → Prop} {i j n : Nat} (b : BQ M R P i j n) (h1 : ∀ e f, P e f → P' e f) (h2 : ∀ e f, P' e f → P e f ∨ hd M R.hi R.hi2 e f = 0) : BQ M R P' i j n := by
  refine ⟨b.z, fun h => ⟨h1 _ _ (b.at_ h).1, (b.at_ h).2⟩, fun e f hp => ?_⟩
  rcases h2 e f hp with h | h
  · exact b.mx e f h
  · exact ⟨by omega, fun _ _ => by omega⟩
theorem BQ.step {M : Nat → Nat → Bool} {R : Rg} {P P' : Nat → Nat → Prop} {i j n e f : Nat} (b : BQ M R P i j n) (ho : ∀ e' f', P e' f' → e < e' ∨ (e = e' ∧ f < f')) (h1 : ∀ e' f', P e' f' → P' e' f') (h2 : P' e f) (h3 : ∀ e' f', P' e' f' → P e' f' ∨ (e' = e ∧ f' = f)) (h4 : 0 < hd M R.hi R.hi2 e f) :
    (n ≤ hd M R.hi R.hi2 e f → BQ M R P' e f (hd M R.hi R.hi2 e f)) ∧ (¬ n ≤ hd M R.hi R.hi2 e f → BQ M R P' i j n) := by
  constructor
  · intro h
    refine ⟨fun z => by omega, fun _ => ⟨h2, Nat.le_refl _⟩, fun e' f' hp => ?_⟩
    rcases h3 e' f' hp with q | ⟨rfl, rfl⟩
    · have a := (b.mx e' f' q).1
      have o := ho _ _ q
      exact ⟨by omega, fun z _ => by omega⟩
    · exact ⟨Nat.le_refl _, fun _ _ => .inr ⟨rfl, Nat.le_refl _⟩⟩
  · intro h
    refine ⟨b.z, fun h0 => ⟨h1 _ _ (b.at_ h0).1, (b.at_ h0).2⟩, fun e' f' hp => ?_⟩
    rcases h3 e' f' hp with q | ⟨rfl, rfl⟩
    · exact b.mx e' f' q
    · exact ⟨by omega, fun z h0 => by omega⟩
theorem BQ.best {M : Nat → Nat → Bool} {R : Rg} {P : Nat → Nat → Prop} {i j n : Nat} (w : R.wf) (b : BQ M R P i j n) (h1 : ∀ e f, P e f → R.lo ≤ e ∧ R.lo2 ≤ f) (h2 : ∀ e f, R.lo ≤ e → R.lo2 ≤ f → e < R.hi → f < R.hi2 → P e f) : Best M R i j n := by
  have hr : RunM M R i j n := by
    by_cases h0 : n = 0
    · obtain ⟨z1, z2⟩ := b.z h0
      subst h0
      have := w.1
      have := w.2
      exact ⟨by omega, by omega, by omega, by omega, fun k hk => absurd hk (Nat.not_lt_zero _)⟩
    · obtain ⟨p, q⟩ := b.at_ (by omega)
      have bd := h1 _ _ p
      obtain ⟨r1, r2, r3⟩ := hd_run n _ _ q (by omega)
      exact ⟨by omega, by omega, by omega, by omega, r3⟩
  refine ⟨b.z, hr, fun i' j' n' h => ?_⟩
  by_cases h0 : n' = 0
  · subst h0
    exact ⟨Nat.zero_le _, fun z h0 => by omega⟩
  · obtain ⟨a1, a2, a3, a4, a5⟩ := h
    have t := hd_max (M := M) n' i' j' a2 a4 a5
    have p := h2 i' j' a1 a3 (by omega) (by omega)
    obtain ⟨m1, m2⟩ := b.mx _ _ p
    exact ⟨by omega, fun z h0 => m2 (by omega) h0⟩
/-! ### growth -/
def back (G : Nat → Nat → Bool) (lo lo2 : Nat) : Nat → Nat → Nat
  | i + 1, j + 1 => if lo ≤ i ∧ lo2 ≤ j ∧ G i j = true then back G lo lo2 i j + 1 else 0
  | _, _ => 0
theorem back_le {G : Nat → Nat → Bool} {lo lo2 : Nat} : ∀ i j, back G lo lo2 i j ≤ i ∧ back G lo lo2 i j ≤ j
  | 0, j => by simp [back]
  | i + 1, 0 => by simp [back]
  | i + 1, j + 1 => by
    have ih := back_le (G := G) (lo := lo) (lo2 := lo2) i j
    unfold back
    split <;> omega
theorem back_yes {G : Nat → Nat → Bool} {lo lo2 i j : Nat} (h1 : lo ≤ i) (h2 : lo2 ≤ j) (h : G i j = true) : back G lo lo2 (i + 1) (j + 1) = back G lo lo2 i j + 1 := by
  rw [back, if_pos ⟨h1, h2, h⟩]
theorem back_no {G : Nat → Nat → Bool} {lo lo2 i j : Nat} (h : ¬ (lo ≤ i ∧ lo2 ≤ j ∧ G i j = true)) : back G lo lo2 (i + 1) (j + 1) = 0 := by
  rw [back, if_neg h]
theorem back_lo {G : Nat → Nat → Bool} {lo lo2 i j : Nat} (h : ¬ (lo < i ∧ lo2 < j)) : back G lo lo2 i j = 0 := by
  match i, j with
  | 0, _ => simp [back]
  | i + 1, 0 => simp [back]
  | i + 1, j + 1 => exact back_no (by omega)
theorem back_in {G : Nat → Nat → Bool} {lo lo2 : Nat} : ∀ i j, lo ≤ i → lo2 ≤ j → lo ≤ i - back G lo lo2 i j ∧ lo2 ≤ j - back G lo lo2 i j ∧ ∀ k, k < back G lo lo2 i j → G (i - back G lo lo2 i j + k) (j - back G lo lo2 i j + k) = true
  | 0, j, h1, h2 => by simp [back]; omega
  | i + 1, 0, h1, h2 => by simp [back]; omega
  | i + 1, j + 1, h1, h2 => by
    by_cases c : lo ≤ i ∧ lo2 ≤ j ∧ G i j = true
    · rw [back_yes c.1 c.2.1 c.2.2]
      obtain ⟨a1, a2, a3⟩ := back_in (G := G) (lo := lo) (lo2 := lo2) i j c.1 c.2.1
      have l := back_le (G := G) (lo := lo) (lo2 := lo2) i j
      refine ⟨by omega, by omega, fun k hk => ?_⟩
      by_cases hl : k = back G lo lo2 i j
      · have e1 : i + 1 - (back G lo lo2 i j + 1) + k = i := by omega
        have e2 : j + 1 - (back G lo lo2 i j + 1) + k = j := by omega
        rw [e1, e2]
        exact c.2.2
      · have := a3 k (by omega)
        rw [show i + 1 - (back G lo lo2 i j + 1) + k = i - back G lo lo2 i j + k by omega, show j + 1 - (back G lo lo2 i j + 1) + k = j - back G lo lo2 i j + k by omega]
        exact this
    · rw [back_no c]
      exact ⟨by omega, by omega, fun k hk => absurd hk (Nat.not_lt_zero _)⟩
/-- as far as it goes at the end: hd -/
def grow (G : Nat → Nat → Bool) (R : Rg) (p : Bk) : Bk :=
  (p.1 - back G R.lo R.lo2 p.1 p.2.1, p.2.1 - back G R.lo R.lo2 p.1 p.2.1, p.2.2 + back G R.lo R.lo2 p.1 p.2.1 + hd G R.hi R.hi2 (p.1 + p.2.2) (p.2.1 + p.2.2))
/-- a block of the part that lies by E -/
def InR (E : Nat → Nat → Bool) (R : Rg) (p : Bk) : Prop := RunM E R p.1 p.2.1 p.2.2
theorem grow_in {E G : Nat → Nat → Bool} {R : Rg} {p : Bk} (hG : ∀ i j, G i j = true → E i j = true) (h : InR E R p) : InR E R (grow G R p) ∧ p.2.2 ≤ (grow G R p).2.2 := by
  obtain ⟨i, j, n⟩ := p
  obtain ⟨h1, h2, h3, h4, h5⟩ := h
  simp only at h1 h2 h3 h4 h5
  obtain ⟨b1, b2, b3⟩ := back_in (G := G) (lo := R.lo) (lo2 := R.lo2) i j h1 h3
  have bl := back_le (G := G) (lo := R.lo) (lo2 := R.lo2) i j
  have f : i + n + hd G R.hi R.hi2 (i + n) (j + n) ≤ R.hi ∧ j + n + hd G R.hi R.hi2 (i + n) (j + n) ≤ R.hi2 ∧ ∀ k, k < hd G R.hi R.hi2 (i + n) (j + n) → G (i + n + k) (j + n + k) = true := by
    by_cases h0 : hd G R.hi R.hi2 (i + n) (j + n) = 0
    · rw [h0]
      exact ⟨by omega, by omega, fun k hk => absurd hk (Nat.not_lt_zero _)⟩
    · exact hd_run _ _ _ (Nat.le_refl _) (by omega)
  obtain ⟨f1, f2, f3⟩ := f
  refine ⟨⟨b1, ?_, b2, ?_, ?_⟩, ?_⟩
  · show i - back G R.lo R.lo2 i j + (n + back G R.lo R.lo2 i j + hd G R.hi R.hi2 (i + n) (j + n)) ≤ R.hi
    omega
  · show j - back G R.lo R.lo2 i j + (n + back G R.lo R.lo2 i j + hd G R.hi R.hi2 (i + n) (j + n)) ≤ R.hi2
    omega
  · show ∀ k, k < n + back G R.lo R.lo2 i j + hd G R.hi R.hi2 (i + n) (j + n) → E (i - back G R.lo R.lo2 i j + k) (j - back G R.lo R.lo2 i j + k) = true
    intro k hk
    by_cases c1 : k < back G R.lo R.lo2 i j
    · exact hG _ _ (b3 k c1)
    · by_cases c2 : k < back G R.lo R.lo2 i j + n
      · have := h5 (k - back G R.lo R.lo2 i j) (by omega)
        rw [show i - back G R.lo R.lo2 i j + k = i + (k - back G R.lo R.lo2 i j) by omega, show j - back G R.lo R.lo2 i j + k = j + (k - back G R.lo R.lo2 i j) by omega]
        exact this
      · have := hG _ _ (f3 (k - back G R.lo R.lo2 i j - n) (by omega))
        rw [show i - back G R.lo R.lo2 i j + k = i + n + (k - back G R.lo R.lo2 i j - n) by omega, show j - back G R.lo R.lo2 i j + k = j + n + (k - back G R.lo R.lo2 i j - n) by omega]
        exact this
  · show n ≤ n + back G R.lo R.lo2 i j + hd G R.hi R.hi2 (i + n) (j + n)
    omega
end
end Tw
end
section
/-! plain mathematics: the blocks of a part, joined blocks, codes -/
namespace Tw
/-- the longest match of a part -/
noncomputable def lm (M : Nat → Nat → Bool) (G : Bool → Nat → Nat → Bool) (R : Rg) : Bk := grow (G true) R (grow (G false) R (best M R))
structure MGE (M : Nat → Nat → Bool) (G : Bool → Nat → Nat → Bool) (E : Nat → Nat → Bool) : Prop where
  m : ∀ i j, M i j = true → E i j = true
  g : ∀ q i j, G q i j = true → E i j = true
section
variable {M : Nat → Nat → Bool} {G : Bool → Nat → Nat → Bool} {E : Nat → Nat → Bool} {R : Rg}
theorem lm_in (h : MGE M G E) (w : R.wf) : InR E R (lm M G R) := by
  have b := best_spec (M := M) w
  have i0 : InR E R (best M R) := ⟨b.run.1, b.run.2.1, b.run.2.2.1, b.run.2.2.2.1, fun k hk => h.m _ _ (b.run.2.2.2.2 k hk)⟩
  exact (grow_in (h.g true) (grow_in (h.g false) i0).1).1
theorem lm_ge (h : MGE M G E) (w : R.wf) : (best M R).2.2 ≤ (lm M G R).2.2 := by
  have b := best_spec (M := M) w
  have i0 : InR E R (best M R) := ⟨b.run.1, b.run.2.1, b.run.2.2.1, b.run.2.2.2.1, fun k hk => h.m _ _ (b.run.2.2.2.2 k hk)⟩
  exact Nat.le_trans (grow_in (h.g false) i0).2 (grow_in (h.g true) (grow_in (h.g false) i0).1).2
end
/-- the blocks of a part -/
noncomputable def rc (M : Nat → Nat → Bool) (G : Bool → Nat → Nat → Bool) (R : Rg) : List Bk :=
  if h : 0 < (lm M G R).2.2 ∧ R.lo ≤ (lm M G R).1 ∧ (lm M G R).1 + (lm M G R).2.2 ≤ R.hi then
    rc M G ⟨R.lo, (lm M G R).1, R.lo2, (lm M G R).2.1⟩ ++ lm M G R :: rc M G ⟨(lm M G R).1 + (lm M G R).2.2, R.hi, (lm M G R).2.1 + (lm M G R).2.2, R.hi2⟩
  else []
termination_by R.hi - R.lo
decreasing_by
  · omega
  · omega
section
variable {M : Nat → Nat → Bool} {G : Bool → Nat → Nat → Bool} {E : Nat → Nat → Bool} {R : Rg}
theorem rc_none (h : (lm M G R).2.2 = 0) : rc M G R = [] := by
  rw [rc, dif_neg (by omega)]
theorem rc_some (h : MGE M G E) (w : R.wf) {i j n : Nat} (e : lm M G R = (i, j, n)) (h0 : 0 < n) :
    rc M G R = rc M G ⟨R.lo, i, R.lo2, j⟩ ++ (i, j, n) :: rc M G ⟨i + n, R.hi, j + n, R.hi2⟩ := by
  have z := lm_in h w
  rw [e] at z
  have c : 0 < (lm M G R).2.2 ∧ R.lo ≤ (lm M G R).1 ∧ (lm M G R).1 + (lm M G R).2.2 ≤ R.hi := by
    rw [e]
    exact ⟨h0, z.1, z.2.1⟩
  rw [rc, dif_pos c, e]
theorem wf_left (h : InR E R (i, j, n)) : Rg.wf ⟨R.lo, i, R.lo2, j⟩ := ⟨h.1, h.2.2.1⟩
theorem wf_right (h : InR E R (i, j, n)) : Rg.wf ⟨i + n, R.hi, j + n, R.hi2⟩ := ⟨h.2.1, h.2.2.2.1⟩
/-! ### chains -/
/-- equal things lie at a block -/
def EqB (E : Nat → Nat → Bool) (i j n : Nat) : Prop := ∀ k, k < n → E (i + k) (j + k) = true
def Ch (E : Nat → Nat → Bool) (gap : Rg → Prop) : Nat → Nat → List Bk → Nat → Nat → Prop
  | lo, lo2, [], hi, hi2 => lo ≤ hi ∧ lo2 ≤ hi2 ∧ gap ⟨lo, hi, lo2, hi2⟩
  | lo, lo2, (i, j, n) :: r, hi, hi2 => lo ≤ i ∧ lo2 ≤ j ∧ 0 < n ∧ EqB E i j n ∧ gap ⟨lo, i, lo2, j⟩ ∧ Ch E gap (i + n) (j + n) r hi hi2
theorem Ch.app {gap : Rg → Prop} : ∀ {l1 l2 : List Bk} {lo lo2 i j n hi hi2 : Nat}, Ch E gap lo lo2 l1 i j → 0 < n → EqB E i j n → Ch E gap (i + n) (j + n) l2 hi hi2 → Ch E gap lo lo2 (l1 ++ (i, j, n) :: l2) hi hi2
  | [], l2, lo, lo2, i, j, n, hi, hi2, h1, h2, h3, h4 => ⟨h1.1, h1.2.1, h2, h3, h1.2.2, h4⟩
  | (i', j', n') :: r, l2, lo, lo2, i, j, n, hi, hi2, h1, h2, h3, h4 => ⟨h1.1, h1.2.1, h1.2.2.1, h1.2.2.2.1, h1.2.2.2.2.1, Ch.app h1.2.2.2.2.2 h2 h3 h4⟩
theorem rc_chain_aux (h : MGE M G E) : ∀ (d : Nat) (R : Rg), R.hi - R.lo ≤ d → R.wf → Ch E (fun R => (lm M G R).2.2 = 0) R.lo R.lo2 (rc M G R) R.hi R.hi2 := by
  intro d
  induction d with
  | zero =>
    intro R hd w
    have z := lm_in h w
    have e : (lm M G R).2.2 = 0 := by
      have := z.2.1
      have := z.1
      omega
    rw [rc_none e]
    exact ⟨w.1, w.2, e⟩
  | succ d ih =>
    intro R hd w
    by_cases e : (lm M G R).2.2 = 0
    · rw [rc_none e]
      exact ⟨w.1, w.2, e⟩
    · have z := lm_in h w
      obtain ⟨i, j, n, eq⟩ : ∃ i j n, lm M G R = (i, j, n) := ⟨_, _, _, rfl⟩
      rw [eq] at z e
      have h0 : 0 < n := Nat.pos_of_ne_zero e
      rw [rc_some h w eq h0]
      have z1 := z.1
      have z2 := z.2.1
      simp only at z1 z2
      exact Ch.app (ih ⟨R.lo, i, R.lo2, j⟩ (by simp only; omega) (wf_left z)) h0 z.2.2.2.2 (ih ⟨i + n, R.hi, j + n, R.hi2⟩ (by simp only; omega) (wf_right z))
theorem rc_chain (h : MGE M G E) (w : R.wf) : Ch E (fun R => (lm M G R).2.2 = 0) R.lo R.lo2 (rc M G R) R.hi R.hi2 := rc_chain_aux h _ R (Nat.le_refl _) w
/-! ### they stand in order -/
theorem Ch.ge {gap : Rg → Prop} : ∀ {l : List Bk} {lo lo2 hi hi2 : Nat}, Ch E gap lo lo2 l hi hi2 → ∀ b ∈ l, lo ≤ b.1
  | [], _, _, _, _, _, b, hb => by cases hb
  | (i, j, n) :: r, lo, lo2, hi, hi2, h, b, hb => by
    rcases List.mem_cons.mp hb with e | hb
    · rw [e]; exact h.1
    · have := h.2.2.2.2.2.ge b hb
      have := h.1
      omega
theorem Ch.sorted {gap : Rg → Prop} : ∀ {l : List Bk} {lo lo2 hi hi2 : Nat}, Ch E gap lo lo2 l hi hi2 → l.Pairwise fun x y => x.1 < y.1
  | [], _, _, _, _, _ => List.Pairwise.nil
  | (i, j, n) :: r, lo, lo2, hi, hi2, h => by
    refine List.Pairwise.cons (fun b hb => ?_) h.2.2.2.2.2.sorted
    have := h.2.2.2.2.2.ge b hb
    have := h.2.2.1
    show i < b.1
    omega
theorem Ch.in_ {gap : Rg → Prop} : ∀ {l : List Bk} {lo lo2 hi hi2 : Nat}, Ch E gap lo lo2 l hi hi2 → ∀ b ∈ l, lo ≤ b.1 ∧ lo2 ≤ b.2.1 ∧ 0 < b.2.2 ∧ b.1 + b.2.2 ≤ hi ∧ b.2.1 + b.2.2 ≤ hi2 ∧ EqB E b.1 b.2.1 b.2.2
  | [], _, _, _, _, _, b, hb => by cases hb
  | (i, j, n) :: r, lo, lo2, hi, hi2, h, b, hb => by
    have le : ∀ {l : List Bk} {lo lo2 : Nat}, Ch E gap lo lo2 l hi hi2 → lo ≤ hi ∧ lo2 ≤ hi2 := by
      intro l
      induction l with
      | nil => intro lo lo2 h; exact ⟨h.1, h.2.1⟩
      | cons b r ih =>
        intro lo lo2 h
        obtain ⟨i, j, n⟩ := b
        have := ih h.2.2.2.2.2
        have := h.1
        have := h.2.1
        omega
    rcases List.mem_cons.mp hb with e | hb
    · rw [e]
      have := le h.2.2.2.2.2
      exact ⟨h.1, h.2.1, h.2.2.1, this.1, this.2, h.2.2.2.1⟩
    · have q := h.2.2.2.2.2.in_ b hb
      have := h.1
      have := h.2.1
      exact ⟨by omega, by omega, q.2.2.1, q.2.2.2.1, q.2.2.2.2.1, q.2.2.2.2.2⟩
/-- a rearrangement of such a list that is sorted is it -/
theorem perm_sorted : ∀ {l m : List Bk}, l.Pairwise (fun x y => x.1 < y.1) → m.Pairwise (fun x y => ¬ y.1 < x.1) → m.Perm l → m = l
  | [], m, _, _, p => List.Perm.eq_nil p
  | x :: l, [], _, _, p => absurd p.length_eq (by simp)
  | x :: l, y :: m, hl, hm, p => by
    have a := List.pairwise_cons.mp hl
    have b := List.pairwise_cons.mp hm
    have e : y = x := by
      rcases List.mem_cons.mp (p.mem_iff.mp (List.mem_cons_self (a := y) (l := m))) with e | hy
      · exact e
      · rcases List.mem_cons.mp (p.mem_iff.mpr (List.mem_cons_self (a := x) (l := l))) with e | hx
        · exact e.symm
        · have h1 := a.1 y hy
          have h2 := b.1 x hx
          omega
    subst e
    rw [perm_sorted a.2 b.2 (List.Perm.cons_inv p)]
/-! ### the stack -/
def mu (ws : List Rg) : Nat := (ws.map fun R => 2 * (R.hi - R.lo) + 1).sum
theorem mu_pop (ws : List Rg) (R : Rg) : mu ws < mu (ws ++ [R]) := by
  unfold mu
  rw [List.map_append, List.sum_append]
  simp
theorem mu_two (ws : List Rg) (R : Rg) {i j n : Nat} (h0 : 0 < n) (h1 : R.lo ≤ i) (h2 : i + n ≤ R.hi) : mu (ws ++ [⟨R.lo, i, R.lo2, j⟩, ⟨i + n, R.hi, j + n, R.hi2⟩]) < mu (ws ++ [R]) := by
  unfold mu
  rw [List.map_append, List.map_append, List.sum_append, List.sum_append]
  simp
  omega
/-! ### neighbours joined -/
def mgo (c : Bk) : List Bk → List Bk
  | [] => [c]
  | b :: r => if c.1 + c.2.2 = b.1 ∧ c.2.1 + c.2.2 = b.2.1 then mgo (c.1, c.2.1, c.2.2 + b.2.2) r else c :: mgo b r
def mg : List Bk → List Bk
  | [] => []
  | c :: r => mgo c r
/-- a chain, no two neighbours touch (t: nor the first one what is ahead) -/
def SC (E : Nat → Nat → Bool) (gap : Rg → Prop) : Bool → Nat → Nat → List Bk → Nat → Nat → Prop
  | _, lo, lo2, [], hi, hi2 => lo ≤ hi ∧ lo2 ≤ hi2 ∧ gap ⟨lo, hi, lo2, hi2⟩
  | t, lo, lo2, (i, j, n) :: r, hi, hi2 => lo ≤ i ∧ lo2 ≤ j ∧ 0 < n ∧ EqB E i j n ∧ gap ⟨lo, i, lo2, j⟩ ∧ (t = true → ¬ (lo = i ∧ lo2 = j)) ∧ SC E gap true (i + n) (j + n) r hi hi2
theorem mgo_sc {gap : Rg → Prop} : ∀ {r : List Bk} {t : Bool} {lo lo2 i j n hi hi2 : Nat}, lo ≤ i → lo2 ≤ j → 0 < n → EqB E i j n → gap ⟨lo, i, lo2, j⟩ → (t = true → ¬ (lo = i ∧ lo2 = j)) → Ch E gap (i + n) (j + n) r hi hi2 → SC E gap t lo lo2 (mgo (i, j, n) r) hi hi2
  | [], t, lo, lo2, i, j, n, hi, hi2, h1, h2, h3, h4, h5, h6, h7 => ⟨h1, h2, h3, h4, h5, h6, h7⟩
  | (i', j', n') :: r, t, lo, lo2, i, j, n, hi, hi2, h1, h2, h3, h4, h5, h6, h7 => by
    unfold mgo
    by_cases c : i + n = i' ∧ j + n = j'
    · rw [if_pos c]
      obtain ⟨rfl, rfl⟩ := c
      show SC E gap t lo lo2 (mgo (i, j, n + n') r) hi hi2
      refine mgo_sc h1 h2 (by omega) (fun k hk => ?_) h5 h6 ?_
      · by_cases hl : k < n
        · exact h4 k hl
        · have := h7.2.2.2.1 (k - n) (by omega)
          rw [show i + k = i + n + (k - n) by omega, show j + k = j + n + (k - n) by omega]
          exact this
      · have := h7.2.2.2.2.2
        rw [show i + (n + n') = i + n + n' by omega, show j + (n + n') = j + n + n' by omega]
        exact this
    · rw [if_neg c]
      exact ⟨h1, h2, h3, h4, h5, h6, mgo_sc h7.1 h7.2.1 h7.2.2.1 h7.2.2.2.1 h7.2.2.2.2.1 (fun _ => c) h7.2.2.2.2.2⟩
theorem mg_sc {gap : Rg → Prop} : ∀ {l : List Bk} {lo lo2 hi hi2 : Nat}, Ch E gap lo lo2 l hi hi2 → SC E gap false lo lo2 (mg l) hi hi2
  | [], _, _, _, _, h => h
  | (i, j, n) :: r, _, _, _, _, h => mgo_sc h.1 h.2.1 h.2.2.1 h.2.2.2.1 h.2.2.2.2.1 (fun z => by cases z) h.2.2.2.2.2
/-- B holds b, on the same diagonal -/
def Hold (B b : Bk) : Prop := B.1 ≤ b.1 ∧ b.1 + b.2.2 ≤ B.1 + B.2.2 ∧ b.2.1 + B.1 = B.2.1 + b.1
theorem Hold.trans {A B C : Bk} (h : Hold A B) (h' : Hold B C) : Hold A C := by
  obtain ⟨a1, a2, a3⟩ := h
  obtain ⟨b1, b2, b3⟩ := h'
  exact ⟨by omega, by omega, by omega⟩
theorem mgo_hold : ∀ {r : List Bk} {c : Bk}, (∃ B ∈ mgo c r, Hold B c) ∧ ∀ b ∈ r, ∃ B ∈ mgo c r, Hold B b
  | [], c => ⟨⟨c, List.mem_singleton.mpr rfl, Nat.le_refl _, Nat.le_refl _, rfl⟩, fun b hb => by cases hb⟩
  | b :: r, c => by
    unfold mgo
    by_cases h : c.1 + c.2.2 = b.1 ∧ c.2.1 + c.2.2 = b.2.1
    · rw [if_pos h]
      obtain ⟨⟨B, hB, hh⟩, ih⟩ := mgo_hold (r := r) (c := (c.1, c.2.1, c.2.2 + b.2.2))
      have hc : Hold (c.1, c.2.1, c.2.2 + b.2.2) c := ⟨Nat.le_refl _, by show c.1 + c.2.2 ≤ c.1 + (c.2.2 + b.2.2); omega, rfl⟩
      have hb : Hold (c.1, c.2.1, c.2.2 + b.2.2) b := ⟨by show c.1 ≤ b.1; omega, by show b.1 + b.2.2 ≤ c.1 + (c.2.2 + b.2.2); omega, by show b.2.1 + c.1 = c.2.1 + b.1; omega⟩
      refine ⟨⟨B, hB, hh.trans hc⟩, fun b' hb' => ?_⟩
      rcases List.mem_cons.mp hb' with e | hb'
      · rw [e]; exact ⟨B, hB, hh.trans hb⟩
      · exact ih b' hb'
    · rw [if_neg h]
      obtain ⟨⟨B, hB, hh⟩, ih⟩ := mgo_hold (r := r) (c := b)
      refine ⟨⟨c, List.mem_cons_self, Nat.le_refl _, Nat.le_refl _, rfl⟩, fun b' hb' => ?_⟩
      rcases List.mem_cons.mp hb' with e | hb'
      · rw [e]; exact ⟨B, List.mem_cons_of_mem _ hB, hh⟩
      · obtain ⟨B', h1, h2⟩ := ih b' hb'
        exact ⟨B', List.mem_cons_of_mem _ h1, h2⟩
theorem mg_hold {l : List Bk} {b : Bk} (h : b ∈ l) : ∃ B ∈ mg l, Hold B b := by
  cases l with
  | nil => cases h
  | cons c r =>
    rcases List.mem_cons.mp h with e | h
    · rw [e]; exact mgo_hold.1
    · exact mgo_hold.2 b h
/-- the first match of a part is one of its blocks -/
theorem lm_mem (h : MGE M G E) (w : R.wf) (h0 : (lm M G R).2.2 ≠ 0) : lm M G R ∈ rc M G R := by
  rw [rc_some h w (i := (lm M G R).1) (j := (lm M G R).2.1) (n := (lm M G R).2.2) rfl (Nat.pos_of_ne_zero h0)]
  exact List.mem_append_right _ List.mem_cons_self
theorem mgo_len : ∀ {r : List Bk} {c : Bk}, (mgo c r).length ≤ r.length + 1
  | [], c => Nat.le_refl _
  | b :: r, c => by
    unfold mgo
    split
    · have := mgo_len (r := r) (c := (c.1, c.2.1, c.2.2 + b.2.2))
      simp only [List.length_cons]
      omega
    · have := mgo_len (r := r) (c := b)
      simp only [List.length_cons]
      omega
theorem Ch.len {gap : Rg → Prop} : ∀ {l : List Bk} {lo lo2 hi hi2 : Nat}, Ch E gap lo lo2 l hi hi2 → l.length + lo ≤ hi
  | [], _, _, _, _, h => by have := h.1; simp; omega
  | (i, j, n) :: r, lo, lo2, hi, hi2, h => by
    have := h.2.2.2.2.2.len
    have := h.1
    have := h.2.2.1
    simp only [List.length_cons]
    omega
end
end Tw
end
section
/-! plain mathematics: codes, sequences -/
namespace Tw
inductive Wd where
  | eq | rep | del | ins
  deriving DecidableEq
abbrev Cd := Wd × Nat × Nat × Nat × Nat
def wb (i i2 j j2 : Nat) : Option Wd := if i < i2 ∧ j < j2 then some .rep else if i < i2 then some .del else if j < j2 then some .ins else none
theorem wb_ne {i i2 j j2 : Nat} {w : Wd} (h : wb i i2 j j2 = some w) : w ≠ .eq := by
  unfold wb at h
  split at h
  · cases h; decide
  · split at h
    · cases h; decide
    · split at h
      · cases h; decide
      · cases h
theorem wb_none {i i2 j j2 : Nat} (h : wb i i2 j j2 = none) : i2 ≤ i ∧ j2 ≤ j := by
  unfold wb at h
  split at h
  · cases h
  · split at h
    · cases h
    · split at h
      · cases h
      · omega
/-- the codes of some blocks, from (i, j) on -/
def cgo : Nat → Nat → List Bk → List Cd
  | _, _, [] => []
  | i, j, (b, b2, n) :: r => (match wb i b j b2 with | some w => [(w, i, b, j, b2)] | none => []) ++ ((if 0 < n then [(Wd.eq, b, b + n, b2, b2 + n)] else []) ++ cgo (b + n) (b2 + n) r)
section
variable {E : Nat → Nat → Bool}
structure CR (E : Nat → Nat → Bool) (la lb : Nat) (c : Cd) : Prop where
  h1 : c.2.1 ≤ c.2.2.1
  h2 : c.2.2.1 ≤ la
  h3 : c.2.2.2.1 ≤ c.2.2.2.2
  h4 : c.2.2.2.2 ≤ lb
  eq : c.1 = .eq → c.2.1 < c.2.2.1 ∧ c.2.2.2.2 = c.2.2.2.1 + (c.2.2.1 - c.2.1) ∧ EqB E c.2.1 c.2.2.2.1 (c.2.2.1 - c.2.1)
  ne : c.1 ≠ .eq → wb c.2.1 c.2.2.1 c.2.2.2.1 c.2.2.2.2 = some c.1
def COk (E : Nat → Nat → Bool) (la lb : Nat) : Nat → Nat → Option Wd → List Cd → Prop
  | i, j, _, [] => i = la ∧ j = lb
  | i, j, last, c :: r => c.2.1 = i ∧ c.2.2.2.1 = j ∧ CR E la lb c ∧ (∀ l, last = some l → (l = .eq ↔ c.1 ≠ .eq)) ∧ COk E la lb c.2.2.1 c.2.2.2.2 (some c.1) r
theorem SC.le {gap : Rg → Prop} : ∀ {l : List Bk} {t : Bool} {lo lo2 hi hi2 : Nat}, SC E gap t lo lo2 l hi hi2 → lo ≤ hi ∧ lo2 ≤ hi2
  | [], _, _, _, _, _, h => ⟨h.1, h.2.1⟩
  | (i, j, n) :: r, _, _, _, _, _, h => by
    have := h.2.2.2.2.2.2.le
    have := h.1
    have := h.2.1
    omega
theorem cgo_ok {gap : Rg → Prop} {la lb : Nat} : ∀ {l : List Bk} {t : Bool} {i j : Nat} {last : Option Wd}, SC E gap t i j l la lb → (t = false → last = none) → (t = true → last = some .eq) → COk E la lb i j last (cgo i j (l ++ [(la, lb, 0)]))
  | [], t, i, j, last, h, h1, h2 => by
    show COk E la lb i j last (cgo i j [(la, lb, 0)])
    unfold cgo
    cases e : wb i la j lb with
    | none =>
      have := wb_none e
      have := h.1
      have := h.2.1
      show COk E la lb i j last []
      exact ⟨by omega, by omega⟩
    | some w =>
      have hw := wb_ne e
      show COk E la lb i j last [(w, i, la, j, lb)]
      refine ⟨rfl, rfl, ⟨h.1, Nat.le_refl _, h.2.1, Nat.le_refl _, fun z => absurd z hw, fun _ => e⟩, fun l hl => ?_, rfl, rfl⟩
      cases t with
      | false => rw [h1 rfl] at hl; cases hl
      | true =>
        rw [h2 rfl] at hl
        cases hl
        exact ⟨fun _ => hw, fun _ => rfl⟩
  | (b, b2, n) :: r, t, i, j, last, h, h1, h2 => by
    show COk E la lb i j last (cgo i j ((b, b2, n) :: (r ++ [(la, lb, 0)])))
    unfold cgo
    obtain ⟨g1, g2, g3, g4, g5, g6, g7⟩ := h
    have ih := cgo_ok (last := some .eq) g7 (fun z => by cases z) (fun _ => rfl)
    have le := g7.le
    rw [if_pos g3]
    have ce : CR E la lb (Wd.eq, b, b + n, b2, b2 + n) := ⟨Nat.le_add_right _ _, le.1, Nat.le_add_right _ _, le.2, fun _ => ⟨by show b < b + n; omega, by show b2 + n = b2 + (b + n - b); omega, by show EqB E b b2 (b + n - b); rw [Nat.add_sub_cancel_left]; exact g4⟩, fun z => absurd rfl z⟩
    cases e : wb i b j b2 with
    | none =>
      have z := wb_none e
      have e1 : i = b := by omega
      have e2 : j = b2 := by omega
      cases t with
      | true => exact absurd ⟨e1, e2⟩ (g6 rfl)
      | false =>
        show COk E la lb i j last ((Wd.eq, b, b + n, b2, b2 + n) :: cgo (b + n) (b2 + n) (r ++ [(la, lb, 0)]))
        refine ⟨e1.symm, e2.symm, ce, fun l hl => ?_, ih⟩
        rw [h1 rfl] at hl; cases hl
    | some w =>
      have hw := wb_ne e
      show COk E la lb i j last ((w, i, b, j, b2) :: (Wd.eq, b, b + n, b2, b2 + n) :: cgo (b + n) (b2 + n) (r ++ [(la, lb, 0)]))
      refine ⟨rfl, rfl, ⟨g1, by show b ≤ la; omega, g2, by show b2 ≤ lb; omega, fun z => absurd z hw, fun _ => e⟩, fun l hl => ?_, rfl, rfl, ce, fun l hl => ?_, ih⟩
      · cases t with
        | false => rw [h1 rfl] at hl; cases hl
        | true =>
          rw [h2 rfl] at hl
          cases hl
          exact ⟨fun _ => hw, fun _ => rfl⟩
      · cases hl
        exact ⟨fun z => absurd z hw, fun z => absurd rfl z⟩
theorem cgo_len : ∀ (l : List Bk) (i j : Nat), (cgo i j l).length ≤ 2 * l.length
  | [], _, _ => Nat.le_refl _
  | (b, b2, n) :: r, i, j => by
    have ih := cgo_len r (b + n) (b2 + n)
    unfold cgo
    rw [List.length_append, List.length_append, List.length_cons]
    have h2 : (if 0 < n then [(Wd.eq, b, b + n, b2, b2 + n)] else []).length ≤ 1 := by split <;> simp
    split
    · simp only [List.length_singleton]; omega
    · simp only [List.length_nil]; omega
end
/-! ### sequences -/
section
variable {α : Type} [DecidableEq α]
def eqB (a b : List α) (i j : Nat) : Bool := match a[i]?, b[j]? with
  | some x, some y => decide (x = y)
  | _, _ => false
def mtB (a b : List α) (sk : α → Bool) (i j : Nat) : Bool := match a[i]?, b[j]? with
  | some x, some y => decide (x = y) && !sk x
  | _, _ => false
def gqB (a b : List α) (jk : α → Bool) (q : Bool) (i j : Nat) : Bool := match a[i]?, b[j]? with
  | some x, some y => decide (x = y) && (jk y == q)
  | _, _ => false
variable {a b : List α} {sk jk : α → Bool} {i j : Nat} {x y : α}
theorem eqB_at (h1 : a[i]? = some x) (h2 : b[j]? = some y) : eqB a b i j = decide (x = y) := by unfold eqB; rw [h1, h2]
theorem mtB_at (h1 : a[i]? = some x) (h2 : b[j]? = some y) : mtB a b sk i j = (decide (x = y) && !sk x) := by unfold mtB; rw [h1, h2]
theorem gqB_at {q : Bool} (h1 : a[i]? = some x) (h2 : b[j]? = some y) : gqB a b jk q i j = (decide (x = y) && (jk y == q)) := by unfold gqB; rw [h1, h2]
theorem eqB_yes (h : eqB a b i j = true) : ∃ x, a[i]? = some x ∧ b[j]? = some x := by
  unfold eqB at h
  split at h
  · rename_i x y h1 h2
    have e := of_decide_eq_true h
    subst e
    exact ⟨x, h1, h2⟩
  · cases h
theorem mge (a b : List α) (sk jk : α → Bool) : MGE (mtB a b sk) (gqB a b jk) (eqB a b) := by
  refine ⟨fun i j h => ?_, fun q i j h => ?_⟩
  · unfold mtB at h
    split at h
    · rename_i x y h1 h2
      rw [eqB_at h1 h2]
      exact (Bool.and_eq_true_iff.mp h).1
    · cases h
  · unfold gqB at h
    split at h
    · rename_i x y h1 h2
      rw [eqB_at h1 h2]
      exact (Bool.and_eq_true_iff.mp h).1
    · cases h
theorem eqB_cut {n : Nat} (h : EqB (eqB a b) i j n) : (a.drop i).take n = (b.drop j).take n := by
  apply List.ext_getElem?
  intro k
  by_cases hk : k < n
  · rw [List.getElem?_take_of_lt hk, List.getElem?_take_of_lt hk, List.getElem?_drop, List.getElem?_drop]
    obtain ⟨x, h1, h2⟩ := eqB_yes (h k hk)
    rw [h1, h2]
  · rw [List.getElem?_take_eq_none (by omega), List.getElem?_take_eq_none (by omega)]
/-- the whole -/
def Rg.all (a b : List α) : Rg := ⟨0, a.length, 0, b.length⟩
theorem Rg.all_wf (a b : List α) : (Rg.all a b).wf := ⟨Nat.zero_le _, Nat.zero_le _⟩
/-- the longest match of a part, the blocks, by what is junk and what is skipped -/
noncomputable def lmS (a b : List α) (jk sk : α → Bool) (R : Rg) : Bk := lm (mtB a b sk) (gqB a b jk) R
noncomputable def bks (a b : List α) (jk sk : α → Bool) : List Bk := mg (rc (mtB a b sk) (gqB a b jk) (Rg.all a b))
theorem bks_sc (a b : List α) (jk sk : α → Bool) : SC (eqB a b) (fun R => (lmS a b jk sk R).2.2 = 0) false 0 0 (bks a b jk sk) a.length b.length :=
  mg_sc (rc_chain (mge a b sk jk) (Rg.all_wf a b))
theorem bks_hold (a b : List α) (jk sk : α → Bool) (h : (lmS a b jk sk (Rg.all a b)).2.2 ≠ 0) : ∃ B ∈ bks a b jk sk, Hold B (lmS a b jk sk (Rg.all a b)) :=
  mg_hold (lm_mem (mge a b sk jk) (Rg.all_wf a b) h)
theorem rc_len (a b : List α) (jk sk : α → Bool) : (rc (mtB a b sk) (gqB a b jk) (Rg.all a b)).length ≤ a.length := by
  have := (rc_chain (mge a b sk jk) (Rg.all_wf a b)).len
  exact this
theorem bks_len (a b : List α) (jk sk : α → Bool) : (bks a b jk sk).length ≤ a.length := by
  have := rc_len a b jk sk
  unfold bks
  cases h : rc (mtB a b sk) (gqB a b jk) (Rg.all a b) with
  | nil => exact Nat.zero_le _
  | cons c r =>
    rw [h] at this
    have m := mgo_len (r := r) (c := c)
    show (mgo c r).length ≤ _
    simp only [List.length_cons] at this
    omega
/-- x is one of l; how often -/
def memB (x : α) (l : List α) : Bool := l.any fun y => decide (y = x)
theorem memB_iff {x : α} {l : List α} : memB x l = true ↔ x ∈ l := by
  unfold memB
  rw [List.any_eq_true]
  constructor
  · rintro ⟨y, h, e⟩
    rw [← of_decide_eq_true e]
    exact h
  · exact fun h => ⟨x, h, decide_eq_true rfl⟩
theorem memB_no {x : α} {l : List α} : memB x l = false ↔ x ∉ l := by
  rw [← memB_iff]
  cases memB x l <;> simp
def cnt (x : α) (l : List α) : Nat := (l.filter fun y => decide (y = x)).length
/-- what stands too often -/
def popB (b : List α) (waste : List α) (auto : Bool) (x : α) : Bool := auto && (decide (200 ≤ b.length) && (!memB x waste && decide (b.length / 100 + 1 < cnt x b)))
abbrev wsB (waste : List α) (x : α) : Bool := memB x waste
/-- what begins no block -/
def skB (b : List α) (waste : List α) (auto : Bool) (x : α) : Bool := wsB waste x || popB b waste auto x
theorem popB_mem {waste : List α} {auto : Bool} (h : popB b waste auto x = true) : x ∈ b := by
  unfold popB at h
  simp only [Bool.and_eq_true, decide_eq_true_eq] at h
  have h2 := h.2.2.2
  unfold cnt at h2
  have : 0 < (b.filter fun y => decide (y = x)).length := by omega
  obtain ⟨y, hy⟩ := List.exists_mem_of_length_pos this
  obtain ⟨h3, h4⟩ := List.mem_filter.mp hy
  rw [← of_decide_eq_true h4]
  exact h3
/-- without popular things both matchers skip the same -/
theorem skB_same {waste : List α} (h : ∀ x ∈ b, popB b waste true x = false) : skB b waste true = skB b waste false := by
  funext x
  unfold skB
  have e : popB b waste false x = false := by unfold popB; simp
  rw [e]
  cases q : popB b waste true x with
  | false => rfl
  | true => rw [h x (popB_mem q)] at q; cases q
end
end Tw
end
section
/-! the text by places, small words -/
namespace Tw
open PySem PySem.Spec PyProof.Rows L2
def topS (i : Nat) : Stmt := PySem.Challenge.pw_twinseam_k07_whole_blocks_of_long_sequen.main.body.getD i (.Pass ⟨0, 0, 0, 0⟩)
abbrev sIsInt : Stmt := topS 2
abbrev sIsRow : Stmt := topS 3
abbrev sRowOf : Stmt := topS 4
abbrev sWordB : Stmt := topS 7
abbrev sCodesB : Stmt := topS 8
abbrev sIsCode : Stmt := topS 9
abbrev sIsRight : Stmt := topS 10
abbrev sIsCodes : Stmt := topS 11
abbrev sMatcher : Stmt := topS 14
abbrev sInit : Stmt := inClass (topS 14) 0
abbrev sSetOther : Stmt := inClass (topS 14) 2
abbrev sBegun : Stmt := inClass (topS 14) 7
abbrev sGrown : Stmt := inClass (topS 14) 8
abbrev sGoesOn : Stmt := inClass (topS 14) 9
abbrev sLongest : Stmt := inClass (topS 14) 10
abbrev sBlocks : Stmt := inClass (topS 14) 11
abbrev sCodes : Stmt := inClass (topS 14) 12
abbrev sLDraws : Stmt := topS 16
abbrev sLMixed : Stmt := topS 17
abbrev sLTake : Stmt := topS 18
abbrev sLPick : Stmt := topS 19
abbrev sLSame : Stmt := topS 20
abbrev sLPop : Stmt := topS 23
abbrev sLBest : Stmt := topS 24
abbrev sLLong : Stmt := topS 25
abbrev sLRight : Stmt := topS 26
abbrev sLaw : Stmt := topS 27
/-- the built-in names are not hidden -/
structure Bm (mg : Str → Option Value) : Prop where
  len : mg "len" = none
  isi : mg "isinstance" = none
  int : mg "int" = none
  bool : mg "bool" = none
  list : mg "list" = none
  tuple : mg "tuple" = none
  str : mg "str" = none
  all : mg "all" = none
  any : mg "any" = none
  zip : mg "zip" = none
  enum : mg "enumerate" = none
  range : mg "range" = none
  sorted : mg "sorted" = none
/-- a natural number as a value -/
abbrev vN (n : Nat) : V := .int (n : Int)
theorem same_upd {H : Hp} {p : Addr} {o : HO} (h : H p = none) : Same H (upd H p o) := fun b x e => by
  rw [upd_ne (ne_of_none e h)]
  exact e
theorem Same.seqT {K : PySem.W.Frag} {H H' : Hp} {a : Addr} {xs : List V} (e : Same H H') (h : SqT K H a xs) : SqT K H' a xs := by
  rcases h with (h | ⟨o, h⟩) | h
  · exact .inl (.inl (e _ _ h))
  · exact .inl (.inr ⟨o, e _ _ h⟩)
  · exact .inr h
theorem sqL {K : PySem.W.Frag} {H : Hp} {a : Addr} {xs : List V} (h : H a = some (.lst xs)) : SqL K H a xs := .inl (.inl h)
theorem sqT {K : PySem.W.Frag} {H : Hp} {a : Addr} {xs : List V} (h : H a = some (.tup xs)) : SqT K H a xs := .inl (.inl h)
theorem szL {n : Nat} (h : n ≤ 1000000) : n ≤ sizeLine := Nat.le_trans h (by decide)
theorem szl {n : Nat} (h : n ≤ 1000000) : n < sizeLine := Nat.lt_of_le_of_lt h (by decide)
/-- an item as a value -/
abbrev vK (k : Key) : V := kV k
theorem vK_scal (x y : Key) : scal (kV x) (kV y) = true := by cases x <;> cases y <;> rfl
theorem vK_eq (x y : Key) : decide (kV x = kV y) = decide (x = y) := by
  by_cases h : x = y
  · rw [h, decide_eq_true rfl, decide_eq_true rfl]
  · rw [decide_eq_false h, decide_eq_false fun e => h (kV_inj e)]
theorem map_at {α : Type} {f : α → V} {xs : List α} {i : Nat} {x : α} (h : xs[i]? = some x) : (xs.map f)[i]? = some (f x) := by
  rw [List.getElem?_map, h]
  rfl
/-! ### rows of tuples -/
/-- each of xs is a tuple, of these values -/
def AllT (H : Hp) (xs : List V) (ts : List (List V)) : Prop := xs.length = ts.length ∧ ∀ (i : Nat) (x : V), xs[i]? = some x → ∃ p t, x = .ref p ∧ ts[i]? = some t ∧ H p = some (.tup t)
theorem AllT.nil {H : Hp} : AllT H [] [] := ⟨rfl, fun i x h => by simp at h⟩
theorem AllT.same {H H' : Hp} {xs : List V} {ts : List (List V)} (s : Same H H') (h : AllT H xs ts) : AllT H' xs ts := ⟨h.1, fun i x e => by
  obtain ⟨p, t, a, b, c⟩ := h.2 i x e
  exact ⟨p, t, a, b, s _ _ c⟩⟩
theorem AllT.snoc {H : Hp} {xs : List V} {ts : List (List V)} {p : Addr} {t : List V} (h : AllT H xs ts) (hp : H p = some (.tup t)) : AllT H (xs ++ [.ref p]) (ts ++ [t]) := by
  refine ⟨by simp [h.1], fun i x e => ?_⟩
  by_cases hi : i < xs.length
  · rw [List.getElem?_append_left hi] at e
    obtain ⟨p', t', a, b, c⟩ := h.2 i x e
    exact ⟨p', t', a, by rw [List.getElem?_append_left (by rw [← h.1]; exact hi)]; exact b, c⟩
  · rw [List.getElem?_append_right (by omega)] at e
    have e0 : i - xs.length = 0 := by
      have := (List.getElem?_eq_some_iff.mp e).1
      simp at this
      omega
    rw [e0] at e
    refine ⟨p, t, (Option.some.inj e).symm, ?_, hp⟩
    rw [List.getElem?_append_right (by rw [← h.1]; omega), ← h.1, e0]
    rfl
theorem AllT.app {H : Hp} {xs ys : List V} {ts us : List (List V)} (h : AllT H xs ts) (h' : AllT H ys us) : AllT H (xs ++ ys) (ts ++ us) := by
  refine ⟨by simp [h.1, h'.1], fun i x e => ?_⟩
  by_cases hi : i < xs.length
  · rw [List.getElem?_append_left hi] at e
    obtain ⟨p', t', a, b, c⟩ := h.2 i x e
    exact ⟨p', t', a, by rw [List.getElem?_append_left (by rw [← h.1]; exact hi)]; exact b, c⟩
  · rw [List.getElem?_append_right (by omega)] at e
    obtain ⟨p', t', a, b, c⟩ := h'.2 _ x e
    exact ⟨p', t', a, by rw [List.getElem?_append_right (by rw [← h.1]; omega), ← h.1]; exact b, c⟩
theorem AllT.at_ {H : Hp} {xs : List V} {ts : List (List V)} {i : Nat} {t : List V} (h : AllT H xs ts) (e : ts[i]? = some t) : ∃ p, xs[i]? = some (.ref p) ∧ H p = some (.tup t) := by
  have hi : i < xs.length := by rw [h.1]; exact (List.getElem?_eq_some_iff.mp e).1
  obtain ⟨p, t', a, b, c⟩ := h.2 i _ (List.getElem?_eq_getElem hi)
  rw [e] at b
  cases b
  exact ⟨p, by rw [List.getElem?_eq_getElem hi, a], c⟩
/-- a block, a code as values -/
def bkV (b : Bk) : List V := [vN b.1, vN b.2.1, vN b.2.2]
def wdS : Wd → Str
  | .eq => "equal"
  | .rep => "replace"
  | .del => "delete"
  | .ins => "insert"
abbrev wdV (w : Wd) : V := .str (wdS w)
def cdV (c : Cd) : List V := [wdV c.1, vN c.2.1, vN c.2.2.1, vN c.2.2.2.1, vN c.2.2.2.2]
theorem wdS_eq (w : Wd) : decide (wdV w = V.str "equal") = decide (w = .eq) := by cases w <;> decide +kernel
/-! ### isinstance of several built-in types -/
def anyB (a : String) : List String → Option Bool
  | [] => some false
  | b :: r => match kitB a b with
    | some true => some true
    | some false => anyB a r
    | none => none
theorem kit_any {K : PySem.W.Frag} {a : String} : ∀ {l : List String} {r : Bool}, anyB a l = some r → PySem.W.kitAny K (.type a) (l.map Value.type) = some r
  | [], r, h => h
  | b :: l, r, h => by
    unfold anyB at h
    cases e : kitB a b with
    | none => rw [e] at h; cases h
    | some q =>
      rw [e] at h
      cases q with
      | true =>
        have h : some true = some r := h
        exact kitAny_cons (kit_ty e) (fun z => by cases z) (fun _ => (Option.some.inj h).symm)
      | false => exact kitAny_cons (kit_ty e) (fun _ => kit_any h) (fun z => by cases z)
/-! ### in, over items -/
theorem eqV_vK (x y : Key) : eqV (kV x) (kV y) = decide (x = y) := by
  cases x with
  | inl i => cases y with
    | inl j => exact (key_ll i j).symm
    | inr z => rfl
  | inr z => cases y with
    | inl j => rfl
    | inr u =>
      show (z == u) = _
      by_cases h : z = u
      · subst h; simp
      · rw [decide_eq_false fun e => h (Sum.inr.inj e)]
        exact beq_eq_false_iff_ne.mpr h
theorem inV_vK (x : Key) : ∀ l : List Key, inV (kV x) (l.map kV) = memB x l
  | [] => rfl
  | y :: l => by
    have ih := inV_vK x l
    unfold inV at ih ⊢
    unfold memB at ih ⊢
    rw [List.map_cons, List.any_cons, List.any_cons, ih, eqV_vK]
theorem flat_vK (x : Key) : flatV (kV x) = true := by cases x <;> rfl
theorem flat_all (l : List Key) : (l.map kV).all flatV = true := by
  rw [List.all_map, List.all_eq_true]
  intro x _
  exact flat_vK x
/-! ### slices -/
theorem sIx_neg1 (n d : Nat) : HT.sIx n d (some (-1)) = n - 1 := by
  unfold HT.sIx
  simp
  omega
theorem cutV_from (xs : List V) (k : Nat) : cutV xs (some (k : Int)) none = xs.drop k := by
  unfold cutV
  rw [HT.sIx_nat, HT.sIx_none]
  by_cases h : k ≤ xs.length
  · rw [Nat.min_eq_left h, List.take_of_length_le]
    rw [List.length_drop]
    exact Nat.le_refl _
  · rw [Nat.min_eq_right (by omega), Nat.sub_self, List.take_zero, List.drop_of_length_le (by omega)]
theorem cutV_to (xs : List V) (k : Nat) : cutV xs none (some (k : Int)) = xs.take k := by
  unfold cutV
  rw [HT.sIx_nat, HT.sIx_none, List.drop_zero, Nat.sub_zero]
  by_cases h : k ≤ xs.length
  · rw [Nat.min_eq_left h]
  · rw [Nat.min_eq_right (by omega), List.take_of_length_le (Nat.le_refl _), List.take_of_length_le (by omega)]
theorem cutV_any (xs : List V) (i j : Nat) : cutV xs (some (i : Int)) (some (j : Int)) = (xs.drop i).take (j - i) := by
  unfold cutV
  rw [HT.sIx_nat, HT.sIx_nat]
  by_cases h1 : i ≤ xs.length
  · rw [Nat.min_eq_left h1]
    by_cases h2 : j ≤ xs.length
    · rw [Nat.min_eq_left h2]
    · rw [Nat.min_eq_right (by omega), List.take_of_length_le (by rw [List.length_drop]; exact Nat.le_refl _), List.take_of_length_le (by rw [List.length_drop]; omega)]
  · rw [List.drop_of_length_le (by omega), List.drop_of_length_le (by omega), List.take_nil, List.take_nil]
theorem cutV_init (xs : List V) : cutV xs none (some (-1)) = xs.dropLast := by
  unfold cutV
  rw [sIx_neg1, HT.sIx_none, List.drop_zero, Nat.sub_zero, List.dropLast_eq_take]
/-! ### data -/
def kOk (k : Key) : Prop := match k with
  | .inl _ => True
  | .inr x => PyData.canLay0 (.str x) = true
def kD : Key → PyData
  | .inl i => .int i
  | .inr x => .str x
theorem kD_dp {K : PySem.W.Frag} {H : Hp} (x : Key) : Dp K H (kV x) (kD x) := by cases x with
  | inl i => exact .int i
  | inr z => exact .str z
theorem kD_all {K : PySem.W.Frag} {H : Hp} : ∀ l : List Key, DpAll K H (l.map kV) (l.map kD)
  | [] => .nil
  | x :: l => .cons (kD_dp x) (kD_all l)
theorem kD_lay : ∀ {l : List Key}, (∀ x ∈ l, kOk x) → PyData.canLayAll0 (l.map kD) = true ∧ PyData.depthAll (l.map kD) = 0
  | [], _ => ⟨rfl, rfl⟩
  | x :: l, h => by
    obtain ⟨h1, h2⟩ := kD_lay (l := l) fun y hy => h y (List.mem_cons_of_mem _ hy)
    have hx := h x List.mem_cons_self
    cases x with
    | inl i => exact ⟨by show (true && _) = true; rw [Bool.true_and]; exact h1, by show max 0 _ = 0; rw [h2]; rfl⟩
    | inr z => exact ⟨by show (PyData.canLay0 (.str z) && _) = true; rw [show PyData.canLay0 (.str z) = true from hx, Bool.true_and]; exact h1, by show max 0 _ = 0; rw [h2]; rfl⟩
theorem kD_shL {l : List Key} (h : ∀ x ∈ l, kOk x) : SeqAt.shaped (.list (l.map kD)) = true := by
  obtain ⟨h1, h2⟩ := kD_lay h
  unfold SeqAt.shaped
  rw [Bool.and_eq_true_iff]
  refine ⟨h1, decide_eq_true ?_⟩
  show PyData.depthAll _ + 1 ≤ 64
  omega
theorem kD_shT {l : List Key} (h : ∀ x ∈ l, kOk x) : SeqAt.shaped (.tuple (l.map kD)) = true := by
  obtain ⟨h1, h2⟩ := kD_lay h
  unfold SeqAt.shaped
  rw [Bool.and_eq_true_iff]
  refine ⟨h1, decide_eq_true ?_⟩
  show PyData.depthAll _ + 1 ≤ 64
  omega
theorem eqv_self {d : PyData} (h : SeqAt.shaped d = true) : PyData.eqv d d = true := PySem.SeqAt.eqv_refl d (SeqAt.canLay_of_shaped h)
theorem eqv_nil (ds : List PyData) : PyData.eqv (.list ds) (.list []) = ds.isEmpty := by
  cases ds with
  | nil => rfl
  | cons d r => rfl
/-- tuples of ints -/
def iD (t : List Int) : PyData := .tuple (t.map PyData.int)
theorem int_all {K : PySem.W.Frag} {H : Hp} : ∀ l : List Int, DpAll K H (l.map V.int) (l.map PyData.int)
  | [] => .nil
  | x :: l => .cons (.int x) (int_all l)
theorem int_lay : ∀ l : List Int, PyData.canLayAll0 (l.map PyData.int) = true ∧ PyData.depthAll (l.map PyData.int) = 0
  | [] => ⟨rfl, rfl⟩
  | x :: l => by
    obtain ⟨h1, h2⟩ := int_lay l
    exact ⟨by show (true && _) = true; rw [Bool.true_and]; exact h1, by show max 0 _ = 0; rw [h2]; rfl⟩
theorem int_shL (l : List Int) : SeqAt.shaped (.list (l.map PyData.int)) = true := by
  obtain ⟨h1, h2⟩ := int_lay l
  unfold SeqAt.shaped
  rw [Bool.and_eq_true_iff]
  refine ⟨h1, decide_eq_true ?_⟩
  show PyData.depthAll _ + 1 ≤ 64
  omega
theorem iD_lay : ∀ ts : List (List Int), PyData.canLayAll0 (ts.map iD) = true ∧ PyData.depthAll (ts.map iD) ≤ 1
  | [] => ⟨rfl, Nat.zero_le _⟩
  | t :: ts => by
    obtain ⟨h1, h2⟩ := iD_lay ts
    obtain ⟨g1, g2⟩ := int_lay t
    refine ⟨?_, ?_⟩
    · show (PyData.canLayAll0 (t.map PyData.int) && _) = true
      rw [g1, Bool.true_and]
      exact h1
    · show max (PyData.depthAll (t.map PyData.int) + 1) _ ≤ 1
      rw [g2]
      omega
theorem iD_shL (ts : List (List Int)) : SeqAt.shaped (.list (ts.map iD)) = true := by
  obtain ⟨h1, h2⟩ := iD_lay ts
  unfold SeqAt.shaped
  rw [Bool.and_eq_true_iff]
  refine ⟨h1, decide_eq_true ?_⟩
  show PyData.depthAll _ + 1 ≤ 64
  omega
/-- a list of tuples of ints -/
theorem AllT.dp {K : PySem.W.Frag} {H : Hp} : ∀ {xs : List V} {ts : List (List Int)}, AllT H xs (ts.map (·.map V.int)) → DpAll K H xs (ts.map iD)
  | [], [], _ => .nil
  | [], t :: ts, h => by have := h.1; simp at this
  | x :: xs, [], h => by have := h.1; simp at this
  | x :: xs, t :: ts, h => by
    obtain ⟨p, u, e1, e2, e3⟩ := h.2 0 x rfl
    subst e1
    have e2' : t.map V.int = u := Option.some.inj e2
    subst e2'
    refine .cons (.tup (sqT e3) (int_all t)) (AllT.dp ⟨?_, fun i y hy => ?_⟩)
    · have := h.1
      simpa using this
    · obtain ⟨p', u', a, b, c⟩ := h.2 (i + 1) y (by simpa using hy)
      exact ⟨p', u', a, by simpa using b, c⟩
def bkI (b : Bk) : List Int := [(b.1 : Int), (b.2.1 : Int), (b.2.2 : Int)]
theorem bkV_int (b : Bk) : bkV b = (bkI b).map V.int := rfl
theorem bkV_all (bs : List Bk) : bs.map bkV = (bs.map bkI).map (·.map V.int) := by
  rw [List.map_map]
  rfl
end Tw
end
section
namespace Tw
open PySem PySem.Spec PyProof.Rows L2
section
variable {P : Program} {w : World} {K : PySem.W.Frag} {mg : Str → Option Value} {base : Heap}
/-! ### is_integer -/
theorem scIsInt : FnScope ["thing"] ["thing"] (defScope sIsInt) := ⟨rfl, rfl, rfl, by decide +kernel, rfl, by decide +kernel, by decide +kernel⟩
def spIsInt : Sp := fun vs H Q _ => ∃ i : Int, vs = [.int i] ∧ Q (.bl true) H
theorem ok_isInt {f : Addr} {fd : FuncData} {k : Nat} (F : Fun K "is_integer" "is_integer" sIsInt f fd) (B : Bm mg) : FnOk P w K mg base CX0 (k + 1) f fd ["thing"] spIsInt := by
  refine F.ok scIsInt (fun vs H Q E h => ?_) (fun cdv A outer s H vs Q E hr h => ?_)
  · obtain ⟨i, rfl, _⟩ := h
    rfl
  · obtain ⟨i, rfl, q⟩ := h
    refine ⟨_, pss_one (ps_ret (pe_and (pe_callB call_isi (by rfl) B.isi (by decide +kernel) (pa_cons (pv 0) (pa_cons (pe_bltn (v := .ty "int") (by rfl) B.int (by decide +kernel) rfl) pa_nil)))
      (pe_one (pe_not (pe_callB call_isi (by rfl) B.isi (by decide +kernel) (pa_cons (pv 0) (pa_cons (pe_bltn (v := .ty "bool") (by rfl) B.bool (by decide +kernel) rfl) pa_nil))))))), ?_⟩
    refine ⟨.int i, rfl, _, _, _, _, true, rfl, .ty _, .base (.int i), kit_ty (by decide +kernel), true, rfl, iteT ?_⟩
    refine ⟨.int i, rfl, _, _, _, _, false, rfl, .ty _, .base (.int i), kit_ty (by decide +kernel), false, rfl, ?_⟩
    exact q
/-! ### is_row -/
theorem scIsRow : FnScope ["thing"] ["thing"] (defScope sIsRow) := ⟨rfl, rfl, rfl, by decide +kernel, rfl, by decide +kernel, by decide +kernel⟩
def spIsRow : Sp := fun vs H Q _ => ∃ p : Addr, vs = [.ref p] ∧ ((∃ xs, H p = some (.lst xs)) ∨ ∃ xs, H p = some (.tup xs)) ∧ ∀ H', Same H H' → Q (.bl true) H'
theorem ok_isRow {f : Addr} {fd : FuncData} {k : Nat} (F : Fun K "is_row" "is_row" sIsRow f fd) (B : Bm mg) : FnOk P w K mg base CX0 (k + 1) f fd ["thing"] spIsRow := by
  refine F.ok scIsRow (fun vs H Q E h => ?_) (fun cdv A outer s H vs Q E hr h => ?_)
  · obtain ⟨p, rfl, _⟩ := h
    rfl
  · obtain ⟨p, rfl, hp, q⟩ := h
    refine ⟨_, pss_one (ps_ret (pe_callB call_isiT (by rfl) B.isi (by decide +kernel) (pa_cons (pv 0) (pa_cons (pe_tup (pa_cons (pe_bltn (v := .ty "list") (by rfl) B.list (by decide +kernel) rfl)
      (pa_cons (pe_bltn (v := .ty "tuple") (by rfl) B.tuple (by decide +kernel) rfl) pa_nil))) pa_nil)))), ?_⟩
    refine ⟨.ref p, rfl, by show 2 ≤ sizeLine; decide, fun t ht => ?_⟩
    have sm : Same H (upd H t (.tup [.ty "list", .ty "tuple"])) := same_upd ht
    rcases hp with ⟨xs, hp⟩ | ⟨xs, hp⟩
    · exact ⟨_, t, _, .type "list", [.type "list", .type "tuple"], true, rfl, upd_same, .cons (.ty _) (.cons (.ty _) .nil), .base (.lst (sm _ _ hp)), kit_any (a := "list") (l := ["list", "tuple"]) (by decide +kernel), q _ sm⟩
    · exact ⟨_, t, _, .type "tuple", [.type "list", .type "tuple"], true, rfl, upd_same, .cons (.ty _) (.cons (.ty _) .nil), .base (.tup (sm _ _ hp)), kit_any (a := "tuple") (l := ["list", "tuple"]) (by decide +kernel), q _ sm⟩
/-! ### row_of -/
theorem scRowOf : FnScope ["sequence"] ["sequence"] (defScope sRowOf) := ⟨rfl, rfl, rfl, by decide +kernel, rfl, by decide +kernel, by decide +kernel⟩
def spRowOf : Sp := fun vs H Q _ => ∃ (p : Addr) (xs : List V), vs = [.ref p] ∧ H p = some (.lst xs) ∧ ∀ t, H t = none → Q (.ref t) (upd H t (.tup xs))
theorem ok_rowOf {f : Addr} {fd : FuncData} {k : Nat} (F : Fun K "row_of" "row_of" sRowOf f fd) (B : Bm mg) : FnOk P w K mg base CX0 (k + 1) f fd ["sequence"] spRowOf := by
  refine F.ok scRowOf (fun vs H Q E h => ?_) (fun cdv A outer s H vs Q E hr h => ?_)
  · obtain ⟨p, xs, rfl, _⟩ := h
    rfl
  · obtain ⟨p, xs, rfl, hp, q⟩ := h
    refine ⟨_, pss_one (ps_ret (pe_callTy call_tuple_of (by rfl) B.tuple (by decide +kernel) (pa_cons (pv 0) pa_nil))), ?_⟩
    exact ⟨.ref p, rfl, p, xs, rfl, .inl ⟨sqL hp, q⟩⟩
/-! ### word_between -/
theorem scWordB : FnScope ["i", "i2", "j", "j2"] ["i", "i2", "j", "j2"] (defScope sWordB) := ⟨rfl, rfl, rfl, by decide +kernel, rfl, by decide +kernel, by decide +kernel⟩
def wbV (o : Option Wd) : V := match o with
  | some w => wdV w
  | none => .non
def spWordB : Sp := fun vs H Q _ => ∃ i i2 j j2 : Nat, vs = [vN i, vN i2, vN j, vN j2] ∧ Q (wbV (wb i i2 j j2)) H
theorem ok_wordB {f : Addr} {fd : FuncData} {k : Nat} (F : Fun K "word_between" "word_between" sWordB f fd) : FnOk P w K mg base CX0 (k + 1) f fd ["i", "i2", "j", "j2"] spWordB := by
  refine F.ok scWordB (fun vs H Q E h => ?_) (fun cdv A outer s H vs Q E hr h => ?_)
  · obtain ⟨i, i2, j, j2, rfl, _⟩ := h
    rfl
  · obtain ⟨i, i2, j, j2, rfl, q⟩ := h
    refine ⟨_, pss_cons (ps_if (PW.pt (pw_and (pt_cmpR op_lt (pv 0) (pv 1) (nomark _)) (pw_and1 (pt_cmpR op_lt (pv 2) (pv 3) (nomark _))))) (pss_one (ps_ret pe_str)) pss_nil)
      (pss_cons (ps_if (pt_cmpR op_lt (pv 0) (pv 1) (nomark _)) (pss_one (ps_ret pe_str)) pss_nil)
      (pss_one (ps_ret (pe_ifExp (pt_cmpR op_lt (pv 2) (pv 3) (nomark _)) pe_str pe_non)))), ?_⟩
    have e : wb i i2 j j2 = _ := rfl
    unfold wb at q
    refine ⟨_, rfl, _, rfl, _, _, rfl, rfl, _, rfl, ite2 (fun h1 => ?_) (fun h1 => ?_)⟩
    · have a1 : i < i2 := by have := of_decide_eq_true h1; omega
      refine ⟨_, rfl, _, rfl, _, _, rfl, rfl, _, rfl, ite2 (fun h2 => ?_) (fun h2 => ?_)⟩
      · have a2 : j < j2 := by have := of_decide_eq_true h2; omega
        rw [if_pos ⟨a1, a2⟩] at q
        exact q
      · have a2 : ¬ j < j2 := fun z => h2 (decide_eq_true (by omega))
        rw [if_neg (fun z => a2 z.2), if_pos a1] at q
        refine ⟨_, rfl, _, rfl, _, _, rfl, rfl, _, rfl, ite2 (fun h3 => q) (fun h3 => absurd h1 h3)⟩
    · have a1 : ¬ i < i2 := fun z => h1 (decide_eq_true (by omega))
      rw [if_neg (fun z => a1 z.1), if_neg a1] at q
      refine iteF ⟨_, rfl, _, rfl, _, _, rfl, rfl, _, rfl, ite2 (fun h3 => absurd h3 h1) (fun h3 => ?_)⟩
      refine ⟨_, rfl, _, rfl, _, _, rfl, rfl, _, rfl, ite2 (fun h2 => ?_) (fun h2 => ?_)⟩
      · have a2 : j < j2 := by have := of_decide_eq_true h2; omega
        rw [if_pos a2] at q
        exact q
      · have a2 : ¬ j < j2 := fun z => h2 (decide_eq_true (by omega))
        rw [if_neg a2] at q
        exact q
end
end Tw
end
section
namespace Tw
open PySem PySem.Spec PyProof.Rows L2
section
variable {P : Program} {w : World} {K : PySem.W.Frag} {mg : Str → Option Value} {base : Heap}
/-! ### codes_between -/
theorem scCodesB : FnScope ["blocks", "found", "i", "j", "begin", "begin2", "size", "word"] ["blocks"] (defScope sCodesB) := ⟨rfl, rfl, rfl, by decide +kernel, rfl, by decide +kernel, by decide +kernel⟩
def spCodesB : Sp := fun vs H Q _ => ∃ (a : Addr) (xs : List V) (bs : List Bk), vs = [.ref a] ∧ H a = some (.lst xs) ∧ AllT H xs (bs.map bkV) ∧ bs.length ≤ 1000 ∧
  ∀ H' p ys, Same H H' → H' p = some (.lst ys) → AllT H' ys ((cgo 0 0 bs).map cdV) → Q (.ref p) H'
theorem appT {H : Hp} {o p : Addr} {ys : List V} {ts : List (List V)} {t : List V} (ho : H o = some (.lst ys)) (hp : H p = none) (h : AllT H ys ts) :
    AllT (upd (upd H p (.tup t)) o (.lst (ys ++ [.ref p]))) (ys ++ [.ref p]) (ts ++ [t]) := by
  have np : p ≠ o := fun e => by rw [e, ho] at hp; cases hp
  have h1 : AllT (upd H p (.tup t)) (ys ++ [.ref p]) (ts ++ [t]) := (h.same (same_upd hp)).snoc upd_same
  refine ⟨h1.1, fun i x e => ?_⟩
  obtain ⟨q, u, a, b, c⟩ := h1.2 i x e
  refine ⟨q, u, a, b, ?_⟩
  rw [upd_ne (fun z => ?_)]
  · exact c
  · rw [z, upd_ne np.symm, ho] at c
    cases c
theorem appSame {H0 H : Hp} {o p : Addr} {u v : HO} (s : Same H0 H) (ho : H0 o = none) (hp : H p = none) : Same H0 (upd (upd H p u) o v) := fun b x e => by
  have nb : b ≠ o := ne_of_none e ho
  have nb2 : b ≠ p := ne_of_none (s _ _ e) hp
  rw [upd_ne nb, upd_ne nb2]
  exact s _ _ e
theorem ok_codesB {f fW : Addr} {fd fdW : FuncData} {k : Nat} (F : Fun K "codes_between" "codes_between" sCodesB f fd) (FW : Fun K "word_between" "word_between" sWordB fW fdW) (bW : Binds K fdW ["i", "i2", "j", "j2"] []) (gW : mg "word_between" = some (.ref fW)) :
    FnOk P w K mg base CX0 (k + 2) f fd ["blocks"] spCodesB := by
  have GW : FnOk P w K mg base CX0 (k + 1) fW fdW ["i", "i2", "j", "j2"] spWordB := ok_wordB FW
  refine F.ok scCodesB (fun vs H Q E h => ?_) (fun cdv A outer s H vs Q E hr h => ?_)
  · obtain ⟨a, xs, bs, rfl, _⟩ := h
    rfl
  · obtain ⟨a, xs, bs, rfl, ha, hx, hlen, q⟩ := h
    refine ⟨_, pss_cons (ps_set (i := 1) scCodesB.nd rfl (.inl rfl) (pe_lst pa_nil))
      (pss_cons (ps_asg (pe_tup (pa_cons pe_int (pa_cons pe_int pa_nil))) (pg_tup rfl (pgs_cons (pg_name (i := 2) scCodesB.nd rfl (.inl rfl)) (pgs_cons (pg_name (i := 3) scCodesB.nd rfl (.inl rfl)) pgs_nil))))
      (pss_cons (ps_for PassesOwn.never rfl (pi_list (pv 0)) (pg_tup rfl (pgs_cons (pg_name (i := 4) scCodesB.nd rfl (.inl rfl)) (pgs_cons (pg_name (i := 5) scCodesB.nd rfl (.inl rfl)) (pgs_cons (pg_name (i := 6) scCodesB.nd rfl (.inl rfl)) pgs_nil))))
        (pss_cons (ps_set (i := 7) scCodesB.nd rfl (.inl rfl) (pe_call GW hr (by rfl) gW FW.kp bW .nil pass0 (pa_cons (pv 2) (pa_cons (pv 4) (pa_cons (pv 3) (pa_cons (pv 5) pa_nil))))))
        (C8.pss_cut (ps_if (pt_cmpR op_notN (pv 7) pe_non (nomark _)) (pss_one (ps_expr (pe_bm PySem.F.plainAttrs_list PySem.F.slot_list_append PySem.F.type_list_append mt_append (pv 1) (pa_cons (pe_tup (pa_cons (pv 7) (pa_cons (pv 2) (pa_cons (pv 4) (pa_cons (pv 3) (pa_cons (pv 5) pa_nil)))))) pa_nil)))) pss_nil)
        (pss_cons (ps_par (by rfl) scCodesB.nd (i := 2) (j := 3) rfl rfl (by decide) rfl rfl (pa_cons (pe_op op_add (pv 4) (pv 6)) (pa_cons (pe_op op_add (pv 5) (pv 6)) pa_nil)) (by rfl))
        (pss_one (ps_if (pt_cmpR op_gt (pv 6) pe_int (nomark _)) (pss_one (ps_expr (pe_bm PySem.F.plainAttrs_list PySem.F.slot_list_append PySem.F.type_list_append mt_append (pv 1) (pa_cons (pe_tup (pa_cons pe_str (pa_cons (pv 4) (pa_cons (pv 2) (pa_cons (pv 5) (pa_cons (pv 3) pa_nil)))))) pa_nil)))) pss_nil))))))
      (pss_one (ps_ret (pv 1))))), ?_⟩
    refine ⟨Nat.zero_le _, fun o no => ?_⟩
    have s1 : Same H (upd H o (.lst [])) := same_upd no
    refine ⟨by show 2 ≤ sizeLine; decide, fun t0 nt0 => ⟨t0, _, rfl, sqT upd_same, rfl, _, _, rfl, _, _, rfl, rfl, ?_⟩⟩
    have s2 := s1.trans (same_upd (o := .tup [.int 0, .int 0]) nt0)
    have ho2 : (upd (upd H o (.lst [])) t0 (.tup [.int 0, .int 0])) o = some (.lst []) := same_upd nt0 _ _ upd_same
    refine ⟨.ref a, rfl, a, rfl, ⟨xs, sqL (s2 _ _ ha)⟩, ?_⟩
    refine for_list (K := K) (xs := xs) (fun m σ H3 => ∃ (i j : Nat) (x4 x5 x6 x7 : Option V) (ys : List V) (dn : List Cd), σ = [some (.ref a), some (.ref o), some (vN i), some (vN j), x4, x5, x6, x7] ∧ Same H H3 ∧ H3 o = some (.lst ys) ∧ AllT H3 ys (dn.map cdV) ∧
      dn ++ cgo i j (bs.drop m) = cgo 0 0 bs) ?_ ?_ ?_ ?_
    · exact ⟨0, 0, none, none, none, none, [], [], rfl, s2, ho2, AllT.nil, rfl⟩
    · rintro m σ H3 _ ⟨i, j, x4, x5, x6, x7, ys, dn, rfl, sm, _⟩
      exact sqL (sm _ _ ha)
    · rintro m x σ H3 hxm ⟨i, j, x4, x5, x6, x7, ys, dn, rfl, sm, ho, hy, hd⟩
      obtain ⟨p, t, rfl, ht, hp⟩ := hx.2 m x hxm
      rw [List.getElem?_map] at ht
      obtain ⟨⟨b, b2, n⟩, hb, rfl⟩ : ∃ bk, bs[m]? = some bk ∧ bkV bk = t := by
        cases e : bs[m]? with
        | none => rw [e] at ht; cases ht
        | some bk => rw [e] at ht; exact ⟨bk, rfl, Option.some.inj ht⟩
      have hm : m < bs.length := (List.getElem?_eq_some_iff.mp hb).1
      have hdr : bs.drop m = (b, b2, n) :: bs.drop (m + 1) := by
        rw [List.drop_eq_getElem_cons hm]
        have := (List.getElem?_eq_some_iff.mp hb).2
        rw [this]
      rw [hdr, cgo] at hd
      have hlen2 : dn.length ≤ 2000 := by
        have h1 := cgo_len bs 0 0
        have h2 := congrArg List.length hd
        rw [List.length_append] at h2
        omega
      have ly : ys.length = dn.length := by rw [hy.1, List.length_map]
      -- begin, begin2, size
      refine ⟨p, _, rfl, sqT (sm _ _ hp), rfl, vN b, _, rfl, vN b2, _, rfl, vN n, _, rfl, rfl, ?_⟩
      -- word
      refine ⟨vN i, rfl, vN b, rfl, vN j, rfl, vN b2, rfl, i, b, j, b2, rfl, ?_⟩
      refine ⟨fun σ' H4 => ∃ (ys' : List V) (dn' : List Cd), σ' = [some (.ref a), some (.ref o), some (vN i), some (vN j), some (vN b), some (vN b2), some (vN n), some (wbV (wb i b j b2))] ∧ Same H H4 ∧ H4 o = some (.lst ys') ∧ AllT H4 ys' (dn'.map cdV) ∧ dn'.length ≤ 2001 ∧
        dn' ++ ((if 0 < n then [(Wd.eq, b, b + n, b2, b2 + n)] else []) ++ cgo (b + n) (b2 + n) (bs.drop (m + 1))) = cgo 0 0 bs, ?_, ?_⟩
      · refine ⟨_, rfl, rfl, _, rfl, ?_⟩
        cases hw : wb i b j b2 with
        | none =>
          rw [hw] at hd
          exact ⟨ys, dn, rfl, sm, ho, hy, by omega, hd⟩
        | some wd =>
          rw [hw] at hd
          refine ⟨.ref o, rfl, .inl ⟨rfl, _, sqL ho⟩, wdV wd, rfl, vN i, rfl, vN b, rfl, vN j, rfl, vN b2, rfl, by show 5 ≤ sizeLine; decide, fun t nt => ?_⟩
          refine ⟨o, ys, _, rfl, rfl, same_upd nt _ _ ho, by rw [ly]; exact szl (by omega), ?_⟩
          refine ⟨ys ++ [.ref t], dn ++ [(wd, i, b, j, b2)], rfl, appSame sm no nt, upd_same, ?_, by simp; omega, by rw [List.append_assoc]; exact hd⟩
          rw [List.map_append]
          exact appT ho nt hy
      · rintro σ' H4 ⟨ys', dn', rfl, sm4, ho4, hy4, hl4, hd4⟩
        have ly4 : ys'.length = dn'.length := by rw [hy4.1, List.length_map]
        refine ⟨vN b, rfl, vN n, rfl, _, _, rfl, rfl, vN b2, rfl, vN n, rfl, _, _, rfl, rfl, _, _, rfl, ?_⟩
        refine ⟨vN n, rfl, _, _, rfl, rfl, _, rfl, ite2 (fun h0 => ?_) (fun h0 => ?_)⟩
        · have hn : 0 < n := by have := of_decide_eq_true h0; omega
          rw [if_pos hn] at hd4
          refine ⟨.ref o, rfl, .inl ⟨rfl, _, sqL ho4⟩, vN b, rfl, _, rfl, vN b2, rfl, _, rfl, by show 5 ≤ sizeLine; decide, fun t nt => ?_⟩
          refine ⟨o, ys', _, rfl, rfl, same_upd nt _ _ ho4, by rw [ly4]; exact szl (by omega), ?_⟩
          refine ⟨b + n, b2 + n, _, _, _, _, ys' ++ [.ref t], dn' ++ [(Wd.eq, b, b + n, b2, b2 + n)], rfl, appSame sm4 no nt, upd_same, ?_, by rw [List.append_assoc]; exact hd4⟩
          rw [List.map_append]
          exact appT ho4 nt hy4
        · have hn : ¬ 0 < n := fun z => h0 (decide_eq_true (by omega))
          rw [if_neg hn] at hd4
          exact ⟨b + n, b2 + n, _, _, _, _, ys', dn', rfl, sm4, ho4, hy4, hd4⟩
    · rintro σ H3 ⟨i, j, x4, x5, x6, x7, ys, dn, rfl, sm, ho, hy, hd⟩
      rw [hx.1, List.length_map, List.drop_length, cgo, List.append_nil] at hd
      subst hd
      exact ⟨.ref o, rfl, q H3 o ys sm ho hy⟩
end
end Tw
end
section
namespace Tw
open PySem PySem.Spec PyProof.Rows L2
section
variable {P : Program} {w : World} {K : PySem.W.Frag} {mg : Str → Option Value} {base : Heap}
/-! ### is_code -/
theorem scIsCode : FnScope ["thing", "part"] ["thing"] (defScope sIsCode) := ⟨rfl, rfl, rfl, by decide +kernel, rfl, by decide +kernel, by decide +kernel⟩
def spIsCode : Sp := fun vs H Q _ => ∃ (p : Addr) (c : Cd), vs = [.ref p] ∧ H p = some (.tup (cdV c)) ∧ ∀ H', Same H H' → Q (.bl true) H'
def wordsV : List V := [.str "equal", .str "replace", .str "delete", .str "insert"]
theorem wd_in (w : Wd) : inV (wdV w) wordsV = true := by cases w <;> decide +kernel
theorem ok_isCode {f fR fI aW : Addr} {fd fdR fdI : FuncData} {k : Nat} (F : Fun K "is_code" "is_code" sIsCode f fd) (B : Bm mg) (FR : Fun K "is_row" "is_row" sIsRow fR fdR) (bR : Binds K fdR ["thing"] []) (gR : mg "is_row" = some (.ref fR))
    (FI : Fun K "is_integer" "is_integer" sIsInt fI fdI) (bI : Binds K fdI ["thing"] []) (gI : mg "is_integer" = some (.ref fI)) (gW : mg "WORDS" = some (.ref aW)) (hW : ∀ H, SqT K H aW wordsV) :
    FnOk P w K mg base CX0 (k + 2) f fd ["thing"] spIsCode := by
  have GR : FnOk P w K mg base CX0 (k + 1) fR fdR ["thing"] spIsRow := ok_isRow FR B
  have GI : FnOk P w K mg base CX0 (k + 1) fI fdI ["thing"] spIsInt := ok_isInt FI B
  refine F.ok scIsCode (fun vs H Q E h => ?_) (fun cdv A outer s H vs Q E hr h => ?_)
  · obtain ⟨p, c, rfl, _⟩ := h
    rfl
  · obtain ⟨p, c, rfl, hp, q⟩ := h
    refine ⟨_, (pss_cons (ps_if (PW.pt (pw_or (pt_not (pt_val (pe_call GR (hr.mono (by omega)) (by rfl) gR FR.kp bR .nil pass0 (pa_cons (pv 0) pa_nil)))) (pw_or (pt_cmpR op_ne (pe_callB call_len_seq (by rfl) B.len PySem.boot_len (pa_cons (pv 0) pa_nil)) pe_int (nomark _)) (pw_or1 (pt_not (pt_val (pe_callB call_isi (by rfl) B.isi (by decide +kernel) (pa_cons (pe_ix ix_tup (pv 0) pe_int (fun _ _ => rfl)) (pa_cons (pe_bltn (v := .ty "str") (by rfl) B.str (by decide +kernel) rfl) pa_nil))))))))) (pss_one (ps_ret pe_bl)) pss_nil)
      (pss_one (ps_ret (pe_and (pe_cmpR op_in_seq (pe_ix ix_tup (pv 0) pe_int (fun _ _ => rfl)) (pe_glob (v := .ref aW) (by rfl) gW rfl) (by rfl)) (pe_one (pe_callB (cr_all rfl) (by rfl) B.all (by decide +kernel) (pa_cons (pe_lc (own := [("part", 1)]) (g := gName 1) (tt := tYes) (by rfl) scIsCode.nd (pi_tup (pe_slice sl_tup (pv 0) (po_some pe_int) po_none)) (blkOk_by (own := [("part", 1)]) (N := ["thing", "part"]) (sc := defScope sIsCode) (by decide +kernel)) (fun _ _ _ _ _ => (pg_name (i := 1) scIsCode.nd rfl (.inl rfl))) (fun _ _ _ _ _ => pts_nil) (fun _ _ _ _ _ => (pe_call GI (hr.mono (by omega)) (by rfl) gI FI.kp bI .nil pass0 (pa_cons (pv 1) pa_nil)))) pa_nil))))))), ?_⟩
    obtain ⟨wd, n1, n2, n3, n4⟩ := c
    -- not is_row(thing)
    refine ⟨.ref p, rfl, p, rfl, .inr ⟨_, hp⟩, fun H1 s1 => ⟨true, rfl, ?_⟩⟩
    have hp1 := s1 _ _ hp
    refine iteF ⟨.ref p, rfl, p, _, rfl, .inr (sqT hp1), rfl, _, rfl, ?_⟩
    refine iteF ⟨.ref p, rfl, p, _, 0, wdV wd, rfl, rfl, sqT hp1, atI_nat (j := 0) rfl, _, _, _, _, true, rfl, .ty _, .base (.str _), kit_ty (by decide +kernel), true, rfl, iteF ?_⟩
    -- thing[0] in WORDS
    refine ⟨.ref p, rfl, p, _, 0, wdV wd, rfl, rfl, sqT hp1, atI_nat (j := 0) rfl, aW, wordsV, rfl, .inr (hW H1), rfl, rfl, _, rfl, ?_⟩
    rw [wd_in]
    refine iteT ?_
    -- thing[1:]
    refine ⟨.ref p, rfl, 1, rfl, p, _, rfl, sqT hp1, by rintro ⟨z, _⟩; exact absurd z (by show ¬ HT.sIx 5 0 (some ((1 : Nat) : Int)) = 0; rw [HT.sIx_nat]; decide), fun u nu => ?_⟩
    have s2 := s1.trans (same_upd (o := .tup (cutV (cdV (wd, n1, n2, n3, n4)) (some 1) none)) nu)
    have hu : (upd H1 u (.tup (cutV (cdV (wd, n1, n2, n3, n4)) (some 1) none))) u = some (.tup [vN n1, vN n2, vN n3, vN n4]) := by
      rw [upd_same, show cutV (cdV (wd, n1, n2, n3, n4)) (some 1) none = _ from cutV_from _ 1]
      rfl
    generalize (upd H1 u (.tup (cutV (cdV (wd, n1, n2, n3, n4)) (some 1) none))) = H2 at s2 hu
    refine ⟨u, rfl, ⟨_, sqT hu⟩, fun D nD => ?_⟩
    refine lc_tup (K := K) (a := u) (xs := [vN n1, vN n2, vN n3, vN n4]) (fun i H3 => Same H2 H3 ∧ H3 D = some (.lst (List.replicate i (.bl true)))) ?_ ?_ ?_ ?_
    · exact ⟨same_upd nD, upd_same⟩
    · rintro i H3 _ ⟨sm, _⟩
      exact sqT (sm _ _ hu)
    · rintro i x H3 hx ⟨sm, hD⟩
      have hi : i < 4 := by
        have := (List.getElem?_eq_some_iff.mp hx).1
        exact this
      obtain ⟨z, rfl⟩ : ∃ z : Int, x = .int z := by
        match i, hx with
        | 0, hx => exact ⟨_, (Option.some.inj hx).symm⟩
        | 1, hx => exact ⟨_, (Option.some.inj hx).symm⟩
        | 2, hx => exact ⟨_, (Option.some.inj hx).symm⟩
        | 3, hx => exact ⟨_, (Option.some.inj hx).symm⟩
      refine ⟨rfl, ?_⟩
      unfold tYes
      refine iteT ⟨.int z, rfl, z, rfl, _, hD, by rw [List.length_replicate]; exact szl (by omega), fun b o e => ?_, ?_⟩
      · have nb : b ≠ D := ne_of_none e nD
        rw [upd_ne nb]
        exact sm _ _ e
      · rw [upd_same, List.replicate_succ']
    · rintro H3 ⟨sm, hD⟩
      refine ⟨D, [true, true, true, true], rfl, sqL hD, q _ (s2.trans sm)⟩
end
end Tw
end
section
namespace Tw
open PySem PySem.Spec PyProof.Rows L2
section
variable {P : Program} {w : World} {K : PySem.W.Frag} {mg : Str → Option Value} {base : Heap}
/-! ### is_right_code -/
theorem scIsRight : FnScope ["one", "other", "code", "word", "i", "i2", "j", "j2"] ["one", "other", "code"] (defScope sIsRight) := ⟨rfl, rfl, rfl, by decide +kernel, rfl, by decide +kernel, by decide +kernel⟩
def spIsRight : Sp := fun vs H Q _ => ∃ (p1 p2 p3 : Addr) (a b : List Key) (c : Cd), vs = [.ref p1, .ref p2, .ref p3] ∧ H p1 = some (.lst (a.map kV)) ∧ H p2 = some (.lst (b.map kV)) ∧ H p3 = some (.tup (cdV c)) ∧
  (∀ x ∈ a, kOk x) ∧ (∀ x ∈ b, kOk x) ∧ CR (eqB a b) a.length b.length c ∧ ∀ H', Same H H' → Q (.bl true) H'
theorem ok_isRight {f fW : Addr} {fd fdW : FuncData} {k : Nat} (F : Fun K "is_right_code" "is_right_code" sIsRight f fd) (B : Bm mg) (FW : Fun K "word_between" "word_between" sWordB fW fdW) (bW : Binds K fdW ["i", "i2", "j", "j2"] []) (gW : mg "word_between" = some (.ref fW)) :
    FnOk P w K mg base CX0 (k + 2) f fd ["one", "other", "code"] spIsRight := by
  have GW : FnOk P w K mg base CX0 (k + 1) fW fdW ["i", "i2", "j", "j2"] spWordB := ok_wordB FW
  refine F.ok scIsRight (fun vs H Q E h => ?_) (fun cdv A outer s H vs Q E hr h => ?_)
  · obtain ⟨p1, p2, p3, a, b, c, rfl, _⟩ := h
    rfl
  · obtain ⟨p1, p2, p3, a, b, ⟨wd, i, i2, j, j2⟩, rfl, h1, h2, h3, ka, kb, r, q⟩ := h
    refine ⟨_, (pss_cons (ps_asg (pv 2) (pg_tup rfl (pgs_cons (pg_name (i := 3) scIsRight.nd rfl (.inl rfl)) (pgs_cons (pg_name (i := 4) scIsRight.nd rfl (.inl rfl)) (pgs_cons (pg_name (i := 5) scIsRight.nd rfl (.inl rfl)) (pgs_cons (pg_name (i := 6) scIsRight.nd rfl (.inl rfl)) (pgs_cons (pg_name (i := 7) scIsRight.nd rfl (.inl rfl)) pgs_nil)))))))
      (pss_cons (ps_if (PW.pt (pw_or (pt_not (pt_chain op_le op_le (pv 4) (pv 5) (pe_callB call_len_seq (by rfl) B.len PySem.boot_len (pa_cons (pv 0) pa_nil)))) (pw_or1 (pt_not (pt_chain op_le op_le (pv 6) (pv 7) (pe_callB call_len_seq (by rfl) B.len PySem.boot_len (pa_cons (pv 1) pa_nil))))))) (pss_one (ps_ret pe_bl)) pss_nil)
      (pss_cons (ps_if (pt_cmpR op_eq (pv 3) pe_str (nomark _)) (pss_one (ps_ret (pe_and (pe_cmpR op_lt (pv 4) (pv 5) (nomark _)) (pe_one (pe_cmpR (op_eqD hr.units) (pe_callTy call_tuple_of (by rfl) B.tuple (by decide +kernel) (pa_cons (pe_slice sl_list (pv 0) (po_some (pv 4)) (po_some (pv 5))) pa_nil)) (pe_callTy call_tuple_of (by rfl) B.tuple (by decide +kernel) (pa_cons (pe_slice sl_list (pv 1) (po_some (pv 6)) (po_some (pv 7))) pa_nil)) (nomark _)))))) pss_nil)
      (pss_one (ps_ret (pe_cmpR op_eq (pv 3) (pe_call GW (hr.mono (by omega)) (by rfl) gW FW.kp bW .nil pass0 (pa_cons (pv 4) (pa_cons (pv 5) (pa_cons (pv 6) (pa_cons (pv 7) pa_nil))))) (nomark _))))))), ?_⟩
    refine ⟨.ref p3, rfl, p3, _, rfl, sqT h3, rfl, wdV wd, _, rfl, vN i, _, rfl, vN i2, _, rfl, vN j, _, rfl, vN j2, _, rfl, rfl, ?_⟩
    have b1 := r.h1
    have b2 := r.h2
    have b3 := r.h3
    have b4 := r.h4
    simp only at b1 b2 b3 b4
    -- the bounds
    refine ⟨vN i, rfl, vN i2, rfl, _, _, rfl, rfl, _, rfl, ?_⟩
    rw [if_pos (decide_eq_true (show (i : Int) ≤ i2 by omega))]
    refine ⟨.ref p1, rfl, p1, _, rfl, .inl (sqL h1), _, _, rfl, rfl, _, rfl, ?_⟩
    rw [List.length_map, decide_eq_true (show (i2 : Int) ≤ a.length by omega)]
    refine iteF ⟨vN j, rfl, vN j2, rfl, _, _, rfl, rfl, _, rfl, ?_⟩
    rw [if_pos (decide_eq_true (show (j : Int) ≤ j2 by omega))]
    refine ⟨.ref p2, rfl, p2, _, rfl, .inl (sqL h2), _, _, rfl, rfl, _, rfl, ?_⟩
    rw [List.length_map, decide_eq_true (show (j2 : Int) ≤ b.length by omega)]
    refine iteF ?_
    -- word == "equal"
    refine ⟨wdV wd, rfl, rfl, _, rfl, ?_⟩
    rw [wdS_eq]
    by_cases hw : wd = .eq
    · rw [decide_eq_true hw]
      obtain ⟨e1, e2, e3⟩ := r.eq hw
      simp only at e1 e2 e3
      refine iteT ⟨vN i, rfl, vN i2, rfl, _, _, rfl, rfl, _, rfl, ?_⟩
      rw [if_pos (decide_eq_true (show (i : Int) < i2 by omega))]
      refine ⟨.ref p1, rfl, vN i, rfl, _, rfl, vN i2, rfl, _, rfl, p1, _, rfl, sqL h1, fun u nu => ?_⟩
      have s1 : Same H (upd H u (.lst (cutV (a.map kV) (some (i : Int)) (some (i2 : Int))))) := same_upd nu
      refine ⟨u, _, rfl, .inl ⟨sqL upd_same, fun t nt => ?_⟩⟩
      have s2 := s1.trans (same_upd (o := .tup (cutV (a.map kV) (some (i : Int)) (some (i2 : Int)))) nt)
      have ht : (upd (upd H u (.lst (cutV (a.map kV) (some (i : Int)) (some (i2 : Int))))) t (.tup (cutV (a.map kV) (some (i : Int)) (some (i2 : Int))))) t = some (.tup (((a.drop i).take (i2 - i)).map kV)) := by
        rw [upd_same, cutV_any, List.map_take, List.map_drop]
      generalize (upd (upd H u (.lst (cutV (a.map kV) (some (i : Int)) (some (i2 : Int))))) t (.tup (cutV (a.map kV) (some (i : Int)) (some (i2 : Int))))) = H2 at s2 ht
      refine ⟨.ref p2, rfl, vN j, rfl, _, rfl, vN j2, rfl, _, rfl, p2, _, rfl, sqL (s2 _ _ h2), fun u' nu' => ?_⟩
      have s3 : Same H2 (upd H2 u' (.lst (cutV (b.map kV) (some (j : Int)) (some (j2 : Int))))) := same_upd nu'
      refine ⟨u', _, rfl, .inl ⟨sqL upd_same, fun t' nt' => ?_⟩⟩
      have s4 := s3.trans (same_upd (o := .tup (cutV (b.map kV) (some (j : Int)) (some (j2 : Int)))) nt')
      have ht' : (upd (upd H2 u' (.lst (cutV (b.map kV) (some (j : Int)) (some (j2 : Int))))) t' (.tup (cutV (b.map kV) (some (j : Int)) (some (j2 : Int))))) t' = some (.tup (((a.drop i).take (i2 - i)).map kV)) := by
        rw [upd_same, cutV_any, ← List.map_drop, ← List.map_take, show j2 - j = i2 - i by omega, ← eqB_cut e3]
      generalize (upd (upd H2 u' (.lst (cutV (b.map kV) (some (j : Int)) (some (j2 : Int))))) t' (.tup (cutV (b.map kV) (some (j : Int)) (some (j2 : Int))))) = H4 at s4 ht'
      have kc : ∀ x ∈ (a.drop i).take (i2 - i), kOk x := fun x hx => ka x (List.mem_of_mem_drop (List.mem_of_mem_take hx))
      refine ⟨_, _, .tup (sqT (s4 _ _ ht)) (kD_all _), .tup (sqT ht') (kD_all _), kD_shT kc, kD_shT kc, ?_⟩
      rw [eqv_self (kD_shT kc)]
      exact q _ (s2.trans s4)
    · rw [decide_eq_false hw]
      refine iteF ⟨wdV wd, rfl, vN i, rfl, vN i2, rfl, vN j, rfl, vN j2, rfl, i, i2, j, j2, rfl, ?_⟩
      have e := r.ne hw
      simp only at e
      rw [e]
      refine ⟨rfl, ?_⟩
      rw [decide_eq_true (show wdV wd = wbV (some wd) from rfl)]
      exact q _ (Same.refl _)
end
end Tw
end
section
namespace Tw
open PySem PySem.Spec PyProof.Rows L2
section
variable {P : Program} {w : World} {K : PySem.W.Frag} {mg : Str → Option Value} {base : Heap}
/-! ### is_codes -/
theorem scIsCodes : FnScope ["one", "other", "codes", "code", "i", "j", "last"] ["one", "other", "codes"] (defScope sIsCodes) := ⟨rfl, rfl, rfl, by decide +kernel, rfl, by decide +kernel, by decide +kernel⟩
def spIsCodes : Sp := fun vs H Q _ => ∃ (p1 p2 p3 : Addr) (a b : List Key) (xs : List V) (cs : List Cd), vs = [.ref p1, .ref p2, .ref p3] ∧ H p1 = some (.lst (a.map kV)) ∧ H p2 = some (.lst (b.map kV)) ∧ H p3 = some (.lst xs) ∧ AllT H xs (cs.map cdV) ∧
  (∀ x ∈ a, kOk x) ∧ (∀ x ∈ b, kOk x) ∧ COk (eqB a b) a.length b.length 0 0 none cs ∧ cs.length ≤ 5000 ∧ ∀ H', Same H H' → Q (.bl true) H'
def lastV : Option Wd → V
  | none => .str ""
  | some w => wdV w
theorem wd_nil (w : Wd) : decide (wdV w = V.str "") = false := by cases w <;> decide +kernel
theorem ok_isCodes {f fR fIc fIr : Addr} {fd fdR fdIc fdIr : FuncData} {k : Nat} (F : Fun K "is_codes" "is_codes" sIsCodes f fd) (B : Bm mg) (FR : Fun K "is_row" "is_row" sIsRow fR fdR) (bR : Binds K fdR ["thing"] []) (gR : mg "is_row" = some (.ref fR))
    (FIc : Fun K "is_code" "is_code" sIsCode fIc fdIc) (GIc : FnOk P w K mg base CX0 (k + 2) fIc fdIc ["thing"] spIsCode) (bIc : Binds K fdIc ["thing"] []) (gIc : mg "is_code" = some (.ref fIc))
    (FIr : Fun K "is_right_code" "is_right_code" sIsRight fIr fdIr) (GIr : FnOk P w K mg base CX0 (k + 2) fIr fdIr ["one", "other", "code"] spIsRight) (bIr : Binds K fdIr ["one", "other", "code"] []) (gIr : mg "is_right_code" = some (.ref fIr)) :
    FnOk P w K mg base CX0 (k + 3) f fd ["one", "other", "codes"] spIsCodes := by
  have GR : FnOk P w K mg base CX0 (k + 1) fR fdR ["thing"] spIsRow := ok_isRow FR B
  refine F.ok scIsCodes (fun vs H Q E h => ?_) (fun cdv A outer s H vs Q E hr h => ?_)
  · obtain ⟨p1, p2, p3, a, b, xs, cs, rfl, _⟩ := h
    rfl
  · obtain ⟨p1, p2, p3, a, b, xs, cs, rfl, h1, h2, h3, hx, ka, kb, ok, hlen, q⟩ := h
    refine ⟨_, (pss_cons (ps_if (PW.pt (pw_or (pt_not (pt_val (pe_call GR (hr.mono (by omega)) (by rfl) gR FR.kp bR .nil pass0 (pa_cons (pv 2) pa_nil)))) (pw_or1 (pt_not (pt_val (pe_callB (cr_all rfl) (by rfl) B.all (by decide +kernel) (pa_cons (pe_lc (own := [("code", 3)]) (g := gName 3) (tt := tYes) (by rfl) scIsCodes.nd (pi_list (pv 2)) (blkOk_by (own := [("code", 3)]) (N := ["one", "other", "codes", "code", "i", "j", "last"]) (sc := defScope sIsCodes) (by decide +kernel)) (fun _ _ _ _ _ => (pg_name (i := 3) scIsCodes.nd rfl (.inl rfl))) (fun _ _ _ _ _ => pts_nil) (fun _ _ _ _ _ => (pe_call GIc (hr.mono (by omega)) (by rfl) gIc FIc.kp bIc .nil pass0 (pa_cons (pv 3) pa_nil)))) pa_nil))))))) (pss_one (ps_ret pe_bl)) pss_nil)
      (pss_cons (ps_asg (pe_tup (pa_cons pe_int (pa_cons pe_int (pa_cons pe_str pa_nil)))) (pg_tup rfl (pgs_cons (pg_name (i := 4) scIsCodes.nd rfl (.inl rfl)) (pgs_cons (pg_name (i := 5) scIsCodes.nd rfl (.inl rfl)) (pgs_cons (pg_name (i := 6) scIsCodes.nd rfl (.inl rfl)) pgs_nil)))))
      (pss_cons (ps_for PassesOwn.never rfl (pi_list (pv 2)) (pg_name (i := 3) scIsCodes.nd rfl (.inl rfl)) (pss_cons (ps_if (PW.pt (pw_or (pt_cmpR (op_neD hr.units) (pe_tup (pa_cons (pe_ix ix_tup (pv 3) pe_int (fun _ _ => rfl)) (pa_cons (pe_ix ix_tup (pv 3) pe_int (fun _ _ => rfl)) pa_nil))) (pe_tup (pa_cons (pv 4) (pa_cons (pv 5) pa_nil))) (nomark _)) (pw_or1 (pt_not (pt_val (pe_call GIr (hr.mono (by omega)) (by rfl) gIr FIr.kp bIr .nil pass0 (pa_cons (pv 0) (pa_cons (pv 1) (pa_cons (pv 3) pa_nil))))))))) (pss_one (ps_ret pe_bl)) pss_nil)
      (pss_cons (ps_if (PW.pt (pw_and (pt_cmpR op_ne (pv 6) pe_str (nomark _)) (pw_and1 (pt_cmpR op_eq (pe_cmpR op_eq (pv 6) pe_str (nomark _)) (pe_cmpR op_eq (pe_ix ix_tup (pv 3) pe_int (fun _ _ => rfl)) pe_str (nomark _)) (nomark _))))) (pss_one (ps_ret pe_bl)) pss_nil)
      (pss_one (ps_par3 (by rfl) scIsCodes.nd (i := 6) (j := 4) (l := 5) rfl rfl rfl (by decide) (by decide) (by decide) rfl rfl rfl (pa_cons (pe_ix ix_tup (pv 3) pe_int (fun _ _ => rfl)) (pa_cons (pe_ix ix_tup (pv 3) pe_int (fun _ _ => rfl)) (pa_cons (pe_ix ix_tup (pv 3) pe_int (fun _ _ => rfl)) pa_nil))) (by rfl))))))
      (pss_one (ps_ret (pe_cmpR (op_eqD hr.units) (pe_tup (pa_cons (pv 4) (pa_cons (pv 5) pa_nil))) (pe_tup (pa_cons (pe_callB call_len_seq (by rfl) B.len PySem.boot_len (pa_cons (pv 0) pa_nil)) (pa_cons (pe_callB call_len_seq (by rfl) B.len PySem.boot_len (pa_cons (pv 1) pa_nil)) pa_nil))) (nomark _))))))), ?_⟩
    -- not is_row(codes)
    refine ⟨.ref p3, rfl, p3, rfl, .inl ⟨_, h3⟩, fun H1 s1 => ⟨true, rfl, iteF ?_⟩⟩
    have cut : ∀ (m : Nat) (p : Addr) (H : Hp), xs[m]? = some (.ref p) → AllT H xs (cs.map cdV) → ∃ c, cs[m]? = some c ∧ cs.drop m = c :: cs.drop (m + 1) ∧ H p = some (.tup (cdV c)) := fun m p H e ha => by
      obtain ⟨p', t, e1, e2, e3⟩ := ha.2 m _ e
      cases e1
      rw [List.getElem?_map] at e2
      cases ec : cs[m]? with
      | none => rw [ec] at e2; cases e2
      | some c =>
        rw [ec] at e2
        have e2' : cdV c = t := Option.some.inj e2
        subst e2'
        refine ⟨c, rfl, ?_, e3⟩
        obtain ⟨hm, he⟩ := List.getElem?_eq_some_iff.mp ec
        rw [List.drop_eq_getElem_cons hm, he]
    -- [is_code(code) for code in codes]
    refine ⟨.ref p3, rfl, p3, rfl, ⟨_, sqL (s1 _ _ h3)⟩, fun D nD => ?_⟩
    refine lc_list (K := K) (a := p3) (xs := xs) (fun i H3 => Same H1 H3 ∧ H3 D = some (.lst (List.replicate i (.bl true)))) ⟨same_upd nD, upd_same⟩ ?_ ?_ ?_
    · rintro i H3 _ ⟨sm, _⟩
      exact sqL (sm _ _ (s1 _ _ h3))
    · rintro i x H3 hxi ⟨sm, hD⟩
      obtain ⟨p, t, rfl, _⟩ := hx.2 i x hxi
      have sH3 : Same H H3 := s1.trans sm
      obtain ⟨c, ec, _, hp⟩ := cut i p H3 hxi (hx.same sH3)
      have hi : i < cs.length := (List.getElem?_eq_some_iff.mp ec).1
      refine ⟨rfl, ?_⟩
      unfold tYes
      refine iteT ⟨.ref p, rfl, p, c, rfl, hp, fun H4 s4 => ⟨_, s4 _ _ hD, by rw [List.length_replicate]; exact szl (by omega), fun b o e => ?_, ?_⟩⟩
      · have nb : b ≠ D := ne_of_none e nD
        rw [upd_ne nb]
        exact s4 _ _ (sm _ _ e)
      · rw [upd_same, List.replicate_succ']
    · rintro H3 ⟨sm, hD⟩
      refine ⟨D, List.replicate xs.length true, rfl, sqL (by rw [hD, List.map_replicate]), true, ?_, iteF ?_⟩
      · rw [show (List.replicate xs.length true).all id = true from List.all_eq_true.mpr fun x hx => (List.mem_replicate.mp hx).2]
      -- i, j, last = 0, 0, ""
      have s3 : Same H H3 := s1.trans sm
      refine ⟨by show 3 ≤ sizeLine; decide, fun t0 nt0 => ⟨t0, _, rfl, sqT upd_same, rfl, _, _, rfl, _, _, rfl, _, _, rfl, rfl, ?_⟩⟩
      have s4 := s3.trans (same_upd (o := .tup [.int 0, .int 0, .str ""]) nt0)
      refine ⟨.ref p3, rfl, p3, rfl, ⟨_, sqL (s4 _ _ h3)⟩, ?_⟩
      refine for_list (K := K) (xs := xs) (fun m σ H5 => ∃ (i j : Nat) (last : Option Wd) (x3 : Option V), σ = [some (.ref p1), some (.ref p2), some (.ref p3), x3, some (vN i), some (vN j), some (lastV last)] ∧ Same H H5 ∧ COk (eqB a b) a.length b.length i j last (cs.drop m)) ⟨0, 0, none, none, rfl, s4, ok⟩ ?_ ?_ ?_
      · rintro m σ H5 _ ⟨i, j, last, x3, rfl, sm, _⟩
        exact sqL (sm _ _ h3)
      · rintro m x σ H5 hxm ⟨i, j, last, x3, rfl, s5, okm⟩
        obtain ⟨p, t, rfl, _⟩ := hx.2 m x hxm
        obtain ⟨⟨wd, i1, i2, j1, j2⟩, ec, edr, hp⟩ := cut m p H5 hxm (hx.same s5)
        rw [edr] at okm
        obtain ⟨o1, o2, cr, alt, okr⟩ := okm
        simp only at o1 o2 alt okr
        subst o1 o2
        -- (code[1], code[3]) != (i, j)
        refine ⟨.ref p, rfl, p, _, 1, vN i1, rfl, rfl, sqT hp, atI_nat (j := 1) rfl, .ref p, rfl, p, _, 3, vN j1, rfl, rfl, sqT hp, atI_nat (j := 3) rfl, by show 2 ≤ sizeLine; decide, fun t1 nt1 => ?_⟩
        refine ⟨vN i1, rfl, vN j1, rfl, by show 2 ≤ sizeLine; decide, fun t2 nt2 => ?_⟩
        have s6 := same_upd (o := .tup [vN i1, vN j1]) nt1
        have s7 := s6.trans (same_upd (o := .tup [vN i1, vN j1]) nt2)
        have g1 : (upd (upd H5 t1 (.tup [vN i1, vN j1])) t2 (.tup [vN i1, vN j1])) t1 = some (.tup [vN i1, vN j1]) := same_upd nt2 _ _ upd_same
        have g2 : (upd (upd H5 t1 (.tup [vN i1, vN j1])) t2 (.tup [vN i1, vN j1])) t2 = some (.tup [vN i1, vN j1]) := upd_same
        generalize (upd (upd H5 t1 (.tup [vN i1, vN j1])) t2 (.tup [vN i1, vN j1])) = H7 at s7 g1 g2
        have d1 : Dp K H7 (.ref t1) (iD [(i1 : Int), (j1 : Int)]) := .tup (sqT g1) (int_all [(i1 : Int), (j1 : Int)])
        have d2 : Dp K H7 (.ref t2) (iD [(i1 : Int), (j1 : Int)]) := .tup (sqT g2) (int_all [(i1 : Int), (j1 : Int)])
        refine ⟨_, _, d1, d2, rfl, rfl, _, rfl, ?_⟩
        rw [eqv_self (d := iD [(i1 : Int), (j1 : Int)]) rfl]
        have s8 : Same H H7 := s5.trans s7
        refine iteF ⟨.ref p1, rfl, .ref p2, rfl, .ref p, rfl, p1, p2, p, a, b, _, rfl, s8 _ _ h1, s8 _ _ h2, s7 _ _ hp, ka, kb, cr, fun H9 s9 => ⟨true, rfl, iteF ?_⟩⟩
        have s10 : Same H H9 := s8.trans s9
        have hp9 : H9 p = some (.tup (cdV (wd, i1, i2, j1, j2))) := s9 _ _ (s7 _ _ hp)
        have fin : ∃ (i j : Nat) (last : Option Wd) (x3 : Option V), _ ∧ Same H H9 ∧ COk (eqB a b) a.length b.length i j last (cs.drop (m + 1)) := ⟨i2, j2, some wd, some (.ref p), (rfl : [some (V.ref p1), some (.ref p2), some (.ref p3), some (.ref p), some (vN i2), some (vN j2), some (wdV wd)] = _), s10, okr⟩
        -- last != ""
        refine ⟨lastV last, rfl, by cases last <;> rfl, _, rfl, ?_⟩
        cases last with
        | none =>
          refine iteF (iteF ?_)
          refine ⟨.ref p, rfl, p, _, 0, wdV wd, rfl, rfl, sqT hp9, atI_nat (j := 0) rfl, .ref p, rfl, p, _, 2, vN i2, rfl, rfl, sqT hp9, atI_nat (j := 2) rfl, .ref p, rfl, p, _, 4, vN j2, rfl, rfl, sqT hp9, atI_nat (j := 4) rfl, _, _, _, rfl, ?_⟩
          exact ⟨i2, j2, some wd, some (.ref p), rfl, s10, okr⟩
        | some l =>
          rw [show decide (lastV (some l) = V.str "") = false from wd_nil l]
          refine iteT ⟨wdV l, rfl, rfl, .ref p, rfl, p, _, 0, wdV wd, rfl, rfl, sqT hp9, atI_nat (j := 0) rfl, rfl, rfl, _, rfl, ?_⟩
          rw [wdS_eq, wdS_eq]
          have al := alt l rfl
          have ne : decide (V.bl (decide (l = Wd.eq)) = V.bl (decide (wd = Wd.eq))) = false := by
            refine decide_eq_false fun e => ?_
            have e' : decide (l = Wd.eq) = decide (wd = Wd.eq) := V.bl.inj e
            by_cases hl : l = .eq
            · rw [decide_eq_true hl, decide_eq_false (al.mp hl)] at e'
              cases e'
            · have : wd = .eq := by
                by_cases hw : wd = .eq
                · exact hw
                · exact absurd (al.mpr hw) hl
              rw [decide_eq_false hl, decide_eq_true this] at e'
              cases e'
          rw [ne]
          refine iteF ?_
          refine ⟨.ref p, rfl, p, _, 0, wdV wd, rfl, rfl, sqT hp9, atI_nat (j := 0) rfl, .ref p, rfl, p, _, 2, vN i2, rfl, rfl, sqT hp9, atI_nat (j := 2) rfl, .ref p, rfl, p, _, 4, vN j2, rfl, rfl, sqT hp9, atI_nat (j := 4) rfl, _, _, _, rfl, ?_⟩
          exact ⟨i2, j2, some wd, some (.ref p), rfl, s10, okr⟩
      · rintro σ H5 ⟨i, j, last, x3, rfl, s5, okm⟩
        rw [hx.1, List.length_map, List.drop_length] at okm
        obtain ⟨rfl, rfl⟩ := okm
        refine ⟨vN a.length, rfl, vN b.length, rfl, by show 2 ≤ sizeLine; decide, fun t1 nt1 => ?_⟩
        have s6 := same_upd (o := .tup [vN a.length, vN b.length]) nt1
        refine ⟨.ref p1, rfl, p1, _, rfl, .inl (sqL (s6 _ _ (s5 _ _ h1))), .ref p2, rfl, p2, _, rfl, .inl (sqL (s6 _ _ (s5 _ _ h2))), by show 2 ≤ sizeLine; decide, fun t2 nt2 => ?_⟩
        rw [List.length_map, List.length_map]
        have s7 := s6.trans (same_upd (o := .tup [vN a.length, vN b.length]) nt2)
        have g1 := same_upd (o := .tup [vN a.length, vN b.length]) nt2 _ _ (upd_same (H := H5) (a := t1) (o := .tup [vN a.length, vN b.length]))
        have d1 : Dp K (upd (upd H5 t1 (.tup [vN a.length, vN b.length])) t2 (.tup [vN a.length, vN b.length])) (.ref t1) (iD [(a.length : Int), (b.length : Int)]) := .tup (sqT g1) (int_all [(a.length : Int), (b.length : Int)])
        have d2 : Dp K (upd (upd H5 t1 (.tup [vN a.length, vN b.length])) t2 (.tup [vN a.length, vN b.length])) (.ref t2) (iD [(a.length : Int), (b.length : Int)]) := .tup (sqT upd_same) (int_all [(a.length : Int), (b.length : Int)])
        refine ⟨_, _, d1, d2, rfl, rfl, ?_⟩
        rw [eqv_self (d := iD [(a.length : Int), (b.length : Int)]) rfl]
        exact q _ (s5.trans s7)
end
end Tw
end
section
namespace Tw
open PySem PySem.Spec PyProof.Rows L2
/-! ### a matcher as it stands -/
/-- the places at which x stands -/
def plc (b : List Key) (x : Key) : List Nat := (List.range b.length).filter fun j => decide (b[j]? = some x)
theorem plc_mem {b : List Key} {x : Key} {j : Nat} : j ∈ plc b x ↔ b[j]? = some x := by
  unfold plc
  rw [List.mem_filter, List.mem_range]
  constructor
  · rintro ⟨_, h⟩; exact of_decide_eq_true h
  · intro h; exact ⟨(List.getElem?_eq_some_iff.mp h).1, decide_eq_true h⟩
/-- what the class must have -/
structure Tx (K : PySem.W.Frag) (C : Addr) : Prop where
  cl : Cls K C
  nJ : NoAttr K C "is_junk"
  nA : NoAttr K C "auto"
  nF : NoAttr K C "first"
  nS : NoAttr K C "second"
  nD : NoAttr K C "found"
  nW : NoAttr K C "junk"
  nP : NoAttr K C "popular"
def mflds (fj au : V) (t1 t2 d jl pl : Addr) : List (Str × V) := [("is_junk", fj), ("auto", au), ("first", .ref t1), ("second", .ref t2), ("found", .ref d), ("junk", .ref jl), ("popular", .ref pl)]
/-- the dict of places -/
structure FdAt (H : Hp) (d : Addr) (b : List Key) (sk : Key → Bool) (kvs : List (Key × V)) : Prop where
  at_ : H d = some (.dK kvs)
  no : ∀ x, (sk x = true ∨ x ∉ b) → valV kvs x = none
  yes : ∀ x, sk x = false → x ∈ b → ∃ l, valV kvs x = some (.ref l) ∧ H l = some (.lst ((plc b x).map vN))
structure MtW (C : Addr) (H : Hp) (m : Addr) (a b : List Key) (jk sk : Key → Bool) (dx t1 t2 d jl pl : Addr) (fj au : V) (kvs : List (Key × V)) (js : List Key) : Prop where
  ins : H m = some (.ins C dx (mflds fj au t1 t2 d jl pl))
  one : H t1 = some (.tup (a.map kV))
  two : H t2 = some (.tup (b.map kV))
  fd : FdAt H d b sk kvs
  jl : H jl = some (.lst (js.map kV))
  jm : ∀ x ∈ b, memB x js = jk x
def MtAt (C : Addr) (H : Hp) (m : Addr) (a b : List Key) (jk sk : Key → Bool) : Prop := ∃ dx t1 t2 d jl pl fj au kvs js, MtW C H m a b jk sk dx t1 t2 d jl pl fj au kvs js
theorem FdAt.same {H H' : Hp} {d : Addr} {b : List Key} {sk : Key → Bool} {kvs : List (Key × V)} (s : Same H H') (h : FdAt H d b sk kvs) : FdAt H' d b sk kvs :=
  ⟨s _ _ h.at_, h.no, fun x h1 h2 => let ⟨l, e1, e2⟩ := h.yes x h1 h2; ⟨l, e1, s _ _ e2⟩⟩
theorem MtAt.same {C : Addr} {H H' : Hp} {m : Addr} {a b : List Key} {jk sk : Key → Bool} (s : Same H H') (h : MtAt C H m a b jk sk) : MtAt C H' m a b jk sk := by
  obtain ⟨dx, t1, t2, d, jl, pl, fj, au, kvs, js, h⟩ := h
  exact ⟨dx, t1, t2, d, jl, pl, fj, au, kvs, js, s _ _ h.ins, s _ _ h.one, s _ _ h.two, h.fd.same s, s _ _ h.jl, h.jm⟩
theorem vN_pred (n : Nat) : V.int (((n + 1 : Nat) : Int) - 1) = vN n := by
  show V.int _ = V.int _
  congr 1
  omega
section
variable {P : Program} {w : World} {K : PySem.W.Frag} {mg : Str → Option Value} {base : Heap} {C : Addr}
/-! ### goes_on -/
theorem scGo : FnScope ["self", "i", "j", "by_junk"] ["self", "i", "j", "by_junk"] (defScope sGoesOn) := ⟨rfl, rfl, rfl, by decide +kernel, rfl, by decide +kernel, by decide +kernel⟩
def spGo (C : Addr) : Sp := fun vs H Q _ => ∃ (m : Addr) (i j : Nat) (qj : Bool) (a b : List Key) (jk sk : Key → Bool), vs = [.ref m, vN i, vN j, .bl qj] ∧ MtAt C H m a b jk sk ∧ i < a.length ∧ j < b.length ∧ Q (.bl (gqB a b jk qj i j)) H
theorem ok_go {f : Addr} {fd : FuncData} {k : Nat} (F : Fun K "goes_on" "Matcher.goes_on" sGoesOn f fd) (T : Tx K C) : FnOk P w K mg base CX0 (k + 1) f fd ["self", "i", "j", "by_junk"] (spGo C) := by
  refine F.ok scGo (fun vs H Q E h => ?_) (fun cdv A outer s H vs Q E hr h => ?_)
  · obtain ⟨m, i, j, qj, a, b, jk, sk, rfl, _⟩ := h
    rfl
  · obtain ⟨m, i, j, qj, a, b, jk, sk, rfl, ⟨dx, t1, t2, d, jl, pl, fj, au, kvs, js, M⟩, hi, hj, q⟩ := h
    refine ⟨_, (pss_one (ps_ret (pe_and (pe_cmpR op_eq (pe_ix ix_tup (pe_fld (pv 0) rfl) (pv 1) (fun _ _ => rfl)) (pe_ix ix_tup (pe_fld (pv 0) rfl) (pv 2) (fun _ _ => rfl)) (nomark _)) (pe_one (pe_cmpR op_eq (pe_cmpR op_in_seq (pe_ix ix_tup (pe_fld (pv 0) rfl) (pv 2) (fun _ _ => rfl)) (pe_fld (pv 0) rfl) (by rfl)) (pv 3) (nomark _)))))), ?_⟩
    have g1 := List.getElem?_eq_getElem hi
    have g2 := List.getElem?_eq_getElem hj
    generalize a[i] = x at g1
    generalize b[j] = y at g2
    rw [gqB_at g1 g2] at q
    refine ⟨.ref m, rfl, m, C, dx, _, .ref t1, rfl, M.ins, T.cl, T.nF, rfl, vN i, rfl, t1, _, i, kV x, rfl, rfl, sqT M.one, atI_nat (map_at g1), ?_⟩
    refine ⟨.ref m, rfl, m, C, dx, _, .ref t2, rfl, M.ins, T.cl, T.nS, rfl, vN j, rfl, t2, _, j, kV y, rfl, rfl, sqT M.two, atI_nat (map_at g2), ?_⟩
    refine ⟨vK_scal x y, _, rfl, ?_⟩
    rw [vK_eq]
    by_cases h : x = y
    · rw [decide_eq_true h, Bool.true_and] at q
      rw [decide_eq_true h]
      refine iteT ?_
      refine ⟨.ref m, rfl, m, C, dx, _, .ref t2, rfl, M.ins, T.cl, T.nS, rfl, vN j, rfl, t2, _, j, kV y, rfl, rfl, sqT M.two, atI_nat (map_at g2), ?_⟩
      refine ⟨.ref m, rfl, m, C, dx, _, .ref jl, rfl, M.ins, T.cl, T.nW, rfl, jl, _, rfl, .inl (sqL M.jl), flat_vK y, flat_all js, ?_⟩
      refine ⟨.bl qj, rfl, rfl, ?_⟩
      have e : decide (V.bl (if false = true then !inV (kV y) (js.map kV) else inV (kV y) (js.map kV)) = V.bl qj) = (jk y == qj) := by
        rw [if_neg Bool.false_ne_true, inV_vK, M.jm y (List.mem_of_getElem? g2)]
        cases jk y <;> cases qj <;> decide
      rw [e]
      exact q
    · rw [decide_eq_false h, Bool.false_and] at q
      rw [decide_eq_false h]
      exact iteF q
/-! ### grown -/
theorem scGr : FnScope ["self", "block", "bounds", "by_junk", "low", "high", "low2", "high2", "i", "j", "size"] ["self", "block", "bounds", "by_junk"] (defScope sGrown) := ⟨rfl, rfl, rfl, by decide +kernel, rfl, by decide +kernel, by decide +kernel⟩
def rgV (R : Rg) : List V := [vN R.lo, vN R.hi, vN R.lo2, vN R.hi2]
def spGr (C : Addr) : Sp := fun vs H Q _ => ∃ (m pb pr : Addr) (qj : Bool) (a b : List Key) (jk sk : Key → Bool) (R : Rg) (bk : Bk), vs = [.ref m, .ref pb, .ref pr, .bl qj] ∧ MtAt C H m a b jk sk ∧ H pb = some (.tup (bkV bk)) ∧ H pr = some (.tup (rgV R)) ∧
  R.lo ≤ bk.1 ∧ R.lo2 ≤ bk.2.1 ∧ bk.1 + bk.2.2 ≤ R.hi ∧ bk.2.1 + bk.2.2 ≤ R.hi2 ∧ R.hi ≤ a.length ∧ R.hi2 ≤ b.length ∧ ∀ p, H p = none → Q (.ref p) (upd H p (.tup (bkV (grow (gqB a b jk qj) R bk))))
theorem ok_gr {f fGo : Addr} {fd fdGo : FuncData} {k : Nat} (F : Fun K "grown" "Matcher.grown" sGrown f fd) (T : Tx K C) (FGo : Fun K "goes_on" "Matcher.goes_on" sGoesOn fGo fdGo) (bGo : Binds K fdGo ["self", "i", "j", "by_junk"] []) (mGo : Meth K C "goes_on" fGo) :
    FnOk P w K mg base CX0 (k + 2) f fd ["self", "block", "bounds", "by_junk"] (spGr C) := by
  have GGo : FnOk P w K mg base CX0 (k + 1) fGo fdGo ["self", "i", "j", "by_junk"] (spGo C) := ok_go FGo T
  refine F.ok scGr (fun vs H Q E h => ?_) (fun cdv A outer s H vs Q E hr h => ?_)
  · obtain ⟨m, pb, pr, qj, a, b, jk, sk, R, bk, rfl, _⟩ := h
    rfl
  · obtain ⟨m, pb, pr, qj, a, b, jk, sk, ⟨lo, hi, lo2, hi2⟩, ⟨i0, j0, n0⟩, rfl, MA, hb, hR, z1, z2, z3, z4, z5, z6, q⟩ := h
    obtain ⟨dx, t1, t2, d, jl, pl, fj, au, kvs, js, M⟩ := id MA
    simp only at z1 z2 z3 z4 z5 z6
    refine ⟨_, (pss_cons (ps_asg (pv 2) (pg_tup rfl (pgs_cons (pg_name (i := 4) scGr.nd rfl (.inl rfl)) (pgs_cons (pg_name (i := 5) scGr.nd rfl (.inl rfl)) (pgs_cons (pg_name (i := 6) scGr.nd rfl (.inl rfl)) (pgs_cons (pg_name (i := 7) scGr.nd rfl (.inl rfl)) pgs_nil))))))
      (pss_cons (ps_asg (pv 1) (pg_tup rfl (pgs_cons (pg_name (i := 8) scGr.nd rfl (.inl rfl)) (pgs_cons (pg_name (i := 9) scGr.nd rfl (.inl rfl)) (pgs_cons (pg_name (i := 10) scGr.nd rfl (.inl rfl)) pgs_nil)))))
      (C8.pss_cut (ps_while PassesOwn.never (PW.pt (pw_and (pt_cmpR op_gt (pv 8) (pv 4) (nomark _)) (pw_and (pt_cmpR op_gt (pv 9) (pv 6) (nomark _)) (pw_and1 (pt_val (pe_meth (pv 0) T.cl mGo GGo (hr.mono (by omega)) bGo .nil pass0 (pa_cons (pe_op op_sub (pv 8) pe_int) (pa_cons (pe_op op_sub (pv 9) pe_int) (pa_cons (pv 3) pa_nil))))))))) (pss_one (ps_par3 (by rfl) scGr.nd (i := 8) (j := 9) (l := 10) rfl rfl rfl (by decide) (by decide) (by decide) rfl rfl rfl (pa_cons (pe_op op_sub (pv 8) pe_int) (pa_cons (pe_op op_sub (pv 9) pe_int) (pa_cons (pe_op op_add (pv 10) pe_int) pa_nil))) (by rfl))))
      (pss_cons (ps_while PassesOwn.never (PW.pt (pw_and (pt_cmpR op_lt (pe_op op_add (pv 8) (pv 10)) (pv 5) (nomark _)) (pw_and (pt_cmpR op_lt (pe_op op_add (pv 9) (pv 10)) (pv 7) (nomark _)) (pw_and1 (pt_val (pe_meth (pv 0) T.cl mGo GGo (hr.mono (by omega)) bGo .nil pass0 (pa_cons (pe_op op_add (pv 8) (pv 10)) (pa_cons (pe_op op_add (pv 9) (pv 10)) (pa_cons (pv 3) pa_nil))))))))) (pss_one (ps_aug (i := 10) scGr.nd rfl (.inl rfl) pe_int ip_add)))
      (pss_one (ps_ret (pe_tup (pa_cons (pv 8) (pa_cons (pv 9) (pa_cons (pv 10) pa_nil)))))))))), ?_⟩
    refine ⟨.ref pr, rfl, pr, _, rfl, sqT hR, rfl, vN lo, _, rfl, vN hi, _, rfl, vN lo2, _, rfl, vN hi2, _, rfl, rfl, ?_⟩
    refine ⟨.ref pb, rfl, pb, _, rfl, sqT hb, rfl, vN i0, _, rfl, vN j0, _, rfl, vN n0, _, rfl, rfl, ?_⟩
    have bl0 := back_le (G := gqB a b jk qj) (lo := lo) (lo2 := lo2) i0 j0
    -- the first loop
    refine ⟨fun σ H3 => σ = [some (.ref m), some (.ref pb), some (.ref pr), some (.bl qj), some (vN lo), some (vN hi), some (vN lo2), some (vN hi2), some (vN (i0 - back (gqB a b jk qj) lo lo2 i0 j0)), some (vN (j0 - back (gqB a b jk qj) lo lo2 i0 j0)), some (vN (n0 + back (gqB a b jk qj) lo lo2 i0 j0))] ∧ H3 = H, ?_, ?_⟩
    · refine ⟨fun mm σ H3 => ∃ i j n : Nat, mm = i ∧ σ = [some (.ref m), some (.ref pb), some (.ref pr), some (.bl qj), some (vN lo), some (vN hi), some (vN lo2), some (vN hi2), some (vN i), some (vN j), some (vN n)] ∧ H3 = H ∧ lo ≤ i ∧ lo2 ≤ j ∧ i ≤ i0 ∧ j ≤ j0 ∧ i + n = i0 + n0 ∧ j + n = j0 + n0 ∧
        i - back (gqB a b jk qj) lo lo2 i j = i0 - back (gqB a b jk qj) lo lo2 i0 j0, ⟨i0, i0, j0, n0, rfl, rfl, rfl, z1, z2, Nat.le_refl _, Nat.le_refl _, rfl, rfl, rfl⟩, ?_⟩
      rintro mm σ H3 ⟨i, j, n, rfl, rfl, rfl, y1, y2, y3, y4, y5, y6, y7⟩
      have stop : back (gqB a b jk qj) lo lo2 mm j = 0 → ([some (V.ref m), some (.ref pb), some (.ref pr), some (.bl qj), some (vN lo), some (vN hi), some (vN lo2), some (vN hi2), some (vN mm), some (vN j), some (vN n)] : L2.St) =
          [some (.ref m), some (.ref pb), some (.ref pr), some (.bl qj), some (vN lo), some (vN hi), some (vN lo2), some (vN hi2), some (vN (i0 - back (gqB a b jk qj) lo lo2 i0 j0)), some (vN (j0 - back (gqB a b jk qj) lo lo2 i0 j0)), some (vN (n0 + back (gqB a b jk qj) lo lo2 i0 j0))] := fun hz => by
        rw [hz] at y7
        have e1 : mm = i0 - back (gqB a b jk qj) lo lo2 i0 j0 := by omega
        have e2 : j = j0 - back (gqB a b jk qj) lo lo2 i0 j0 := by omega
        have e3 : n = n0 + back (gqB a b jk qj) lo lo2 i0 j0 := by omega
        rw [← e1, ← e2, ← e3]
      refine ⟨vN mm, rfl, vN lo, rfl, _, _, rfl, rfl, _, rfl, ?_⟩
      by_cases c1 : lo < mm
      · rw [decide_eq_true (show (lo : Int) < mm by omega)]
        refine iteT ⟨vN j, rfl, vN lo2, rfl, _, _, rfl, rfl, _, rfl, ?_⟩
        by_cases c2 : lo2 < j
        · rw [decide_eq_true (show (lo2 : Int) < j by omega)]
          obtain ⟨i', rfl⟩ : ∃ i', mm = i' + 1 := ⟨mm - 1, by omega⟩
          obtain ⟨j', rfl⟩ : ∃ j', j = j' + 1 := ⟨j - 1, by omega⟩
          refine iteT ⟨.ref m, rfl, m, dx, _, rfl, M.ins, rfl, vN (i' + 1), rfl, _, _, rfl, rfl, vN (j' + 1), rfl, _, _, rfl, rfl, .bl qj, rfl, ?_⟩
          refine ⟨m, i', j', qj, a, b, jk, sk, by
            show [V.ref m, V.int (((i' + 1 : Nat) : Int) - 1), V.int (((j' + 1 : Nat) : Int) - 1), V.bl qj] = _
            rw [vN_pred, vN_pred], MA, by omega, by omega, _, rfl, ?_⟩
          by_cases c3 : gqB a b jk qj i' j' = true
          · rw [c3]
            refine iteT ⟨fun σ' H' => σ' = [some (.ref m), some (.ref pb), some (.ref pr), some (.bl qj), some (vN lo), some (vN hi), some (vN lo2), some (vN hi2), some (vN i'), some (vN j'), some (vN (n + 1))] ∧ H' = H3, ?_, ?_⟩
            · rintro σ' H' ⟨rfl, rfl⟩
              have bk := back_yes (G := gqB a b jk qj) (lo := lo) (lo2 := lo2) (i := i') (j := j') (by omega) (by omega) c3
              have bl := back_le (G := gqB a b jk qj) (lo := lo) (lo2 := lo2) i' j'
              exact ⟨i', by omega, i', j', n + 1, rfl, rfl, rfl, by omega, by omega, by omega, by omega, by omega, by omega, by omega⟩
            · refine ⟨vN (i' + 1), rfl, _, _, rfl, rfl, vN (j' + 1), rfl, _, _, rfl, rfl, vN n, rfl, _, _, rfl, rfl, _, _, _, rfl, ?_, rfl⟩
              show [some (V.ref m), some (.ref pb), some (.ref pr), some (.bl qj), some (vN lo), some (vN hi), some (vN lo2), some (vN hi2), some (V.int (((i' + 1 : Nat) : Int) - 1)), some (V.int (((j' + 1 : Nat) : Int) - 1)), some (vN (n + 1))] = _
              rw [vN_pred, vN_pred]
          · rw [Bool.eq_false_iff.mpr c3]
            exact iteF ⟨stop (back_no (by rintro ⟨_, _, z⟩; exact c3 z)), rfl⟩
        · rw [decide_eq_false (show ¬ (lo2 : Int) < j by omega)]
          exact iteF (iteF ⟨stop (back_lo (by omega)), rfl⟩)
      · rw [decide_eq_false (show ¬ (lo : Int) < mm by omega)]
        exact iteF (iteF ⟨stop (back_lo (by omega)), rfl⟩)
    · -- the second loop
      rintro σ H3 ⟨rfl, rfl⟩
      generalize hB : back (gqB a b jk qj) lo lo2 i0 j0 = B at *
      have w1 : i0 - B + (n0 + B) = i0 + n0 := by omega
      have w2 : j0 - B + (n0 + B) = j0 + n0 := by omega
      refine ⟨fun m2 σ H4 => ∃ n' : Nat, m2 = hi - (i0 - B + n') ∧ σ = [some (.ref m), some (.ref pb), some (.ref pr), some (.bl qj), some (vN lo), some (vN hi), some (vN lo2), some (vN hi2), some (vN (i0 - B)), some (vN (j0 - B)), some (vN n')] ∧ H4 = H3 ∧ i0 - B + n' ≤ hi ∧ j0 - B + n' ≤ hi2 ∧
        n' + hd (gqB a b jk qj) hi hi2 (i0 - B + n') (j0 - B + n') = n0 + B + hd (gqB a b jk qj) hi hi2 (i0 + n0) (j0 + n0), ⟨_, n0 + B, rfl, rfl, rfl, by omega, by omega, by rw [w1, w2]⟩, ?_⟩
      rintro m2 σ H4 ⟨n', rfl, rfl, rfl, x1, x2, x3⟩
      have fin : hd (gqB a b jk qj) hi hi2 (i0 - B + n') (j0 - B + n') = 0 → ∀ p, H4 p = none → Q (.ref p) (upd H4 p (.tup [vN (i0 - B), vN (j0 - B), vN n'])) := fun hz p hp => by
        rw [hz] at x3
        have z := q p hp
        unfold grow at z
        simp only [hB] at z
        rw [← x3] at z
        exact z
      refine ⟨vN (i0 - B), rfl, vN n', rfl, _, _, rfl, rfl, vN hi, rfl, _, _, rfl, rfl, _, rfl, ?_⟩
      by_cases c1 : i0 - B + n' < hi
      · rw [decide_eq_true (show ((i0 - B : Nat) : Int) + n' < hi by omega)]
        refine iteT ⟨vN (j0 - B), rfl, vN n', rfl, _, _, rfl, rfl, vN hi2, rfl, _, _, rfl, rfl, _, rfl, ?_⟩
        by_cases c2 : j0 - B + n' < hi2
        · rw [decide_eq_true (show ((j0 - B : Nat) : Int) + n' < hi2 by omega)]
          refine iteT ⟨.ref m, rfl, m, dx, _, rfl, M.ins, rfl, vN (i0 - B), rfl, vN n', rfl, _, _, rfl, rfl, vN (j0 - B), rfl, vN n', rfl, _, _, rfl, rfl, .bl qj, rfl, ?_⟩
          refine ⟨m, i0 - B + n', j0 - B + n', qj, a, b, jk, sk, rfl, MA, by omega, by omega, _, rfl, ?_⟩
          by_cases c3 : gqB a b jk qj (i0 - B + n') (j0 - B + n') = true
          · rw [c3]
            refine iteT ⟨fun σ' H' => σ' = [some (.ref m), some (.ref pb), some (.ref pr), some (.bl qj), some (vN lo), some (vN hi), some (vN lo2), some (vN hi2), some (vN (i0 - B)), some (vN (j0 - B)), some (vN (n' + 1))] ∧ H' = H4, ?_, ?_⟩
            · rintro σ' H' ⟨rfl, rfl⟩
              have hy := hd_yes (M := gqB a b jk qj) (hi := hi) (hi2 := hi2) c1 c2 c3
              refine ⟨hi - (i0 - B + (n' + 1)), by omega, n' + 1, rfl, rfl, rfl, by omega, by omega, ?_⟩
              rw [show i0 - B + (n' + 1) = i0 - B + n' + 1 by omega, show j0 - B + (n' + 1) = j0 - B + n' + 1 by omega]
              omega
            · exact ⟨vN n', rfl, _, _, rfl, rfl, rfl, rfl⟩
          · rw [Bool.eq_false_iff.mpr c3]
            refine iteF ⟨vN (i0 - B), rfl, vN (j0 - B), rfl, vN n', rfl, by show 3 ≤ sizeLine; decide, fin (hd_no (by rintro ⟨_, _, z⟩; exact c3 z))⟩
        · rw [decide_eq_false (show ¬ ((j0 - B : Nat) : Int) + n' < hi2 by omega)]
          exact iteF (iteF ⟨vN (i0 - B), rfl, vN (j0 - B), rfl, vN n', rfl, by show 3 ≤ sizeLine; decide, fin (hd_no (by omega))⟩)
      · rw [decide_eq_false (show ¬ ((i0 - B : Nat) : Int) + n' < hi by omega)]
        exact iteF (iteF ⟨vN (i0 - B), rfl, vN (j0 - B), rfl, vN n', rfl, by show 3 ≤ sizeLine; decide, fin (hd_no (by omega))⟩)
end
end Tw
end
section
namespace Tw
open PySem PySem.Spec PyProof.Rows L2
/-! ### dicts of places -/
structure FrK (kv : List (Key × V)) (S : List Nat) (lo2 hi2 : Nat) (g : Nat → V) : Prop where
  some_ : ∀ j ∈ S, lo2 ≤ j → j < hi2 → valV kv (.inl (j : Int)) = some (g j)
  only : ∀ (z : Int) v, valV kv (.inl z) = some v → ∃ j, j ∈ S ∧ z = (j : Int) ∧ lo2 ≤ j ∧ j < hi2
  len : kv.length ≤ S.length
theorem FrK.nil {lo2 hi2 : Nat} {g : Nat → V} : FrK [] [] lo2 hi2 g := ⟨fun j h => absurd h (by simp), fun z v h => absurd h (by rw [valV_nil]; simp), Nat.le_refl _⟩
theorem FrK.put {kv : List (Key × V)} {S : List Nat} {lo2 hi2 j : Nat} {g : Nat → V} (h : FrK kv S lo2 hi2 g) (h1 : lo2 ≤ j) (h2 : j < hi2) : FrK (putK kv (.inl (j : Int)) (g j)) (S ++ [j]) lo2 hi2 g := by
  refine ⟨fun j' hj a1 a2 => ?_, fun z v e => ?_, ?_⟩
  · rw [valV_put]
    by_cases e : j' = j
    · subst e
      rw [if_pos rfl]
    · rw [if_neg (fun z => e (by have := Sum.inl.inj z; omega))]
      rcases List.mem_append.mp hj with q | q
      · exact h.some_ j' q a1 a2
      · exact absurd (List.mem_singleton.mp q) e
  · rw [valV_put] at e
    by_cases q : (Sum.inl z : Key) = .inl (j : Int)
    · exact ⟨j, List.mem_append_right _ (List.mem_singleton.mpr rfl), Sum.inl.inj q, h1, h2⟩
    · rw [if_neg q] at e
      obtain ⟨j', a, b, c⟩ := h.only z v e
      exact ⟨j', List.mem_append_left _ a, b, c⟩
  · have := length_putK kv (.inl (j : Int)) (g j)
    have := h.len
    rw [List.length_append, List.length_singleton]
    omega
theorem FrK.skip {kv : List (Key × V)} {S : List Nat} {lo2 hi2 j : Nat} {g : Nat → V} (h : FrK kv S lo2 hi2 g) (h1 : ¬ (lo2 ≤ j ∧ j < hi2)) : FrK kv (S ++ [j]) lo2 hi2 g := by
  refine ⟨fun j' hj a1 a2 => ?_, fun z v e => ?_, ?_⟩
  · rcases List.mem_append.mp hj with q | q
    · exact h.some_ j' q a1 a2
    · have := List.mem_singleton.mp q
      subst this
      exact absurd ⟨a1, a2⟩ h1
  · obtain ⟨j', a, b, c⟩ := h.only z v e
    exact ⟨j', List.mem_append_left _ a, b, c⟩
  · have := h.len
    rw [List.length_append, List.length_singleton]
    omega
theorem plc_sorted (b : List Key) (x : Key) : (plc b x).Pairwise (· < ·) := by
  unfold plc
  exact List.Pairwise.filter _ List.pairwise_lt_range
theorem take_lt {l : List Nat} (h : l.Pairwise (· < ·)) {m j j' : Nat} (hm : l[m]? = some j) (hj : j' ∈ l.take m) : j' < j := by
  obtain ⟨i, hi⟩ := List.mem_iff_getElem?.mp hj
  have hlt : i < m := by
    have := (List.getElem?_eq_some_iff.mp hi).1
    rw [List.length_take] at this
    omega
  rw [List.getElem?_take_of_lt hlt] at hi
  obtain ⟨a1, a2⟩ := List.getElem?_eq_some_iff.mp hi
  obtain ⟨b1, b2⟩ := List.getElem?_eq_some_iff.mp hm
  have := List.pairwise_iff_getElem.mp h i m a1 b1 hlt
  rw [a2, b2] at this
  exact this
theorem take_snoc {α : Type} {l : List α} {m : Nat} {j : α} (h : l[m]? = some j) : l.take (m + 1) = l.take m ++ [j] := by
  rw [List.take_add_one, h]
  rfl
/-- the value that ends tells -/
def EndsOk (kv : List (Key × V)) (t : Nat → Nat) (hi2 : Nat) : Prop := ∀ j, j ≤ hi2 → (valV kv (.inl ((j : Int) - 1))).getD (.int 0) = vN (t j)
section
variable {M : Nat → Nat → Bool} {lo lo2 hi2 i : Nat}
theorem ends_next {kv : List (Key × V)} {pl : List Nat} (h : FrK kv pl lo2 hi2 fun j => vN (tl M lo lo2 (i + 1) (j + 1))) (hp : ∀ j, j < hi2 → M i j = true → j ∈ pl) : EndsOk kv (tl M lo lo2 (i + 1)) hi2 := by
  intro j hj
  cases j with
  | zero =>
    have : valV kv (.inl (((0 : Nat) : Int) - 1)) = none := by
      cases e : valV kv (.inl (((0 : Nat) : Int) - 1)) with
      | none => rfl
      | some v =>
        obtain ⟨j, _, z, _⟩ := h.only _ v e
        omega
    rw [this]
    show V.int 0 = vN (tl M lo lo2 (i + 1) 0)
    simp [tl]
  | succ j =>
    rw [show (((j + 1 : Nat) : Int) - 1) = (j : Int) by omega]
    by_cases c : lo ≤ i ∧ lo2 ≤ j ∧ M i j = true
    · rw [h.some_ j (hp j (by omega) c.2.2) c.2.1 (by omega)]
      rfl
    · cases e : valV kv (.inl (j : Int)) with
      | none =>
        rw [tl_no c]
        rfl
      | some v =>
        obtain ⟨j', m', z, h1, h2⟩ := h.only _ v e
        have ej : j' = j := by omega
        subst ej
        rw [h.some_ j' m' h1 h2] at e
        cases e
        rfl
end
section
variable {P : Program} {w : World} {K : PySem.W.Frag} {mg : Str → Option Value} {base : Heap} {C : Addr}
/-! ### begun -/
theorem scBg : FnScope ["self", "low", "high", "low2", "high2", "best", "ends", "i", "fresh", "j", "size"] ["self", "low", "high", "low2", "high2"] (defScope sBegun) := ⟨rfl, rfl, rfl, by decide +kernel, rfl, by decide +kernel, by decide +kernel⟩
def spBg (C : Addr) : Sp := fun vs H Q _ => ∃ (m : Addr) (a b : List Key) (jk sk : Key → Bool) (R : Rg), vs = [.ref m, vN R.lo, vN R.hi, vN R.lo2, vN R.hi2] ∧ MtAt C H m a b jk sk ∧ R.wf ∧ R.hi ≤ a.length ∧ R.hi2 ≤ b.length ∧ a.length ≤ 1000 ∧ b.length ≤ 1000 ∧
  ∀ H' p, Same H H' → H' p = some (.tup (bkV (best (mtB a b sk) R))) → Q (.ref p) H'
theorem ok_bg {f : Addr} {fd : FuncData} {k : Nat} (F : Fun K "begun" "Matcher.begun" sBegun f fd) (T : Tx K C) (B : Bm mg) : FnOk P w K mg base CX0 (k + 1) f fd ["self", "low", "high", "low2", "high2"] (spBg C) := by
  refine F.ok scBg (fun vs H Q E h => ?_) (fun cdv A outer s H vs Q E hr h => ?_)
  · obtain ⟨m, a, b, jk, sk, R, rfl, _⟩ := h
    rfl
  · obtain ⟨m, a, b, jk, sk, ⟨lo, hi, lo2, hi2⟩, rfl, MA, wf, z1, z2, z3, z4, q⟩ := h
    obtain ⟨dx, t1, t2, d, jl, pl0, fj, au, kvs0, js, MW⟩ := id MA
    simp only at z1 z2
    have wf1 : lo ≤ hi := wf.1
    have wf2 : lo2 ≤ hi2 := wf.2
    refine ⟨_, (pss_cons (ps_set (i := 5) scBg.nd rfl (.inl rfl) (pe_tup (pa_cons (pv 1) (pa_cons (pv 3) (pa_cons pe_int pa_nil)))))
      (pss_cons (ps_set (i := 6) scBg.nd rfl (.inl rfl) pe_dnewK)
      (pss_cons (ps_for PassesOwn.never rfl (pi_range2 (by rfl) B.range (pa_cons (pv 1) (pa_cons (pv 2) pa_nil))) (pg_name (i := 7) scBg.nd rfl (.inl rfl)) (pss_cons (ps_set (i := 8) scBg.nd rfl (.inl rfl) pe_dnewK)
      (pss_cons (ps_for PassesOwn.never rfl (pi_list (pe_dget2 (hu_of hr) (pe_fld (pv 0) rfl) (pe_ix ix_tup (pe_fld (pv 0) rfl) (pv 7) (fun _ _ => rfl)) (pe_lst pa_nil) ⟨rfl, rfl, rfl, rfl⟩)) (pg_name (i := 9) scBg.nd rfl (.inl rfl)) (pss_one (ps_if (pt_chain op_le op_lt (pv 3) (pv 9) (pv 4)) (pss_cons (ps_set (i := 10) scBg.nd rfl (.inl rfl) (pe_op op_add (pe_dget2 (hu_of hr) (pv 6) (pe_op op_sub (pv 9) pe_int) pe_int ⟨rfl, rfl, rfl, rfl⟩) pe_int))
      (pss_cons (ps_dput (hu_of hr) (pv 8) (pv 9) (pv 10) rfl)
      (pss_one (ps_if (pt_cmpR op_gt (pv 10) (pe_ix ix_tup (pv 5) pe_int (fun _ _ => rfl)) (nomark _)) (pss_one (ps_set (i := 5) scBg.nd rfl (.inl rfl) (pe_tup (pa_cons (pe_op op_add (pe_op op_sub (pv 7) (pv 10)) pe_int) (pa_cons (pe_op op_add (pe_op op_sub (pv 9) (pv 10)) pe_int) (pa_cons (pv 10) pa_nil)))))) pss_nil)))) pss_nil)))
      (pss_one (ps_set (i := 6) scBg.nd rfl (.inl rfl) (pv 8))))))
      (pss_one (ps_ret (pv 5)))))), ?_⟩
    generalize hM : mtB a b sk = M at q
    -- best = (low, low2, 0); ends = {}
    refine ⟨vN lo, rfl, vN lo2, rfl, by show 3 ≤ sizeLine; decide, fun pb nb => ?_⟩
    have s1 := same_upd (o := .tup [vN lo, vN lo2, .int 0]) nb
    have e1 : (upd H pb (.tup [vN lo, vN lo2, .int 0])) pb = some (.tup (bkV (lo, lo2, 0))) := upd_same
    generalize upd H pb (.tup [vN lo, vN lo2, .int 0]) = H1 at s1 e1
    intro pe ne
    have s2 := s1.trans (same_upd (o := .dK []) ne)
    have e2 := same_upd (o := .dK []) ne _ _ e1
    have e3 : (upd H1 pe (.dK [])) pe = some (.dK []) := upd_same
    generalize upd H1 pe (.dK []) = H2 at s2 e2 e3
    refine ⟨vN lo, rfl, vN hi, rfl, lo, hi, rfl, ⟨by omega, by omega, by omega, by omega⟩, ?_⟩
    have hn : ((hi : Int) - (lo : Int)).toNat = hi - lo := by omega
    rw [hn]
    refine for_range (lo := lo) (n := hi - lo) (fun mm σ H3 => ∃ (pb pe : Addr) (bi bj bn : Nat) (kv : List (Key × V)) (x7 x8 x9 x10 : Option V), σ = [some (.ref m), some (vN lo), some (vN hi), some (vN lo2), some (vN hi2), some (.ref pb), some (.ref pe), x7, x8, x9, x10] ∧ Same H H3 ∧
      H3 pb = some (.tup (bkV (bi, bj, bn))) ∧ H3 pe = some (.dK kv) ∧ EndsOk kv (tl M lo lo2 (lo + mm)) hi2 ∧ BP M lo lo2 (fun e f => e ≤ lo + mm ∧ f ≤ hi2) bi bj bn) ?_ ?_ ?_
    · exact ⟨pb, pe, lo, lo2, 0, [], none, none, none, none, rfl, s2, e2, e3, fun j hj => by rw [valV_nil, tl_lo _ _ (by omega)]; rfl, BP.start fun e f h => tl_lo _ _ (by omega)⟩
    · rintro mm σ H3 hmm ⟨pb, pe, bi, bj, bn, kv, x7, x8, x9, x10, rfl, sm, hb, he, hE, hP⟩
      -- fresh = {}
      intro pf nf
      have s3 := same_upd (o := .dK []) nf
      have f1 : (upd H3 pf (.dK [])) pf = some (.dK []) := upd_same
      have hi_lt : lo + mm < a.length := by omega
      have g1 := List.getElem?_eq_getElem hi_lt
      generalize a[lo + mm] = x at g1
      -- self.found.get(self.first[i], [])
      have MW3 := MW
      generalize upd H3 pf (.dK []) = H4 at s3 f1
      have s4 : Same H H4 := sm.trans s3
      refine ⟨.ref m, rfl, m, C, dx, _, .ref d, rfl, s4 _ _ MW.ins, T.cl, T.nD, rfl, d, rfl, .inl ⟨kvs0, .inl (s4 _ _ MW.fd.at_)⟩, ?_⟩
      refine ⟨.ref m, rfl, m, C, dx, _, .ref t1, rfl, s4 _ _ MW.ins, T.cl, T.nF, rfl, .int (lo + mm), rfl, t1, _, ((lo + mm : Nat) : Int), kV x, rfl, rfl, sqT (s4 _ _ MW.one), atI_nat (map_at g1), ?_⟩
      refine ⟨Nat.zero_le _, fun l0 nl0 => ?_⟩
      have s5 := same_upd (o := .lst []) nl0
      have f2 : (upd H4 l0 (.lst [])) l0 = some (.lst []) := upd_same
      have f1' := s5 _ _ f1
      generalize upd H4 l0 (.lst []) = H5 at s5 f2 f1'
      refine ⟨valV kvs0 x, .inl ⟨kvs0, x, .inl (s5 _ _ (s4 _ _ MW.fd.at_)), rfl, rfl⟩, ?_⟩
      -- the list that is walked
      obtain ⟨l, pl, el, hl, plm, pls⟩ : ∃ (l : Addr) (pl : List Nat), (valV kvs0 x).getD (.ref l0) = .ref l ∧ H5 l = some (.lst (pl.map vN)) ∧ (∀ j, j < hi2 → (M (lo + mm) j = true ↔ j ∈ pl)) ∧ (pl.Pairwise (· < ·) ∧ pl.length ≤ 1000) := by
        have mb : ∀ j, j < hi2 → ∃ y, b[j]? = some y ∧ M (lo + mm) j = (decide (x = y) && !sk x) := fun j hj => by
          have h := List.getElem?_eq_getElem (show j < b.length by omega)
          exact ⟨_, h, by rw [← hM]; exact mtB_at g1 h⟩
        by_cases c : sk x = true ∨ x ∉ b
        · rw [MW.fd.no x c]
          refine ⟨l0, [], rfl, f2, fun j hj => ?_, List.Pairwise.nil, Nat.zero_le _⟩
          obtain ⟨y, hy, e⟩ := mb j hj
          rw [e]
          rcases c with c | c
          · simp [c]
          · have : ¬ x = y := fun z => c (by rw [z]; exact List.mem_of_getElem? hy)
            simp [this]
        · have c1 : sk x = false := by
            cases h : sk x with
            | false => rfl
            | true => exact absurd (.inl h) c
          have c2 : x ∈ b := by
            by_cases h : x ∈ b
            · exact h
            · exact absurd (.inr h) c
          obtain ⟨l, e1, e2⟩ := MW.fd.yes x c1 c2
          rw [e1]
          refine ⟨l, plc b x, rfl, s5 _ _ (s4 _ _ e2), fun j hj => ?_, plc_sorted b x, ?_⟩
          · obtain ⟨y, hy, e⟩ := mb j hj
            rw [e, plc_mem, hy, c1]
            simp
            exact ⟨fun z => z.symm, fun z => z.symm⟩
          · have : (plc b x).length ≤ (List.range b.length).length := List.length_filter_le _ _
            rw [List.length_range] at this
            omega
      rw [el]
      refine ⟨l, rfl, ⟨_, sqL hl⟩, ?_⟩
      have hb5 := s5 _ _ (s3 _ _ hb)
      have he5 := s5 _ _ (s3 _ _ he)
      have nfe : pf ≠ pe := fun z => by rw [z, he] at nf; cases nf
      have npb : pb ≠ pf := fun z => by rw [z, nf] at hb; cases hb
      have nl : l ≠ pf := fun z => by rw [z, f1'] at hl; cases hl
      have sH5 : Same H H5 := s4.trans s5
      have nfH : H pf = none := sm.free nf
      refine for_list (K := K) (xs := pl.map vN) (fun m' σ H6 => ∃ (pb : Addr) (bi bj bn : Nat) (kf : List (Key × V)) (x9 x10 : Option V), σ = [some (.ref m), some (vN lo), some (vN hi), some (vN lo2), some (vN hi2), some (.ref pb), some (.ref pe), some (vN (lo + mm)), some (.ref pf), x9, x10] ∧
        Same H H6 ∧ H6 pb = some (.tup (bkV (bi, bj, bn))) ∧ H6 pe = some (.dK kv) ∧ H6 pf = some (.dK kf) ∧ H6 l = some (.lst (pl.map vN)) ∧ FrK kf (pl.take m') lo2 hi2 (fun j => vN (tl M lo lo2 (lo + mm + 1) (j + 1))) ∧
        BP M lo lo2 (fun e f => (e ≤ lo + mm ∧ f ≤ hi2) ∨ (e = lo + mm + 1 ∧ f ≤ hi2 ∧ ∃ j ∈ pl.take m', f = j + 1)) bi bj bn) ?_ ?_ ?_ ?_
      · exact ⟨pb, bi, bj, bn, [], _, _, rfl, sH5, hb5, he5, f1', hl, FrK.nil, hP.more (fun e f h => .inl h) (fun e f h => h.elim .inl fun ⟨_, _, j, hj, _⟩ => by cases hj)⟩
      · rintro m' σ H6 _ ⟨pb, bi, bj, bn, kf, x9, x10, rfl, _, _, _, _, hl6, _⟩
        exact sqL hl6
      · rintro m' v σ H6 hv ⟨pb, bi, bj, bn, kf, x9, x10, rfl, s6, hb6, he6, hf6, hl6, hF, hB⟩
        obtain ⟨j, hj, rfl⟩ : ∃ j, pl[m']? = some j ∧ vN j = v := by
          rw [List.getElem?_map] at hv
          cases e : pl[m']? with
          | none => rw [e] at hv; cases hv
          | some j => rw [e] at hv; exact ⟨j, rfl, Option.some.inj hv⟩
        have ts := take_snoc hj
        have nfb6 : pb ≠ pf := fun z => by rw [z, hf6] at hb6; cases hb6
        -- the two ways end alike
        have next : ∀ (pb' : Addr) (bi' bj' bn' : Nat) (kf' : List (Key × V)) (x10' : Option V) (H7 : Hp), Same H H7 → H7 pb' = some (.tup (bkV (bi', bj', bn'))) → H7 pe = some (.dK kv) → H7 pf = some (.dK kf') → H7 l = some (.lst (pl.map vN)) →
            FrK kf' (pl.take m' ++ [j]) lo2 hi2 (fun j => vN (tl M lo lo2 (lo + mm + 1) (j + 1))) → BP M lo lo2 (fun e f => (e ≤ lo + mm ∧ f ≤ hi2) ∨ (e = lo + mm + 1 ∧ f ≤ hi2 ∧ ∃ j' ∈ pl.take m' ++ [j], f = j' + 1)) bi' bj' bn' →
            ∃ (pb : Addr) (bi bj bn : Nat) (kf : List (Key × V)) (x9 x10 : Option V), ([some (.ref m), some (vN lo), some (vN hi), some (vN lo2), some (vN hi2), some (.ref pb'), some (.ref pe), some (vN (lo + mm)), some (.ref pf), some (vN j), x10'] : L2.St) = [some (.ref m), some (vN lo), some (vN hi), some (vN lo2), some (vN hi2), some (.ref pb), some (.ref pe), some (vN (lo + mm)), some (.ref pf), x9, x10] ∧
              Same H H7 ∧ H7 pb = some (.tup (bkV (bi, bj, bn))) ∧ H7 pe = some (.dK kv) ∧ H7 pf = some (.dK kf) ∧ H7 l = some (.lst (pl.map vN)) ∧ FrK kf (pl.take (m' + 1)) lo2 hi2 (fun j => vN (tl M lo lo2 (lo + mm + 1) (j + 1))) ∧
              BP M lo lo2 (fun e f => (e ≤ lo + mm ∧ f ≤ hi2) ∨ (e = lo + mm + 1 ∧ f ≤ hi2 ∧ ∃ j ∈ pl.take (m' + 1), f = j + 1)) bi bj bn := by
          intro pb' bi' bj' bn' kf' x10' H7 a1 a2 a3 a4 a5 a6 a7
          rw [ts]
          exact ⟨pb', bi', bj', bn', kf', _, _, rfl, a1, a2, a3, a4, a5, a6, a7⟩
        refine ⟨vN lo2, rfl, vN j, rfl, _, _, rfl, rfl, _, rfl, ?_⟩
        by_cases c1 : lo2 ≤ j
        · rw [if_pos (decide_eq_true (show (lo2 : Int) ≤ j by omega))]
          refine ⟨vN hi2, rfl, _, _, rfl, rfl, _, rfl, ?_⟩
          by_cases c2 : j < hi2
          · rw [decide_eq_true (show (j : Int) < hi2 by omega)]
            have hMt : M (lo + mm) j = true := (plm j c2).mpr (List.mem_of_getElem? hj)
            have htl := tl_yes (M := M) (lo := lo) (lo2 := lo2) (i := lo + mm) (j := j) (by omega) c1 hMt
            have tle := tl_le (M := M) (lo := lo) (lo2 := lo2) (lo + mm) j
            -- size = ends.get(j - 1, 0) + 1
            refine iteT ⟨.ref pe, rfl, pe, rfl, .inl ⟨kv, .inl he6⟩, vN j, rfl, _, _, rfl, rfl, valV kv (.inl ((j : Int) - 1)), .inl ⟨kv, .inl ((j : Int) - 1), .inl he6, rfl, rfl⟩, ?_⟩
            rw [hE j (by omega)]
            refine ⟨_, _, rfl, rfl, ?_⟩
            -- fresh[j] = size
            have hFl := hF.len
            refine ⟨vN (tl M lo lo2 (lo + mm + 1) (j + 1)), by rw [htl]; rfl, .ref pf, rfl, vN j, rfl, pf, _, rfl, DPut.k (k := .inl (j : Int)) hf6 (szl (by
              have := List.length_take_le' m' pl
              have := pls.2
              omega)), ?_⟩
            have nb6 : ∀ c o, H6 c = some o → c ≠ pf → (upd H6 pf (.dK (putK kf (.inl (j : Int)) (vN (tl M lo lo2 (lo + mm + 1) (j + 1)))))) c = some o := fun c o e n => by rw [upd_ne n]; exact e
            have s7 : Same H (upd H6 pf (.dK (putK kf (.inl (j : Int)) (vN (tl M lo lo2 (lo + mm + 1) (j + 1)))))) := fun c o e => nb6 c o (s6 _ _ e) (ne_of_none e nfH)
            have hb7 := nb6 _ _ hb6 nfb6
            have he7 := nb6 _ _ he6 nfe.symm
            have hl7 := nb6 _ _ hl6 nl
            have hf7 : (upd H6 pf (.dK (putK kf (.inl (j : Int)) (vN (tl M lo lo2 (lo + mm + 1) (j + 1)))))) pf = some (.dK (putK kf (.inl (j : Int)) (vN (tl M lo lo2 (lo + mm + 1) (j + 1))))) := upd_same
            have hF7 := hF.put (j := j) c1 c2
            generalize (upd H6 pf (.dK (putK kf (.inl (j : Int)) (vN (tl M lo lo2 (lo + mm + 1) (j + 1)))))) = H7 at s7 hb7 he7 hl7 hf7
            have st := hB.step (P' := fun e f => (e ≤ lo + mm ∧ f ≤ hi2) ∨ (e = lo + mm + 1 ∧ f ≤ hi2 ∧ ∃ j' ∈ pl.take m' ++ [j], f = j' + 1)) (e := lo + mm + 1) (f := j + 1) (fun e' f' h => by
                rcases h with h | ⟨h1, h2, j', h3, h4⟩
                · omega
                · have := take_lt pls.1 hj h3
                  omega) (fun e' f' h => h.imp id fun ⟨h1, h2, j', h3, h4⟩ => ⟨h1, h2, j', List.mem_append_left _ h3, h4⟩) (.inr ⟨rfl, by omega, j, List.mem_append_right _ (List.mem_singleton.mpr rfl), rfl⟩) (fun e' f' h => by
                rcases h with h | ⟨h1, h2, j', h3, h4⟩
                · exact .inl (.inl h)
                · rcases List.mem_append.mp h3 with h3 | h3
                  · exact .inl (.inr ⟨h1, h2, j', h3, h4⟩)
                  · have := List.mem_singleton.mp h3
                    subst this
                    exact .inr ⟨h1, h4⟩)
            -- if size > best[2]
            refine ⟨vN (tl M lo lo2 (lo + mm + 1) (j + 1)), by rw [htl]; rfl, .ref pb, rfl, pb, _, 2, vN bn, rfl, rfl, sqT hb7, atI_nat (j := 2) rfl, _, _, rfl, rfl, _, rfl, ?_⟩
            by_cases c3 : bn < tl M lo lo2 (lo + mm + 1) (j + 1)
            · rw [decide_eq_true (show (bn : Int) < (tl M lo lo2 (lo + mm + 1) (j + 1) : Nat) by omega)]
              generalize htt : tl M lo lo2 (lo + mm + 1) (j + 1) = tt at *
              refine iteT ⟨vN (lo + mm), rfl, vN tt, by rw [htl]; rfl, _, _, rfl, rfl, _, _, rfl, rfl, vN j, rfl, vN tt, by rw [htl]; rfl, _, _, rfl, rfl, _, _, rfl, rfl, vN tt, by rw [htl]; rfl, by show 3 ≤ sizeLine; decide, fun pn nn => ?_⟩
              have ev : [V.int (((lo + mm : Nat) : Int) - (tt : Int) + 1), V.int ((j : Int) - (tt : Int) + 1), vN tt] = bkV (lo + mm + 1 - tt, j + 1 - tt, tt) := by
                unfold bkV
                rw [show ((lo + mm : Nat) : Int) - (tt : Int) + 1 = ((lo + mm + 1 - tt : Nat) : Int) by omega, show (j : Int) - (tt : Int) + 1 = ((j + 1 - tt : Nat) : Int) by omega]
              have s8 := same_upd (o := .tup [V.int (((lo + mm : Nat) : Int) - (tt : Int) + 1), V.int ((j : Int) - (tt : Int) + 1), vN tt]) nn
              have hn8 : (upd H7 pn (.tup [V.int (((lo + mm : Nat) : Int) - (tt : Int) + 1), V.int ((j : Int) - (tt : Int) + 1), vN tt])) pn = some (.tup (bkV (lo + mm + 1 - tt, j + 1 - tt, tt))) := by rw [upd_same, ev]
              exact next pn _ _ _ _ _ _ (s7.trans s8) hn8 (s8 _ _ he7) (s8 _ _ hf7) (s8 _ _ hl7) hF7 (st.1 c3)
            · rw [decide_eq_false (show ¬ (bn : Int) < (tl M lo lo2 (lo + mm + 1) (j + 1) : Nat) by omega)]
              exact iteF (next pb bi bj bn _ _ H7 s7 hb7 he7 hf7 hl7 hF7 (st.2 c3))
          · rw [decide_eq_false (show ¬ (j : Int) < hi2 by omega)]
            refine iteF (next pb bi bj bn kf x10 H6 s6 hb6 he6 hf6 hl6 (hF.skip (by omega)) (hB.more (fun e f h => h.imp id fun ⟨h1, h2, j', h3, h4⟩ => ⟨h1, h2, j', List.mem_append_left _ h3, h4⟩) fun e f h => ?_))
            rcases h with h | ⟨h1, h2, j', h3, h4⟩
            · exact .inl (.inl h)
            · rcases List.mem_append.mp h3 with h3 | h3
              · exact .inl (.inr ⟨h1, h2, j', h3, h4⟩)
              · have := List.mem_singleton.mp h3
                omega
        · rw [if_neg (by rw [decide_eq_false (show ¬ (lo2 : Int) ≤ j by omega)]; decide)]
          refine ⟨false, rfl, iteF (next pb bi bj bn kf x10 H6 s6 hb6 he6 hf6 hl6 (hF.skip (by omega)) (hB.more (fun e f h => h.imp id fun ⟨h1, h2, j', h3, h4⟩ => ⟨h1, h2, j', List.mem_append_left _ h3, h4⟩) fun e f h => ?_))⟩
          rcases h with h | ⟨h1, h2, j', h3, h4⟩
          · exact .inl (.inl h)
          · rcases List.mem_append.mp h3 with h3 | h3
            · exact .inl (.inr ⟨h1, h2, j', h3, h4⟩)
            · have := List.mem_singleton.mp h3
              subst this
              rw [h1, h4]
              exact .inr (tl_no (by omega))
      · rintro σ H6 ⟨pb, bi, bj, bn, kf, x9, x10, rfl, s6, hb6, he6, hf6, hl6, hF, hB⟩
        rw [List.length_map, List.take_length] at hF hB
        refine ⟨.ref pf, rfl, ?_⟩
        refine ⟨pb, pf, bi, bj, bn, kf, _, _, _, _, rfl, s6, hb6, hf6, ?_, ?_⟩
        · exact ends_next hF fun j hj h => (plm j hj).mp h
        · refine hB.more (fun e f h => ?_) fun e f h => ?_
          · rcases h with h | ⟨h1, h2, _⟩
            · exact ⟨by omega, h.2⟩
            · exact ⟨by omega, h2⟩
          · by_cases c : e ≤ lo + mm
            · exact .inl (.inl ⟨c, h.2⟩)
            · have ee : e = lo + mm + 1 := by omega
              subst ee
              cases f with
              | zero => exact .inr (by simp [tl])
              | succ j =>
                by_cases cj : j ∈ pl
                · exact .inl (.inr ⟨rfl, h.2, j, cj, rfl⟩)
                · exact .inr (tl_no fun z => cj ((plm j (by omega)).mp z.2.2))
    · rintro σ H3 ⟨pb, pe, bi, bj, bn, kv, x7, x8, x9, x10, rfl, sm, hb, he, hE, hP⟩
      refine ⟨.ref pb, rfl, q H3 pb sm ?_⟩
      rw [best_eq (hP.best (R := ⟨lo, hi, lo2, hi2⟩) wf (fun e f h => ⟨by show e ≤ hi; omega, h.2⟩) fun e f h1 h2 _ _ => ⟨by have h1 : e ≤ hi := h1; omega, h2⟩)]
      exact hb
end
end Tw
end
section
namespace Tw
open PySem PySem.Spec PyProof.Rows L2
/-- a def or method of the text whatever its defaults are -/
structure FunA (K : PySem.W.Frag) (x qual : Str) (st : Stmt) (f : Addr) (fd : FuncData) : Prop where
  ex : ∃ (oc : Value) (od : Option Addr) (dV kV doc pm : Value) (an : Option Addr) (cdv ct : Value) (osl : Array (Option Value)),
    fd = PySem.W.fnOf x qual (defArgs st) (defBody st) (defScope st) dV kV doc pm an cdv ct ∧ K.lookup f = some ⟨oc, od, .func fd, osl⟩ ∧ PySem.W.codeIn K cdv qual = true
  kp : PySem.W.keepIn K (.ref f) = true
theorem FunA.ok {P : Program} {w : World} {K : PySem.W.Frag} {mg : Str → Option Value} {base : Heap} {x qual : Str} {st : Stmt} {f : Addr} {fd : FuncData} {N ps : List Str} {k : Nat} {sp : Sp} (F : FunA K x qual st f fd) (S : FnScope N ps (defScope st)) (len : ∀ vs H Q E, sp vs H Q E → vs.length = ps.length)
    (hbody : ∀ (cdv : Value) (A : Around) (outer : List Env) (s : Shared) (H : Hp) (vs : List V) (Q : VK) (E : XK), Room k (A.deeper (envOfC qual (defScope st) s.heap.objs.size f cdv)) → sp vs H Q E →
      ∃ t, PSs (cxOf CX0 P w K mg base N qual (defScope st) f cdv A outer s H E).nox (defBody st) t ∧ t { nx := fun _ H' => Q .non H', rt := Q } (start N vs) H) : FnOk P w K mg base CX0 (k + 1) f fd ps sp := by
  obtain ⟨oc, od, dV, kV, doc, pm, an, cdv, ct, osl, rfl, lk, hcd⟩ := F.ex
  refine fn_of lk hcd S len fun A outer s H vs Q E hr hsp => ?_
  obtain ⟨t, h, q⟩ := hbody cdv A outer s H vs Q E hr hsp
  exact ⟨t, h.nox, q⟩
section
variable {P : Program} {w : World} {K : PySem.W.Frag} {mg : Str → Option Value} {base : Heap} {C : Addr}
/-! ### longest_match -/
theorem scLm : FnScope ["self", "low", "high", "low2", "high2", "bounds", "block"] ["self", "low", "high", "low2", "high2"] (defScope sLongest) := ⟨rfl, rfl, rfl, by decide +kernel, rfl, by decide +kernel, by decide +kernel⟩
def spLm (C : Addr) : Sp := fun vs H Q _ => ∃ (m : Addr) (a b : List Key) (jk sk : Key → Bool) (R : Rg), vs = [.ref m, vN R.lo, vN R.hi, vN R.lo2, vN R.hi2] ∧ MtAt C H m a b jk sk ∧ R.wf ∧ R.hi ≤ a.length ∧ R.hi2 ≤ b.length ∧ a.length ≤ 1000 ∧ b.length ≤ 1000 ∧
  ∀ H' p, Same H H' → H' p = some (.tup (bkV (lmS a b jk sk R))) → Q (.ref p) H'
theorem notNone (n : Nat) : decide (vN n = V.non) = false := decide_eq_false fun z => by cases z
theorem ok_lm {f fBg fGr fGo : Addr} {fd fdBg fdGr fdGo : FuncData} {k : Nat} (F : FunA K "longest_match" "Matcher.longest_match" sLongest f fd) (T : Tx K C) (B : Bm mg)
    (FBg : Fun K "begun" "Matcher.begun" sBegun fBg fdBg) (bBg : Binds K fdBg ["self", "low", "high", "low2", "high2"] []) (mBg : Meth K C "begun" fBg)
    (FGr : Fun K "grown" "Matcher.grown" sGrown fGr fdGr) (bGr : Binds K fdGr ["self", "block", "bounds", "by_junk"] []) (mGr : Meth K C "grown" fGr)
    (FGo : Fun K "goes_on" "Matcher.goes_on" sGoesOn fGo fdGo) (bGo : Binds K fdGo ["self", "i", "j", "by_junk"] []) (mGo : Meth K C "goes_on" fGo) :
    FnOk P w K mg base CX0 (k + 3) f fd ["self", "low", "high", "low2", "high2"] (spLm C) := by
  have GBg : FnOk P w K mg base CX0 (k + 2) fBg fdBg ["self", "low", "high", "low2", "high2"] (spBg C) := ok_bg (k := k + 1) FBg T B
  have GGr : FnOk P w K mg base CX0 (k + 2) fGr fdGr ["self", "block", "bounds", "by_junk"] (spGr C) := ok_gr FGr T FGo bGo mGo
  refine F.ok scLm (fun vs H Q E h => ?_) (fun cdv A outer s H vs Q E hr h => ?_)
  · obtain ⟨m, a, b, jk, sk, R, rfl, _⟩ := h
    rfl
  · obtain ⟨m, a, b, jk, sk, R, rfl, MA, wf, z1, z2, z3, z4, q⟩ := h
    refine ⟨_, (pss_cons (ps_set (i := 5) scLm.nd rfl (.inl rfl) (pe_tup (pa_cons (pv 1) (pa_cons (pe_ifExp (pt_cmpR op_isN (pv 2) pe_non (nomark _)) (pe_callB call_len_seq (by rfl) B.len PySem.boot_len (pa_cons (pe_fld (pv 0) rfl) pa_nil)) (pv 2)) (pa_cons (pv 3) (pa_cons (pe_ifExp (pt_cmpR op_isN (pv 4) pe_non (nomark _)) (pe_callB call_len_seq (by rfl) B.len PySem.boot_len (pa_cons (pe_fld (pv 0) rfl) pa_nil)) (pv 4)) pa_nil))))))
      (pss_cons (ps_set (i := 6) scLm.nd rfl (.inl rfl) (pe_meth (pv 0) T.cl mBg GBg (hr.mono (by omega)) bBg .nil pass0 (pa_cons (pe_ix ix_tup (pv 5) pe_int (fun _ _ => rfl)) (pa_cons (pe_ix ix_tup (pv 5) pe_int (fun _ _ => rfl)) (pa_cons (pe_ix ix_tup (pv 5) pe_int (fun _ _ => rfl)) (pa_cons (pe_ix ix_tup (pv 5) pe_int (fun _ _ => rfl)) pa_nil))))))
      (pss_one (ps_ret (pe_meth (pv 0) T.cl mGr GGr (hr.mono (by omega)) bGr .nil pass0 (pa_cons (pe_meth (pv 0) T.cl mGr GGr (hr.mono (by omega)) bGr .nil pass0 (pa_cons (pv 6) (pa_cons (pv 5) (pa_cons pe_bl pa_nil)))) (pa_cons (pv 5) (pa_cons pe_bl pa_nil)))))))), ?_⟩
    -- bounds
    refine ⟨vN R.lo, rfl, vN R.hi, rfl, rfl, _, rfl, ?_⟩
    rw [notNone]
    refine iteF ⟨vN R.hi, rfl, vN R.lo2, rfl, vN R.hi2, rfl, rfl, _, rfl, ?_⟩
    rw [notNone]
    refine iteF ⟨vN R.hi2, rfl, by show 4 ≤ sizeLine; decide, fun pr nr => ?_⟩
    have s1 := same_upd (o := .tup (rgV R)) nr
    have e1 : (upd H pr (.tup (rgV R))) pr = some (.tup (rgV R)) := upd_same
    show _
    generalize hH1 : upd H pr (.tup [vN R.lo, vN R.hi, vN R.lo2, vN R.hi2]) = H1
    have s1 : Same H H1 := by rw [← hH1]; exact s1
    have e1 : H1 pr = some (.tup (rgV R)) := by rw [← hH1]; exact e1
    obtain ⟨dx, t1, t2, d, jl, pl, fj, au, kvs, js, MW⟩ := id (MA.same s1)
    -- block = self.begun(..)
    refine ⟨.ref m, rfl, m, dx, _, rfl, MW.ins, rfl, .ref pr, rfl, pr, _, 0, vN R.lo, rfl, rfl, sqT e1, atI_nat (j := 0) rfl, .ref pr, rfl, pr, _, 1, vN R.hi, rfl, rfl, sqT e1, atI_nat (j := 1) rfl,
      .ref pr, rfl, pr, _, 2, vN R.lo2, rfl, rfl, sqT e1, atI_nat (j := 2) rfl, .ref pr, rfl, pr, _, 3, vN R.hi2, rfl, rfl, sqT e1, atI_nat (j := 3) rfl, ?_⟩
    refine ⟨m, a, b, jk, sk, R, rfl, MA.same s1, wf, z1, z2, z3, z4, fun H2 pb s2 e2 => ?_⟩
    have bs := (best_spec (M := mtB a b sk) wf).run
    have h := mge a b sk jk
    have i0 : InR (eqB a b) R (best (mtB a b sk) R) := ⟨bs.1, bs.2.1, bs.2.2.1, bs.2.2.2.1, fun k hk => h.m _ _ (bs.2.2.2.2 k hk)⟩
    have i1 := (grow_in (h.g false) i0).1
    obtain ⟨dx2, t12, t22, d2, jl2, pl2, fj2, au2, kvs2, js2, MW2⟩ := id ((MA.same s1).same s2)
    -- the inner grown
    refine ⟨.ref m, rfl, m, dx2, _, rfl, MW2.ins, rfl, .ref m, rfl, m, dx2, _, rfl, MW2.ins, rfl, .ref pb, rfl, .ref pr, rfl, ?_⟩
    refine ⟨m, pb, pr, false, a, b, jk, sk, R, _, rfl, (MA.same s1).same s2, e2, s2 _ _ e1, i0.1, i0.2.2.1, i0.2.1, i0.2.2.2.1, z1, z2, fun pg ng => ?_⟩
    have s3 := same_upd (o := .tup (bkV (grow (gqB a b jk false) R (best (mtB a b sk) R)))) ng
    have e3 : (upd H2 pg (.tup (bkV (grow (gqB a b jk false) R (best (mtB a b sk) R))))) pg = some (.tup (bkV (grow (gqB a b jk false) R (best (mtB a b sk) R)))) := upd_same
    generalize (upd H2 pg (.tup (bkV (grow (gqB a b jk false) R (best (mtB a b sk) R))))) = H3 at s3 e3
    refine ⟨.ref pr, rfl, ?_⟩
    refine ⟨m, pg, pr, true, a, b, jk, sk, R, _, rfl, ((MA.same s1).same s2).same s3, e3, s3 _ _ (s2 _ _ e1), i1.1, i1.2.2.1, i1.2.1, i1.2.2.2.1, z1, z2, fun ph nh => ?_⟩
    exact q _ ph (((s1.trans s2).trans s3).trans (same_upd nh)) upd_same
end
end Tw
end
section
namespace Tw
open PySem PySem.Spec PyProof.Rows L2
theorem AllT.last {H : Hp} {xs : List V} {ts : List (List V)} {t : List V} (h : AllT H xs (ts ++ [t])) : ∃ xs' p, xs = xs' ++ [.ref p] ∧ AllT H xs' ts ∧ H p = some (.tup t) := by
  have hl : xs.length = ts.length + 1 := by rw [h.1]; simp
  have hne : xs ≠ [] := fun e => by rw [e] at hl; simp at hl
  obtain ⟨p, hp, e⟩ := h.at_ (i := ts.length) (t := t) (by simp)
  refine ⟨xs.dropLast, p, ?_, ⟨by rw [List.length_dropLast]; omega, fun i x hx => ?_⟩, e⟩
  · have g : xs.getLast hne = .ref p := by
      rw [List.getLast_eq_getElem]
      obtain ⟨h1, h2⟩ := List.getElem?_eq_some_iff.mp hp
      have hix : xs.length - 1 = ts.length := by omega
      simp only [hix]
      exact h2
    have z := (List.dropLast_concat_getLast hne).symm
    rw [g] at z
    exact z
  · have hi : i < ts.length := by
      have := (List.getElem?_eq_some_iff.mp hx).1
      rw [List.length_dropLast] at this
      omega
    have hx' : xs[i]? = some x := by
      rw [List.dropLast_eq_take] at hx
      rw [List.getElem?_take_of_lt (by omega)] at hx
      exact hx
    obtain ⟨p', t', a, b, c⟩ := h.2 i x hx'
    rw [List.getElem?_append_left hi] at b
    exact ⟨p', t', a, b, c⟩
theorem snoc_cases {α : Type} (l : List α) : l = [] ∨ ∃ l' x, l = l' ++ [x] := by
  by_cases h : l = []
  · exact .inl h
  · exact .inr ⟨l.dropLast, l.getLast h, (List.dropLast_concat_getLast h).symm⟩
theorem rgV_all (ws : List Rg) : ws.map rgV = (ws.map fun R => [(R.lo : Int), (R.hi : Int), (R.lo2 : Int), (R.hi2 : Int)]).map (·.map V.int) := by
  rw [List.map_map]
  rfl
theorem mu_len : ∀ ws : List Rg, ws.length ≤ mu ws
  | [] => Nat.le_refl _
  | R :: ws => by
    have := mu_len ws
    show ws.length + 1 ≤ (2 * (R.hi - R.lo) + 1) + mu ws
    omega
/-- the numbers that a thing holds -/
def triK (H : Hp) (x : V) : Tri := match x with
  | .ref t => match H t with
    | some (.tup [.int i, .int j, .int n]) => (i, j, n)
    | _ => (0, 0, 0)
  | _ => (0, 0, 0)
def bkK (H : Hp) (x : V) : Bk := ((triK H x).1.toNat, (triK H x).2.1.toNat, (triK H x).2.2.toNat)
theorem triK_at {H : Hp} {t : Addr} {b : Bk} (h : H t = some (.tup (bkV b))) : triK H (.ref t) = ((b.1 : Int), (b.2.1 : Int), (b.2.2 : Int)) := by
  unfold triK
  simp only [h]
  rfl
theorem bkK_at {H : Hp} {t : Addr} {b : Bk} (h : H t = some (.tup (bkV b))) : bkK H (.ref t) = b := by
  unfold bkK
  rw [triK_at h]
  rfl
theorem AllT.bks {H : Hp} : ∀ {xs : List V} {bs : List Bk}, AllT H xs (bs.map bkV) → bs = xs.map (bkK H)
  | [], [], _ => rfl
  | [], b :: bs, h => by have := h.1; simp at this
  | x :: xs, [], h => by have := h.1; simp at this
  | x :: xs, b :: bs, h => by
    obtain ⟨p, u, e1, e2, e3⟩ := h.2 0 x rfl
    subst e1
    have e2' : bkV b = u := Option.some.inj e2
    subst e2'
    rw [List.map_cons, bkK_at e3, ← AllT.bks (xs := xs) (bs := bs) ⟨by have := h.1; simpa using this, fun i y hy => ?_⟩]
    obtain ⟨p', u', a, b, c⟩ := h.2 (i + 1) y (by simpa using hy)
    exact ⟨p', u', a, by simpa using b, c⟩
theorem AllT.mem {H : Hp} {xs : List V} {bs : List Bk} (h : AllT H xs (bs.map bkV)) {x : V} (hx : x ∈ xs) : ∃ t b, x = .ref t ∧ H t = some (.tup (bkV b)) := by
  obtain ⟨i, hi⟩ := List.mem_iff_getElem?.mp hx
  obtain ⟨p, t, a, b, c⟩ := h.2 i x hi
  rw [List.getElem?_map] at b
  cases e : bs[i]? with
  | none => rw [e] at b; cases b
  | some bk =>
    rw [e] at b
    have b' : bkV bk = t := Option.some.inj b
    subst b'
    exact ⟨p, bk, a, c⟩
/-- all of such things, by what they hold -/
theorem allT_of {H : Hp} {ys : List V} (h : ∀ x ∈ ys, ∃ t b, x = .ref t ∧ H t = some (.tup (bkV b))) : AllT H ys ((ys.map (bkK H)).map bkV) := by
  refine ⟨by simp, fun i x hx => ?_⟩
  obtain ⟨t, b, rfl, e⟩ := h x (List.mem_of_getElem? hx)
  refine ⟨t, bkV b, rfl, ?_, e⟩
  rw [List.getElem?_map, List.getElem?_map, hx]
  show some (bkV (bkK H (.ref t))) = _
  rw [bkK_at e]
theorem set_last {α : Type} (xs : List α) (x v : α) : (xs ++ [x]).set xs.length v = xs ++ [v] := by
  rw [List.set_append_right _ _ (Nat.le_refl _)]
  simp
theorem ixN_last (n : Nat) : ixN (n + 1) (-1) = some n := by
  unfold ixN
  rw [if_neg (by decide), if_pos (by omega)]
  congr 1
  omega
section
variable {P : Program} {w : World} {K : PySem.W.Frag} {mg : Str → Option Value} {base : Heap} {C : Addr}
theorem scBl : FnScope ["self", "waiting", "some", "low", "high", "low2", "high2", "i", "j", "size", "found"] ["self"] (defScope sBlocks) := ⟨rfl, rfl, rfl, by decide +kernel, rfl, by decide +kernel, by decide +kernel⟩
def spBl (C : Addr) : Sp := fun vs H Q _ => ∃ (m : Addr) (a b : List Key) (jk sk : Key → Bool), vs = [.ref m] ∧ MtAt C H m a b jk sk ∧ a.length ≤ 1000 ∧ b.length ≤ 1000 ∧
  ∀ H' p xs, Same H H' → H p = none → H' p = some (.lst xs) → AllT H' xs ((bks a b jk sk ++ [(a.length, b.length, 0)]).map bkV) → Q (.ref p) H'
theorem ok_bl {f fLm : Addr} {fd fdLm : FuncData} {k : Nat} (F : Fun K "blocks" "Matcher.blocks" sBlocks f fd) (T : Tx K C) (B : Bm mg)
    (GLm : FnOk P w K mg base CX0 (k + 3) fLm fdLm ["self", "low", "high", "low2", "high2"] (spLm C)) (bLm : Binds K fdLm ["self", "low", "high", "low2", "high2"] []) (mLm : Meth K C "longest_match" fLm) :
    FnOk P w K mg base CX0 (k + 4) f fd ["self"] (spBl C) := by
  refine F.ok scBl (fun vs H Q E h => ?_) (fun cdv A outer s H vs Q E hr h => ?_)
  · obtain ⟨m, a, b, jk, sk, rfl, _⟩ := h
    rfl
  · obtain ⟨m, a, b, jk, sk, rfl, MA, z3, z4, q⟩ := h
    obtain ⟨dx, t1, t2, d, jl, pl, fj, au, kvs, js, MW⟩ := id MA
    have hE := mge a b sk jk
    refine ⟨_, (pss_cons (ps_set (i := 1) scBl.nd rfl (.inl rfl) (pe_lst (pa_cons (pe_tup (pa_cons pe_int (pa_cons (pe_callB call_len_seq (by rfl) B.len PySem.boot_len (pa_cons (pe_fld (pv 0) rfl) pa_nil)) (pa_cons pe_int (pa_cons (pe_callB call_len_seq (by rfl) B.len PySem.boot_len (pa_cons (pe_fld (pv 0) rfl) pa_nil)) pa_nil))))) pa_nil)))
      (pss_cons (ps_set (i := 2) scBl.nd rfl (.inl rfl) (pe_lst pa_nil))
      (C8.pss_cut (ps_while PassesOwn.never (pt_cmpR (op_neD hr.units) (pv 1) (pe_lst pa_nil) (nomark _)) (pss_cons (ps_asg (pe_bm0 PySem.F.plainAttrs_list PySem.F.slot_list_pop PySem.F.type_list_pop mt_pop (pv 1)) (pg_tup rfl (pgs_cons (pg_name (i := 3) scBl.nd rfl (.inl rfl)) (pgs_cons (pg_name (i := 4) scBl.nd rfl (.inl rfl)) (pgs_cons (pg_name (i := 5) scBl.nd rfl (.inl rfl)) (pgs_cons (pg_name (i := 6) scBl.nd rfl (.inl rfl)) pgs_nil))))))
      (pss_cons (ps_asg (pe_meth (pv 0) T.cl mLm GLm (hr.mono (by omega)) bLm .nil pass0 (pa_cons (pv 3) (pa_cons (pv 4) (pa_cons (pv 5) (pa_cons (pv 6) pa_nil))))) (pg_tup rfl (pgs_cons (pg_name (i := 7) scBl.nd rfl (.inl rfl)) (pgs_cons (pg_name (i := 8) scBl.nd rfl (.inl rfl)) (pgs_cons (pg_name (i := 9) scBl.nd rfl (.inl rfl)) pgs_nil)))))
      (pss_one (ps_if (pt_cmpR op_gt (pv 9) pe_int (nomark _)) (pss_cons (ps_expr (pe_bm PySem.F.plainAttrs_list PySem.F.slot_list_append PySem.F.type_list_append mt_append (pv 2) (pa_cons (pe_tup (pa_cons (pv 7) (pa_cons (pv 8) (pa_cons (pv 9) pa_nil)))) pa_nil)))
      (pss_cons (ps_expr (pe_bm PySem.F.plainAttrs_list PySem.F.slot_list_append PySem.F.type_list_append mt_append (pv 1) (pa_cons (pe_tup (pa_cons (pv 3) (pa_cons (pv 7) (pa_cons (pv 5) (pa_cons (pv 8) pa_nil))))) pa_nil)))
      (pss_one (ps_expr (pe_bm PySem.F.plainAttrs_list PySem.F.slot_list_append PySem.F.type_list_append mt_append (pv 1) (pa_cons (pe_tup (pa_cons (pe_op op_add (pv 7) (pv 9)) (pa_cons (pv 4) (pa_cons (pe_op op_add (pv 8) (pv 9)) (pa_cons (pv 6) pa_nil))))) pa_nil)))))) pss_nil)))))
      (pss_cons (ps_set (i := 10) scBl.nd rfl (.inl rfl) (pe_lst pa_nil))
      (pss_cons (ps_for PassesOwn.never rfl (pi_list (pe_callB cr_sortedT (by rfl) B.sorted (by decide +kernel) (pa_cons (pv 2) pa_nil))) (pg_tup rfl (pgs_cons (pg_name (i := 7) scBl.nd rfl (.inl rfl)) (pgs_cons (pg_name (i := 8) scBl.nd rfl (.inl rfl)) (pgs_cons (pg_name (i := 9) scBl.nd rfl (.inl rfl)) pgs_nil)))) (pss_one (ps_if (PW.pt (pw_and (pt_cmpR (op_neD hr.units) (pv 10) (pe_lst pa_nil) (nomark _)) (pw_and (pt_cmpR op_eq (pe_op op_add (pe_ix ix_tup (pe_ix ix_list (pv 10) (pe_un un_neg pe_int) (fun _ _ => rfl)) pe_int (fun _ _ => rfl)) (pe_ix ix_tup (pe_ix ix_list (pv 10) (pe_un un_neg pe_int) (fun _ _ => rfl)) pe_int (fun _ _ => rfl))) (pv 7) (nomark _)) (pw_and1 (pt_cmpR op_eq (pe_op op_add (pe_ix ix_tup (pe_ix ix_list (pv 10) (pe_un un_neg pe_int) (fun _ _ => rfl)) pe_int (fun _ _ => rfl)) (pe_ix ix_tup (pe_ix ix_list (pv 10) (pe_un un_neg pe_int) (fun _ _ => rfl)) pe_int (fun _ _ => rfl))) (pv 8) (nomark _)))))) (pss_one (ps_asg (pe_tup (pa_cons (pe_ix ix_tup (pe_ix ix_list (pv 10) (pe_un un_neg pe_int) (fun _ _ => rfl)) pe_int (fun _ _ => rfl)) (pa_cons (pe_ix ix_tup (pe_ix ix_list (pv 10) (pe_un un_neg pe_int) (fun _ _ => rfl)) pe_int (fun _ _ => rfl)) (pa_cons (pe_op op_add (pe_ix ix_tup (pe_ix ix_list (pv 10) (pe_un un_neg pe_int) (fun _ _ => rfl)) pe_int (fun _ _ => rfl)) (pv 9)) pa_nil)))) (pg_sub (pv 10) (pe_un un_neg pe_int) set_list))) (pss_one (ps_expr (pe_bm PySem.F.plainAttrs_list PySem.F.slot_list_append PySem.F.type_list_append mt_append (pv 10) (pa_cons (pe_tup (pa_cons (pv 7) (pa_cons (pv 8) (pa_cons (pv 9) pa_nil)))) pa_nil)))))))
      (pss_one (ps_ret (pe_op op_cat (pv 10) (pe_lst (pa_cons (pe_tup (pa_cons (pe_callB call_len_seq (by rfl) B.len PySem.boot_len (pa_cons (pe_fld (pv 0) rfl) pa_nil)) (pa_cons (pe_callB call_len_seq (by rfl) B.len PySem.boot_len (pa_cons (pe_fld (pv 0) rfl) pa_nil)) (pa_cons pe_int pa_nil)))) pa_nil)))))))))), ?_⟩
    -- waiting = [(0, len(self.first), 0, len(self.second))]
    refine ⟨.ref m, rfl, m, C, dx, _, .ref t1, rfl, MW.ins, T.cl, T.nF, rfl, t1, _, rfl, .inr (sqT MW.one), ?_⟩
    refine ⟨.ref m, rfl, m, C, dx, _, .ref t2, rfl, MW.ins, T.cl, T.nS, rfl, t2, _, rfl, .inr (sqT MW.two), ?_⟩
    rw [List.length_map, List.length_map]
    refine ⟨by show 4 ≤ sizeLine; decide, fun p0 n0 => ⟨by show 1 ≤ sizeLine; decide, fun pw nw => ?_⟩⟩
    have s1 := (same_upd (o := .tup (rgV (Rg.all a b))) n0).trans (same_upd (o := .lst [.ref p0]) nw)
    have hw1 : AllT (upd (upd H p0 (.tup (rgV (Rg.all a b)))) pw (.lst [.ref p0])) [.ref p0] ([Rg.all a b].map rgV) := AllT.snoc (AllT.nil) (same_upd nw _ _ upd_same)
    have hw2 : (upd (upd H p0 (.tup (rgV (Rg.all a b)))) pw (.lst [.ref p0])) pw = some (.lst [.ref p0]) := upd_same
    show _
    generalize hH1 : (upd (upd H p0 (.tup [.int 0, vN a.length, .int 0, vN b.length])) pw (.lst [.ref p0])) = H1
    have s1 : Same H H1 := by rw [← hH1]; exact s1
    have hw1 : AllT H1 [.ref p0] ([Rg.all a b].map rgV) := by rw [← hH1]; exact hw1
    have hw2 : H1 pw = some (.lst [.ref p0]) := by rw [← hH1]; exact hw2
    have npw : H pw = none := by
      cases e : H pw with
      | none => rfl
      | some o =>
        have := (same_upd (o := .tup (rgV (Rg.all a b))) n0) _ _ e
        rw [show (upd H p0 (.tup (rgV (Rg.all a b)))) pw = none from nw] at this
        cases this
    clear hH1
    -- some = []
    refine ⟨Nat.zero_le _, fun ps ns => ?_⟩
    have s2 := same_upd (o := .lst []) ns
    have hs1 : (upd H1 ps (.lst [])) ps = some (.lst []) := upd_same
    have nps : H ps = none := s1.free ns
    have npp : pw ≠ ps := fun z => by rw [z, ns] at hw2; cases hw2
    generalize upd H1 ps (.lst []) = H2 at s2 hs1
    have sH2 := s1.trans s2
    -- the stack
    refine ⟨fun σ H3 => ∃ (ys : List V) (sm : List Bk) (x3 x4 x5 x6 x7 x8 x9 : Option V), σ = [some (.ref m), some (.ref pw), some (.ref ps), x3, x4, x5, x6, x7, x8, x9, none] ∧ Same H H3 ∧ H3 ps = some (.lst ys) ∧ AllT H3 ys (sm.map bkV) ∧ sm.Perm (rc (mtB a b sk) (gqB a b jk) (Rg.all a b)), ?_, ?_⟩
    · refine ⟨fun mm σ H3 => ∃ (xs ys : List V) (ws : List Rg) (sm : List Bk) (x3 x4 x5 x6 x7 x8 x9 : Option V), mm = mu ws ∧ σ = [some (.ref m), some (.ref pw), some (.ref ps), x3, x4, x5, x6, x7, x8, x9, none] ∧ Same H H3 ∧ H3 pw = some (.lst xs) ∧ H3 ps = some (.lst ys) ∧
        AllT H3 xs (ws.map rgV) ∧ AllT H3 ys (sm.map bkV) ∧ (∀ R ∈ ws, R.wf ∧ R.hi ≤ a.length ∧ R.hi2 ≤ b.length) ∧ (sm ++ (ws.map (rc (mtB a b sk) (gqB a b jk))).flatten).Perm (rc (mtB a b sk) (gqB a b jk) (Rg.all a b)) ∧ mu ws ≤ 2001, ?_, ?_⟩
      · refine ⟨_, [.ref p0], [], [Rg.all a b], [], none, none, none, none, none, none, none, rfl, rfl, sH2, s2 _ _ hw2, hs1, hw1.same s2, AllT.nil, fun R hR => ?_, ?_, ?_⟩
        · rw [List.mem_singleton.mp hR]
          exact ⟨Rg.all_wf a b, Nat.le_refl _, Nat.le_refl _⟩
        · simp
        · show (2 * (a.length - 0) + 1) + 0 ≤ 2001
          omega
      · rintro mm σ H3 ⟨xs, ys, ws, sm, x3, x4, x5, x6, x7, x8, x9, rfl, rfl, s3, hw, hs, ax, ay, wfs, per, bd⟩
        -- waiting != []
        refine ⟨.ref pw, rfl, Nat.zero_le _, fun pe ne => ?_⟩
        have s4 := same_upd (o := .lst []) ne
        have he : (upd H3 pe (.lst [])) pe = some (.lst []) := upd_same
        generalize upd H3 pe (.lst []) = H4 at s4 he
        refine ⟨_, _, .lst (sqL (s4 _ _ hw)) (AllT.dp (by rw [← rgV_all]; exact ax.same s4)), .lst (sqL he) .nil, iD_shL _, rfl, _, rfl, ?_⟩
        rw [eqv_nil]
        rcases snoc_cases ws with rfl | ⟨ws', R, rfl⟩
        · refine iteF ⟨ys, sm, x3, x4, x5, x6, x7, x8, x9, rfl, s3.trans s4, s4 _ _ hs, ay.same s4, ?_⟩
          simpa using per
        · have hem : (!(List.map (fun R : Rg => iD [(R.lo : Int), (R.hi : Int), (R.lo2 : Int), (R.hi2 : Int)]) (ws' ++ [R])).isEmpty) = true := by
            cases ws' <;> rfl
          rw [List.map_map]
          rw [show (!(List.map (iD ∘ fun R : Rg => [(R.lo : Int), (R.hi : Int), (R.lo2 : Int), (R.hi2 : Int)]) (ws' ++ [R])).isEmpty) = true from hem]
          rw [List.map_append] at ax
          obtain ⟨xs', pR, rfl, ax', hpR⟩ := ax.last
          obtain ⟨wfR, hi1, hi2⟩ := wfs R (List.mem_append_right _ (List.mem_singleton.mpr rfl))
          -- waiting.pop()
          refine iteT ⟨fun σ' H' => ∃ (xs ys : List V) (ws2 : List Rg) (sm : List Bk) (x3 x4 x5 x6 x7 x8 x9 : Option V), mu ws2 < mu (ws' ++ [R]) ∧ σ' = [some (.ref m), some (.ref pw), some (.ref ps), x3, x4, x5, x6, x7, x8, x9, none] ∧ Same H H' ∧ H' pw = some (.lst xs) ∧ H' ps = some (.lst ys) ∧
            AllT H' xs (ws2.map rgV) ∧ AllT H' ys (sm.map bkV) ∧ (∀ R ∈ ws2, R.wf ∧ R.hi ≤ a.length ∧ R.hi2 ≤ b.length) ∧ (sm ++ (ws2.map (rc (mtB a b sk) (gqB a b jk))).flatten).Perm (rc (mtB a b sk) (gqB a b jk) (Rg.all a b)), ?_, ?_⟩
          · rintro σ' H' ⟨xs, ys, ws2, sm, x3, x4, x5, x6, x7, x8, x9, lt, rfl, r⟩
            obtain ⟨r1, r2, r3, r4, r5, r6, r7⟩ := r
            exact ⟨mu ws2, lt, xs, ys, ws2, sm, x3, x4, x5, x6, x7, x8, x9, rfl, rfl, r1, r2, r3, r4, r5, r6, r7, by omega⟩
          · refine ⟨.ref pw, rfl, .inl ⟨rfl, _, sqL (s4 _ _ hw)⟩, pw, _, .ref pR, rfl, rfl, s4 _ _ hw, by simp, ?_⟩
            have nwH4 : ∀ c o, H c = some o → c ≠ pw := fun c o e => ne_of_none e npw
            have s5 : Same H (upd H4 pw (.lst (xs' ++ [V.ref pR]).dropLast)) := fun c o e => by
              rw [upd_ne (nwH4 c o e)]
              exact s4 _ _ (s3 _ _ e)
            have hw5 : (upd H4 pw (.lst (xs' ++ [V.ref pR]).dropLast)) pw = some (.lst xs') := by rw [upd_same, List.dropLast_concat]
            have keep : ∀ c o, H4 c = some o → c ≠ pw → (upd H4 pw (.lst (xs' ++ [V.ref pR]).dropLast)) c = some o := fun c o e n => by rw [upd_ne n]; exact e
            have kT : ∀ {zs : List V} {ts : List (List V)}, AllT H4 zs ts → AllT (upd H4 pw (.lst (xs' ++ [V.ref pR]).dropLast)) zs ts := fun {zs ts} h => ⟨h.1, fun i x hx => by
              obtain ⟨p, t, e1, e2, e3⟩ := h.2 i x hx
              exact ⟨p, t, e1, e2, keep _ _ e3 (fun z => by rw [z, s4 _ _ hw] at e3; cases e3)⟩⟩
            have ax5 := kT (ax'.same s4)
            have ay5 := kT (ay.same s4)
            have hs5 := keep _ _ (s4 _ _ hs) npp.symm
            have hR5 := keep _ _ (s4 _ _ hpR) (fun z => by rw [z, hw] at hpR; cases hpR)
            generalize (upd H4 pw (.lst (xs' ++ [V.ref pR]).dropLast)) = H5 at s5 hw5 ax5 ay5 hs5 hR5
            refine ⟨pR, _, rfl, sqT hR5, rfl, vN R.lo, _, rfl, vN R.hi, _, rfl, vN R.lo2, _, rfl, vN R.hi2, _, rfl, rfl, ?_⟩
            -- self.longest_match(..)
            refine ⟨.ref m, rfl, m, dx, _, rfl, s5 _ _ MW.ins, rfl, vN R.lo, rfl, vN R.hi, rfl, vN R.lo2, rfl, vN R.hi2, rfl, ?_⟩
            refine ⟨m, a, b, jk, sk, R, rfl, MA.same s5, wfR, hi1, hi2, z3, z4, fun H6 pb s6 hb => ?_⟩
            have hin := lm_in hE wfR
            obtain ⟨i, j, n, el⟩ : ∃ i j n, lm (mtB a b sk) (gqB a b jk) R = (i, j, n) := ⟨_, _, _, rfl⟩
            rw [show lmS a b jk sk R = (i, j, n) from el] at hb
            rw [el] at hin
            obtain ⟨g1, g2, g3, g4, g5⟩ := hin
            simp only at g1 g2 g3 g4
            refine ⟨pb, _, rfl, sqT hb, rfl, vN i, _, rfl, vN j, _, rfl, vN n, _, rfl, rfl, ?_⟩
            have s6' := s5.trans s6
            have hmap : (List.map (rc (mtB a b sk) (gqB a b jk)) (ws' ++ [R])).flatten = (List.map (rc (mtB a b sk) (gqB a b jk)) ws').flatten ++ rc (mtB a b sk) (gqB a b jk) R := by simp
            rw [hmap] at per
            refine ⟨vN n, rfl, _, _, rfl, rfl, _, rfl, ?_⟩
            by_cases hn : 0 < n
            · rw [decide_eq_true (show (0 : Int) < n by omega)]
              have ly : ys.length ≤ 1000 := by
                have h1 := per.length_eq
                have h2 := rc_len a b jk sk
                have h3 := ay.1
                rw [List.length_append, List.length_append] at h1
                rw [List.length_map] at h3
                omega
              have lx : xs'.length ≤ 2001 := by
                have h1 := mu_len (ws' ++ [R])
                have h2 := ax'.1
                rw [List.length_map] at h2
                rw [List.length_append, List.length_singleton] at h1
                omega
              -- some.append((i, j, size))
              refine iteT ⟨.ref ps, rfl, .inl ⟨rfl, _, sqL (s6 _ _ hs5)⟩, vN i, rfl, vN j, rfl, vN n, rfl, by show 3 ≤ sizeLine; decide, fun p1 np1 => ?_⟩
              refine ⟨ps, ys, _, rfl, rfl, same_upd np1 _ _ (s6 _ _ hs5), szl (by omega), ?_⟩
              have s7 := appSame (v := .lst (ys ++ [.ref p1])) (u := .tup [vN i, vN j, vN n]) s6' nps np1
              have ay7 := appT (t := [vN i, vN j, vN n]) (s6 _ _ hs5) np1 (ay5.same s6)
              have hs7 : (upd (upd H6 p1 (.tup [vN i, vN j, vN n])) ps (.lst (ys ++ [.ref p1]))) ps = some (.lst (ys ++ [.ref p1])) := upd_same
              have k7 : ∀ c o, H6 c = some o → c ≠ ps → (upd (upd H6 p1 (.tup [vN i, vN j, vN n])) ps (.lst (ys ++ [.ref p1]))) c = some o := fun c o e nc => by
                rw [upd_ne nc, upd_ne (ne_of_none e np1)]
                exact e
              have hw7 := k7 _ _ (s6 _ _ hw5) npp
              have ax7 : AllT (upd (upd H6 p1 (.tup [vN i, vN j, vN n])) ps (.lst (ys ++ [.ref p1]))) xs' (ws'.map rgV) := ⟨ax5.1, fun i x hx => by
                obtain ⟨p, t, e1, e2, e3⟩ := ax5.2 i x hx
                exact ⟨p, t, e1, e2, k7 _ _ (s6 _ _ e3) (fun z => by rw [z, hs5] at e3; cases e3)⟩⟩
              generalize (upd (upd H6 p1 (.tup [vN i, vN j, vN n])) ps (.lst (ys ++ [.ref p1]))) = H7 at s7 ay7 hs7 hw7 ax7
              -- waiting.append((low, i, low2, j))
              refine ⟨.ref pw, rfl, .inl ⟨rfl, _, sqL hw7⟩, vN R.lo, rfl, vN i, rfl, vN R.lo2, rfl, vN j, rfl, by show 4 ≤ sizeLine; decide, fun p2 np2 => ?_⟩
              refine ⟨pw, xs', _, rfl, rfl, same_upd np2 _ _ hw7, szl (by omega), ?_⟩
              have s8 := appSame (v := .lst (xs' ++ [.ref p2])) (u := .tup [vN R.lo, vN i, vN R.lo2, vN j]) s7 npw np2
              have ax8 := appT (t := rgV ⟨R.lo, i, R.lo2, j⟩) hw7 np2 ax7
              have hw8 : (upd (upd H7 p2 (.tup [vN R.lo, vN i, vN R.lo2, vN j])) pw (.lst (xs' ++ [.ref p2]))) pw = some (.lst (xs' ++ [.ref p2])) := upd_same
              have k8 : ∀ c o, H7 c = some o → c ≠ pw → (upd (upd H7 p2 (.tup [vN R.lo, vN i, vN R.lo2, vN j])) pw (.lst (xs' ++ [.ref p2]))) c = some o := fun c o e nc => by
                rw [upd_ne nc, upd_ne (ne_of_none e np2)]
                exact e
              have hs8 := k8 _ _ hs7 npp.symm
              have ay8 : AllT (upd (upd H7 p2 (.tup [vN R.lo, vN i, vN R.lo2, vN j])) pw (.lst (xs' ++ [.ref p2]))) (ys ++ [.ref p1]) (sm.map bkV ++ [[vN i, vN j, vN n]]) := ⟨ay7.1, fun i x hx => by
                obtain ⟨p, t, e1, e2, e3⟩ := ay7.2 i x hx
                exact ⟨p, t, e1, e2, k8 _ _ e3 (fun z => by rw [z, hw7] at e3; cases e3)⟩⟩
              have ax8' : AllT (upd (upd H7 p2 (.tup [vN R.lo, vN i, vN R.lo2, vN j])) pw (.lst (xs' ++ [.ref p2]))) (xs' ++ [.ref p2]) (ws'.map rgV ++ [rgV ⟨R.lo, i, R.lo2, j⟩]) := ax8
              clear ax8
              generalize (upd (upd H7 p2 (.tup [vN R.lo, vN i, vN R.lo2, vN j])) pw (.lst (xs' ++ [.ref p2]))) = H8 at s8 ax8' hw8 hs8 ay8
              -- waiting.append((i + size, high, j + size, high2))
              refine ⟨.ref pw, rfl, .inl ⟨rfl, _, sqL hw8⟩, vN i, rfl, vN n, rfl, _, _, rfl, rfl, vN R.hi, rfl, vN j, rfl, vN n, rfl, _, _, rfl, rfl, vN R.hi2, rfl, by show 4 ≤ sizeLine; decide, fun p3 np3 => ?_⟩
              refine ⟨pw, xs' ++ [.ref p2], _, rfl, rfl, same_upd np3 _ _ hw8, by rw [List.length_append, List.length_singleton]; exact szl (by omega), ?_⟩
              have s9 := appSame (v := .lst (xs' ++ [.ref p2] ++ [.ref p3])) (u := .tup (rgV ⟨i + n, R.hi, j + n, R.hi2⟩)) s8 npw np3
              have ax9 := appT (t := rgV ⟨i + n, R.hi, j + n, R.hi2⟩) hw8 np3 ax8'
              have k9 : ∀ c o, H8 c = some o → c ≠ pw → (upd (upd H8 p3 (.tup (rgV ⟨i + n, R.hi, j + n, R.hi2⟩))) pw (.lst (xs' ++ [.ref p2] ++ [.ref p3]))) c = some o := fun c o e nc => by
                rw [upd_ne nc, upd_ne (ne_of_none e np3)]
                exact e
              have hs9 := k9 _ _ hs8 npp.symm
              have ay9 : AllT (upd (upd H8 p3 (.tup (rgV ⟨i + n, R.hi, j + n, R.hi2⟩))) pw (.lst (xs' ++ [.ref p2] ++ [.ref p3]))) (ys ++ [.ref p1]) (sm.map bkV ++ [[vN i, vN j, vN n]]) := ⟨ay8.1, fun i x hx => by
                obtain ⟨p, t, e1, e2, e3⟩ := ay8.2 i x hx
                exact ⟨p, t, e1, e2, k9 _ _ e3 (fun z => by rw [z, hw8] at e3; cases e3)⟩⟩
              refine ⟨_, _, ws' ++ [⟨R.lo, i, R.lo2, j⟩, ⟨i + n, R.hi, j + n, R.hi2⟩], sm ++ [(i, j, n)], _, _, _, _, _, _, _, mu_two ws' R hn g1 g2, rfl, s9, upd_same, hs9, ?_, ?_, fun R' hR' => ?_, ?_⟩
              · rw [List.map_append]
                rw [List.append_assoc (List.map rgV ws')] at ax9
                exact ax9
              · rw [List.map_append]
                exact ay9
              · rcases List.mem_append.mp hR' with h | h
                · exact wfs R' (List.mem_append_left _ h)
                · rcases List.mem_cons.mp h with h | h
                  · rw [h]
                    exact ⟨⟨g1, g3⟩, by show i ≤ a.length; omega, by show j ≤ b.length; omega⟩
                  · rw [List.mem_singleton.mp h]
                    exact ⟨⟨g2, g4⟩, hi1, hi2⟩
              · have e : (List.map (rc (mtB a b sk) (gqB a b jk)) (ws' ++ [⟨R.lo, i, R.lo2, j⟩, ⟨i + n, R.hi, j + n, R.hi2⟩])).flatten = (List.map (rc (mtB a b sk) (gqB a b jk)) ws').flatten ++ (rc (mtB a b sk) (gqB a b jk) ⟨R.lo, i, R.lo2, j⟩ ++ rc (mtB a b sk) (gqB a b jk) ⟨i + n, R.hi, j + n, R.hi2⟩) := by simp
                rw [e]
                refine List.Perm.trans ?_ per
                rw [rc_some hE wfR el hn]
                generalize (List.map (rc (mtB a b sk) (gqB a b jk)) ws').flatten = F1
                generalize rc (mtB a b sk) (gqB a b jk) ⟨R.lo, i, R.lo2, j⟩ = F2
                generalize rc (mtB a b sk) (gqB a b jk) ⟨i + n, R.hi, j + n, R.hi2⟩ = F3
                rw [List.append_assoc]
                refine List.Perm.append_left sm ?_
                show ((i, j, n) :: (F1 ++ (F2 ++ F3))).Perm (F1 ++ (F2 ++ (i, j, n) :: F3))
                rw [← List.append_assoc, ← List.append_assoc]
                exact List.perm_middle.symm
            · rw [decide_eq_false (show ¬ (0 : Int) < n by omega)]
              have hn0 : n = 0 := by omega
              refine iteF ⟨xs', ys, ws', sm, _, _, _, _, _, _, _, mu_pop ws' R, rfl, s6', s6 _ _ hw5, s6 _ _ hs5, ax5.same s6, ay5.same s6, fun R' hR' => wfs R' (List.mem_append_left _ hR'), ?_⟩
              rw [rc_none (by rw [el]; exact hn0), List.append_nil] at per
              exact per
    · -- found = []; for i, j, size in sorted(some)
      rintro σ H3 ⟨ys, sm, x3, x4, x5, x6, x7, x8, x9, rfl, s3, hs, ay, per⟩
      refine ⟨Nat.zero_le _, fun pf nf => ?_⟩
      have s4 := same_upd (o := .lst []) nf
      have hf4 : (upd H3 pf (.lst [])) pf = some (.lst []) := upd_same
      have nfH : H pf = none := s3.free nf
      have npf : ps ≠ pf := fun z => by rw [z, nf] at hs; cases hs
      generalize upd H3 pf (.lst []) = H4 at s4 hf4
      have sH4 := s3.trans s4
      have ay4 := ay.same s4
      refine ⟨.ref ps, rfl, ps, ys, triK H4, rfl, sqL (s4 _ _ hs), fun x hx => ?_, fun zs pz hsort hper nz => ?_⟩
      · obtain ⟨t, b', rfl, e⟩ := ay4.mem hx
        refine ⟨t, rfl, ?_⟩
        rw [triK_at e]
        exact e
      · -- the sorted list holds the blocks of the whole
        have hzm : ∀ x ∈ zs, ∃ t b', x = .ref t ∧ H4 t = some (.tup (bkV b')) := fun x hx => ay4.mem (hper.mem_iff.mp hx)
        have hzL : zs.map (bkK H4) = rc (mtB a b sk) (gqB a b jk) (Rg.all a b) := by
          refine perm_sorted (rc_chain hE (Rg.all_wf a b)).sorted ?_ ((hper.map (bkK H4)).trans (by rw [← ay4.bks]; exact per))
          rw [List.pairwise_map]
          refine List.Pairwise.imp_of_mem (fun {x y} hx hy h => ?_) hsort
          obtain ⟨t, b1, rfl, e1⟩ := hzm x hx
          obtain ⟨u, b2, rfl, e2⟩ := hzm y hy
          rw [bkK_at e1, bkK_at e2]
          have h' := lexT_no.mp h
          rw [triK_at e1, triK_at e2] at h'
          simp only at h'
          omega
        have az := allT_of hzm
        rw [hzL] at az
        generalize hL : rc (mtB a b sk) (gqB a b jk) (Rg.all a b) = L at az per
        have s5 := same_upd (o := .lst zs) nz
        have hz5 : (upd H4 pz (.lst zs)) pz = some (.lst zs) := upd_same
        have hf5 := s5 _ _ hf4
        have az5 := az.same s5
        have npz : pz ≠ pf := fun z => by rw [z, hf4] at nz; cases nz
        have nzH : H pz = none := sH4.free nz
        generalize upd H4 pz (.lst zs) = H5 at s5 hz5 hf5 az5
        have sH5 := sH4.trans s5
        have hLlen : L.length ≤ 1000 := by
          have := rc_len a b jk sk
          rw [hL] at this
          omega
        refine ⟨pz, rfl, ⟨_, sqL hz5⟩, ?_⟩
        refine for_list (K := K) (xs := zs) (fun mm σ H6 => ∃ (fs : List V) (dn : List Bk) (y3 y4 y5 y6 y7 y8 y9 : Option V), σ = [some (.ref m), some (.ref pw), some (.ref ps), y3, y4, y5, y6, y7, y8, y9, some (.ref pf)] ∧ Same H H6 ∧ H6 pz = some (.lst zs) ∧ H6 pf = some (.lst fs) ∧ AllT H6 zs (L.map bkV) ∧ AllT H6 fs (dn.map bkV) ∧ dn.length ≤ mm ∧
          ((mm = 0 ∧ dn = []) ∨ ∃ d0 c, dn = d0 ++ [c] ∧ d0 ++ mgo c (L.drop mm) = Tw.mg L)) ?_ ?_ ?_ ?_
        · exact ⟨[], [], _, _, _, _, _, _, _, rfl, sH5, hz5, hf5, az5, AllT.nil, Nat.le_refl _, .inl ⟨rfl, rfl⟩⟩
        · rintro mm σ H6 _ ⟨fs, dn, y3, y4, y5, y6, y7, y8, y9, rfl, _, hz, _⟩
          exact sqL hz
        · rintro mm x σ H6 hx ⟨fs, dn, y3, y4, y5, y6, y7, y8, y9, rfl, s6, hz6, hf6, az6, af6, hdl, hd⟩
          obtain ⟨p, t, rfl, ht, hp⟩ := az6.2 mm x hx
          rw [List.getElem?_map] at ht
          obtain ⟨⟨i, j, n⟩, hb, rfl⟩ : ∃ bk, L[mm]? = some bk ∧ bkV bk = t := by
            cases e : L[mm]? with
            | none => rw [e] at ht; cases ht
            | some bk => rw [e] at ht; exact ⟨bk, rfl, Option.some.inj ht⟩
          have hm : mm < L.length := (List.getElem?_eq_some_iff.mp hb).1
          have hdr : L.drop mm = (i, j, n) :: L.drop (mm + 1) := by
            rw [List.drop_eq_getElem_cons hm, (List.getElem?_eq_some_iff.mp hb).2]
          have lf : fs.length = dn.length := by rw [af6.1, List.length_map]
          refine ⟨p, _, rfl, sqT hp, rfl, vN i, _, rfl, vN j, _, rfl, vN n, _, rfl, rfl, ?_⟩
          -- found != []
          refine ⟨.ref pf, rfl, Nat.zero_le _, fun pe ne => ?_⟩
          have s7 := same_upd (o := .lst []) ne
          have he7 : (upd H6 pe (.lst [])) pe = some (.lst []) := upd_same
          generalize upd H6 pe (.lst []) = H7 at s7 he7
          refine ⟨_, _, .lst (sqL (s7 _ _ hf6)) (AllT.dp (by rw [← bkV_all]; exact af6.same s7)), .lst (sqL he7) .nil, iD_shL _, rfl, _, rfl, ?_⟩
          rw [eqv_nil]
          -- the end of the branch that appends
          have fin : ∀ (p1 : Addr), H7 p1 = none → ((mm = 0 ∧ dn = []) ∨ ∃ d0 c, dn = d0 ++ [c] ∧ d0 ++ mgo c (L.drop mm) = Tw.mg L ∧ ¬ (c.1 + c.2.2 = i ∧ c.2.1 + c.2.2 = j)) →
              ∃ (fs' : List V) (dn : List Bk) (y3' y4' y5' y6' y7' y8' y9' : Option V), ([some (.ref m), some (.ref pw), some (.ref ps), y3, y4, y5, y6, some (vN i), some (vN j), some (vN n), some (.ref pf)] : L2.St) = [some (.ref m), some (.ref pw), some (.ref ps), y3', y4', y5', y6', y7', y8', y9', some (.ref pf)] ∧ Same H (upd (upd H7 p1 (.tup [vN i, vN j, vN n])) pf (.lst (fs ++ [.ref p1]))) ∧
                (upd (upd H7 p1 (.tup [vN i, vN j, vN n])) pf (.lst (fs ++ [.ref p1]))) pz = some (.lst zs) ∧ (upd (upd H7 p1 (.tup [vN i, vN j, vN n])) pf (.lst (fs ++ [.ref p1]))) pf = some (.lst fs') ∧ AllT (upd (upd H7 p1 (.tup [vN i, vN j, vN n])) pf (.lst (fs ++ [.ref p1]))) zs (L.map bkV) ∧
                AllT (upd (upd H7 p1 (.tup [vN i, vN j, vN n])) pf (.lst (fs ++ [.ref p1]))) fs' (dn.map bkV) ∧ dn.length ≤ mm + 1 ∧ ((mm + 1 = 0 ∧ dn = []) ∨ ∃ d0 c, dn = d0 ++ [c] ∧ d0 ++ mgo c (L.drop (mm + 1)) = Tw.mg L) := by
            intro p1 np1 hd'
            have k8 : ∀ c o, H7 c = some o → c ≠ pf → (upd (upd H7 p1 (.tup [vN i, vN j, vN n])) pf (.lst (fs ++ [.ref p1]))) c = some o := fun c o e nc => by
              rw [upd_ne nc, upd_ne (ne_of_none e np1)]
              exact e
            refine ⟨fs ++ [.ref p1], dn ++ [(i, j, n)], _, _, _, _, _, _, _, rfl, appSame (s6.trans s7) nfH np1, k8 _ _ (s7 _ _ hz6) npz, upd_same, ⟨az6.1, fun u x hx => ?_⟩, ?_, by rw [List.length_append, List.length_singleton]; omega, .inr ⟨dn, (i, j, n), rfl, ?_⟩⟩
            · obtain ⟨p', t', e1, e2, e3⟩ := az6.2 u x hx
              exact ⟨p', t', e1, e2, k8 _ _ (s7 _ _ e3) (fun z => by rw [z, hf6] at e3; cases e3)⟩
            · rw [List.map_append]
              exact appT (s7 _ _ hf6) np1 (af6.same s7)
            · rcases hd' with ⟨rfl, rfl⟩ | ⟨d0, c, rfl, e, nt⟩
              · rw [List.drop_zero] at hdr
                rw [hdr]
                rfl
              · rw [hdr, mgo, if_neg nt] at e
                rw [List.append_assoc]
                exact e
          have appTo : ∀ (p1 : Addr), fs.length < sizeLine := fun _ => szl (by omega)
          rcases hd with ⟨h0, hdn⟩ | ⟨d0, c, hdn, hmg⟩
          · -- nothing yet
            rw [hdn]
            refine iteF (iteF ?_)
            refine ⟨.ref pf, rfl, .inl ⟨rfl, _, sqL (s7 _ _ hf6)⟩, vN i, rfl, vN j, rfl, vN n, rfl, by show 3 ≤ sizeLine; decide, fun p1 np1 => ?_⟩
            exact ⟨pf, fs, _, rfl, rfl, same_upd np1 _ _ (s7 _ _ hf6), szl (by omega), fin p1 np1 (.inl ⟨h0, hdn⟩)⟩
          · rw [show (!((dn.map bkI).map iD).isEmpty) = true by rw [hdn]; cases d0 <;> rfl]
            rw [hdn, List.map_append] at af6
            obtain ⟨fs0, pc, rfl, af0, hpc⟩ := af6.last
            have hf7 := s7 _ _ hf6
            have hc7 := s7 _ _ hpc
            refine iteT ⟨.ref pf, rfl, _, rfl, pf, _, -1, .ref pc, rfl, rfl, sqL hf7, atI_last _ _, pc, _, 0, vN c.1, rfl, rfl, sqT hc7, atI_nat (j := 0) rfl, .ref pf, rfl, _, rfl, pf, _, -1, .ref pc, rfl, rfl, sqL hf7, atI_last _ _, pc, _, 2, vN c.2.2, rfl, rfl, sqT hc7, atI_nat (j := 2) rfl,
              _, _, rfl, rfl, vN i, rfl, rfl, _, rfl, ?_⟩
            have elseW : ¬ (c.1 + c.2.2 = i ∧ c.2.1 + c.2.2 = j) → ∀ p1, H7 p1 = none → _ := fun nt p1 np1 => fin p1 np1 (.inr ⟨d0, c, hdn, hmg, nt⟩)
            by_cases c1 : c.1 + c.2.2 = i
            · rw [show decide (V.int ((c.1 : Int) + (c.2.2 : Int)) = vN i) = true from decide_eq_true (by rw [← c1]; rfl)]
              refine iteT ⟨.ref pf, rfl, _, rfl, pf, _, -1, .ref pc, rfl, rfl, sqL hf7, atI_last _ _, pc, _, 1, vN c.2.1, rfl, rfl, sqT hc7, atI_nat (j := 1) rfl, .ref pf, rfl, _, rfl, pf, _, -1, .ref pc, rfl, rfl, sqL hf7, atI_last _ _, pc, _, 2, vN c.2.2, rfl, rfl, sqT hc7, atI_nat (j := 2) rfl,
                _, _, rfl, rfl, vN j, rfl, rfl, _, rfl, ?_⟩
              by_cases c2 : c.2.1 + c.2.2 = j
              · rw [show decide (V.int ((c.2.1 : Int) + (c.2.2 : Int)) = vN j) = true from decide_eq_true (by rw [← c2]; rfl)]
                refine iteT ⟨.ref pf, rfl, _, rfl, pf, _, -1, .ref pc, rfl, rfl, sqL hf7, atI_last _ _, pc, _, 0, vN c.1, rfl, rfl, sqT hc7, atI_nat (j := 0) rfl, .ref pf, rfl, _, rfl, pf, _, -1, .ref pc, rfl, rfl, sqL hf7, atI_last _ _, pc, _, 1, vN c.2.1, rfl, rfl, sqT hc7, atI_nat (j := 1) rfl,
                  .ref pf, rfl, _, rfl, pf, _, -1, .ref pc, rfl, rfl, sqL hf7, atI_last _ _, pc, _, 2, vN c.2.2, rfl, rfl, sqT hc7, atI_nat (j := 2) rfl, vN n, rfl, _, _, rfl, rfl, by show 3 ≤ sizeLine; decide, fun p1 np1 => ?_⟩
                refine ⟨.ref pf, rfl, _, rfl, pf, _, -1, fs0.length, rfl, rfl, same_upd np1 _ _ hf7, by rw [List.length_append, List.length_singleton]; exact ixN_last _, ?_⟩
                rw [set_last]
                have k8 : ∀ o' o, H7 o' = some o → o' ≠ pf → (upd (upd H7 p1 (.tup [vN c.1, vN c.2.1, V.int ((c.2.2 : Int) + (n : Int))])) pf (.lst (fs0 ++ [.ref p1]))) o' = some o := fun o' o e nc => by
                  rw [upd_ne nc, upd_ne (ne_of_none e np1)]
                  exact e
                have np1f : p1 ≠ pf := fun z => by rw [z, hf7] at np1; cases np1
                refine ⟨fs0 ++ [.ref p1], d0 ++ [(c.1, c.2.1, c.2.2 + n)], _, _, _, _, _, _, _, rfl, appSame (s6.trans s7) nfH np1, k8 _ _ (s7 _ _ hz6) npz, upd_same, ⟨az6.1, fun u x hx => ?_⟩, ?_, by rw [hdn] at hdl; rw [List.length_append, List.length_singleton] at hdl ⊢; omega, .inr ⟨d0, (c.1, c.2.1, c.2.2 + n), rfl, ?_⟩⟩
                · obtain ⟨p', t', e1, e2, e3⟩ := az6.2 u x hx
                  exact ⟨p', t', e1, e2, k8 _ _ (s7 _ _ e3) (fun z => by rw [z, hf6] at e3; cases e3)⟩
                · rw [List.map_append]
                  refine AllT.snoc ⟨af0.1, fun u x hx => ?_⟩ (by rw [upd_ne np1f, upd_same]; rfl)
                  obtain ⟨p', t', e1, e2, e3⟩ := af0.2 u x hx
                  exact ⟨p', t', e1, e2, k8 _ _ (s7 _ _ e3) (fun z => by rw [z, hf6] at e3; cases e3)⟩
                · rw [hdr, mgo, if_pos ⟨c1, c2⟩] at hmg
                  exact hmg
              · rw [show decide (V.int ((c.2.1 : Int) + (c.2.2 : Int)) = vN j) = false from decide_eq_false (fun z => c2 (by have := V.int.inj z; omega))]
                refine iteF ⟨.ref pf, rfl, .inl ⟨rfl, _, sqL hf7⟩, vN i, rfl, vN j, rfl, vN n, rfl, by show 3 ≤ sizeLine; decide, fun p1 np1 => ?_⟩
                exact ⟨pf, _, _, rfl, rfl, same_upd np1 _ _ hf7, appTo p1, elseW (fun z => c2 z.2) p1 np1⟩
            · rw [show decide (V.int ((c.1 : Int) + (c.2.2 : Int)) = vN i) = false from decide_eq_false (fun z => c1 (by have := V.int.inj z; omega))]
              refine iteF (iteF ⟨.ref pf, rfl, .inl ⟨rfl, _, sqL hf7⟩, vN i, rfl, vN j, rfl, vN n, rfl, by show 3 ≤ sizeLine; decide, fun p1 np1 => ?_⟩)
              exact ⟨pf, _, _, rfl, rfl, same_upd np1 _ _ hf7, appTo p1, elseW (fun z => c1 z.1) p1 np1⟩
        · rintro σ H6 ⟨fs, dn, y3, y4, y5, y6, y7, y8, y9, rfl, s6, hz6, hf6, az6, af6, hdl, hd⟩
          have edn : dn = bks a b jk sk := by
            have lz : zs.length = L.length := by rw [az6.1, List.length_map]
            unfold bks
            rw [hL]
            rcases hd with ⟨h0, rfl⟩ | ⟨d0, c, rfl, e⟩
            · have : L = [] := List.eq_nil_of_length_eq_zero (by omega)
              rw [this]
              rfl
            · rw [lz, List.drop_length, mgo] at e
              exact e
          subst edn
          have lf : fs.length = (bks a b jk sk).length := by rw [af6.1, List.length_map]
          have lb := bks_len a b jk sk
          -- found + [(len(self.first), len(self.second), 0)]
          refine ⟨.ref pf, rfl, .ref m, rfl, m, C, dx, _, .ref t1, rfl, s6 _ _ MW.ins, T.cl, T.nF, rfl, t1, _, rfl, .inr (sqT (s6 _ _ MW.one)), ?_⟩
          refine ⟨.ref m, rfl, m, C, dx, _, .ref t2, rfl, s6 _ _ MW.ins, T.cl, T.nS, rfl, t2, _, rfl, .inr (sqT (s6 _ _ MW.two)), ?_⟩
          rw [List.length_map, List.length_map]
          refine ⟨by show 3 ≤ sizeLine; decide, fun p1 np1 => ⟨by show 1 ≤ sizeLine; decide, fun p2 np2 => ?_⟩⟩
          have s7 := (same_upd (o := .tup (bkV (a.length, b.length, 0))) np1).trans (same_upd (o := .lst [.ref p1]) np2)
          have a7 : AllT (upd (upd H6 p1 (.tup (bkV (a.length, b.length, 0)))) p2 (.lst [.ref p1])) [.ref p1] ([(a.length, b.length, 0)].map bkV) := AllT.snoc AllT.nil (same_upd np2 _ _ upd_same)
          have h7 : (upd (upd H6 p1 (.tup (bkV (a.length, b.length, 0)))) p2 (.lst [.ref p1])) p2 = some (.lst [.ref p1]) := upd_same
          refine ⟨pf, p2, fs, [.ref p1], rfl, rfl, s7 _ _ hf6, h7, by rw [List.length_singleton]; exact szL (by omega), fun p3 np3 => ?_⟩
          have s8 := s7.trans (same_upd (o := .lst (fs ++ [.ref p1])) np3)
          refine q _ p3 _ (s6.trans s8) ((s6.trans s7).free np3) upd_same ?_
          rw [List.map_append]
          exact AllT.app (af6.same s8) (a7.same (same_upd np3))
end
end Tw
end
section
namespace Tw
open PySem PySem.Spec PyProof.Rows L2
section
variable {P : Program} {w : World} {K : PySem.W.Frag} {mg : Str → Option Value} {base : Heap} {C : Addr}
theorem scCs : FnScope ["self"] ["self"] (defScope sCodes) := ⟨rfl, rfl, rfl, by decide +kernel, rfl, by decide +kernel, by decide +kernel⟩
def spCs (C : Addr) : Sp := fun vs H Q _ => ∃ (m : Addr) (a b : List Key) (jk sk : Key → Bool), vs = [.ref m] ∧ MtAt C H m a b jk sk ∧ a.length ≤ 900 ∧ b.length ≤ 900 ∧
  ∀ H' p xs, Same H H' → H' p = some (.lst xs) → AllT H' xs ((cgo 0 0 (bks a b jk sk ++ [(a.length, b.length, 0)])).map cdV) → Q (.ref p) H'
theorem ok_cs {f fBl fCb : Addr} {fd fdBl fdCb : FuncData} {k : Nat} (F : Fun K "codes" "Matcher.codes" sCodes f fd) (GBl : FnOk P w K mg base CX0 (k + 4) fBl fdBl ["self"] (spBl C)) (bBl : Binds K fdBl ["self"] []) (mBl : Meth K C "blocks" fBl)
    (FCb : Fun K "codes_between" "codes_between" sCodesB fCb fdCb) (GCb : FnOk P w K mg base CX0 (k + 4) fCb fdCb ["blocks"] spCodesB) (bCb : Binds K fdCb ["blocks"] []) (gCb : mg "codes_between" = some (.ref fCb)) (T : Tx K C) :
    FnOk P w K mg base CX0 (k + 5) f fd ["self"] (spCs C) := by
  refine F.ok scCs (fun vs H Q E h => ?_) (fun cdv A outer s H vs Q E hr h => ?_)
  · obtain ⟨m, a, b, jk, sk, rfl, _⟩ := h
    rfl
  · obtain ⟨m, a, b, jk, sk, rfl, MA, z3, z4, q⟩ := h
    obtain ⟨dx, t1, t2, d, jl, pl, fj, au, kvs, js, MW⟩ := id MA
    refine ⟨_, (pss_one (ps_ret (pe_call GCb (hr.mono (by omega)) (by rfl) gCb FCb.kp bCb .nil pass0 (pa_cons (pe_meth0 (pv 0) T.cl mBl GBl (hr.mono (by omega)) bBl .nil pass0) pa_nil)))), ?_⟩
    refine ⟨.ref m, rfl, m, dx, _, rfl, MW.ins, rfl, m, a, b, jk, sk, rfl, MA, by omega, by omega, fun H1 p xs s1 _ hp hx => ?_⟩
    refine ⟨p, xs, _, rfl, hp, hx, ?_, fun H2 p2 ys s2 hp2 hy => q H2 p2 ys (s1.trans s2) hp2 hy⟩
    have := bks_len a b jk sk
    rw [List.length_append, List.length_singleton]
    omega
end
end Tw
end
section
/-! the dict of places: plain facts -/
namespace Tw
open PySem PySem.Spec PyProof.Rows L2
theorem snoc_ind {α : Type} {P : List α → Prop} (h0 : P []) (hs : ∀ l x, P l → P (l ++ [x])) : ∀ l, P l := by
  intro l
  have : ∀ n (l : List α), l.length = n → P l := by
    intro n
    induction n with
    | zero => intro l hl; rw [List.eq_nil_of_length_eq_zero hl]; exact h0
    | succ n ih =>
      intro l hl
      rcases snoc_cases l with rfl | ⟨l', x, rfl⟩
      · simp at hl
      · rw [List.length_append, List.length_singleton] at hl
        exact hs l' x (ih l' (by omega))
  exact this _ l rfl
theorem plc_snoc (b : List Key) (x y : Key) : plc (b ++ [x]) y = if x = y then plc b y ++ [b.length] else plc b y := by
  unfold plc
  rw [List.length_append, List.length_singleton, List.range_succ, List.filter_append]
  have e1 : (List.range b.length).filter (fun j => decide ((b ++ [x])[j]? = some y)) = (List.range b.length).filter (fun j => decide (b[j]? = some y)) := by
    apply List.filter_congr
    intro j hj
    rw [List.getElem?_append_left (List.mem_range.mp hj)]
  rw [e1]
  have e2 : (b ++ [x])[b.length]? = some x := by simp
  by_cases h : x = y
  · rw [if_pos h]
    congr 1
    rw [List.filter_cons_of_pos (by rw [e2, h]; exact decide_eq_true rfl)]
    rfl
  · rw [if_neg h, List.filter_cons_of_neg (by rw [e2]; simpa using h)]
    simp
theorem plc_none {b : List Key} {x : Key} (h : x ∉ b) : plc b x = [] := by
  unfold plc
  rw [List.filter_eq_nil_iff]
  intro j _ hj
  exact h (List.mem_of_getElem? (of_decide_eq_true hj))
theorem plc_len : ∀ (b : List Key) (x : Key), (plc b x).length = cnt x b := by
  intro b x
  refine snoc_ind (P := fun b => (plc b x).length = cnt x b) rfl (fun b y ih => ?_) b
  show (plc (b ++ [y]) x).length = cnt x (b ++ [y])
  have ih : (plc b x).length = cnt x b := ih
  {
    rw [plc_snoc]
    unfold cnt at ih ⊢
    rw [List.filter_append]
    by_cases h : y = x
    · rw [if_pos h, List.filter_cons_of_pos (p := fun z => decide (z = x)) (decide_eq_true h), List.length_append, List.length_append, ih]
      rfl
    · rw [if_neg h, List.filter_cons_of_neg (p := fun z => decide (z = x)) (by simpa using h), List.filter_nil, List.append_nil]
      exact ih }
/-! entries taken out -/
def popAll (kvs : List (Key × V)) (l : List Key) : List (Key × V) := kvs.filter fun kv => !memB kv.1 l
theorem popAll_nil (kvs : List (Key × V)) : popAll kvs [] = kvs := by
  unfold popAll
  rw [List.filter_eq_self]
  intro _ _
  rfl
theorem memB_snoc (x : Key) (l : List Key) (y : Key) : memB x (l ++ [y]) = (memB x l || decide (y = x)) := by
  unfold memB
  rw [List.any_append, List.any_cons, List.any_nil, Bool.or_false]
theorem popAll_snoc (kvs : List (Key × V)) (l : List Key) (k : Key) : popAll kvs (l ++ [k]) = dropK (popAll kvs l) k := by
  unfold popAll dropK
  rw [List.filter_filter]
  apply List.filter_congr
  intro kv _
  rw [memB_snoc]
  by_cases h : kv.1 = k
  · rw [decide_eq_true h.symm]
    simp [h]
  · rw [decide_eq_false (fun z => h z.symm)]
    simp [h]
theorem valV_filter (p : Key → Bool) (k : Key) : ∀ kvs : List (Key × V), valV (kvs.filter fun kv => p kv.1) k = if p k = true then valV kvs k else none
  | [] => by rw [List.filter_nil, valV_nil]; split <;> rfl
  | kv :: r => by
    have ih := valV_filter p k r
    by_cases hp : p kv.1 = true
    · rw [List.filter_cons_of_pos (p := fun kv : Key × V => p kv.1) hp]
      by_cases e : kv.1 = k
      · rw [valV_pos e, valV_pos e, if_pos (by rw [← e]; exact hp)]
      · rw [valV_neg e, valV_neg e, ih]
    · rw [List.filter_cons_of_neg (p := fun kv : Key × V => p kv.1) hp, ih]
      by_cases e : kv.1 = k
      · rw [if_neg (by rw [← e]; exact hp), if_neg (by rw [← e]; exact hp)]
      · rw [valV_neg e]
theorem valV_popAll (kvs : List (Key × V)) (l : List Key) (k : Key) : valV (popAll kvs l) k = if memB k l = true then none else valV kvs k := by
  unfold popAll
  rw [valV_filter (fun x => !memB x l) k kvs]
  cases memB k l <;> simp
theorem mem_keys {kvs : List (Key × V)} {k : Key} : k ∈ kvs.map (·.1) ↔ valV kvs k ≠ none := by
  have h := valV_any k kvs
  constructor
  · intro hk e
    rw [e] at h
    obtain ⟨kv, h1, h2⟩ := List.mem_map.mp hk
    rw [List.any_eq_true.mpr ⟨kv, h1, decide_eq_true h2⟩] at h
    cases h
  · intro hk
    cases e : valV kvs k with
    | none => exact absurd e hk
    | some v =>
      rw [e] at h
      obtain ⟨kv, h1, h2⟩ := List.any_eq_true.mp h
      exact List.mem_map.mpr ⟨kv, h1, of_decide_eq_true h2⟩
theorem keys_popAll (kvs : List (Key × V)) (l : List Key) : (popAll kvs l).map (·.1) = (kvs.map (·.1)).filter fun k => !memB k l := by
  unfold popAll
  rw [List.filter_map]
  rfl
/-- the dict of places as it grows -/
structure FdB (H0 H : Hp) (d : Addr) (b : List Key) (kvs : List (Key × V)) : Prop where
  at_ : H d = some (.dK kvs)
  no : ∀ x, x ∉ b → valV kvs x = none
  yes : ∀ x ∈ b, ∃ l, valV kvs x = some (.ref l) ∧ H l = some (.lst ((plc b x).map vN)) ∧ H0 l = none
  inj : ∀ x y l, valV kvs x = some (.ref l) → valV kvs y = some (.ref l) → x = y
  nd : (kvs.map (·.1)).Nodup
  len : kvs.length ≤ b.length
  new : H0 d = none
theorem FdB.start {H0 H : Hp} {d : Addr} (h : H d = some (.dK [])) (n : H0 d = none) : FdB H0 H d [] [] :=
  ⟨h, fun _ _ => rfl, fun x hx => absurd hx List.not_mem_nil, fun x y l h => (by rw [valV_nil] at h; cases h), List.nodup_nil, Nat.le_refl _, n⟩
theorem FdB.same {H0 H H' : Hp} {d : Addr} {b : List Key} {kvs : List (Key × V)} (s : Same H H') (h : FdB H0 H d b kvs) : FdB H0 H' d b kvs :=
  ⟨s _ _ h.at_, h.no, fun x hx => let ⟨l, a, c, e⟩ := h.yes x hx; ⟨l, a, s _ _ c, e⟩, h.inj, h.nd, h.len, h.new⟩
/-- x has stood before -/
theorem FdB.old {H0 H : Hp} {d l : Addr} {b : List Key} {kvs : List (Key × V)} {x : Key} (h : FdB H0 H d b kvs) (hl : valV kvs x = some (.ref l)) (hH : H l = some (.lst ((plc b x).map vN))) :
    FdB H0 (upd H l (.lst ((plc b x).map vN ++ [vN b.length]))) d (b ++ [x]) kvs := by
  have nd : d ≠ l := fun z => by rw [← z, h.at_] at hH; cases hH
  have hx : x ∈ b := Classical.byContradiction fun z => by rw [h.no x z] at hl; cases hl
  refine ⟨by rw [upd_ne nd]; exact h.at_, fun y hy => h.no y fun z => hy (List.mem_append_left _ z), fun y hy => ?_, h.inj, h.nd, by rw [List.length_append]; have := h.len; omega, h.new⟩
  have hy : y ∈ b := by
    rcases List.mem_append.mp hy with z | z
    · exact z
    · rw [List.mem_singleton.mp z]; exact hx
  obtain ⟨l', e1, e2, e3⟩ := h.yes y hy
  refine ⟨l', e1, ?_, e3⟩
  rw [plc_snoc]
  by_cases e : x = y
  · subst e
    rw [hl] at e1
    cases e1
    rw [if_pos rfl, upd_same, List.map_append]
    rfl
  · rw [if_neg e, upd_ne (fun z => e (h.inj x y l' (by rw [z]; exact hl) e1))]
    exact e2
/-- x stands for the first time -/
theorem FdB.fresh {H0 H : Hp} {d l : Addr} {b : List Key} {kvs : List (Key × V)} {x : Key} (h : FdB H0 H d b kvs) (hn : valV kvs x = none) (nl : H l = none) (n0 : H0 l = none) (ns : ∀ y l', valV kvs y = some (.ref l') → l' ≠ l) :
    FdB H0 (upd (upd (upd H l (.lst [])) d (.dK (putK kvs x (.ref l)))) l (.lst ([] ++ [vN b.length]))) d (b ++ [x]) (putK kvs x (.ref l)) := by
  have nd : d ≠ l := fun z => by rw [← z, h.at_] at nl; cases nl
  have hx : x ∉ b := fun z => by obtain ⟨l', e1, _⟩ := h.yes x z; rw [hn] at e1; cases e1
  refine ⟨by rw [upd_ne nd, upd_same], fun y hy => ?_, fun y hy => ?_, fun y z l' e1 e2 => ?_, ?_, ?_, h.new⟩
  · rw [valV_put, if_neg (fun e => hy (by rw [e]; simp))]
    exact h.no y fun z => hy (List.mem_append_left _ z)
  · by_cases e : y = x
    · subst e
      refine ⟨l, by rw [valV_put, if_pos rfl], ?_, n0⟩
      rw [upd_same, plc_snoc, if_pos rfl, plc_none hx]
      rfl
    · have hy : y ∈ b := by
        rcases List.mem_append.mp hy with z | z
        · exact z
        · exact absurd (List.mem_singleton.mp z) e
      obtain ⟨l', e1, e2, e3⟩ := h.yes y hy
      refine ⟨l', by rw [valV_put, if_neg e]; exact e1, ?_, e3⟩
      rw [plc_snoc, if_neg (Ne.symm e), upd_ne (ns y l' e1), upd_ne (fun z => by rw [z, h.at_] at e2; cases e2), upd_ne (ns y l' e1)]
      exact e2
  · rw [valV_put] at e1 e2
    by_cases c1 : y = x
    · by_cases c2 : z = x
      · rw [c1, c2]
      · rw [if_pos c1] at e1
        rw [if_neg c2] at e2
        cases e1
        exact absurd rfl (ns z _ e2)
    · rw [if_neg c1] at e1
      by_cases c2 : z = x
      · rw [if_pos c2] at e2
        cases e2
        exact absurd rfl (ns y _ e1)
      · rw [if_neg c2] at e2
        exact h.inj y z l' e1 e2
  · rw [putK_new _ hn, List.map_append]
    refine List.nodup_append.mpr ⟨h.nd, by simp, fun y hy z hz e => ?_⟩
    have hz : z = x := by simpa using hz
    rw [e, hz] at hy
    exact mem_keys.mp hy hn
  · have := length_putK kvs x (.ref l)
    rw [List.length_append, List.length_singleton]
    have := h.len
    omega
theorem FdB.key {H0 H : Hp} {d : Addr} {b : List Key} {kvs : List (Key × V)} (h : FdB H0 H d b kvs) {x : Key} : x ∈ kvs.map (·.1) ↔ x ∈ b := by
  rw [mem_keys]
  constructor
  · intro z
    exact Classical.byContradiction fun e => z (h.no x e)
  · intro z e
    obtain ⟨l, e1, _⟩ := h.yes x z
    rw [e] at e1
    cases e1
/-- all but what is skipped -/
theorem FdB.end_ {H0 H H' : Hp} {d : Addr} {b : List Key} {kvs : List (Key × V)} {sk : Key → Bool} {js ps : List Key} (h : FdB H0 H d b kvs) (hd : H' d = some (.dK (popAll (popAll kvs js) ps)))
    (hs : ∀ x ∈ b, sk x = (memB x js || memB x ps)) (k : ∀ l xs, H l = some (.lst xs) → H0 l = none → H' l = some (.lst xs)) : FdAt H' d b sk (popAll (popAll kvs js) ps) := by
  refine ⟨hd, fun x hx => ?_, fun x hx hb => ?_⟩
  · rw [valV_popAll, valV_popAll]
    by_cases hb : x ∈ b
    · have hx : sk x = true := hx.resolve_right (fun z => z hb)
      rw [hs x hb] at hx
      cases e1 : memB x js
      · rw [e1, Bool.false_or] at hx
        rw [if_pos hx]
      · split <;> rfl
    · rw [h.no x hb]
      simp
  · rw [hs x hb] at hx
    have e1 : memB x js = false := by cases z : memB x js <;> simp_all
    have e2 : memB x ps = false := by cases z : memB x ps <;> simp_all
    obtain ⟨l, a, c, e⟩ := h.yes x hb
    refine ⟨l, ?_, k _ _ c e⟩
    rw [valV_popAll, valV_popAll, e1, e2]
    exact a
end Tw
end
section
namespace Tw
open PySem PySem.Spec PyProof.Rows L2 LamX NdefX
/-- the lambda of law: is the thing one of the waste -/
abbrev tbW (K : PySem.W.Frag) : TE := tOp (rIn K false) (tVar 0) (tVar 1)
structure LamW (P : Program) (w : World) (K : PySem.W.Frag) (mg : Str → Option Value) (F : LF) : Prop where
  sc : NScope ["_law_thing", "_law_waste"] ["_law_thing"] ["_law_waste"] F.scope
  hb : ∀ (pm ctv : Value) (u : Value), bindArgs (PySem.W.kla_fn "<lambda>" F.qual F.params F.body F.scope F.cl pm (.ref F.c) ctv) ⟨[u], []⟩ = pure [(("_law_thing" : Str), u)]
  body : ∀ (base : Heap) (f : Addr) (A : Around) (outer : List Env) (s : Shared) (H : Hp), PE (ncx CX0 P w K mg base ["_law_thing", "_law_waste"] F.nf f A outer s H E0) F.body (tbW K)
abbrev tt1 (K : PySem.W.Frag) (Fl : LF) (wa : Addr) : TT := tAnd (tTest (tOp (fun x y H Q => y = .non ∧ Q (.bl (!decide (x = .non))) H) (tFld K (tVar 0) "is_junk") (tC .non))) (tB (tAttrLam K "is_junk" Fl (.ref wa) (tbW K) (tVar 0) (tCons (tVar 3) tNil)))
abbrev tt2 (K : PySem.W.Frag) : TT := tTest (tOp (rI0 fun i j => .bl (decide (j < i))) (tCB (fun xs H Q => ∃ p ys, xs = [.ref p] ∧ (SqL K H p ys ∨ SqT K H p ys) ∧ Q (.int ys.length) H) (tCons (tDGet (tFld K (tVar 0) "found") (tVar 3)) tNil)) (tVar 4))
/-- all but m stays -/
def SameX (m : Addr) (H H' : Hp) : Prop := ∀ c o, H c = some o → c ≠ m → H' c = some o
theorem SameX.of {m : Addr} {H H' : Hp} (s : Same H H') : SameX m H H' := fun c o e _ => s c o e
theorem SameX.trans {m : Addr} {H H' H'' : Hp} (s : SameX m H H') (t : SameX m H' H'') : SameX m H H'' := fun c o e n => t c o (s c o e n) n
theorem SameX.upd {m : Addr} {H H' : Hp} {o : HO} (s : SameX m H H') : SameX m H (upd H' m o) := fun c x e n => by
  rw [upd_ne n]
  exact s c x e n
/-- also d, which is not of the old ones -/
theorem SameX.updN {m d : Addr} {H H' : Hp} {o : HO} (s : SameX m H H') (n : H d = none) : SameX m H (L2.upd H' d o) := fun c x e nm => by
  rw [upd_ne (ne_of_none e n)]
  exact s c x e nm
theorem SameX.free {m p : Addr} {H H' : Hp} (s : SameX m H H') (h : H' p = none) (n : p ≠ m) : H p = none := by
  cases e : H p with
  | none => rfl
  | some o => rw [s p o e n] at h; cases h
theorem put_second (fj au : V) (t1 t2 d jl pl x : Addr) : putF "second" (.ref x) (mflds fj au t1 t2 d jl pl) = mflds fj au t1 x d jl pl := rfl
theorem put_found (fj au : V) (t1 t2 d jl pl x : Addr) : putF "found" (.ref x) (mflds fj au t1 t2 d jl pl) = mflds fj au t1 t2 x jl pl := rfl
theorem put_junk (fj au : V) (t1 t2 d jl pl x : Addr) : putF "junk" (.ref x) (mflds fj au t1 t2 d jl pl) = mflds fj au t1 t2 d x pl := rfl
theorem put_popular (fj au : V) (t1 t2 d jl pl x : Addr) : putF "popular" (.ref x) (mflds fj au t1 t2 d jl pl) = mflds fj au t1 t2 d jl x := rfl
theorem lock_same {H H' : Hp} {d : Addr} {od : Obj} {u : HO} (e : H d = some u) (s : Same (upd H d (.frz od u)) H') : Same H (upd H' d u) := fun c o h => by
  by_cases hc : c = d
  · rw [hc] at h ⊢
    rw [upd_same, ← e, h]
  · rw [upd_ne hc]
    exact s _ _ (by rw [upd_ne hc]; exact h)
theorem memB_filter (x : Key) (p : Key → Bool) (l : List Key) : memB x (l.filter p) = (memB x l && p x) := by
  rw [Bool.eq_iff_iff, Bool.and_eq_true, memB_iff, memB_iff, List.mem_filter]
theorem filter_snoc {α : Type} {p : α → Bool} {l : List α} {x : α} : (l ++ [x]).filter p = if p x = true then l.filter p ++ [x] else l.filter p := by
  rw [List.filter_append]
  by_cases h : p x = true
  · rw [if_pos h, List.filter_cons_of_pos h, List.filter_nil]
  · rw [if_neg h, List.filter_cons_of_neg h, List.filter_nil, List.append_nil]
theorem take_not {l : List Key} (nd : l.Nodup) {i : Nat} {k : Key} (h : l[i]? = some k) : memB k (l.take i) = false := by
  rw [memB_no]
  intro hk
  obtain ⟨j, hj, e⟩ := List.mem_take_iff_getElem.mp hk
  obtain ⟨hi, ei⟩ := List.getElem?_eq_some_iff.mp h
  exact (List.pairwise_iff_getElem.mp nd) j i (by omega) hi (by omega) (e.trans ei.symm)
section
variable {P : Program} {w : World} {K : PySem.W.Frag} {mg : Str → Option Value} {base : Heap} {C : Addr}
theorem scSo : FnScope ["self", "sequence", "place", "thing", "most"] ["self", "sequence"] (defScope sSetOther) := ⟨rfl, rfl, rfl, by decide +kernel, rfl, by decide +kernel, by decide +kernel⟩
def spSo (C : Addr) (Fl : LF) (wa : Addr) : Sp := fun vs H Q _ => ∃ (m p f t1 t0 d0 j0 p0 dx : Addr) (au : Bool) (a b waste : List Key), vs = [.ref m, .ref p] ∧ H m = some (.ins C dx (mflds (.ref f) (.bl au) t1 t0 d0 j0 p0)) ∧ H p = some (.lst (b.map kV)) ∧
  H t1 = some (.tup (a.map kV)) ∧ H f = some (LamO f Fl) ∧ H Fl.c = some (CodeO Fl.c Fl.qual) ∧ H wa = some (.lst (waste.map kV)) ∧ b.length ≤ 1000 ∧
  ∀ H' t2 d jl pl kvs js, SameX m H H' → MtW C H' m a b (wsB waste) (skB b waste au) dx t1 t2 d jl pl (.ref f) (.bl au) kvs js → Q .non H'
theorem ok_so {f fRo : Addr} {fd fdRo : FuncData} {k : Nat} {Fl : LF} {wa : Addr} (F : Fun K "set_other" "Matcher.set_other" sSetOther f fd) (T : Tx K C) (B : Bm mg)
    (FRo : Fun K "row_of" "row_of" sRowOf fRo fdRo) (bRo : Binds K fdRo ["sequence"] []) (gRo : mg "row_of" = some (.ref fRo)) (gL : ∃ t, mg "LEAST_LONG" = some (.int 200 t)) (W : LamW P w K mg Fl) (J : JC base Fl.cl "_law_waste" (.ref wa)) :
    FnOk P w K mg base CX0 (k + 3) f fd ["self", "sequence"] (spSo C Fl wa) := by
  obtain ⟨tL, gL⟩ := gL
  have GRo : FnOk P w K mg base CX0 (k + 1) fRo fdRo ["sequence"] spRowOf := ok_rowOf FRo B
  refine F.ok scSo (fun vs H Q E h => ?_) (fun cdv A outer s H vs Q E hr h => ?_)
  · obtain ⟨m, p, fj, t1, t0, d0, j0, p0, dx, au, a, b, waste, rfl, _⟩ := h
    rfl
  · obtain ⟨m, p, fj, t1, t0, d0, j0, p0, dx, au, a, b, waste, rfl, hm, hp, h1, hf, hc, hw, hlen, q⟩ := h
    refine ⟨_, (pss_cons (ps_fld (pv 0) (pe_call GRo (hr.mono (by omega)) (by rfl) gRo FRo.kp bRo .nil pass0 (pa_cons (pv 1) pa_nil)) rfl)
      (pss_cons (ps_fld (pv 0) pe_dnewK rfl)
      (pss_cons (ps_for PassesOwn.never rfl (pi_enumT (by rfl) B.enum (pa_cons (pe_fld (pv 0) rfl) pa_nil)) (pg_tup rfl (pgs_cons (pg_name (i := 2) scSo.nd rfl (.inl rfl)) (pgs_cons (pg_name (i := 3) scSo.nd rfl (.inl rfl)) pgs_nil))) (pss_one (ps_expr (pe_bm PySem.F.plainAttrs_list PySem.F.slot_list_append PySem.F.type_list_append mt_append (pe_dsetd (pe_fld (pv 0) rfl) (pv 3) (pe_lst pa_nil) ⟨rfl, rfl, rfl, rfl⟩) (pa_cons (pv 2) pa_nil)))))
      (pss_cons (ps_fld (pv 0) (pe_lock (pe_lc (own := [("thing", 3)]) (g := gName 3) (tt := (tt1 K Fl wa)) (by rfl) scSo.nd (pi_keys (pe_fld (pv 0) rfl)) (blkOk_by (own := [("thing", 3)]) (N := ["self", "sequence", "place", "thing", "most"]) (sc := defScope sSetOther) (by decide +kernel)) (fun _ _ _ _ _ => (pg_name (i := 3) scSo.nd rfl (.inl rfl))) (fun _ _ _ _ _ => (pts_one (PW.pt (pw_and (pt_cmpR op_notN (pe_fld (pv 0) rfl) pe_non (nomark _)) (pw_and1 (pt_val (by exact pe_attrLam (k := k) (F := Fl) (u0 := .ref wa) (pv 0) (pa_cons (pv 3) pa_nil) (by exact W.sc) (by exact W.hb) (by exact hr.mono (by omega)) (by exact J) (by exact W.body base)))))))) (fun _ _ _ _ _ => (pv 3)))) rfl)
      (pss_cons (ps_for PassesOwn.never rfl (pi_list (pe_fld (pv 0) rfl)) (pg_name (i := 3) scSo.nd rfl (.inl rfl)) (pss_one (ps_expr (pe_dpop1 (pe_fld (pv 0) rfl) (pv 3) ⟨rfl, rfl, rfl, rfl⟩))))
      (pss_cons (ps_fld (pv 0) (pe_lst pa_nil) rfl)
      (C8.pss_cut (ps_if (PW.pt (pw_and (pt_val (pe_fld (pv 0) rfl)) (pw_and1 (pt_cmpR op_ge (pe_callB call_len_seq (by rfl) B.len PySem.boot_len (pa_cons (pe_fld (pv 0) rfl) pa_nil)) (pe_glob (v := .int 200) rfl gL ⟨_, rfl⟩) (nomark _))))) (pss_cons (ps_set (i := 4) scSo.nd rfl (.inr rfl) (pe_op op_add (pe_op op_fdiv (pe_callB call_len_seq (by rfl) B.len PySem.boot_len (pa_cons (pe_fld (pv 0) rfl) pa_nil)) pe_int) pe_int))
      (pss_one (ps_fld (pv 0) (pe_lock (pe_lc (own := [("thing", 3)]) (g := gName 3) (tt := (tt2 K)) (by rfl) scSo.nd (pi_keys (pe_fld (pv 0) rfl)) (blkOk_by (own := [("thing", 3)]) (N := ["self", "sequence", "place", "thing", "most"]) (sc := defScope sSetOther) (by decide +kernel)) (fun _ _ _ _ _ => (pg_name (i := 3) scSo.nd rfl (.inl rfl))) (fun _ _ _ _ _ => (pts_one (pt_cmpR op_gt (pe_callB call_len_seq (by rfl) B.len PySem.boot_len (pa_cons (pe_dget (hu_of hr) (pe_fld (pv 0) rfl) (pv 3) (fun _ _ => rfl)) pa_nil)) (pv 4) (nomark _)))) (fun _ _ _ _ _ => (pv 3)))) rfl))) pss_nil)
      (pss_one (ps_for PassesOwn.never rfl (pi_list (pe_fld (pv 0) rfl)) (pg_name (i := 3) scSo.nd rfl (.inl rfl)) (pss_one (ps_expr (pe_dpop1 (pe_fld (pv 0) rfl) (pv 3) ⟨rfl, rfl, rfl, rfl⟩)))))))))))), ?_⟩
    have nm : ∀ {c : Addr} {o : HO}, H c = some o → (∀ C' d' f', o ≠ .ins C' d' f') → c ≠ m := fun {c o} e ho z => by
      rw [z, hm] at e
      exact ho _ _ _ (Option.some.inj e).symm
    have f1 : t1 ≠ m := nm h1 (fun _ _ _ z => nomatch z)
    have ff : fj ≠ m := nm hf (fun _ _ _ z => nomatch z)
    have fc : Fl.c ≠ m := nm hc (fun _ _ _ z => nomatch z)
    have fw : wa ≠ m := nm hw (fun _ _ _ z => nomatch z)
    -- self.second = row_of(sequence)
    refine ⟨.ref p, rfl, p, _, rfl, hp, fun t2 n2 => ?_⟩
    have s1 := same_upd (o := .tup (b.map kV)) n2
    have n2m : t2 ≠ m := fun z => by rw [z, hm] at n2; cases n2
    refine ⟨.ref m, rfl, m, C, dx, _, rfl, s1 _ _ hm, T.cl, T.nS, by show 7 < 1000; decide, ?_⟩
    rw [put_second]
    have e1 : SameX m H (upd (upd H t2 (.tup (b.map kV))) m (.ins C dx (mflds (.ref fj) (.bl au) t1 t2 d0 j0 p0))) := (SameX.of s1).upd
    have m1 : (upd (upd H t2 (.tup (b.map kV))) m (.ins C dx (mflds (.ref fj) (.bl au) t1 t2 d0 j0 p0))) m = some (.ins C dx (mflds (.ref fj) (.bl au) t1 t2 d0 j0 p0)) := upd_same
    have g1 : (upd (upd H t2 (.tup (b.map kV))) m (.ins C dx (mflds (.ref fj) (.bl au) t1 t2 d0 j0 p0))) t2 = some (.tup (b.map kV)) := by rw [upd_ne n2m, upd_same]
    generalize (upd (upd H t2 (.tup (b.map kV))) m (.ins C dx (mflds (.ref fj) (.bl au) t1 t2 d0 j0 p0))) = H1 at e1 m1 g1
    -- self.found = {}
    refine fun d nd => ?_
    have ndm : d ≠ m := fun z => by rw [z, m1] at nd; cases nd
    have s2 := same_upd (o := .dK []) nd
    have nd0 : H d = none := e1.free nd ndm
    refine ⟨.ref m, rfl, m, C, dx, _, rfl, s2 _ _ m1, T.cl, T.nD, by show 7 < 1000; decide, ?_⟩
    rw [put_found]
    have e2 : SameX m H (upd (upd H1 d (.dK [])) m (.ins C dx (mflds (.ref fj) (.bl au) t1 t2 d j0 p0))) := (e1.trans (SameX.of s2)).upd
    have m2 : (upd (upd H1 d (.dK [])) m (.ins C dx (mflds (.ref fj) (.bl au) t1 t2 d j0 p0))) m = some (.ins C dx (mflds (.ref fj) (.bl au) t1 t2 d j0 p0)) := upd_same
    have g2 : (upd (upd H1 d (.dK [])) m (.ins C dx (mflds (.ref fj) (.bl au) t1 t2 d j0 p0))) t2 = some (.tup (b.map kV)) := by rw [upd_ne n2m]; exact s2 _ _ g1
    have d2 : (upd (upd H1 d (.dK [])) m (.ins C dx (mflds (.ref fj) (.bl au) t1 t2 d j0 p0))) d = some (.dK []) := by rw [upd_ne ndm, upd_same]
    generalize (upd (upd H1 d (.dK [])) m (.ins C dx (mflds (.ref fj) (.bl au) t1 t2 d j0 p0))) = H2 at e2 m2 g2 d2
    -- the places
    refine ⟨.ref m, rfl, m, C, dx, _, .ref t2, rfl, m2, T.cl, T.nS, rfl, t2, _, rfl, sqT g2, ?_⟩
    refine for_enumT (K := K) (xs := b.map kV) (fun i σ H3 => ∃ (x2 x3 : Option V) (kvs : List (Key × V)), σ = [some (.ref m), some (.ref p), x2, x3, none] ∧ SameX m H H3 ∧ H3 m = some (.ins C dx (mflds (.ref fj) (.bl au) t1 t2 d j0 p0)) ∧
      H3 t2 = some (.tup (b.map kV)) ∧ FdB H H3 d (b.take i) kvs) ?_ ?_ ?_ ?_
    · exact ⟨none, none, [], rfl, e2, m2, g2, FdB.start d2 nd0⟩
    · rintro i σ H3 ⟨x2, x3, kvs, rfl, _, _, g3, _⟩
      exact sqT g3
    · rintro i x T0 σ H3 hx ⟨x2, x3, kvs, rfl, e3, m3, g3, fd⟩ nT
      rw [List.getElem?_map] at hx
      obtain ⟨key, hk, rfl⟩ : ∃ key, b[i]? = some key ∧ kV key = x := by
        cases e : b[i]? with
        | none => rw [e] at hx; cases hx
        | some key => rw [e] at hx; exact ⟨key, rfl, Option.some.inj hx⟩
      have hi : i < b.length := (List.getElem?_eq_some_iff.mp hk).1
      have tk : b.take (i + 1) = b.take i ++ [key] := take_snoc hk
      have tl : (b.take i).length = i := by rw [List.length_take]; omega
      have s4 := same_upd (o := .tup [.int (i : Nat), kV key]) nT
      refine ⟨T0, _, rfl, sqT upd_same, rfl, _, _, rfl, _, _, rfl, rfl, ?_⟩
      have e4 := e3.trans (SameX.of s4)
      have m4 := s4 _ _ m3
      have g4 := s4 _ _ g3
      have fd4 := fd.same s4
      generalize (upd H3 T0 (.tup [.int (i : Nat), kV key])) = H4 at s4 e4 m4 g4 fd4
      refine ⟨.ref m, rfl, m, C, dx, _, .ref d, rfl, m4, T.cl, T.nD, rfl, d, rfl, .inl ⟨kvs, .inl fd4.at_⟩, kV key, rfl, Nat.zero_le _, fun l nl => ?_⟩
      have s5 := same_upd (o := .lst []) nl
      have fd5 := fd4.same s5
      have nlm : l ≠ m := fun z => by rw [z, m4] at nl; cases nl
      have nl0 : H l = none := e4.free nl nlm
      refine ⟨kvs, key, fd5.at_, rfl, Nat.lt_of_le_of_lt (Nat.le_trans fd.len (by rw [tl]; omega : (b.take i).length ≤ 1000)) (by decide), fun v hv => ?_, fun hn => ?_⟩
      · have hmem : key ∈ b.take i := Classical.byContradiction fun z => by rw [fd.no key z] at hv; cases hv
        obtain ⟨l', a1, a2, a3⟩ := fd5.yes key hmem
        rw [a1] at hv
        cases hv
        have nl'm : l' ≠ m := fun z => by rw [z, s5 _ _ m4] at a2; cases a2
        have nl't : l' ≠ t2 := fun z => by rw [z, s5 _ _ g4] at a2; cases a2
        refine ⟨.inl ⟨rfl, _, sqL a2⟩, vN i, rfl, l', _, _, rfl, rfl, a2, ?_, ?_⟩
        · rw [List.length_map, plc_len]
          refine szl (Nat.le_trans (List.length_filter_le _ _) ?_)
          omega
        · refine ⟨_, _, kvs, rfl, (e4.trans (SameX.of s5)).updN a3, by rw [upd_ne nl'm.symm]; exact s5 _ _ m4, by rw [upd_ne nl't.symm]; exact s5 _ _ g4, ?_⟩
          rw [tk]
          have z := fd5.old a1 a2
          rw [tl] at z
          exact z
      · refine ⟨.inl ⟨rfl, _, sqL (show (upd (upd H4 l (.lst [])) d (.dK (putK kvs key (.ref l)))) l = some (.lst []) by
          rw [upd_ne (fun z => by rw [z, fd4.at_] at nl; cases nl), upd_same])⟩, vN i, rfl, l, [], _, rfl, rfl, by
          rw [upd_ne (fun z => by rw [z, fd4.at_] at nl; cases nl), upd_same], szl (by show 0 ≤ _; omega), ?_⟩
        refine ⟨_, _, putK kvs key (.ref l), rfl, ((e4.trans (SameX.of s5)).updN nd0).updN nl0, by rw [upd_ne nlm.symm, upd_ne ndm.symm]; exact s5 _ _ m4,
          by rw [upd_ne (fun z => by rw [← z, g4] at nl; cases nl), upd_ne (fun z => by have q := fd4.at_; rw [← z, g4] at q; cases q)]; exact s5 _ _ g4, ?_⟩
        rw [tk]
        have z := fd4.fresh hn nl nl0 (fun y l' e => fun z => by
          have hy : y ∈ b.take i := Classical.byContradiction fun q => by rw [fd.no y q] at e; cases e
          obtain ⟨l2, a1, a2, _⟩ := fd4.yes y hy
          rw [e] at a1
          cases a1
          rw [z, nl] at a2
          cases a2)
        rw [tl] at z
        exact z
    · rintro σ H3 ⟨x2, x3, kvs, rfl, e3, m3, g3, fd⟩
      rw [List.length_map, List.take_of_length_le (Nat.le_refl _)] at fd
      have hkeys : ∀ x, x ∈ kvs.map (·.1) ↔ x ∈ b := fun x => fd.key
      have ndk := fd.nd
      obtain ⟨ks, hks⟩ : ∃ ks, kvs.map (·.1) = ks := ⟨_, rfl⟩
      rw [hks] at hkeys ndk
      have lks : ks.length ≤ 1000 := by
        rw [← hks, List.length_map]
        exact Nat.le_trans fd.len hlen
      obtain ⟨js, hjs⟩ : ∃ js, ks.filter (wsB waste) = js := ⟨_, rfl⟩
      have ndj : js.Nodup := by rw [← hjs]; exact ndk.sublist List.filter_sublist
      have ljs : js.length ≤ 1000 := by rw [← hjs]; exact Nat.le_trans (List.length_filter_le _ _) lks
      have fdd := fd.at_
      have d3 : d ≠ m := ndm
      -- self.junk = [..]
      refine ⟨d, .dK kvs, fdd, trivial, fun od => ?_⟩
      refine ⟨.ref m, rfl, m, C, dx, _, .ref d, rfl, by rw [upd_ne ndm.symm]; exact m3, T.cl, T.nD, rfl, d, od, rfl, .inl ⟨kvs, upd_same, fun D nD => ?_⟩⟩
      refine lc_it walk_keys (fun i H' => Same (upd H3 d (.frz od (.dK kvs))) H' ∧ H' D = some (.lst (((ks.take i).filter (wsB waste)).map kV))) ⟨same_upd nD, upd_same⟩ ?_ ?_ ?_
      · rintro i H' _ ⟨sm, _⟩
        exact sm _ _ upd_same
      · rintro i x H4z H4 hi ⟨sm, hD⟩ ⟨rfl, k1, v1, hk1, rfl⟩
        have hks1 : ks[i]? = some k1 := by rw [← hks, List.getElem?_map, hk1]; rfl
        have keep : ∀ c o, H3 c = some o → c ≠ d → H4 c = some o := fun c o e n => sm _ _ (by rw [upd_ne n]; exact e)
        have hm4 := keep _ _ m3 ndm.symm
        have hf4 := keep _ _ (e3 _ _ hf ff) (ne_of_none hf nd0)
        have hc4 := keep _ _ (e3 _ _ hc fc) (ne_of_none hc nd0)
        have hw4 := keep _ _ (e3 _ _ hw fw) (ne_of_none hw nd0)
        refine ⟨rfl, ?_⟩
        refine ⟨.ref m, rfl, m, C, dx, _, .ref fj, rfl, hm4, T.cl, T.nJ, rfl, rfl, _, rfl, iteT ?_⟩
        refine ⟨.ref m, rfl, m, C, dx, _, fj, rfl, hm4, T.cl, T.nJ, rfl, hf4, kV k1, rfl, kV k1, rfl, hf4, hc4, kV k1, rfl, .ref wa, rfl, wa, _, rfl, .inl (sqL hw4), flat_vK k1, flat_all waste, _, rfl, ?_⟩
        rw [take_snoc hks1, filter_snoc]
        rw [show (if false = true then !inV (kV k1) (waste.map kV) else inV (kV k1) (waste.map kV)) = wsB waste k1 by rw [if_neg Bool.false_ne_true, inV_vK]]
        by_cases c1 : wsB waste k1 = true
        · rw [c1]
          refine iteT ⟨kV k1, rfl, _, hD, by rw [List.length_map]; exact szl (Nat.le_trans (List.length_filter_le _ _) (by rw [List.length_take]; omega)), fun c o e => ?_, ?_⟩
          · rw [upd_ne (ne_of_none e nD)]
            exact sm _ _ e
          · rw [upd_same, if_pos rfl, List.map_append]
            rfl
        · rw [Bool.eq_false_iff.mpr c1]
          refine iteF ⟨sm, ?_⟩
          rw [if_neg Bool.false_ne_true]
          exact hD
      · rintro H4 ⟨sm, hD⟩
        have lk : kvs.length = ks.length := by rw [← hks, List.length_map]
        rw [lk, List.take_of_length_le (Nat.le_refl _), hjs] at hD
        have nDd : D ≠ d := fun z => by rw [z, upd_same] at nD; cases nD
        have nD3 : H3 D = none := by rw [upd_ne nDd] at nD; exact nD
        have s5 := lock_same fdd sm
        have hD5 : (upd H4 d (.dK kvs)) D = some (.lst (js.map kV)) := by rw [upd_ne nDd]; exact hD
        refine ⟨sm _ _ upd_same, ?_⟩
        have e5 := e3.trans (SameX.of s5)
        have m5 := s5 _ _ m3
        have g5 := s5 _ _ g3
        have fd5 := fd.same s5
        generalize (upd H4 d (.dK kvs)) = H5 at s5 hD5 e5 m5 g5 fd5
        have nDm : D ≠ m := fun z => by rw [z, m5] at hD5; cases hD5
        refine ⟨.ref m, rfl, m, C, dx, _, rfl, m5, T.cl, T.nW, by show 7 < 1000; decide, ?_⟩
        rw [put_junk]
        have nl : ∀ {l : Addr} {xs : List V}, H5 l = some (.lst xs) → l ≠ m := fun {l xs} e z => by rw [z, m5] at e; cases e
        have e6 : SameX m H (upd H5 m (.ins C dx (mflds (.ref fj) (.bl au) t1 t2 d D p0))) := e5.upd
        have e56 : SameX m H5 (upd H5 m (.ins C dx (mflds (.ref fj) (.bl au) t1 t2 d D p0))) := fun c o e n => by rw [upd_ne n]; exact e
        have m6 : (upd H5 m (.ins C dx (mflds (.ref fj) (.bl au) t1 t2 d D p0))) m = some (.ins C dx (mflds (.ref fj) (.bl au) t1 t2 d D p0)) := upd_same
        generalize (upd H5 m (.ins C dx (mflds (.ref fj) (.bl au) t1 t2 d D p0))) = H6 at e6 e56 m6
        have g6 := e56 _ _ g5 n2m
        have j6 := e56 _ _ hD5 nDm
        have d6 := e56 _ _ fd5.at_ ndm
        -- for thing in self.junk: pop
        refine ⟨.ref m, rfl, m, C, dx, _, .ref D, rfl, m6, T.cl, T.nW, rfl, D, rfl, ⟨_, sqL j6⟩, ?_⟩
        refine for_list (K := K) (xs := js.map kV) (fun i σ H' => ∃ x2 x3 : Option V, σ = [some (.ref m), some (.ref p), x2, x3, none] ∧ (∀ c o, H6 c = some o → c ≠ d → H' c = some o) ∧ H' d = some (.dK (popAll kvs (js.take i)))) ?_ ?_ ?_ ?_
        · exact ⟨_, _, rfl, fun c o e _ => e, by rw [List.take_zero, popAll_nil]; exact d6⟩
        · rintro i σ H' _ ⟨x2, x3, rfl, kp, _⟩
          exact sqL (kp _ _ j6 nDd)
        · rintro i x σ H7 hx ⟨x2, x3, rfl, kp, hd7⟩
          rw [List.getElem?_map] at hx
          obtain ⟨key, hk, rfl⟩ : ∃ key, js[i]? = some key ∧ kV key = x := by
            cases e : js[i]? with
            | none => rw [e] at hx; cases hx
            | some key => rw [e] at hx; exact ⟨key, rfl, Option.some.inj hx⟩
          have hin : key ∈ ks := by
            have z := List.mem_of_getElem? hk
            rw [← hjs] at z
            exact (List.mem_filter.mp z).1
          obtain ⟨l, a1, _⟩ := fd.yes key ((hkeys key).mp hin)
          refine ⟨.ref m, rfl, m, C, dx, _, .ref d, rfl, kp _ _ m6 ndm.symm, T.cl, T.nD, rfl, d, rfl, .inl ⟨_, .inl hd7⟩, kV key, rfl, _, key, .ref l, hd7, rfl, ?_, ?_⟩
          · rw [valV_popAll, take_not ndj hk]
            exact a1
          · refine ⟨_, _, rfl, fun c o e n => by rw [upd_ne n]; exact kp _ _ e n, ?_⟩
            rw [upd_same, take_snoc hk, popAll_snoc]
        · rintro σ H7 ⟨x2, x3, rfl, kp, hd7⟩
          rw [List.length_map, List.take_of_length_le (Nat.le_refl _)] at hd7
          have nTd : t2 ≠ d := fun z => by rw [z] at g6; rw [d6] at g6; cases g6
          have m7 := kp _ _ m6 ndm.symm
          have g7 := kp _ _ g6 nTd
          have j7 := kp _ _ j6 nDd
          have e7 : SameX m H H7 := fun c o e n => kp _ _ (e6 c o e n) (ne_of_none e nd0)
          have l7 : ∀ l xs, H5 l = some (.lst xs) → H7 l = some (.lst xs) := fun l xs e => kp _ _ (e56 _ _ e (nl e)) (fun z => by rw [z, fd5.at_] at e; cases e)
          obtain ⟨ks1, hks1⟩ : ∃ ks1, (popAll kvs js).map (·.1) = ks1 := ⟨_, rfl⟩
          have hks1' : ks1 = ks.filter fun k => !memB k js := by rw [← hks1, keys_popAll, hks]
          have ndk1 : ks1.Nodup := by rw [hks1']; exact ndk.sublist List.filter_sublist
          have lks1 : ks1.length ≤ 1000 := by rw [hks1']; exact Nat.le_trans (List.length_filter_le _ _) lks
          have at1 : ∀ key ∈ ks1, ∃ l, valV (popAll kvs js) key = some (.ref l) ∧ H7 l = some (.lst ((plc b key).map vN)) := fun key hkey => by
            rw [hks1'] at hkey
            obtain ⟨z1, z2⟩ := List.mem_filter.mp hkey
            obtain ⟨l, a1, a2, _⟩ := fd5.yes key ((hkeys key).mp z1)
            refine ⟨l, ?_, l7 _ _ a2⟩
            have z2 : (!memB key js) = true := z2
            rw [valV_popAll, if_neg (fun z => by rw [z] at z2; cases z2)]
            exact a1
          generalize hpo : (fun x : Key => au && (decide (200 ≤ b.length) && decide (b.length / 100 + 1 < cnt x b))) = po
          -- self.popular = []
          refine ⟨Nat.zero_le _, fun p1 np1 => ?_⟩
          have s8 := same_upd (o := .lst []) np1
          have np1m : p1 ≠ m := fun z => by rw [z, m7] at np1; cases np1
          refine ⟨.ref m, rfl, m, C, dx, _, rfl, s8 _ _ m7, T.cl, T.nP, by show 7 < 1000; decide, ?_⟩
          rw [put_popular]
          have e8 : SameX m H7 (upd (upd H7 p1 (.lst [])) m (.ins C dx (mflds (.ref fj) (.bl au) t1 t2 d D p1))) := (SameX.of s8).upd
          have m8 : (upd (upd H7 p1 (.lst [])) m (.ins C dx (mflds (.ref fj) (.bl au) t1 t2 d D p1))) m = some (.ins C dx (mflds (.ref fj) (.bl au) t1 t2 d D p1)) := upd_same
          have p8 : (upd (upd H7 p1 (.lst [])) m (.ins C dx (mflds (.ref fj) (.bl au) t1 t2 d D p1))) p1 = some (.lst []) := by rw [upd_ne np1m, upd_same]
          generalize (upd (upd H7 p1 (.lst [])) m (.ins C dx (mflds (.ref fj) (.bl au) t1 t2 d D p1))) = H8 at e8 m8 p8
          have g8 := e8 _ _ g7 n2m
          have d8 := e8 _ _ hd7 ndm
          -- if self.auto ..
          refine ⟨fun σ H' => ∃ (x2 x3 x4 : Option V) (pl : Addr), σ = [some (.ref m), some (.ref p), x2, x3, x4] ∧ SameX m H7 H' ∧ H' m = some (.ins C dx (mflds (.ref fj) (.bl au) t1 t2 d D pl)) ∧ H' pl = some (.lst ((ks1.filter po).map kV)), ?_, ?_⟩
          · have none' : (∀ x, po x = false) → ∃ (y2 y3 y4 : Option V) (pl : Addr), ([some (.ref m), some (.ref p), x2, x3, none] : L2.St) = [some (.ref m), some (.ref p), y2, y3, y4] ∧ SameX m H7 H8 ∧ H8 m = some (.ins C dx (mflds (.ref fj) (.bl au) t1 t2 d D pl)) ∧ H8 pl = some (.lst ((ks1.filter po).map kV)) := fun hz =>
              ⟨_, _, _, p1, rfl, e8, m8, by rw [List.filter_eq_nil_iff.mpr (fun x _ => by rw [hz x]; exact Bool.false_ne_true)]; exact p8⟩
            refine ⟨.ref m, rfl, m, C, dx, _, .bl au, rfl, m8, T.cl, T.nA, rfl, au, rfl, ?_⟩
            by_cases c1 : au = true
            · subst c1
              refine iteT ⟨.ref m, rfl, m, C, dx, _, .ref t2, rfl, m8, T.cl, T.nS, rfl, t2, _, rfl, .inr (sqT g8), _, _, rfl, rfl, _, rfl, ?_⟩
              rw [List.length_map]
              by_cases c2 : 200 ≤ b.length
              · rw [decide_eq_true (show (200 : Int) ≤ b.length by omega)]
                refine iteT ⟨.ref m, rfl, m, C, dx, _, .ref t2, rfl, m8, T.cl, T.nS, rfl, t2, _, rfl, .inr (sqT g8), _, _, rfl, rfl, ⟨by decide, by decide⟩, _, _, rfl, rfl, ?_⟩
                rw [List.length_map]
                refine ⟨d, .dK (popAll kvs js), d8, trivial, fun od1 => ?_⟩
                refine ⟨.ref m, rfl, m, C, dx, _, .ref d, rfl, by rw [upd_ne ndm.symm]; exact m8, T.cl, T.nD, rfl, d, od1, rfl, .inl ⟨popAll kvs js, upd_same, fun D1 nD1 => ?_⟩⟩
                refine lc_it walk_keys (fun i H' => Same (upd H8 d (.frz od1 (.dK (popAll kvs js)))) H' ∧ H' D1 = some (.lst (((ks1.take i).filter po).map kV))) ⟨same_upd nD1, upd_same⟩ ?_ ?_ ?_
                · rintro i H' _ ⟨sm1, _⟩
                  exact sm1 _ _ upd_same
                · rintro i x H9z H9 hi ⟨sm1, hD1⟩ ⟨rfl, k1, v1, hk1, rfl⟩
                  have hq1 : ks1[i]? = some k1 := by rw [← hks1, List.getElem?_map, hk1]; rfl
                  have keep : ∀ c o, H8 c = some o → c ≠ d → H9 c = some o := fun c o e n => sm1 _ _ (by rw [upd_ne n]; exact e)
                  have hm9 := keep _ _ m8 ndm.symm
                  obtain ⟨l, a1, a2⟩ := at1 k1 (List.mem_of_getElem? hq1)
                  have a2' := keep _ _ (e8 _ _ a2 (fun z => by rw [z, m7] at a2; cases a2)) (fun z => by rw [z, hd7] at a2; cases a2)
                  refine ⟨rfl, ?_⟩
                  refine ⟨.ref m, rfl, m, C, dx, _, .ref d, rfl, hm9, T.cl, T.nD, rfl, kV k1, rfl, d, .ref l, rfl, .inl ⟨_, k1, .inr ⟨od1, sm1 _ _ upd_same⟩, rfl, a1.symm⟩, l, _, rfl, .inl (sqL a2'), _, rfl, _, _, rfl, rfl, _, rfl, ?_⟩
                  rw [List.length_map, plc_len, take_snoc hq1, filter_snoc]
                  have ep : po k1 = decide (b.length / 100 + 1 < cnt k1 b) := by
                    rw [← hpo]
                    show (true && (decide (200 ≤ b.length) && decide (b.length / 100 + 1 < cnt k1 b))) = _
                    rw [decide_eq_true c2]
                    rfl
                  rw [ep]
                  by_cases c3 : b.length / 100 + 1 < cnt k1 b
                  · rw [decide_eq_true (show (b.length : Int) / 100 + 1 < (cnt k1 b : Nat) by omega), decide_eq_true c3]
                    refine iteT ⟨kV k1, rfl, _, hD1, by rw [List.length_map]; exact szl (Nat.le_trans (List.length_filter_le _ _) (by rw [List.length_take]; omega)), fun c o e => ?_, ?_⟩
                    · rw [upd_ne (ne_of_none e nD1)]
                      exact sm1 _ _ e
                    · rw [upd_same, if_pos rfl, List.map_append]
                      rfl
                  · rw [decide_eq_false (show ¬ (b.length : Int) / 100 + 1 < (cnt k1 b : Nat) by omega), decide_eq_false c3]
                    refine iteF ⟨sm1, ?_⟩
                    rw [if_neg Bool.false_ne_true]
                    exact hD1
                · rintro H9 ⟨sm1, hD1⟩
                  have lk : (popAll kvs js).length = ks1.length := by rw [← hks1, List.length_map]
                  rw [lk, List.take_of_length_le (Nat.le_refl _)] at hD1
                  have nDd1 : D1 ≠ d := fun z => by rw [z, upd_same] at nD1; cases nD1
                  have s9 := lock_same d8 sm1
                  have hD9 : (upd H9 d (.dK (popAll kvs js))) D1 = some (.lst ((ks1.filter po).map kV)) := by rw [upd_ne nDd1]; exact hD1
                  refine ⟨sm1 _ _ upd_same, .ref m, rfl, m, C, dx, _, rfl, s9 _ _ m8, T.cl, T.nP, by show 7 < 1000; decide, ?_⟩
                  rw [put_popular]
                  have nD1m : D1 ≠ m := fun z => by rw [z, s9 _ _ m8] at hD9; cases hD9
                  exact ⟨_, _, _, D1, rfl, (e8.trans (SameX.of s9)).upd, upd_same, by rw [upd_ne nD1m]; exact hD9⟩
              · rw [decide_eq_false (show ¬ (200 : Int) ≤ b.length by omega)]
                refine iteF (none' fun x => ?_)
                rw [← hpo]
                show (true && (decide (200 ≤ b.length) && _)) = false
                rw [decide_eq_false c2]
                rfl
            · rw [Bool.eq_false_iff.mpr c1]
              refine iteF (iteF ?_)
              have z := none' fun x => by
                rw [← hpo]
                show (au && _) = false
                rw [Bool.eq_false_iff.mpr c1]
                rfl
              rw [Bool.eq_false_iff.mpr c1] at z
              exact z
          · rintro σ H9 ⟨x2, x3, x4, pl, rfl, e9, m9, p9⟩
            have lps : (ks1.filter po).length ≤ 1000 := Nat.le_trans (List.length_filter_le _ _) lks1
            have ndp : (ks1.filter po).Nodup := ndk1.sublist List.filter_sublist
            obtain ⟨ps, hps⟩ : ∃ ps, ks1.filter po = ps := ⟨_, rfl⟩
            rw [hps] at p9 lps ndp
            have d9 := e9 _ _ hd7 ndm
            have g9 := e9 _ _ g7 n2m
            have j9 := e9 _ _ j7 nDm
            have plm : pl ≠ m := fun z => by rw [z, m9] at p9; cases p9
            have pld : pl ≠ d := fun z => by rw [z, d9] at p9; cases p9
            refine ⟨.ref m, rfl, m, C, dx, _, .ref pl, rfl, m9, T.cl, T.nP, rfl, pl, rfl, ⟨_, sqL p9⟩, ?_⟩
            refine for_list (K := K) (xs := ps.map kV) (fun i σ H' => ∃ x2 x3 x4 : Option V, σ = [some (.ref m), some (.ref p), x2, x3, x4] ∧ (∀ c o, H9 c = some o → c ≠ d → H' c = some o) ∧ H' d = some (.dK (popAll (popAll kvs js) (ps.take i)))) ?_ ?_ ?_ ?_
            · exact ⟨_, _, _, rfl, fun c o e _ => e, by rw [List.take_zero, popAll_nil]; exact d9⟩
            · rintro i σ H' _ ⟨x2, x3, x4, rfl, kp1, _⟩
              exact sqL (kp1 _ _ p9 pld)
            · rintro i x σ HA hx ⟨x2, x3, x4, rfl, kp1, hdA⟩
              rw [List.getElem?_map] at hx
              obtain ⟨key, hk, rfl⟩ : ∃ key, ps[i]? = some key ∧ kV key = x := by
                cases e : ps[i]? with
                | none => rw [e] at hx; cases hx
                | some key => rw [e] at hx; exact ⟨key, rfl, Option.some.inj hx⟩
              have hin : key ∈ ks1 := by
                have z := List.mem_of_getElem? hk
                rw [← hps] at z
                exact (List.mem_filter.mp z).1
              obtain ⟨l, a1, _⟩ := at1 key hin
              refine ⟨.ref m, rfl, m, C, dx, _, .ref d, rfl, kp1 _ _ m9 ndm.symm, T.cl, T.nD, rfl, d, rfl, .inl ⟨_, .inl hdA⟩, kV key, rfl, _, key, .ref l, hdA, rfl, ?_, ?_⟩
              · rw [valV_popAll, take_not ndp hk]
                exact a1
              · refine ⟨_, _, _, rfl, fun c o e n => by rw [upd_ne n]; exact kp1 _ _ e n, ?_⟩
                rw [upd_same, take_snoc hk, popAll_snoc]
            · rintro σ HA ⟨x2, x3, x4, rfl, kp1, hdA⟩
              rw [List.length_map, List.take_of_length_le (Nat.le_refl _)] at hdA
              have eA : SameX m H HA := fun c o e n => kp1 _ _ (e9 _ _ (e7 c o e n) n) (ne_of_none e nd0)
              refine q HA t2 d D pl (popAll (popAll kvs js) ps) js eA ⟨kp1 _ _ m9 ndm.symm, eA _ _ h1 f1, kp1 _ _ g9 nTd, ?_, kp1 _ _ j9 nDd, fun x hx => ?_⟩
              · refine fd5.end_ hdA (fun x hx => ?_) fun l xs e _ => kp1 _ _ (e9 _ _ (l7 _ _ e) (nl e)) (fun z => by rw [z, fd5.at_] at e; cases e)
                have k1 : memB x ks = true := memB_iff.mpr ((hkeys x).mpr hx)
                have k2 : memB x js = wsB waste x := by rw [← hjs, memB_filter, k1, Bool.true_and]
                rw [← hps, memB_filter, hks1', memB_filter, k1, k2, ← hpo]
                unfold skB popB
                show (memB x waste || _) = (memB x waste || (true && !memB x waste && _))
                cases memB x waste <;> cases au <;> simp
              · rw [← hjs, memB_filter, memB_iff.mpr ((hkeys x).mpr hx), Bool.true_and]
end
end Tw
end
section
namespace Tw
open PySem PySem.Spec PyProof.Rows L2 LamX NdefX
section
variable {P : Program} {w : World} {K : PySem.W.Frag} {mg : Str → Option Value} {base : Heap} {C : Addr}
theorem scIn : FnScope ["self", "one", "other", "junk", "auto"] ["self", "one", "other", "junk", "auto"] (defScope sInit) := ⟨rfl, rfl, rfl, by decide +kernel, rfl, by decide +kernel, by decide +kernel⟩
def spIn (C : Addr) (Fl : LF) (wa : Addr) : Sp := fun vs H Q _ => ∃ (m p1 p2 f dx : Addr) (au : Bool) (a b waste : List Key), vs = [.ref m, .ref p1, .ref p2, .ref f, .bl au] ∧ H m = some (.ins C dx []) ∧ H p1 = some (.lst (a.map kV)) ∧ H p2 = some (.lst (b.map kV)) ∧
  H f = some (LamO f Fl) ∧ H Fl.c = some (CodeO Fl.c Fl.qual) ∧ H wa = some (.lst (waste.map kV)) ∧ b.length ≤ 1000 ∧
  ∀ H', SameX m H H' → MtAt C H' m a b (wsB waste) (skB b waste au) → Q .non H'
theorem ok_in {f fRo fSo : Addr} {fd fdRo fdSo : FuncData} {k : Nat} {Fl : LF} {wa : Addr} (F : FunA K "__init__" "Matcher.__init__" sInit f fd) (T : Tx K C) (B : Bm mg)
    (FRo : Fun K "row_of" "row_of" sRowOf fRo fdRo) (bRo : Binds K fdRo ["sequence"] []) (gRo : mg "row_of" = some (.ref fRo))
    (GSo : FnOk P w K mg base CX0 (k + 3) fSo fdSo ["self", "sequence"] (spSo C Fl wa)) (bSo : Binds K fdSo ["self", "sequence"] []) (mSo : Meth K C "set_other" fSo) :
    FnOk P w K mg base CX0 (k + 4) f fd ["self", "one", "other", "junk", "auto"] (spIn C Fl wa) := by
  have GRo : FnOk P w K mg base CX0 (k + 1) fRo fdRo ["sequence"] spRowOf := ok_rowOf FRo B
  refine F.ok scIn (fun vs H Q E h => ?_) (fun cdv A outer s H vs Q E hr h => ?_)
  · obtain ⟨m, p1, p2, fj, dx, au, a, b, waste, rfl, _⟩ := h
    rfl
  · obtain ⟨m, p1, p2, fj, dx, au, a, b, waste, rfl, hm, hp1, hp2, hf, hc, hw, hlen, q⟩ := h
    refine ⟨_, (pss_cons (ps_fld (pv 0) (pv 3) rfl)
      (pss_cons (ps_fld (pv 0) (pv 4) rfl)
      (pss_cons (ps_fld (pv 0) (pe_call GRo (hr.mono (by omega)) (by rfl) gRo FRo.kp bRo .nil pass0 (pa_cons (pv 1) pa_nil)) rfl)
      (pss_cons (ps_fld (pv 0) (pe_tup pa_nil) rfl)
      (pss_cons (ps_fld (pv 0) pe_dnewK rfl)
      (pss_cons (ps_fld (pv 0) (pe_lst pa_nil) rfl)
      (pss_cons (ps_fld (pv 0) (pe_lst pa_nil) rfl)
      (pss_one (ps_expr (pe_meth (pv 0) T.cl mSo GSo (hr.mono (by omega)) bSo .nil pass0 (pa_cons (pv 2) pa_nil))))))))))), ?_⟩
    have nm : ∀ {c : Addr} {o : HO}, H c = some o → (∀ C' d' f', o ≠ .ins C' d' f') → c ≠ m := fun {c o} e ho z => by
      rw [z, hm] at e
      exact ho _ _ _ (Option.some.inj e).symm
    have f1 : p1 ≠ m := nm hp1 (fun _ _ _ z => nomatch z)
    have f2 : p2 ≠ m := nm hp2 (fun _ _ _ z => nomatch z)
    have ff : fj ≠ m := nm hf (fun _ _ _ z => nomatch z)
    have fc : Fl.c ≠ m := nm hc (fun _ _ _ z => nomatch z)
    have fw : wa ≠ m := nm hw (fun _ _ _ z => nomatch z)
    refine ⟨.ref fj, rfl, .ref m, rfl, m, C, dx, _, rfl, hm, T.cl, T.nJ, by show 0 < 1000; decide, ?_⟩
    refine ⟨.bl au, rfl, .ref m, rfl, m, C, dx, _, rfl, upd_same, T.cl, T.nA, by show 1 < 1000; decide, ?_⟩
    have e2 : SameX m H (upd (upd H m (.ins C dx [("is_junk", .ref fj)])) m (.ins C dx [("is_junk", .ref fj), ("auto", .bl au)])) := (SameX.of (fun _ _ e => e)).upd.upd
    have m2 : (upd (upd H m (.ins C dx [("is_junk", .ref fj)])) m (.ins C dx [("is_junk", .ref fj), ("auto", .bl au)])) m = some (.ins C dx [("is_junk", .ref fj), ("auto", .bl au)]) := upd_same
    show _
    generalize hH2 : (upd (upd H m (.ins C dx [("is_junk", .ref fj)])) m (.ins C dx [("is_junk", .ref fj), ("auto", .bl au)])) = H2
    rw [hH2] at e2 m2
    have hH2' : (upd (upd H m (.ins C dx (putF "is_junk" (V.ref fj) []))) m (.ins C dx (putF "auto" (V.bl au) (putF "is_junk" (V.ref fj) [])))) = H2 := hH2
    rw [hH2']
    clear hH2 hH2'
    -- self.first
    refine ⟨.ref p1, rfl, p1, _, rfl, e2 _ _ hp1 f1, fun t1 n1 => ?_⟩
    have n1m : t1 ≠ m := fun z => by rw [z, m2] at n1; cases n1
    have s3 := same_upd (o := .tup (a.map kV)) n1
    refine ⟨.ref m, rfl, m, C, dx, _, rfl, s3 _ _ m2, T.cl, T.nF, by show 2 < 1000; decide, ?_⟩
    have e3 := ((e2.trans (SameX.of s3)).upd (o := .ins C dx (putF "first" (.ref t1) [("is_junk", .ref fj), ("auto", .bl au)])))
    have m3 : (upd (upd H2 t1 (.tup (a.map kV))) m (.ins C dx (putF "first" (.ref t1) [("is_junk", .ref fj), ("auto", .bl au)]))) m = some (.ins C dx [("is_junk", .ref fj), ("auto", .bl au), ("first", .ref t1)]) := upd_same
    have g3 : (upd (upd H2 t1 (.tup (a.map kV))) m (.ins C dx (putF "first" (.ref t1) [("is_junk", .ref fj), ("auto", .bl au)]))) t1 = some (.tup (a.map kV)) := by rw [upd_ne n1m, upd_same]
    generalize (upd (upd H2 t1 (.tup (a.map kV))) m (.ins C dx (putF "first" (.ref t1) [("is_junk", .ref fj), ("auto", .bl au)]))) = H3 at e3 m3 g3
    -- self.second
    refine ⟨Nat.zero_le _, fun t0 n0 => ?_⟩
    have n0m : t0 ≠ m := fun z => by rw [z, m3] at n0; cases n0
    have s4 := same_upd (o := .tup []) n0
    refine ⟨.ref m, rfl, m, C, dx, _, rfl, s4 _ _ m3, T.cl, T.nS, by show 3 < 1000; decide, ?_⟩
    have e4 := ((e3.trans (SameX.of s4)).upd (o := .ins C dx (putF "second" (.ref t0) [("is_junk", .ref fj), ("auto", .bl au), ("first", .ref t1)])))
    have m4 : (upd (upd H3 t0 (.tup [])) m (.ins C dx (putF "second" (.ref t0) [("is_junk", .ref fj), ("auto", .bl au), ("first", .ref t1)]))) m = some (.ins C dx [("is_junk", .ref fj), ("auto", .bl au), ("first", .ref t1), ("second", .ref t0)]) := upd_same
    have g4 : (upd (upd H3 t0 (.tup [])) m (.ins C dx (putF "second" (.ref t0) [("is_junk", .ref fj), ("auto", .bl au), ("first", .ref t1)]))) t1 = some (.tup (a.map kV)) := by rw [upd_ne n1m]; exact s4 _ _ g3
    generalize (upd (upd H3 t0 (.tup [])) m (.ins C dx (putF "second" (.ref t0) [("is_junk", .ref fj), ("auto", .bl au), ("first", .ref t1)]))) = H4 at e4 m4 g4
    -- self.found
    refine fun d0 nd => ?_
    have s5 := same_upd (o := .dK []) nd
    refine ⟨.ref m, rfl, m, C, dx, _, rfl, s5 _ _ m4, T.cl, T.nD, by show 4 < 1000; decide, ?_⟩
    have e5 := ((e4.trans (SameX.of s5)).upd (o := .ins C dx (putF "found" (.ref d0) [("is_junk", .ref fj), ("auto", .bl au), ("first", .ref t1), ("second", .ref t0)])))
    have m5 : (upd (upd H4 d0 (.dK [])) m (.ins C dx (putF "found" (.ref d0) [("is_junk", .ref fj), ("auto", .bl au), ("first", .ref t1), ("second", .ref t0)]))) m = some (.ins C dx [("is_junk", .ref fj), ("auto", .bl au), ("first", .ref t1), ("second", .ref t0), ("found", .ref d0)]) := upd_same
    have g5 : (upd (upd H4 d0 (.dK [])) m (.ins C dx (putF "found" (.ref d0) [("is_junk", .ref fj), ("auto", .bl au), ("first", .ref t1), ("second", .ref t0)]))) t1 = some (.tup (a.map kV)) := by rw [upd_ne n1m]; exact s5 _ _ g4
    generalize (upd (upd H4 d0 (.dK [])) m (.ins C dx (putF "found" (.ref d0) [("is_junk", .ref fj), ("auto", .bl au), ("first", .ref t1), ("second", .ref t0)]))) = H5 at e5 m5 g5
    -- self.junk
    refine ⟨Nat.zero_le _, fun j0 nj => ?_⟩
    have s6 := same_upd (o := .lst []) nj
    refine ⟨.ref m, rfl, m, C, dx, _, rfl, s6 _ _ m5, T.cl, T.nW, by show 5 < 1000; decide, ?_⟩
    have e6 := ((e5.trans (SameX.of s6)).upd (o := .ins C dx (putF "junk" (.ref j0) [("is_junk", .ref fj), ("auto", .bl au), ("first", .ref t1), ("second", .ref t0), ("found", .ref d0)])))
    have m6 : (upd (upd H5 j0 (.lst [])) m (.ins C dx (putF "junk" (.ref j0) [("is_junk", .ref fj), ("auto", .bl au), ("first", .ref t1), ("second", .ref t0), ("found", .ref d0)]))) m = some (.ins C dx [("is_junk", .ref fj), ("auto", .bl au), ("first", .ref t1), ("second", .ref t0), ("found", .ref d0), ("junk", .ref j0)]) := upd_same
    have g6 : (upd (upd H5 j0 (.lst [])) m (.ins C dx (putF "junk" (.ref j0) [("is_junk", .ref fj), ("auto", .bl au), ("first", .ref t1), ("second", .ref t0), ("found", .ref d0)]))) t1 = some (.tup (a.map kV)) := by rw [upd_ne n1m]; exact s6 _ _ g5
    generalize (upd (upd H5 j0 (.lst [])) m (.ins C dx (putF "junk" (.ref j0) [("is_junk", .ref fj), ("auto", .bl au), ("first", .ref t1), ("second", .ref t0), ("found", .ref d0)]))) = H6 at e6 m6 g6
    -- self.popular
    refine ⟨Nat.zero_le _, fun p0 np => ?_⟩
    have s7 := same_upd (o := .lst []) np
    refine ⟨.ref m, rfl, m, C, dx, _, rfl, s7 _ _ m6, T.cl, T.nP, by show 6 < 1000; decide, ?_⟩
    have e7 := ((e6.trans (SameX.of s7)).upd (o := .ins C dx (putF "popular" (.ref p0) [("is_junk", .ref fj), ("auto", .bl au), ("first", .ref t1), ("second", .ref t0), ("found", .ref d0), ("junk", .ref j0)])))
    have m7 : (upd (upd H6 p0 (.lst [])) m (.ins C dx (putF "popular" (.ref p0) [("is_junk", .ref fj), ("auto", .bl au), ("first", .ref t1), ("second", .ref t0), ("found", .ref d0), ("junk", .ref j0)]))) m = some (.ins C dx (mflds (.ref fj) (.bl au) t1 t0 d0 j0 p0)) := upd_same
    have g7 : (upd (upd H6 p0 (.lst [])) m (.ins C dx (putF "popular" (.ref p0) [("is_junk", .ref fj), ("auto", .bl au), ("first", .ref t1), ("second", .ref t0), ("found", .ref d0), ("junk", .ref j0)]))) t1 = some (.tup (a.map kV)) := by rw [upd_ne n1m]; exact s7 _ _ g6
    generalize (upd (upd H6 p0 (.lst [])) m (.ins C dx (putF "popular" (.ref p0) [("is_junk", .ref fj), ("auto", .bl au), ("first", .ref t1), ("second", .ref t0), ("found", .ref d0), ("junk", .ref j0)]))) = H7 at e7 m7 g7
    -- self.set_other(other)
    refine ⟨.ref m, rfl, m, dx, _, rfl, m7, rfl, .ref p2, rfl, ?_⟩
    refine ⟨m, p2, fj, t1, t0, d0, j0, p0, dx, au, a, b, waste, rfl, m7, e7 _ _ hp2 f2, g7, e7 _ _ hf ff, e7 _ _ hc fc, e7 _ _ hw fw, hlen, fun H8 t2 d jl pl kvs js s8 MW => ?_⟩
    exact q H8 (e7.trans s8) ⟨dx, t1, t2, d, jl, pl, _, _, kvs, js, MW⟩
end
end Tw
end
section
namespace Tw
open PySem PySem.Spec PyProof.Rows L2 LamX NdefX
abbrev tDr (g : Int → Int → V) : TT := tTest (tOp (rI0 g) (tVar 1) (tOp (rI CPow fun i j => .int (i ^ j.toNat)) (tC (.int 10)) (tC (.int 18))))
theorem Same.sqL {K : PySem.W.Frag} {H H' : Hp} {a : Addr} {xs : List V} (e : Same H H') (h : SqL K H a xs) : SqL K H' a xs := by
  rcases h with (h | ⟨o, h⟩) | h
  · exact .inl (.inl (e _ _ h))
  · exact .inl (.inr ⟨o, e _ _ h⟩)
  · exact .inr h
section
variable {P : Program} {w : World} {K : PySem.W.Frag} {mg : Str → Option Value} {base : Heap} {C : Addr}
/-! ### _law_draws -/
theorem scDr : FnScope ["_law_script", "_law_item"] ["_law_script"] (defScope sLDraws) := ⟨rfl, rfl, rfl, by decide +kernel, rfl, by decide +kernel, by decide +kernel⟩
/-- the source of draws at p, after c draws -/
structure DrW (H : Hp) (p l1 l2 : Addr) (c : Nat) (q : Int) (xs1 xs2 : List Int) : Prop where
  at_ : H p = some (.lst [.ref l1, .int q, .ref l2, vN c])
  one : H l1 = some (.lst (xs1.map V.int))
  two : H l2 = some (.lst (xs2.map V.int))
  q0 : 0 ≤ q
  p1 : p ≠ l1
  p2 : p ≠ l2
  n12 : l1 ≠ l2
  pos : ∀ x ∈ xs1, 0 ≤ x
  z2 : xs2.length ≤ 1000
def DrAt (H : Hp) (p l1 l2 : Addr) (c : Nat) : Prop := ∃ q xs1 xs2, DrW H p l1 l2 c q xs1 xs2
theorem DrAt.same {H H' : Hp} {p l1 l2 : Addr} {c : Nat} (s : Same H H') (h : DrAt H p l1 l2 c) : DrAt H' p l1 l2 c := by
  obtain ⟨q, xs1, xs2, h⟩ := h
  exact ⟨q, xs1, xs2, s _ _ h.at_, s _ _ h.one, s _ _ h.two, h.q0, h.p1, h.p2, h.n12, h.pos, h.z2⟩
/-- all but p and l1 stays -/
def Keep2 (p l1 : Addr) (H H' : Hp) : Prop := ∀ c o, H c = some o → c ≠ p → c ≠ l1 → H' c = some o
theorem Keep2.of {p l1 : Addr} {H H' : Hp} (s : Same H H') : Keep2 p l1 H H' := fun c o e _ _ => s c o e
theorem Keep2.trans {p l1 : Addr} {H H' H'' : Hp} (s : Keep2 p l1 H H') (t : Keep2 p l1 H' H'') : Keep2 p l1 H H'' := fun c o e n m => t c o (s c o e n m) n m
def spDr : Sp := fun vs H Q _ => ∃ (a : Addr) (is : List Int), vs = [.ref a] ∧ SqL K H a (is.map V.int) ∧ is.length ≤ 63 ∧ ∀ H' p l1 l2, Same H H' → H p = none → H l1 = none → H l2 = none → DrAt H' p l1 l2 0 → Q (.ref p) H'
theorem ok_dr {f : Addr} {fd : FuncData} {k : Nat} (F : Fun K "_law_draws" "_law_draws" sLDraws f fd) : FnOk P w K mg base CX0 (k + 1) f fd ["_law_script"] (spDr (K := K)) := by
  refine F.ok scDr (fun vs H Q E h => ?_) (fun cdv A outer s H vs Q E hr h => ?_)
  · obtain ⟨a, is, rfl, _⟩ := h
    rfl
  · obtain ⟨a, is, rfl, ha, hl, q⟩ := h
    refine ⟨_, (pss_one (ps_ret (pe_lst (pa_cons (pe_lc (own := [("_law_item", 1)]) (g := gName 1) (tt := (tDr fun i j => .bl (decide (j ≤ i)))) (by rfl) scDr.nd (pi_list (pv 0)) (blkOk_by (own := [("_law_item", 1)]) (N := ["_law_script", "_law_item"]) (sc := defScope sLDraws) (by decide +kernel)) (fun _ _ _ _ _ => (pg_name (i := 1) scDr.nd rfl (.inl rfl))) (fun _ _ _ _ _ => (pts_one (pt_cmpR op_ge (pv 1) (pe_op op_pow pe_int pe_int) (nomark _)))) (fun _ _ _ _ _ => (pv 1))) (pa_cons pe_int (pa_cons (pe_lc (own := [("_law_item", 1)]) (g := gName 1) (tt := (tDr fun i j => .bl (decide (i < j)))) (by rfl) scDr.nd (pi_list (pv 0)) (blkOk_by (own := [("_law_item", 1)]) (N := ["_law_script", "_law_item"]) (sc := defScope sLDraws) (by decide +kernel)) (fun _ _ _ _ _ => (pg_name (i := 1) scDr.nd rfl (.inl rfl))) (fun _ _ _ _ _ => (pts_one (pt_cmpR op_lt (pv 1) (pe_op op_pow pe_int pe_int) (nomark _)))) (fun _ _ _ _ _ => (pv 1))) (pa_cons pe_int pa_nil))))))), ?_⟩
    have cmp : ∀ (g : Int → Int → Bool) (H0 : Hp) (Qd : VK), Same H H0 → (∀ D H', Same H0 H' → H0 D = none → H' D = some (.lst ((is.filter fun x => g x (10 ^ 18)).map V.int)) → Qd (.ref D) H') →
        tLc (iList K (tVar 0)) (gName 1) (tDr fun i j => .bl (g i j)) (tVar 1) [1] [some (.ref a), none] H0 Qd := by
      intro g H0 Qd s0 hq
      have ha0 := Same.sqL s0 ha
      refine ⟨.ref a, rfl, a, rfl, ⟨_, ha0⟩, fun D nD => ?_⟩
      refine lc_list (K := K) (a := a) (xs := is.map V.int) (fun i H' => Same H0 H' ∧ H' D = some (.lst (((is.take i).filter fun x => g x (10 ^ 18)).map V.int))) ⟨same_upd nD, upd_same⟩ ?_ ?_ ?_
      · rintro i H' _ ⟨sm, _⟩
        exact Same.sqL sm ha0
      · rintro i x H' hx ⟨sm, hD⟩
        rw [List.getElem?_map] at hx
        obtain ⟨z, hz, rfl⟩ : ∃ z, is[i]? = some z ∧ V.int z = x := by
          cases e : is[i]? with
          | none => rw [e] at hx; cases hx
          | some z => rw [e] at hx; exact ⟨z, rfl, Option.some.inj hx⟩
        have hi : i < is.length := (List.getElem?_eq_some_iff.mp hz).1
        refine ⟨rfl, ?_⟩
        refine ⟨.int z, rfl, _, _, rfl, rfl, ⟨by decide, by decide, by decide⟩, _, _, rfl, rfl, _, rfl, ?_⟩
        rw [take_snoc hz, filter_snoc]
        show if g z (10 ^ 18) = true then _ else _
        by_cases c : g z (10 ^ 18) = true
        · rw [c]
          refine iteT ⟨.int z, rfl, _, hD, by rw [List.length_map]; exact szl (Nat.le_trans (List.length_filter_le _ _) (by rw [List.length_take]; omega)), fun c o e => ?_, ?_⟩
          · rw [upd_ne (ne_of_none e nD)]
            exact sm _ _ e
          · rw [upd_same, if_pos rfl, List.map_append]
            rfl
        · rw [Bool.eq_false_iff.mpr c]
          refine iteF ⟨sm, ?_⟩
          rw [if_neg Bool.false_ne_true]
          exact hD
      · rintro H' ⟨sm, hD⟩
        rw [List.length_map, List.take_of_length_le (Nat.le_refl _)] at hD
        exact hq D H' sm nD hD
    unfold tRet tLst tCons
    refine cmp (fun i j => decide (j ≤ i)) H _ (fun _ _ e => e) fun D1 H1 s1 n1 h1 => ?_
    unfold tC
    refine cmp (fun i j => decide (i < j)) H1 _ s1 fun D2 H2 s2 n2 h2 => ?_
    refine ⟨by show 4 ≤ sizeLine; decide, fun p np => ?_⟩
    have s3 := same_upd (o := .lst [.ref D1, .int 0, .ref D2, .int 0]) np
    have e1 := s3 _ _ (s2 _ _ h1)
    have e2 := s3 _ _ h2
    have n12 : D1 ≠ D2 := fun z => by rw [z] at h1; rw [h1] at n2; cases n2
    have p1 : p ≠ D1 := fun z => by rw [z, s2 _ _ h1] at np; cases np
    have p2 : p ≠ D2 := fun z => by rw [z, h2] at np; cases np
    exact q _ p D1 D2 ((s1.trans s2).trans s3) ((s1.trans s2).free np) n1 (s1.free n2) ⟨0, _, _, upd_same, e1, e2, Int.le_refl _, p1, p2, n12, fun x hx => by
      have := of_decide_eq_true (List.mem_filter.mp hx).2
      have h18 : (0 : Int) ≤ 10 ^ 18 := by decide
      exact Int.le_trans h18 this, Nat.le_trans (List.length_filter_le _ _) (by omega)⟩
/-! ### _law_mixed -/
theorem scMx : FnScope ["_law_seed", "_law_k", "_law_first"] ["_law_seed", "_law_k"] (defScope sLMixed) := ⟨rfl, rfl, rfl, by decide +kernel, rfl, by decide +kernel, by decide +kernel⟩
def spMx : Sp := fun vs H Q _ => ∃ (s k : Int), vs = [.int s, .int k] ∧ 0 ≤ k ∧ k ≤ 1100000 ∧ ∀ z : Int, 0 ≤ z → Q (.int z) H
theorem ok_mx {f : Addr} {fd : FuncData} {k : Nat} (F : Fun K "_law_mixed" "_law_mixed" sLMixed f fd) (B : Bm mg) : FnOk P w K mg base CX0 (k + 1) f fd ["_law_seed", "_law_k"] spMx := by
  refine F.ok scMx (fun vs H Q E h => ?_) (fun cdv A outer s H vs Q E hr h => ?_)
  · obtain ⟨a, is, rfl, _⟩ := h
    rfl
  · obtain ⟨s, k, rfl, k0, k1, q⟩ := h
    refine ⟨_, (pss_cons (ps_set (i := 2) scMx.nd rfl (.inl rfl) (pe_op op_mod (pe_callTy call_int1 (by rfl) B.int (by decide +kernel) (pa_cons (pe_op op_pow (pe_op op_add (pe_op op_add (pe_op op_mod (pe_callTy call_int1 (by rfl) B.int (by decide +kernel) (pa_cons (pv 0) pa_nil)) pe_int) (pe_op op_mul pe_int (pv 1))) pe_int) pe_int) pa_nil)) pe_int))
      (pss_one (ps_ret (pe_op op_mod (pe_callTy call_int1 (by rfl) B.int (by decide +kernel) (pa_cons (pe_op op_pow (pe_op op_add (pe_op op_add (pe_op op_mul (pv 2) pe_int) (pe_op op_mul (pe_op op_mul pe_int (pv 1)) (pv 1))) pe_int) pe_int) pa_nil)) pe_int)))), ?_⟩
    have a0 : 0 ≤ s % 2147483647 := Int.emod_nonneg _ (by decide)
    have a1 : s % 2147483647 < 2147483647 := Int.emod_lt_of_pos _ (by decide)
    generalize hb : s % 2147483647 + 7919 * k + 104729 = b1
    have b0 : 0 ≤ b1 := by omega
    have b2 : b1.natAbs < 2 ^ 64 := by omega
    have kk : 40503 * k * k ≤ 40503 * 1100000 * 1100000 := by
      have h1 : 40503 * k ≤ 40503 * 1100000 := by omega
      exact Int.mul_le_mul h1 k1 k0 (by decide)
    have kk0 : 0 ≤ 40503 * k * k := Int.mul_nonneg (Int.mul_nonneg (by decide) k0) k0
    have cc : ∀ c : Int, 0 ≤ c → c < 2147483629 → (c * 48271 + 40503 * k * k + 13).natAbs < 2 ^ 64 := fun c c0 c1 => by omega
    refine ⟨.int s, rfl, .inl ⟨s, rfl, _, _, rfl, rfl, (by show (0 : Int) < 2147483647; decide), .int k, rfl, _, _, rfl, rfl, .inl ⟨by decide, by decide⟩, _, _, rfl, rfl, _, _, rfl, rfl, ?_⟩⟩
    refine ⟨b1, _, congrArg V.int hb, rfl, ⟨by decide, by decide, b2⟩, .inl ⟨_, rfl, _, _, rfl, rfl, (by show (0 : Int) < 2147483629; decide), ?_⟩⟩
    refine ⟨.int _, rfl, _, _, rfl, rfl, .inr ⟨by decide, by decide⟩, .int k, rfl, _, _, rfl, rfl, .inl ⟨by decide, by decide⟩, .int k, rfl, _, _, rfl, rfl, .inr ⟨by omega, by omega⟩, _, _, rfl, rfl, _, _, rfl, rfl, ?_⟩
    refine ⟨_, _, rfl, rfl, ⟨by decide, by decide, cc _ (Int.emod_nonneg _ (by decide)) (Int.emod_lt_of_pos _ (by decide))⟩, .inl ⟨_, rfl, _, _, rfl, rfl, (by show (0 : Int) < 1000000007; decide), ?_⟩⟩
    exact q _ (Int.emod_nonneg _ (by decide))
/-! ### _law_take -/
theorem scTk : FnScope ["_law_draws_here", "_law_size", "_law_found", "_law_seed", "_law_reach"] ["_law_draws_here", "_law_size"] (defScope sLTake) := ⟨rfl, rfl, rfl, by decide +kernel, rfl, by decide +kernel, by decide +kernel⟩
def spTk : Sp := fun vs H Q _ => ∃ (p l1 l2 : Addr) (n c : Nat), vs = [.ref p, vN n] ∧ 1 ≤ n ∧ n ≤ 1000 ∧ c < 1000000 ∧ DrAt H p l1 l2 c ∧ ∀ H' r, r < n → Keep2 p l1 H H' → DrAt H' p l1 l2 (c + 1) → Q (vN r) H'
theorem ok_tk {f fMx : Addr} {fd fdMx : FuncData} {k : Nat} (F : Fun K "_law_take" "_law_take" sLTake f fd) (B : Bm mg) (FMx : Fun K "_law_mixed" "_law_mixed" sLMixed fMx fdMx) (bMx : Binds K fdMx ["_law_seed", "_law_k"] []) (gMx : mg "_law_mixed" = some (.ref fMx)) :
    FnOk P w K mg base CX0 (k + 2) f fd ["_law_draws_here", "_law_size"] spTk := by
  have GMx : FnOk P w K mg base CX0 (k + 1) fMx fdMx ["_law_seed", "_law_k"] spMx := ok_mx FMx B
  refine F.ok scTk (fun vs H Q E h => ?_) (fun cdv A outer s H vs Q E hr h => ?_)
  · obtain ⟨p, l1, l2, n, c, rfl, _⟩ := h
    rfl
  · obtain ⟨p, l1, l2, n, c, rfl, n1, n2, hc, D, q⟩ := h
    refine ⟨_, (pss_cons (ps_asg (pe_op op_add (pe_ix ix_list (pv 0) pe_int (fun _ _ => rfl)) pe_int) (pg_sub (pv 0) pe_int set_list))
      (C8.pss_cut (ps_if (PW.pt (pw_and (pt_cmpR op_eq (pe_ix ix_list (pv 0) pe_int (fun _ _ => rfl)) pe_int (nomark _)) (pw_and1 (pt_cmpR (op_neD hr.units) (pe_ix ix_list (pv 0) pe_int (fun _ _ => rfl)) (pe_lst pa_nil) (nomark _))))) (pss_one (ps_asg (pe_bm PySem.F.plainAttrs_list PySem.F.slot_list_pop PySem.F.type_list_pop mt_popAt (pe_ix ix_list (pv 0) pe_int (fun _ _ => rfl)) (pa_cons pe_int pa_nil)) (pg_sub (pv 0) pe_int set_list))) pss_nil)
      (pss_cons (ps_if (pt_cmpR op_gt (pe_ix ix_list (pv 0) pe_int (fun _ _ => rfl)) pe_int (nomark _)) (pss_cons (ps_set (i := 2) scTk.nd rfl (.inl rfl) (pe_op op_mod (pe_callTy call_int1 (by rfl) B.int (by decide +kernel) (pa_cons (pe_ix ix_list (pv 0) pe_int (fun _ _ => rfl)) pa_nil)) (pv 1)))
      (pss_cons (ps_asg (pe_op op_fdiv (pe_ix ix_list (pv 0) pe_int (fun _ _ => rfl)) (pv 1)) (pg_sub (pv 0) pe_int set_list))
      (pss_one (ps_ret (pv 2))))) pss_nil)
      (pss_cons (ps_set (i := 3) scTk.nd rfl (.inl rfl) pe_int)
      (C8.pss_cut (ps_if (pt_cmpR (op_neD hr.units) (pe_ix ix_list (pv 0) pe_int (fun _ _ => rfl)) (pe_lst pa_nil) (nomark _)) (pss_one (ps_set (i := 3) scTk.nd rfl (.inl rfl) (pe_ix ix_list (pe_ix ix_list (pv 0) pe_int (fun _ _ => rfl)) (pe_op op_mod (pe_callTy call_int1 (by rfl) B.int (by decide +kernel) (pa_cons (pe_ix ix_list (pv 0) pe_int (fun _ _ => rfl)) pa_nil)) (pe_callB call_len_seq (by rfl) B.len PySem.boot_len (pa_cons (pe_ix ix_list (pv 0) pe_int (fun _ _ => rfl)) pa_nil))) (fun _ _ => rfl)))) pss_nil)
      (pss_cons (ps_set (i := 2) scTk.nd rfl (.inl rfl) pe_int)
      (pss_cons (ps_set (i := 4) scTk.nd rfl (.inl rfl) pe_int)
      (pss_cons (ps_while PassesOwn.never (pt_cmpR op_lt (pv 4) (pv 1) (nomark _)) (pss_cons (ps_set (i := 2) scTk.nd rfl (.inl rfl) (pe_op op_add (pe_op op_mul (pv 2) pe_int) (pe_call GMx (hr.mono (by omega)) (by rfl) gMx FMx.kp bMx .nil pass0 (pa_cons (pv 3) (pa_cons (pe_op op_add (pe_ix ix_list (pv 0) pe_int (fun _ _ => rfl)) (pe_op op_mul pe_int (pe_op op_mod (pe_callTy call_int1 (by rfl) B.int (by decide +kernel) (pa_cons (pv 2) pa_nil)) pe_int))) pa_nil)))))
      (pss_one (ps_set (i := 4) scTk.nd rfl (.inl rfl) (pe_op op_mul (pv 4) pe_int)))))
      (pss_one (ps_ret (pe_op op_mod (pe_callTy call_int1 (by rfl) B.int (by decide +kernel) (pa_cons (pv 2) pa_nil)) (pv 1)))))))))))), ?_⟩
    obtain ⟨q0, xs1, xs2, D⟩ := D
    -- the count
    refine ⟨.ref p, rfl, p, _, 3, vN c, rfl, rfl, sqL D.at_, atI_nat (j := 3) rfl, _, _, rfl, rfl, .ref p, rfl, p, _, 3, 3, rfl, rfl, D.at_, rfl, ?_⟩
    have D1 : DrW (upd H p (.lst [.ref l1, .int q0, .ref l2, vN (c + 1)])) p l1 l2 (c + 1) q0 xs1 xs2 := ⟨upd_same, by rw [upd_ne D.p1.symm]; exact D.one, by rw [upd_ne D.p2.symm]; exact D.two, D.q0, D.p1, D.p2, D.n12, D.pos, D.z2⟩
    have k1 : Keep2 p l1 H (upd H p (.lst [.ref l1, .int q0, .ref l2, vN (c + 1)])) := fun a o e n _ => by rw [upd_ne n]; exact e
    show _
    generalize hH1 : upd H p (.lst [.ref l1, .int q0, .ref l2, vN (c + 1)]) = H1
    have D1 : DrW H1 p l1 l2 (c + 1) q0 xs1 xs2 := by rw [← hH1]; exact D1
    have k1 : Keep2 p l1 H H1 := by rw [← hH1]; exact k1
    have hH1' : upd H p (.lst ([V.ref l1, V.int q0, V.ref l2, vN c].set 3 (V.int ((c : Int) + 1)))) = H1 := hH1
    rw [hH1']
    clear hH1 hH1'
    -- the next number
    refine ⟨fun σ H2 => σ = [some (.ref p), some (vN n), none, none, none] ∧ ∃ q1 ys1, Keep2 p l1 H H2 ∧ DrW H2 p l1 l2 (c + 1) q1 ys1 xs2, ?_, ?_⟩
    · refine ⟨.ref p, rfl, p, _, 1, .int q0, rfl, rfl, sqL D1.at_, atI_nat (j := 1) rfl, rfl, _, rfl, ?_⟩
      by_cases c1 : q0 = 0
      · rw [show decide (V.int q0 = V.int 0) = true from decide_eq_true (by rw [c1])]
        refine iteT ⟨.ref p, rfl, p, _, 0, .ref l1, rfl, rfl, sqL D1.at_, atI_nat (j := 0) rfl, Nat.zero_le _, fun pe ne => ?_⟩
        have s2 := same_upd (o := .lst []) ne
        have he : (upd H1 pe (.lst [])) pe = some (.lst []) := upd_same
        have D2 : DrW (upd H1 pe (.lst [])) p l1 l2 (c + 1) q0 xs1 xs2 := ⟨s2 _ _ D1.at_, s2 _ _ D1.one, s2 _ _ D1.two, D1.q0, D1.p1, D1.p2, D1.n12, D1.pos, D1.z2⟩
        have k2 := k1.trans (Keep2.of s2)
        generalize upd H1 pe (.lst []) = H2 at s2 he D2 k2
        refine ⟨_, _, .lst (sqL D2.one) (int_all xs1), .lst (sqL he) .nil, int_shL xs1, rfl, _, rfl, ?_⟩
        rw [eqv_nil]
        cases xs1 with
        | nil => exact iteF ⟨rfl, q0, [], k2, D2⟩
        | cons y ys =>
          refine iteT ⟨.ref p, rfl, p, _, 0, .ref l1, rfl, rfl, sqL D2.at_, atI_nat (j := 0) rfl, .inl ⟨rfl, _, sqL D2.one⟩, l1, _, 0, 0, .int y, rfl, rfl, D2.one, by decide, by decide, ?_, rfl, ?_⟩
          · show PySem.seqIndex? 0 (_ + 1) = some 0
            unfold PySem.seqIndex?
            simp
          · refine ⟨.ref p, rfl, p, _, 1, 1, rfl, rfl, (by rw [upd_ne D2.p1]; exact D2.at_), rfl, rfl, y, ys, fun a o e n m => ?_, ?_⟩
            · rw [upd_ne n, upd_ne m]
              exact k2 _ _ e n m
            · exact ⟨upd_same, by rw [upd_ne D2.p1.symm, upd_same]; rfl, by rw [upd_ne D2.p2.symm, upd_ne D2.n12.symm]; exact D2.two, D2.pos y List.mem_cons_self, D2.p1, D2.p2, D2.n12, fun x hx => D2.pos x (List.mem_cons_of_mem _ hx), D2.z2⟩
      · rw [show decide (V.int q0 = V.int 0) = false from decide_eq_false (fun z => c1 (V.int.inj z))]
        exact iteF (iteF ⟨rfl, q0, xs1, k1, D1⟩)
    · rintro σ H2 ⟨rfl, q1, ys1, k2, D2⟩
      refine ⟨.ref p, rfl, p, _, 1, .int q1, rfl, rfl, sqL D2.at_, atI_nat (j := 1) rfl, _, _, rfl, rfl, _, rfl, ?_⟩
      have np : (0 : Int) < (n : Int) := by omega
      by_cases c1 : 0 < q1
      · rw [decide_eq_true c1]
        refine iteT ⟨.ref p, rfl, p, _, 1, .int q1, rfl, rfl, sqL D2.at_, atI_nat (j := 1) rfl, .inl ⟨_, rfl, vN n, rfl, _, _, rfl, rfl, np, ?_⟩⟩
        refine ⟨.ref p, rfl, p, _, 1, .int q1, rfl, rfl, sqL D2.at_, atI_nat (j := 1) rfl, vN n, rfl, _, _, rfl, rfl, ⟨np, by omega⟩, .ref p, rfl, p, _, 1, 1, rfl, rfl, D2.at_, rfl, .int (q1 % n), rfl, ?_⟩
        have r0 := Int.emod_nonneg q1 (b := (n : Int)) (by omega)
        have r1 := Int.emod_lt_of_pos q1 np
        have er : q1 % (n : Int) = ((q1 % (n : Int)).toNat : Int) := (Int.toNat_of_nonneg r0).symm
        show Q (.int (q1 % (n : Int))) _
        rw [er]
        exact q _ _ (by omega) (fun a o e n m => by rw [upd_ne n]; exact k2 _ _ e n m) ⟨q1 / n, ys1, xs2, upd_same, by rw [upd_ne D2.p1.symm]; exact D2.one, by rw [upd_ne D2.p2.symm]; exact D2.two, Int.ediv_nonneg D2.q0 (by omega), D2.p1, D2.p2, D2.n12, D2.pos, D2.z2⟩
      · rw [decide_eq_false c1]
        -- mixed
        refine iteF ⟨fun σ H3 => ∃ sd : Int, σ = [some (.ref p), some (vN n), none, some (.int sd), none] ∧ Keep2 p l1 H H3 ∧ DrW H3 p l1 l2 (c + 1) q1 ys1 xs2, ?_, ?_⟩
        · refine ⟨.ref p, rfl, p, _, 2, .ref l2, rfl, rfl, sqL D2.at_, atI_nat (j := 2) rfl, Nat.zero_le _, fun pe ne => ?_⟩
          have s3 := same_upd (o := .lst []) ne
          have he : (upd H2 pe (.lst [])) pe = some (.lst []) := upd_same
          have D3 : DrW (upd H2 pe (.lst [])) p l1 l2 (c + 1) q1 ys1 xs2 := ⟨s3 _ _ D2.at_, s3 _ _ D2.one, s3 _ _ D2.two, D2.q0, D2.p1, D2.p2, D2.n12, D2.pos, D2.z2⟩
          have k3 := k2.trans (Keep2.of s3)
          generalize upd H2 pe (.lst []) = H3 at s3 he D3 k3
          refine ⟨_, _, .lst (sqL D3.two) (int_all xs2), .lst (sqL he) .nil, int_shL xs2, rfl, _, rfl, ?_⟩
          rw [eqv_nil]
          by_cases cx : xs2 = []
          · rw [show (!(xs2.map PyData.int).isEmpty) = false by rw [cx]; rfl]
            exact iteF ⟨17, rfl, k3, D3⟩
          · have lx : 0 < xs2.length := Nat.pos_of_ne_zero fun z => cx (List.eq_nil_of_length_eq_zero z)
            rw [show (!(xs2.map PyData.int).isEmpty) = true by cases xs2 with | nil => exact absurd rfl cx | cons _ _ => rfl]
            refine iteT ⟨.ref p, rfl, p, _, 2, .ref l2, rfl, rfl, sqL D3.at_, atI_nat (j := 2) rfl, .ref p, rfl, p, _, 3, vN (c + 1), rfl, rfl, sqL D3.at_, atI_nat (j := 3) rfl, .inl ⟨_, rfl, ?_⟩⟩
            refine ⟨.ref p, rfl, p, _, 2, .ref l2, rfl, rfl, sqL D3.at_, atI_nat (j := 2) rfl, l2, _, rfl, .inl (sqL D3.two), _, _, rfl, rfl, by rw [List.length_map]; show (0 : Int) < xs2.length; omega, ?_⟩
            have hm : (c + 1) % xs2.length < xs2.length := Nat.mod_lt _ lx
            refine ⟨l2, _, (((c + 1) % xs2.length : Nat) : Int), .int xs2[(c + 1) % xs2.length], rfl, ?_, sqL D3.two, atI_nat (map_at (List.getElem?_eq_getElem hm)), _, rfl, k3, D3⟩
            rw [List.length_map]
            rfl
        · rintro σ H3 ⟨sd, rfl, k3, D3⟩
          refine ⟨fun mm σ H4 => ∃ fo re : Int, mm = (n - re).toNat ∧ σ = [some (.ref p), some (vN n), some (.int fo), some (.int sd), some (.int re)] ∧ H4 = H3 ∧ 1 ≤ re, ⟨_, 0, 1, rfl, rfl, rfl, by decide⟩, ?_⟩
          rintro mm σ H4 ⟨fo, re, rfl, rfl, rfl, re1⟩
          refine ⟨.int re, rfl, vN n, rfl, _, _, rfl, rfl, _, rfl, ?_⟩
          by_cases c2 : re < n
          · rw [decide_eq_true c2]
            refine iteT ⟨fun σ' H' => ∃ fo' : Int, σ' = [some (.ref p), some (vN n), some (.int fo'), some (.int sd), some (.int (re * 1000000007))] ∧ H' = H4, ?_, ?_⟩
            · rintro σ' H' ⟨fo', rfl, rfl⟩
              exact ⟨_, by omega, fo', re * 1000000007, rfl, rfl, rfl, by omega⟩
            · refine ⟨.int fo, rfl, _, _, rfl, rfl, .inr ⟨by decide, by decide⟩, .int sd, rfl, .ref p, rfl, p, _, 3, vN (c + 1), rfl, rfl, sqL D3.at_, atI_nat (j := 3) rfl, .int fo, rfl, .inl ⟨_, rfl, _, _, rfl, rfl, (by show (0 : Int) < 97; decide), _, _, rfl, rfl, .inl ⟨by decide, by decide⟩, _, _, rfl, rfl, ?_⟩⟩
              have m0 := Int.emod_nonneg fo (b := 97) (by decide)
              have m1 := Int.emod_lt_of_pos fo (b := 97) (by decide)
              refine ⟨sd, _, rfl, ?_, ?_, fun z _ => ?_⟩
              · show (0 : Int) ≤ ((c + 1 : Nat) : Int) + 1009 * (fo % 97)
                omega
              · show ((c + 1 : Nat) : Int) + 1009 * (fo % 97) ≤ 1100000
                omega
              · exact ⟨_, _, rfl, rfl, .int re, rfl, _, _, rfl, rfl, .inr ⟨by decide, by decide⟩, _, rfl, rfl⟩
          · rw [decide_eq_false c2]
            refine iteF ⟨.int fo, rfl, .inl ⟨_, rfl, vN n, rfl, _, _, rfl, rfl, np, ?_⟩⟩
            have r0 := Int.emod_nonneg fo (b := (n : Int)) (by omega)
            have r1 := Int.emod_lt_of_pos fo np
            have er : fo % (n : Int) = ((fo % (n : Int)).toNat : Int) := (Int.toNat_of_nonneg r0).symm
            show Q (.int (fo % (n : Int))) H4
            rw [er]
            exact q _ _ (by omega) k3 ⟨_, _, _, D3⟩
/-! ### _law_pick -/
theorem scPk : FnScope ["_law_draws_here", "_law_some"] ["_law_draws_here", "_law_some"] (defScope sLPick) := ⟨rfl, rfl, rfl, by decide +kernel, rfl, by decide +kernel, by decide +kernel⟩
def spPk : Sp := fun vs H Q _ => ∃ (p l1 l2 L : Addr) (xs : List V) (c : Nat), vs = [.ref p, .ref L] ∧ H L = some (.lst xs) ∧ L ≠ p ∧ L ≠ l1 ∧ 1 ≤ xs.length ∧ xs.length ≤ 1000 ∧ c < 1000000 ∧ DrAt H p l1 l2 c ∧ ∀ H', ∀ x ∈ xs, Keep2 p l1 H H' → DrAt H' p l1 l2 (c + 1) → Q x H'
theorem ok_pk {f fTk : Addr} {fd fdTk : FuncData} {k : Nat} (F : Fun K "_law_pick" "_law_pick" sLPick f fd) (B : Bm mg) (FTk : Fun K "_law_take" "_law_take" sLTake fTk fdTk) (bTk : Binds K fdTk ["_law_draws_here", "_law_size"] []) (gTk : mg "_law_take" = some (.ref fTk))
    (GTk : FnOk P w K mg base CX0 (k + 2) fTk fdTk ["_law_draws_here", "_law_size"] spTk) :
    FnOk P w K mg base CX0 (k + 3) f fd ["_law_draws_here", "_law_some"] spPk := by
  refine F.ok scPk (fun vs H Q E h => ?_) (fun cdv A outer s H vs Q E hr h => ?_)
  · obtain ⟨p, l1, l2, L, xs, c, rfl, _⟩ := h
    rfl
  · obtain ⟨p, l1, l2, L, xs, c, rfl, hL, Lp, L1, z1, z2, hc, D, q⟩ := h
    refine ⟨_, (pss_one (ps_ret (pe_ix ix_list (pv 1) (pe_call GTk (hr.mono (by omega)) (by rfl) gTk FTk.kp bTk .nil pass0 (pa_cons (pv 0) (pa_cons (pe_callB call_len_seq (by rfl) B.len PySem.boot_len (pa_cons (pv 1) pa_nil)) pa_nil))) (fun _ _ => rfl)))), ?_⟩
    refine ⟨.ref L, rfl, .ref p, rfl, .ref L, rfl, L, xs, rfl, .inl (sqL hL), ?_⟩
    refine ⟨p, l1, l2, xs.length, c, rfl, z1, z2, hc, D, fun H1 r hr1 k1 D1 => ?_⟩
    exact ⟨L, xs, r, xs[r], rfl, rfl, sqL (k1 _ _ hL Lp L1), atI_nat (List.getElem?_eq_getElem hr1), q H1 _ (List.getElem_mem hr1) k1 D1⟩
end
end Tw
end
section
namespace Tw
open PySem PySem.Spec PyProof.Rows L2 LamX NdefX
/-- equal data: ints, tuples, lists, d deep -/
def DE : Nat → Hp → V → V → Prop
  | 0, _, _, _ => False
  | d + 1, H, x, y => (∃ i : Int, x = .int i ∧ y = .int i) ∨ ∃ (p q : Addr) (xs ys : List V), x = .ref p ∧ y = .ref q ∧ ((H p = some (.lst xs) ∧ H q = some (.lst ys)) ∨ (H p = some (.tup xs) ∧ H q = some (.tup ys))) ∧ xs.length = ys.length ∧ xs.length ≤ 1000 ∧
      ∀ (i : Nat) (x y : V), xs[i]? = some x → ys[i]? = some y → DE d H x y
theorem DE.same {H H' : Hp} (s : Same H H') : ∀ {d : Nat} {x y : V}, DE d H x y → DE d H' x y
  | 0, _, _, h => h
  | d + 1, x, y, h => by
    rcases h with h | ⟨p, q, xs, ys, e1, e2, e3, e4, e5, e6⟩
    · exact .inl h
    · exact .inr ⟨p, q, xs, ys, e1, e2, e3.imp (fun z => ⟨s _ _ z.1, s _ _ z.2⟩) (fun z => ⟨s _ _ z.1, s _ _ z.2⟩), e4, e5, fun i x y h1 h2 => (e6 i x y h1 h2).same s⟩
theorem walk_zipT {K : PySem.W.Frag} {a b : Addr} {xs ys : List V} {n : Nat} (hn : n = min xs.length ys.length) : Walk (RZ.ItzT K a b) n (fun H => SqT K H a xs ∧ SqT K H b ys) (YPair (fun i => xs[i]?) (fun i => ys[i]?)) := by
  subst hn
  refine ⟨fun i _ hi q => ?_, fun _ q => ⟨xs, ys, q.1, q.2, by omega⟩, fun i H v H' _ q y => ?_⟩
  · have h1 : i < xs.length := by omega
    have h2 : i < ys.length := by omega
    exact ⟨xs, ys, xs[i], ys[i], q.1, q.2, by simp [h1], by simp [h2]⟩
  · obtain ⟨T, x, z, h1, h2, h3, h4, h5⟩ := y
    exact ⟨T, x, z, h1, h2, h3, h4 xs q.1, h5 ys q.2⟩
section
variable {P : Program} {w : World} {K : PySem.W.Frag} {mg : Str → Option Value} {base : Heap} {C : Addr}
theorem scSm : FnScope ["_law_found", "_law_due", "_law_one", "_law_other"] ["_law_found", "_law_due"] (defScope sLSame) := ⟨rfl, rfl, rfl, by decide +kernel, rfl, by decide +kernel, by decide +kernel⟩
def spSm (d : Nat) : Sp := fun vs H Q _ => ∃ x y, vs = [x, y] ∧ DE d H x y ∧ ∀ H', Same H H' → Q (.bl true) H'
theorem ok_sm {f : Addr} {fd : FuncData} (FSm : Fun K "_law_same" "_law_same" sLSame f fd) (B : Bm mg) (bSm : Binds K fd ["_law_found", "_law_due"] []) (gSm : mg "_law_same" = some (.ref f)) :
    ∀ d, FnOk P w K mg base CX0 d f fd ["_law_found", "_law_due"] (spSm d)
  | 0 => ⟨fun vs H Q E h => by obtain ⟨x, y, _, h, _⟩ := h; exact h.elim, fun A outer s H args us vs Q E hr he hb hv h => by obtain ⟨x, y, _, h, _⟩ := h; exact h.elim⟩
  | d + 1 => by
    have GSm := ok_sm FSm B bSm gSm d
    refine FSm.ok scSm (fun vs H Q E h => ?_) (fun cdv A outer s H vs Q E hr h => ?_)
    · obtain ⟨x, y, rfl, _⟩ := h
      rfl
    · obtain ⟨x, y, rfl, h, q⟩ := h
      refine ⟨_, (pss_cons (ps_if (pt_val (pe_callB call_isiT (by rfl) B.isi (by decide +kernel) (pa_cons (pv 1) (pa_cons (pe_tup (pa_cons (pe_bltn (v := .ty "list") (by rfl) B.list (by decide +kernel) rfl) (pa_cons (pe_bltn (v := .ty "tuple") (by rfl) B.tuple (by decide +kernel) rfl) pa_nil))) pa_nil)))) (pss_cons (ps_if (PW.pt (pw_or (pt_cmpR op_ne (pe_callB call_isi (by rfl) B.isi (by decide +kernel) (pa_cons (pv 0) (pa_cons (pe_bltn (v := .ty "list") (by rfl) B.list (by decide +kernel) rfl) pa_nil))) (pe_callB call_isi (by rfl) B.isi (by decide +kernel) (pa_cons (pv 1) (pa_cons (pe_bltn (v := .ty "list") (by rfl) B.list (by decide +kernel) rfl) pa_nil))) (nomark _)) (pw_or1 (pt_cmpR op_ne (pe_callB call_isi (by rfl) B.isi (by decide +kernel) (pa_cons (pv 0) (pa_cons (pe_bltn (v := .ty "tuple") (by rfl) B.tuple (by decide +kernel) rfl) pa_nil))) (pe_callB call_isi (by rfl) B.isi (by decide +kernel) (pa_cons (pv 1) (pa_cons (pe_bltn (v := .ty "tuple") (by rfl) B.tuple (by decide +kernel) rfl) pa_nil))) (nomark _))))) (pss_one (ps_ret pe_bl)) pss_nil)
      (pss_one (ps_ret (pe_and (pe_cmpR op_eq (pe_callB call_len_seq (by rfl) B.len PySem.boot_len (pa_cons (pv 0) pa_nil)) (pe_callB call_len_seq (by rfl) B.len PySem.boot_len (pa_cons (pv 1) pa_nil)) (nomark _)) (pe_one (pe_callB (cr_all rfl) (by rfl) B.all (by decide +kernel) (pa_cons (pe_lc (own := [("_law_one", 2), ("_law_other", 3)]) (g := gTup K 2 (gCons (gName 2) (gCons (gName 3) (gNil)))) (tt := tYes) (by rfl) scSm.nd (RZ.pi_zipA (by rfl) B.zip (pa_cons (pv 0) (pa_cons (pv 1) pa_nil))) (blkOk_by (own := [("_law_one", 2), ("_law_other", 3)]) (N := ["_law_found", "_law_due", "_law_one", "_law_other"]) (sc := defScope sLSame) (by decide +kernel)) (fun _ _ _ _ _ => (pg_tup rfl (pgs_cons (pg_name (i := 2) scSm.nd rfl (.inl rfl)) (pgs_cons (pg_name (i := 3) scSm.nd rfl (.inl rfl)) pgs_nil)))) (fun _ _ _ _ _ => pts_nil) (fun _ _ _ _ _ => (pe_call GSm (hr.mono (by omega)) (by rfl) gSm FSm.kp bSm .nil pass0 (pa_cons (pv 2) (pa_cons (pv 3) pa_nil))))) pa_nil))))))) pss_nil)
      (pss_cons (ps_if (pt_val (pe_callB call_isiT (by rfl) B.isi (by decide +kernel) (pa_cons (pv 1) (pa_cons (pe_tup (pa_cons (pe_bltn (v := .ty "bool") (by rfl) B.bool (by decide +kernel) rfl) (pa_cons (pe_bltn (v := .ty "int") (by rfl) B.int (by decide +kernel) rfl) pa_nil))) pa_nil)))) (pss_one (ps_ret (pe_and (pe_callB call_isi (by rfl) B.isi (by decide +kernel) (pa_cons (pv 0) (pa_cons (pe_bltn (v := .ty "int") (by rfl) B.int (by decide +kernel) rfl) pa_nil))) (pe_and (pe_cmpR op_eq (pe_callB call_isi (by rfl) B.isi (by decide +kernel) (pa_cons (pv 0) (pa_cons (pe_bltn (v := .ty "bool") (by rfl) B.bool (by decide +kernel) rfl) pa_nil))) (pe_callB call_isi (by rfl) B.isi (by decide +kernel) (pa_cons (pv 1) (pa_cons (pe_bltn (v := .ty "bool") (by rfl) B.bool (by decide +kernel) rfl) pa_nil))) (nomark _)) (pe_one (pe_cmpR op_eq (pv 0) (pv 1) (nomark _))))))) pss_nil)
      (pss_one (ps_ret (pe_and (pe_not (pe_callB call_isiT (by rfl) B.isi (by decide +kernel) (pa_cons (pv 0) (pa_cons (pe_tup (pa_cons (pe_bltn (v := .ty "bool") (by rfl) B.bool (by decide +kernel) rfl) (pa_cons (pe_bltn (v := .ty "int") (by rfl) B.int (by decide +kernel) rfl) (pa_cons (pe_bltn (v := .ty "list") (by rfl) B.list (by decide +kernel) rfl) (pa_cons (pe_bltn (v := .ty "tuple") (by rfl) B.tuple (by decide +kernel) rfl) pa_nil))))) pa_nil)))) (pe_one (pe_cmpR op_eq (pv 0) (pv 1) (nomark _)))))))), ?_⟩
      rcases h with ⟨i, rfl, rfl⟩ | ⟨p1, p2, xs, ys, rfl, rfl, hpq, hl, hn, hde⟩
      · refine ⟨.int i, rfl, by show 2 ≤ sizeLine; decide, fun t ht => ?_⟩
        have s1 := same_upd (o := .tup [.ty "list", .ty "tuple"]) ht
        refine ⟨_, t, _, .type "int", [.type "list", .type "tuple"], false, rfl, upd_same, .cons (.ty _) (.cons (.ty _) .nil), .base (.int i), kit_any (a := "int") (l := ["list", "tuple"]) (by decide +kernel), false, rfl, iteF ?_⟩
        show _
        refine ⟨.int i, rfl, by show 2 ≤ sizeLine; decide, fun t2 ht2 => ?_⟩
        have s2 := s1.trans (same_upd (o := .tup [.ty "bool", .ty "int"]) ht2)
        refine ⟨_, t2, _, .type "int", [.type "bool", .type "int"], true, rfl, upd_same, .cons (.ty _) (.cons (.ty _) .nil), .base (.int i), kit_any (a := "int") (l := ["bool", "int"]) (by decide +kernel), true, rfl, iteT ?_⟩
        refine ⟨.int i, rfl, _, _, _, _, true, rfl, .ty _, .base (.int i), kit_ty (by decide +kernel), true, rfl, iteT ?_⟩
        refine ⟨.int i, rfl, _, _, _, _, false, rfl, .ty _, .base (.int i), kit_ty (by decide +kernel), .int i, rfl, _, _, _, _, false, rfl, .ty _, .base (.int i), kit_ty (by decide +kernel), rfl, true, rfl, iteT ?_⟩
        refine ⟨.int i, rfl, .int i, rfl, rfl, ?_⟩
        rw [decide_eq_true rfl]
        exact q _ s2
      · rcases hpq with ⟨h1, h2⟩ | ⟨h1, h2⟩
        · refine ⟨.ref p2, rfl, by show 2 ≤ sizeLine; decide, fun t ht => ?_⟩
          have s1 := same_upd (o := .tup [.ty "list", .ty "tuple"]) ht
          refine ⟨_, t, _, .type "list", [.type "list", .type "tuple"], true, rfl, upd_same, .cons (.ty _) (.cons (.ty _) .nil), .base (.lst (s1 _ _ h2)), kit_any (a := "list") (l := ["list", "tuple"]) (by decide +kernel), true, rfl, iteT ?_⟩
          generalize (upd H t (.tup [.ty "list", .ty "tuple"])) = H1 at s1
          have h1 := s1 _ _ h1
          have h2 := s1 _ _ h2
          refine ⟨.ref p1, rfl, _, _, _, _, true, rfl, .ty _, .base (.lst (h1)), kit_ty (by decide +kernel), .ref p2, rfl, _, _, _, _, true, rfl, .ty _, .base (.lst (h2)), kit_ty (by decide +kernel), rfl, _, rfl, iteF ?_⟩
          refine ⟨.ref p1, rfl, _, _, _, _, false, rfl, .ty _, .base (.lst (h1)), kit_ty (by decide +kernel), .ref p2, rfl, _, _, _, _, false, rfl, .ty _, .base (.lst (h2)), kit_ty (by decide +kernel), rfl, _, rfl, iteF ?_⟩
          refine ⟨.ref p1, rfl, p1, _, rfl, .inl (sqL h1), .ref p2, rfl, p2, _, rfl, .inl (sqL h2), rfl, _, rfl, ?_⟩
          rw [show decide (V.int (xs.length : Int) = V.int (ys.length : Int)) = true from decide_eq_true (by rw [hl])]
          refine iteT ⟨.ref p1, rfl, .ref p2, rfl, p1, p2, xs, ys, rfl, .inl ⟨sqL h1, sqL h2, fun D nD => ?_⟩⟩
          refine lc_it (walk_zip (K := K) (a := p1) (b := p2) (xs := xs) (ys := ys) rfl) (fun i H' => Same H1 H' ∧ H' D = some (.lst (List.replicate i (.bl true)))) ⟨same_upd nD, upd_same⟩ ?_ ?_ ?_
          · rintro i H' _ ⟨sm, _⟩
            exact ⟨sqL (sm _ _ h1), sqL (sm _ _ h2)⟩
          · rintro i x H2 H3 hi ⟨sm, hD⟩ ⟨T, x1, y1, rfl, nT, rfl, hx, hy⟩
            have s3 := sm.trans (same_upd (o := .tup [x1, y1]) nT)
            have hD3 := same_upd (o := .tup [x1, y1]) nT _ _ hD
            refine ⟨T, _, rfl, sqT upd_same, rfl, _, _, rfl, _, _, rfl, rfl, rfl, ?_⟩
            unfold tYes
            refine iteT ⟨x1, rfl, y1, rfl, x1, y1, rfl, (hde i x1 y1 hx hy).same (s1.trans s3), fun H4 s4 => ⟨_, s4 _ _ hD3, by rw [List.length_replicate]; exact szl (by omega), fun c o e => ?_, ?_⟩⟩
            · rw [upd_ne (ne_of_none e nD)]
              exact s4 _ _ (s3 _ _ e)
            · rw [upd_same, List.replicate_succ']
          · rintro H2 ⟨sm, hD⟩
            refine ⟨D, List.replicate (min xs.length ys.length) true, rfl, sqL (by rw [hD, List.map_replicate]), ?_⟩
            rw [show (List.replicate (min xs.length ys.length) true).all id = true from List.all_eq_true.mpr fun x hx => (List.mem_replicate.mp hx).2]
            exact q _ (s1.trans sm)
        · refine ⟨.ref p2, rfl, by show 2 ≤ sizeLine; decide, fun t ht => ?_⟩
          have s1 := same_upd (o := .tup [.ty "list", .ty "tuple"]) ht
          refine ⟨_, t, _, .type "tuple", [.type "list", .type "tuple"], true, rfl, upd_same, .cons (.ty _) (.cons (.ty _) .nil), .base (.tup (s1 _ _ h2)), kit_any (a := "tuple") (l := ["list", "tuple"]) (by decide +kernel), true, rfl, iteT ?_⟩
          generalize (upd H t (.tup [.ty "list", .ty "tuple"])) = H1 at s1
          have h1 := s1 _ _ h1
          have h2 := s1 _ _ h2
          refine ⟨.ref p1, rfl, _, _, _, _, false, rfl, .ty _, .base (.tup (h1)), kit_ty (by decide +kernel), .ref p2, rfl, _, _, _, _, false, rfl, .ty _, .base (.tup (h2)), kit_ty (by decide +kernel), rfl, _, rfl, iteF ?_⟩
          refine ⟨.ref p1, rfl, _, _, _, _, true, rfl, .ty _, .base (.tup (h1)), kit_ty (by decide +kernel), .ref p2, rfl, _, _, _, _, true, rfl, .ty _, .base (.tup (h2)), kit_ty (by decide +kernel), rfl, _, rfl, iteF ?_⟩
          refine ⟨.ref p1, rfl, p1, _, rfl, .inr (sqT h1), .ref p2, rfl, p2, _, rfl, .inr (sqT h2), rfl, _, rfl, ?_⟩
          rw [show decide (V.int (xs.length : Int) = V.int (ys.length : Int)) = true from decide_eq_true (by rw [hl])]
          refine iteT ⟨.ref p1, rfl, .ref p2, rfl, p1, p2, xs, ys, rfl, .inr ⟨sqT h1, sqT h2, fun D nD => ?_⟩⟩
          refine lc_it (walk_zipT (K := K) (a := p1) (b := p2) (xs := xs) (ys := ys) rfl) (fun i H' => Same H1 H' ∧ H' D = some (.lst (List.replicate i (.bl true)))) ⟨same_upd nD, upd_same⟩ ?_ ?_ ?_
          · rintro i H' _ ⟨sm, _⟩
            exact ⟨sqT (sm _ _ h1), sqT (sm _ _ h2)⟩
          · rintro i x H2 H3 hi ⟨sm, hD⟩ ⟨T, x1, y1, rfl, nT, rfl, hx, hy⟩
            have s3 := sm.trans (same_upd (o := .tup [x1, y1]) nT)
            have hD3 := same_upd (o := .tup [x1, y1]) nT _ _ hD
            refine ⟨T, _, rfl, sqT upd_same, rfl, _, _, rfl, _, _, rfl, rfl, rfl, ?_⟩
            unfold tYes
            refine iteT ⟨x1, rfl, y1, rfl, x1, y1, rfl, (hde i x1 y1 hx hy).same (s1.trans s3), fun H4 s4 => ⟨_, s4 _ _ hD3, by rw [List.length_replicate]; exact szl (by omega), fun c o e => ?_, ?_⟩⟩
            · rw [upd_ne (ne_of_none e nD)]
              exact s4 _ _ (s3 _ _ e)
            · rw [upd_same, List.replicate_succ']
          · rintro H2 ⟨sm, hD⟩
            refine ⟨D, List.replicate (min xs.length ys.length) true, rfl, sqL (by rw [hD, List.map_replicate]), ?_⟩
            rw [show (List.replicate (min xs.length ys.length) true).all id = true from List.all_eq_true.mpr fun x hx => (List.mem_replicate.mp hx).2]
            exact q _ (s1.trans sm)
end
end Tw
end
section
namespace Tw
open PySem PySem.Spec PyProof.Rows L2 LamX NdefX
section
variable {P : Program} {w : World} {K : PySem.W.Frag} {mg : Str → Option Value} {base : Heap} {C : Addr}
theorem scPo : FnScope ["_law_other", "_law_waste", "_law_found", "_law_thing", "_law_many", "_law_inner"] ["_law_other", "_law_waste"] (defScope sLPop) := ⟨rfl, rfl, rfl, by decide +kernel, rfl, by decide +kernel, by decide +kernel⟩
def spPo : Sp := fun vs H Q _ => ∃ (p1 p2 : Addr) (b waste : List Key), vs = [.ref p1, .ref p2] ∧ H p1 = some (.lst (b.map kV)) ∧ H p2 = some (.lst (waste.map kV)) ∧ b.length ≤ 1000 ∧
  ∀ H' p (L : List Key), Same H H' → H p = none → H' p = some (.lst (L.map kV)) → L.length ≤ 1000 → (∀ x, memB x L = (memB x b && popB b waste true x)) → Q (.ref p) H'
theorem ok_po {f : Addr} {fd : FuncData} {k : Nat} (F : Fun K "_law_popular" "_law_popular" sLPop f fd) (B : Bm mg) : FnOk P w K mg base CX0 (k + 1) f fd ["_law_other", "_law_waste"] spPo := by
  refine F.ok scPo (fun vs H Q E h => ?_) (fun cdv A outer s H vs Q E hr h => ?_)
  · obtain ⟨p1, p2, b, waste, rfl, _⟩ := h
    rfl
  · obtain ⟨p1, p2, b, waste, rfl, h1, h2, hb, q⟩ := h
    refine ⟨_, (pss_cons (ps_set (i := 2) scPo.nd rfl (.inl rfl) (pe_lst pa_nil))
      (pss_cons (ps_for PassesOwn.never rfl (pi_list (pe_ifExp (pt_cmpR op_ge (pe_callB call_len_seq (by rfl) B.len PySem.boot_len (pa_cons (pv 0) pa_nil)) pe_int (nomark _)) (pv 0) (pe_lst pa_nil))) (pg_name (i := 3) scPo.nd rfl (.inr rfl)) (pss_cons (ps_set (i := 4) scPo.nd rfl (.inl rfl) (pe_callB call_len_seq (by rfl) B.len PySem.boot_len (pa_cons (pe_lc (own := [("_law_inner", 5)]) (g := gName 5) (by rfl) scPo.nd (pi_list (pv 0)) (blkOk_by (own := [("_law_inner", 5)]) (N := ["_law_other", "_law_waste", "_law_found", "_law_thing", "_law_many", "_law_inner"]) (sc := defScope sLPop) (by decide +kernel)) (fun _ _ _ _ _ => (pg_name (i := 5) scPo.nd rfl (.inl rfl))) (fun _ _ _ _ _ => (pts_one (pt_cmpR op_eq (pv 5) (pv 3) (nomark _)))) (fun _ _ _ _ _ => (pv 5))) pa_nil)))
      (pss_one (ps_if (PW.pt (pw_and (pt_cmpR op_notIn_seq (pv 3) (pv 1) (by rfl)) (pw_and (pt_cmpR op_notIn_seq (pv 3) (pv 2) (by rfl)) (pw_and1 (pt_cmpR op_gt (pv 4) (pe_op op_add pe_int (pe_op op_fdiv (pe_callB call_len_seq (by rfl) B.len PySem.boot_len (pa_cons (pv 0) pa_nil)) pe_int)) (nomark _)))))) (pss_one (ps_expr (pe_bm PySem.F.plainAttrs_list PySem.F.slot_list_append PySem.F.type_list_append mt_append (pv 2) (pa_cons (pv 3) pa_nil)))) pss_nil))))
      (pss_one (ps_ret (pv 2))))), ?_⟩
    refine ⟨Nat.zero_le _, fun pf nf => ?_⟩
    have s1 := same_upd (o := .lst []) nf
    have f1 : (upd H pf (.lst [])) pf = some (.lst []) := upd_same
    generalize upd H pf (.lst []) = H1 at s1 f1
    refine ⟨.ref p1, rfl, p1, _, rfl, .inl (sqL (s1 _ _ h1)), _, _, rfl, rfl, _, rfl, ?_⟩
    rw [List.length_map]
    by_cases c2 : 200 ≤ b.length
    · rw [decide_eq_true (show (200 : Int) ≤ b.length by omega)]
      obtain ⟨pq, hpq⟩ : ∃ pq : Key → Bool, pq = fun x => !memB x waste && decide (b.length / 100 + 1 < cnt x b) := ⟨_, rfl⟩
      have hpo : ∀ x, popB b waste true x = pq x := fun x => by
        rw [hpq]
        show (true && (decide (200 ≤ b.length) && _)) = _
        rw [decide_eq_true c2]
        rfl
      refine iteT ⟨.ref p1, rfl, p1, rfl, ⟨_, sqL (s1 _ _ h1)⟩, ?_⟩
      refine for_list (K := K) (xs := b.map kV) (fun i σ H3 => ∃ (x3 x4 : Option V) (L : List Key), σ = [some (.ref p1), some (.ref p2), some (.ref pf), x3, x4, none] ∧ Same H H3 ∧ H3 pf = some (.lst (L.map kV)) ∧ L.length ≤ i ∧ ∀ x, memB x L = (memB x (b.take i) && pq x)) ?_ ?_ ?_ ?_
      · exact ⟨none, none, [], rfl, s1, f1, Nat.le_refl _, fun x => rfl⟩
      · rintro i σ H3 _ ⟨x3, x4, L, rfl, s3, _⟩
        exact sqL (s3 _ _ h1)
      · rintro i x σ H3 hx ⟨x3, x4, L, rfl, s3, hf, hL, hm⟩
        rw [List.getElem?_map] at hx
        obtain ⟨key, hk, rfl⟩ : ∃ key, b[i]? = some key ∧ kV key = x := by
          cases e : b[i]? with
          | none => rw [e] at hx; cases hx
          | some key => rw [e] at hx; exact ⟨key, rfl, Option.some.inj hx⟩
        have hi : i < b.length := (List.getElem?_eq_some_iff.mp hk).1
        have hup : ∀ x, (memB x (b.take (i + 1)) && pq x) = ((memB x (b.take i) && pq x) || (decide (key = x) && pq key)) := fun x => by
          rw [take_snoc hk, memB_snoc]
          by_cases e : key = x
          · rw [e, decide_eq_true rfl]
            cases memB x (b.take i) <;> cases pq x <;> rfl
          · rw [decide_eq_false e]
            cases memB x (b.take i) <;> cases pq x <;> rfl
        -- how often
        refine ⟨.ref p1, rfl, p1, rfl, ⟨_, sqL (s3 _ _ h1)⟩, fun D nD => ?_⟩
        refine lc_list (K := K) (a := p1) (xs := b.map kV) (fun j H' => Same H3 H' ∧ H' D = some (.lst (((b.take j).filter fun y => decide (y = key)).map kV))) ⟨same_upd nD, upd_same⟩ ?_ ?_ ?_
        · rintro j H' _ ⟨sm, _⟩
          exact sqL (sm _ _ (s3 _ _ h1))
        · rintro j y H4 hy ⟨sm, hD⟩
          rw [List.getElem?_map] at hy
          obtain ⟨ky, hky, rfl⟩ : ∃ ky, b[j]? = some ky ∧ kV ky = y := by
            cases e : b[j]? with
            | none => rw [e] at hy; cases hy
            | some ky => rw [e] at hy; exact ⟨ky, rfl, Option.some.inj hy⟩
          refine ⟨rfl, ?_⟩
          refine ⟨kV ky, rfl, kV key, rfl, vK_scal ky key, _, rfl, ?_⟩
          rw [vK_eq, take_snoc hky, filter_snoc]
          by_cases c : ky = key
          · rw [decide_eq_true c]
            refine iteT ⟨kV ky, rfl, _, hD, by rw [List.length_map]; exact szl (Nat.le_trans (List.length_filter_le _ _) (by rw [List.length_take]; omega)), fun c o e => ?_, ?_⟩
            · rw [upd_ne (ne_of_none e nD)]
              exact sm _ _ e
            · rw [upd_same, if_pos rfl, List.map_append]
              rfl
          · rw [decide_eq_false c]
            refine iteF ⟨sm, ?_⟩
            rw [if_neg Bool.false_ne_true]
            exact hD
        · rintro H4 ⟨sm, hD⟩
          rw [List.length_map, List.take_of_length_le (Nat.le_refl _)] at hD
          have s4 := s3.trans sm
          have f4 := sm _ _ hf
          refine ⟨D, _, rfl, .inl (sqL hD), ?_⟩
          rw [List.length_map]
          -- the test
          refine ⟨kV key, rfl, .ref p2, rfl, p2, _, rfl, .inl (sqL (s4 _ _ h2)), flat_vK key, flat_all waste, _, rfl, ?_⟩
          rw [show (if true = true then !inV (kV key) (waste.map kV) else inV (kV key) (waste.map kV)) = !memB key waste by rw [if_pos rfl, inV_vK]]
          have skip : (∀ x, memB x L = (memB x (b.take (i + 1)) && pq x)) → ∃ (y3 y4 : Option V) (L' : List Key), ([some (.ref p1), some (.ref p2), some (.ref pf), some (kV key), some (vN (cnt key b)), none] : L2.St) = [some (.ref p1), some (.ref p2), some (.ref pf), y3, y4, none] ∧ Same H H4 ∧ H4 pf = some (.lst (L'.map kV)) ∧ L'.length ≤ i + 1 ∧ ∀ x, memB x L' = (memB x (b.take (i + 1)) && pq x) := fun z =>
            ⟨_, _, L, rfl, s4, f4, by omega, z⟩
          have noq : pq key = false → ∀ x, memB x L = (memB x (b.take (i + 1)) && pq x) := fun z x => by
            rw [hup, z, Bool.and_false, Bool.or_false]
            exact hm x
          by_cases c3 : memB key waste = true
          · rw [c3]
            exact iteF (iteF (skip (noq (by rw [hpq]; show (!memB key waste && _) = false; rw [c3]; rfl))))
          · rw [Bool.eq_false_iff.mpr c3]
            refine iteT ⟨kV key, rfl, .ref pf, rfl, pf, _, rfl, .inl (sqL f4), flat_vK key, flat_all L, _, rfl, ?_⟩
            rw [show (if true = true then !inV (kV key) (L.map kV) else inV (kV key) (L.map kV)) = !memB key L by rw [if_pos rfl, inV_vK]]
            by_cases c4 : memB key L = true
            · rw [c4]
              refine iteF (iteF (skip fun x => ?_))
              have hk4 := hm key
              rw [c4] at hk4
              rw [hup, hm x]
              by_cases e : key = x
              · rw [← e, ← hk4]
                rfl
              · rw [decide_eq_false e, Bool.false_and, Bool.or_false]
            · rw [Bool.eq_false_iff.mpr c4]
              refine iteT ⟨_, rfl, .ref p1, rfl, p1, _, rfl, .inl (sqL (s4 _ _ h1)), _, _, rfl, rfl, ⟨by decide, by decide⟩, _, _, rfl, rfl, _, _, rfl, rfl, _, rfl, ?_⟩
              rw [List.length_map]
              have e5 : pq key = decide (b.length / 100 + 1 < cnt key b) := by
                rw [hpq]
                show (!memB key waste && _) = _
                rw [Bool.eq_false_iff.mpr c3]
                rfl
              by_cases c5 : b.length / 100 + 1 < cnt key b
              · rw [decide_eq_true (show 1 + (b.length : Int) / 100 < ((b.filter fun y => decide (y = key)).length : Nat) by show _ < ((cnt key b : Nat) : Int); omega)]
                rw [decide_eq_true c5] at e5
                refine iteT ⟨.ref pf, rfl, .inl ⟨rfl, _, sqL f4⟩, kV key, rfl, pf, _, _, rfl, rfl, f4, by rw [List.length_map]; exact szl (by omega), ?_⟩
                refine ⟨_, _, L ++ [key], rfl, fun c o e => ?_, by rw [upd_same, List.map_append]; rfl, by rw [List.length_append, List.length_singleton]; omega, fun x => ?_⟩
                · rw [upd_ne (ne_of_none e nf)]
                  exact s4 _ _ e
                · rw [hup, memB_snoc, hm x, e5, Bool.and_true]
              · rw [decide_eq_false (show ¬ 1 + (b.length : Int) / 100 < ((b.filter fun y => decide (y = key)).length : Nat) by show ¬ _ < ((cnt key b : Nat) : Int); omega)]
                exact iteF (skip (noq (by rw [e5, decide_eq_false c5])))
      · rintro σ H3 ⟨x3, x4, L, rfl, s3, hf, hL, hm⟩
        rw [List.length_map] at hL
        refine ⟨_, rfl, q H3 pf L s3 nf hf (by omega) fun x => ?_⟩
        rw [hm x, hpo x, List.length_map, List.take_of_length_le (Nat.le_refl _)]
    · rw [decide_eq_false (show ¬ (200 : Int) ≤ b.length by omega)]
      refine iteF ⟨Nat.zero_le _, fun pe ne => ?_⟩
      have s2 := same_upd (o := .lst []) ne
      have he : (upd H1 pe (.lst [])) pe = some (.lst []) := upd_same
      generalize upd H1 pe (.lst []) = H2 at s2 he
      refine ⟨pe, rfl, ⟨[], sqL he⟩, ?_⟩
      refine for_list (K := K) (xs := []) (fun i σ H3 => σ = [some (.ref p1), some (.ref p2), some (.ref pf), none, none, none] ∧ H3 = H2) ⟨rfl, rfl⟩ ?_ ?_ ?_
      · rintro i σ H3 _ ⟨rfl, rfl⟩
        exact sqL he
      · rintro i x σ H3 hx _
        simp at hx
      · rintro σ H3 ⟨rfl, rfl⟩
        refine ⟨_, rfl, q H3 pf [] (s1.trans s2) nf (s2 _ _ f1) (Nat.zero_le _) fun x => ?_⟩
        have z : popB b waste true x = false := by
          unfold popB
          rw [decide_eq_false c2]
          rfl
        rw [z, Bool.and_false]
        rfl
end
end Tw
end
section
namespace Tw
open PySem PySem.Spec PyProof.Rows L2 LamX NdefX
section
variable {M : Nat → Nat → Bool} {R : Rg}
/-- what has been seen: all behind row e, in row e all from g on -/
def PP (R : Rg) (e g e' f' : Nat) : Prop := (e < e' ∨ (e' = e ∧ g ≤ f')) ∧ e' < R.hi ∧ R.lo2 ≤ f' ∧ f' < R.hi2
def BelowOk (M : Nat → Nat → Bool) (R : Rg) (kv : List (Key × V)) (e : Nat) : Prop := ∀ f, R.lo2 ≤ f → f ≤ R.hi2 → (valV kv (.inl (f : Int))).getD (.int 0) = vN (hd M R.hi R.hi2 e f)
structure RowOk (M : Nat → Nat → Bool) (R : Rg) (kv : List (Key × V)) (e g : Nat) : Prop where
  yes : ∀ f, g ≤ f → f ≤ R.hi2 → (valV kv (.inl (f : Int))).getD (.int 0) = vN (hd M R.hi R.hi2 e f)
  no : ∀ f : Nat, f < g → valV kv (.inl (f : Int)) = none
  len : kv.length + g ≤ R.hi2
theorem RowOk.start {e : Nat} : RowOk M R [] e R.hi2 := ⟨fun f h1 h2 => by rw [valV_nil, hd_no (by omega)]; rfl, fun _ _ => rfl, by simp⟩
theorem RowOk.skip {kv : List (Key × V)} {e f : Nat} (h : RowOk M R kv e (f + 1)) (hz : hd M R.hi R.hi2 e f = 0) : RowOk M R kv e f :=
  ⟨fun f' h1 h2 => by
    by_cases c : f' = f
    · rw [c, h.no f (by omega), hz]; rfl
    · exact h.yes f' (by omega) h2, fun f' h1 => h.no f' (by omega), by have := h.len; omega⟩
theorem RowOk.put {kv : List (Key × V)} {e f : Nat} (h : RowOk M R kv e (f + 1)) : RowOk M R (putK kv (.inl (f : Int)) (vN (hd M R.hi R.hi2 e f))) e f := by
  refine ⟨fun f' h1 h2 => ?_, fun f' h1 => ?_, ?_⟩
  · rw [valV_put]
    by_cases c : f' = f
    · rw [c, if_pos rfl]; rfl
    · rw [if_neg (fun z => c (by have := Sum.inl.inj z; omega))]
      exact h.yes f' (by omega) h2
  · rw [valV_put, if_neg (fun z => by have := Sum.inl.inj z; omega)]
    exact h.no f' (by omega)
  · have := length_putK kv (.inl (f : Int)) (vN (hd M R.hi R.hi2 e f))
    have := h.len
    omega
end
section
variable {P : Program} {w : World} {K : PySem.W.Frag} {mg : Str → Option Value} {base : Heap} {C : Addr}
theorem scBe : FnScope ["_law_one", "_law_other", "_law_bounds", "_law_skipped", "_law_low", "_law_high", "_law_low2", "_law_high2", "_law_best_here", "_law_below", "_law_i", "_law_row", "_law_j"] ["_law_one", "_law_other", "_law_bounds", "_law_skipped"] (defScope sLBest) := ⟨rfl, rfl, rfl, by decide +kernel, rfl, by decide +kernel, by decide +kernel⟩
def spBe : Sp := fun vs H Q _ => ∃ (p1 p2 pr ps : Addr) (a b skl : List Key) (R : Rg), vs = [.ref p1, .ref p2, .ref pr, .ref ps] ∧ H p1 = some (.lst (a.map kV)) ∧ H p2 = some (.lst (b.map kV)) ∧ H pr = some (.tup (rgV R)) ∧ H ps = some (.lst (skl.map kV)) ∧
  R.wf ∧ R.hi ≤ a.length ∧ R.hi2 ≤ b.length ∧ a.length ≤ 1000 ∧ b.length ≤ 1000 ∧ ∀ H' p, Same H H' → H' p = some (.tup (bkV (best (mtB a b (fun x => memB x skl)) R))) → Q (.ref p) H'
theorem ok_be {f : Addr} {fd : FuncData} {k : Nat} (F : Fun K "_law_best" "_law_best" sLBest f fd) (B : Bm mg) : FnOk P w K mg base CX0 (k + 1) f fd ["_law_one", "_law_other", "_law_bounds", "_law_skipped"] spBe := by
  refine F.ok scBe (fun vs H Q E h => ?_) (fun cdv A outer s H vs Q E hr h => ?_)
  · obtain ⟨p1, p2, pr, ps, a, b, skl, R, rfl, _⟩ := h
    rfl
  · obtain ⟨p1, p2, pr, ps, a, b, skl, R, rfl, h1, h2, h3, h4, wf, z1, z2, z3, z4, q⟩ := h
    refine ⟨_, (pss_cons (ps_asg (pv 2) (pg_tup rfl (pgs_cons (pg_name (i := 4) scBe.nd rfl (.inl rfl)) (pgs_cons (pg_name (i := 5) scBe.nd rfl (.inl rfl)) (pgs_cons (pg_name (i := 6) scBe.nd rfl (.inl rfl)) (pgs_cons (pg_name (i := 7) scBe.nd rfl (.inl rfl)) pgs_nil))))))
      (pss_cons (ps_par (by rfl) scBe.nd (i := 8) (j := 9) rfl rfl (by decide) rfl rfl (pa_cons (pe_tup (pa_cons (pv 4) (pa_cons (pv 6) (pa_cons pe_int pa_nil)))) (pa_cons pe_dnewK pa_nil)) (by rfl))
      (pss_cons (ps_for PassesOwn.never rfl (pi_range3 (by rfl) B.range (pa_cons (pe_op op_sub (pv 5) pe_int) (pa_cons (pe_op op_sub (pv 4) pe_int) (pa_cons (pe_un un_neg pe_int) pa_nil)))) (pg_name (i := 10) scBe.nd rfl (.inl rfl)) (pss_cons (ps_set (i := 11) scBe.nd rfl (.inl rfl) pe_dnewK)
      (pss_cons (ps_for PassesOwn.never rfl (pi_range3 (by rfl) B.range (pa_cons (pe_op op_sub (pv 7) pe_int) (pa_cons (pe_op op_sub (pv 6) pe_int) (pa_cons (pe_un un_neg pe_int) pa_nil)))) (pg_name (i := 12) scBe.nd rfl (.inl rfl)) (pss_one (ps_if (PW.pt (pw_and (pt_cmpR op_eq (pe_ix ix_list (pv 0) (pv 10) (fun _ _ => rfl)) (pe_ix ix_list (pv 1) (pv 12) (fun _ _ => rfl)) (nomark _)) (pw_and1 (pt_cmpR op_notIn_seq (pe_ix ix_list (pv 0) (pv 10) (fun _ _ => rfl)) (pv 3) (by rfl))))) (pss_cons (ps_dput (hu_of hr) (pv 11) (pv 12) (pe_op op_add pe_int (pe_dget2 (hu_of hr) (pv 9) (pe_op op_add (pv 12) pe_int) pe_int ⟨rfl, rfl, rfl, rfl⟩)) rfl)
      (pss_one (ps_if (pt_cmpR op_ge (pe_dget (hu_of hr) (pv 11) (pv 12) (fun _ _ => rfl)) (pe_ix ix_tup (pv 8) pe_int (fun _ _ => rfl)) (nomark _)) (pss_one (ps_set (i := 8) scBe.nd rfl (.inl rfl) (pe_tup (pa_cons (pv 10) (pa_cons (pv 12) (pa_cons (pe_dget (hu_of hr) (pv 11) (pv 12) (fun _ _ => rfl)) pa_nil)))))) pss_nil))) pss_nil)))
      (pss_one (ps_set (i := 9) scBe.nd rfl (.inl rfl) (pv 11))))))
      (pss_one (ps_ret (pv 8)))))), ?_⟩
    have wf1 : R.lo ≤ R.hi := wf.1
    have wf2 : R.lo2 ≤ R.hi2 := wf.2
    generalize hM : mtB a b (fun x => memB x skl) = M at q
    refine ⟨.ref pr, rfl, pr, _, rfl, sqT h3, rfl, vN R.lo, _, rfl, vN R.hi, _, rfl, vN R.lo2, _, rfl, vN R.hi2, _, rfl, rfl, ?_⟩
    -- best, below
    refine ⟨vN R.lo, rfl, vN R.lo2, rfl, by show 3 ≤ sizeLine; decide, fun pb nb => ?_⟩
    have s1 := same_upd (o := .tup (bkV (R.lo, R.lo2, 0))) nb
    have e1 : (upd H pb (.tup (bkV (R.lo, R.lo2, 0)))) pb = some (.tup (bkV (R.lo, R.lo2, 0))) := upd_same
    show _
    generalize hH1 : upd H pb (.tup (bkV (R.lo, R.lo2, 0))) = H1
    rw [hH1] at s1 e1
    have hH1' : upd H pb (.tup [vN R.lo, vN R.lo2, .int 0]) = H1 := hH1
    rw [hH1']
    clear hH1 hH1'
    intro pw0 nw0
    have s2 := s1.trans (same_upd (o := .dK []) nw0)
    have e2 := same_upd (o := .dK []) nw0 _ _ e1
    have e3 : (upd H1 pw0 (.dK [])) pw0 = some (.dK []) := upd_same
    generalize upd H1 pw0 (.dK []) = H2 at s2 e2 e3
    have rg : ∀ lo hi : Nat, lo ≤ hi → hi ≤ 1000 → RgC ((hi : Int) - 1) ((lo : Int) - 1) (-1) (hi - lo) := fun lo hi a1 a2 => by
      have z := RgC.neg (i := (hi : Int) - 1) (j := (lo : Int) - 1) (by omega) (by omega) (by omega) (by omega)
      rw [show ((hi : Int) - 1 - ((lo : Int) - 1)).toNat = hi - lo by omega] at z
      exact z
    refine ⟨_, _, rfl, vN R.hi, rfl, _, _, rfl, rfl, vN R.lo, rfl, _, _, rfl, rfl, _, rfl, (R.hi : Int) - 1, (R.lo : Int) - 1, -1, R.hi - R.lo, rfl, rg R.lo R.hi wf1 (by omega), ?_⟩
    refine for_rangeC (lo := (R.hi : Int) - 1) (c := -1) (n := R.hi - R.lo) (fun mm σ H3 => ∃ (pb pw : Addr) (bi bj bn : Nat) (kv : List (Key × V)) (x10 x11 x12 : Option V), σ = [some (.ref p1), some (.ref p2), some (.ref pr), some (.ref ps), some (vN R.lo), some (vN R.hi), some (vN R.lo2), some (vN R.hi2), some (.ref pb), some (.ref pw), x10, x11, x12] ∧ Same H H3 ∧
      H3 pb = some (.tup (bkV (bi, bj, bn))) ∧ H3 pw = some (.dK kv) ∧ BelowOk M R kv (R.hi - mm) ∧ BQ M R (PP R (R.hi - mm) R.lo2) bi bj bn) ?_ ?_ ?_
    · exact ⟨pb, pw0, R.lo, R.lo2, 0, [], none, none, none, rfl, s2, e2, e3, fun f _ _ => by rw [valV_nil, hd_no (by omega)]; rfl, BQ.start fun e f hp => by
        obtain ⟨c1, c2, _⟩ := hp
        omega⟩
    · rintro mm σ H3 hmm ⟨pb, pw, bi, bj, bn, kv, x10, x11, x12, rfl, s3, hb, hw, hB, hQ⟩
      obtain ⟨e, he⟩ : ∃ e, R.hi = e + 1 + mm := ⟨R.hi - mm - 1, by omega⟩
      have he1 : R.hi - mm = e + 1 := by omega
      have he2 : R.hi - (mm + 1) = e := by omega
      have he3 : R.lo ≤ e := by omega
      rw [he1] at hB hQ
      rw [he2]
      rw [show ((R.hi : Int) - 1 + ((mm : Nat) : Int) * (-1)) = (e : Int) by omega]
      have ea : e < a.length := by omega
      have g1 := List.getElem?_eq_getElem ea
      generalize a[e] = x at g1
      -- row = {}
      intro pf nf
      have s4 := same_upd (o := .dK []) nf
      have hf : (upd H3 pf (.dK [])) pf = some (.dK []) := upd_same
      have nfH : H pf = none := s3.free nf
      have nfw : pf ≠ pw := fun z => by rw [z, hw] at nf; cases nf
      have hb4 := s4 _ _ hb
      have hw4 := s4 _ _ hw
      have s5 := s3.trans s4
      generalize upd H3 pf (.dK []) = H4 at s4 hf hb4 hw4 s5
      refine ⟨vN R.hi2, rfl, _, _, rfl, rfl, vN R.lo2, rfl, _, _, rfl, rfl, _, rfl, (R.hi2 : Int) - 1, (R.lo2 : Int) - 1, -1, R.hi2 - R.lo2, rfl, rg R.lo2 R.hi2 wf2 (by omega), ?_⟩
      refine for_rangeC (lo := (R.hi2 : Int) - 1) (c := -1) (n := R.hi2 - R.lo2) (fun m2 σ H5 => ∃ (pb : Addr) (bi bj bn : Nat) (kf : List (Key × V)) (x12 : Option V), σ = [some (.ref p1), some (.ref p2), some (.ref pr), some (.ref ps), some (vN R.lo), some (vN R.hi), some (vN R.lo2), some (vN R.hi2), some (.ref pb), some (.ref pw), some (vN e), some (.ref pf), x12] ∧ Same H H5 ∧
        H5 pb = some (.tup (bkV (bi, bj, bn))) ∧ H5 pw = some (.dK kv) ∧ H5 pf = some (.dK kf) ∧ RowOk M R kf e (R.hi2 - m2) ∧ BQ M R (PP R e (R.hi2 - m2)) bi bj bn) ?_ ?_ ?_
      · refine ⟨pb, bi, bj, bn, [], _, rfl, s5, hb4, hw4, hf, RowOk.start, hQ.more (fun e' f' hp => ?_) fun e' f' hp => .inl ?_⟩
        · obtain ⟨c1, c2⟩ := hp
          exact ⟨.inl (by omega), c2⟩
        · obtain ⟨c1, c2, c3, c4⟩ := hp
          exact ⟨by omega, c2, c3, c4⟩
      · rintro m2 σ H5 hm2 ⟨pb, bi, bj, bn, kf, x12, rfl, s6, hb5, hw5, hf5, hR, hQ5⟩
        obtain ⟨f, hf0⟩ : ∃ f, R.hi2 = f + 1 + m2 := ⟨R.hi2 - m2 - 1, by omega⟩
        have hf1 : R.hi2 - m2 = f + 1 := by omega
        have hf2 : R.hi2 - (m2 + 1) = f := by omega
        have hf3 : R.lo2 ≤ f := by omega
        rw [hf1] at hR hQ5
        rw [hf2]
        rw [show ((R.hi2 : Int) - 1 + ((m2 : Nat) : Int) * (-1)) = (f : Int) by omega]
        have fb : f < b.length := by omega
        have g2 := List.getElem?_eq_getElem fb
        generalize b[f] = y at g2
        have eM : M e f = (decide (x = y) && !memB x skl) := by rw [← hM]; exact mtB_at g1 g2
        have grow : ∀ e' f', PP R e (f + 1) e' f' → PP R e f e' f' := fun e' f' ⟨c1, c2⟩ => ⟨by omega, c2⟩
        have only : ∀ e' f', PP R e f e' f' → PP R e (f + 1) e' f' ∨ (e' = e ∧ f' = f) := fun e' f' ⟨c1, c2⟩ => by
          by_cases c : e' = e ∧ f' = f
          · exact .inr c
          · exact .inl ⟨by omega, c2⟩
        have skip : M e f = false → ∃ (pb' : Addr) (bi bj bn : Nat) (kf : List (Key × V)) (y12 : Option V), ([some (.ref p1), some (.ref p2), some (.ref pr), some (.ref ps), some (vN R.lo), some (vN R.hi), some (vN R.lo2), some (vN R.hi2), some (.ref pb), some (.ref pw), some (vN e), some (.ref pf), some (vN f)] : L2.St) =
            [some (.ref p1), some (.ref p2), some (.ref pr), some (.ref ps), some (vN R.lo), some (vN R.hi), some (vN R.lo2), some (vN R.hi2), some (.ref pb'), some (.ref pw), some (vN e), some (.ref pf), y12] ∧ Same H H5 ∧ H5 pb' = some (.tup (bkV (bi, bj, bn))) ∧ H5 pw = some (.dK kv) ∧ H5 pf = some (.dK kf) ∧ RowOk M R kf e f ∧ BQ M R (PP R e f) bi bj bn := fun hz => by
          have hz0 : hd M R.hi R.hi2 e f = 0 := hd_no (by rw [hz]; simp)
          exact ⟨pb, bi, bj, bn, kf, _, rfl, s6, hb5, hw5, hf5, hR.skip hz0, hQ5.more grow fun e' f' hp => (only e' f' hp).imp id fun ⟨u, v⟩ => by rw [u, v]; exact hz0⟩
        refine ⟨.ref p1, rfl, vN e, rfl, p1, _, (e : Int), kV x, rfl, rfl, sqL (s6 _ _ h1), atI_nat (map_at g1), .ref p2, rfl, vN f, rfl, p2, _, (f : Int), kV y, rfl, rfl, sqL (s6 _ _ h2), atI_nat (map_at g2), vK_scal x y, _, rfl, ?_⟩
        rw [vK_eq]
        by_cases c1 : x = y
        · rw [decide_eq_true c1] at eM ⊢
          refine iteT ⟨.ref p1, rfl, vN e, rfl, p1, _, (e : Int), kV x, rfl, rfl, sqL (s6 _ _ h1), atI_nat (map_at g1), .ref ps, rfl, ps, _, rfl, .inl (sqL (s6 _ _ h4)), flat_vK x, flat_all skl, _, rfl, ?_⟩
          rw [show (if true = true then !inV (kV x) (skl.map kV) else inV (kV x) (skl.map kV)) = !memB x skl by rw [if_pos rfl, inV_vK]]
          by_cases c2 : memB x skl = true
          · rw [c2] at eM ⊢
            exact iteF (skip eM)
          · rw [Bool.eq_false_iff.mpr c2] at eM ⊢
            have hy := hd_yes (M := M) (hi := R.hi) (hi2 := R.hi2) (show e < R.hi by omega) (show f < R.hi2 by omega) eM
            -- row[j] = 1 + below.get(j + 1, 0)
            refine iteT ⟨.ref pw, rfl, pw, rfl, .inl ⟨kv, .inl hw5⟩, vN f, rfl, _, _, rfl, rfl, valV kv (.inl ((f + 1 : Nat) : Int)), .inl ⟨kv, .inl ((f + 1 : Nat) : Int), .inl hw5, rfl, rfl⟩, ?_⟩
            rw [hB (f + 1) (by omega) (by omega)]
            have ev : V.int (1 + ((hd M R.hi R.hi2 (e + 1) (f + 1) : Nat) : Int)) = vN (hd M R.hi R.hi2 e f) := by
              rw [hy]
              show V.int _ = V.int _
              congr 1
              omega
            refine ⟨_, _, rfl, rfl, .ref pf, rfl, vN f, rfl, pf, upd H5 pf (.dK (putK kf (.inl (f : Int)) (vN (hd M R.hi R.hi2 e f)))), rfl, (by
              show DPut H5 pf (kV (.inl (f : Int))) (V.int (1 + ((hd M R.hi R.hi2 (e + 1) (f + 1) : Nat) : Int))) _
              rw [ev]
              exact DPut.k (k := .inl (f : Int)) hf5 (szl (by have := hR.len; omega))), ?_⟩
            have kp : ∀ c o, H5 c = some o → c ≠ pf → (upd H5 pf (.dK (putK kf (.inl (f : Int)) (vN (hd M R.hi R.hi2 e f))))) c = some o := fun c o e n => by rw [upd_ne n]; exact e
            have hf6 : (upd H5 pf (.dK (putK kf (.inl (f : Int)) (vN (hd M R.hi R.hi2 e f))))) pf = some (.dK (putK kf (.inl (f : Int)) (vN (hd M R.hi R.hi2 e f)))) := upd_same
            generalize (upd H5 pf (.dK (putK kf (.inl (f : Int)) (vN (hd M R.hi R.hi2 e f))))) = H6 at kp hf6
            have s7 : Same H H6 := fun c o z => kp _ _ (s6 _ _ z) (ne_of_none z nfH)
            have hb6 := kp _ _ hb5 (fun z => by rw [z, hf5] at hb5; cases hb5)
            have hw6 := kp _ _ hw5 nfw.symm
            have hR6 : RowOk M R (putK kf (.inl (f : Int)) (vN (hd M R.hi R.hi2 e f))) e f := hR.put
            have got : valV (putK kf (.inl (f : Int)) (vN (hd M R.hi R.hi2 e f))) (.inl (f : Int)) = some (vN (hd M R.hi R.hi2 e f)) := by rw [valV_put, if_pos rfl]
            obtain ⟨w1, w2⟩ := hQ5.step (e := e) (f := f) (P' := PP R e f) (fun e' f' ⟨c1, c2⟩ => by omega) grow ⟨.inr ⟨rfl, Nat.le_refl _⟩, by omega, hf3, by omega⟩ only (by omega)
            refine ⟨.ref pf, rfl, vN f, rfl, pf, _, rfl, .inl ⟨_, .inl (f : Int), .inl hf6, rfl, got.symm⟩, .ref pb, rfl, pb, _, 2, vN bn, rfl, rfl, sqT hb6, atI_nat (j := 2) rfl, _, _, rfl, rfl, _, rfl, ?_⟩
            by_cases c3 : bn ≤ hd M R.hi R.hi2 e f
            · rw [decide_eq_true (show ((bn : Nat) : Int) ≤ ((hd M R.hi R.hi2 e f : Nat) : Int) by omega)]
              refine iteT ⟨vN e, rfl, vN f, rfl, .ref pf, rfl, vN f, rfl, pf, _, rfl, .inl ⟨_, .inl (f : Int), .inl hf6, rfl, got.symm⟩, by show 3 ≤ sizeLine; decide, fun pn nn => ?_⟩
              have s8 := same_upd (o := .tup (bkV (e, f, hd M R.hi R.hi2 e f))) nn
              exact ⟨pn, e, f, _, _, _, rfl, s7.trans s8, upd_same, s8 _ _ hw6, s8 _ _ hf6, hR6, w1 c3⟩
            · rw [decide_eq_false (show ¬ ((bn : Nat) : Int) ≤ ((hd M R.hi R.hi2 e f : Nat) : Int) by omega)]
              exact iteF ⟨pb, bi, bj, bn, _, _, rfl, s7, hb6, hw6, hf6, hR6, w2 c3⟩
        · rw [decide_eq_false c1] at eM ⊢
          exact iteF (iteF (skip eM))
      · rintro σ H5 ⟨pb, bi, bj, bn, kf, x12, rfl, s6, hb5, hw5, hf5, hR, hQ5⟩
        rw [show R.hi2 - (R.hi2 - R.lo2) = R.lo2 by omega] at hR hQ5
        exact ⟨_, rfl, pb, pf, bi, bj, bn, kf, _, _, _, rfl, s6, hb5, hf5, hR.yes, hQ5⟩
    · rintro σ H3 ⟨pb, pw, bi, bj, bn, kv, x10, x11, x12, rfl, s3, hb, hw, hB, hQ⟩
      rw [show R.hi - (R.hi - R.lo) = R.lo by omega] at hQ
      have bb := hQ.best wf (fun e f ⟨c1, c2, c3, c4⟩ => ⟨by omega, c3⟩) (fun e f c1 c2 c3 c4 => ⟨by omega, c3, c2, c4⟩)
      refine ⟨_, rfl, q H3 pb s3 ?_⟩
      rw [best_eq bb]
      exact hb
end
end Tw
end
section
namespace Tw
open PySem PySem.Spec PyProof.Rows L2 LamX NdefX
abbrev sL18 (p1 p2 pr pw po : Addr) (lo hi lo2 hi2 i j n : Nat) (qj : Bool) : L2.St := [some (.ref p1), some (.ref p2), some (.ref pr), some (.ref pw), some (.ref po), some (vN lo), some (vN hi), some (vN lo2), some (vN hi2), some (vN i), some (vN j), some (vN n), some (.bl qj)]
section
variable {P : Program} {w : World} {K : PySem.W.Frag} {mg : Str → Option Value} {base : Heap} {C : Addr}
theorem scLo : FnScope ["_law_one", "_law_other", "_law_bounds", "_law_waste", "_law_often", "_law_low", "_law_high", "_law_low2", "_law_high2", "_law_i", "_law_j", "_law_many", "_law_by_junk"] ["_law_one", "_law_other", "_law_bounds", "_law_waste", "_law_often"] (defScope sLLong) := ⟨rfl, rfl, rfl, by decide +kernel, rfl, by decide +kernel, by decide +kernel⟩
def spLo : Sp := fun vs H Q _ => ∃ (p1 p2 pr pw po : Addr) (a b waste often : List Key) (R : Rg), vs = [.ref p1, .ref p2, .ref pr, .ref pw, .ref po] ∧ H p1 = some (.lst (a.map kV)) ∧ H p2 = some (.lst (b.map kV)) ∧ H pr = some (.tup (rgV R)) ∧ H pw = some (.lst (waste.map kV)) ∧ H po = some (.lst (often.map kV)) ∧
  R.wf ∧ R.hi ≤ a.length ∧ R.hi2 ≤ b.length ∧ a.length ≤ 1000 ∧ b.length ≤ 1000 ∧ waste.length ≤ 1000 ∧ often.length ≤ 1000 ∧ ∀ H' p, Same H H' → H' p = some (.tup (bkV (lmS a b (wsB waste) (fun x => memB x (waste ++ often)) R))) → Q (.ref p) H'
theorem ok_lo {f fBe : Addr} {fd fdBe : FuncData} {k : Nat} (F : Fun K "_law_longest" "_law_longest" sLLong f fd) (B : Bm mg) (FBe : Fun K "_law_best" "_law_best" sLBest fBe fdBe) (bBe : Binds K fdBe ["_law_one", "_law_other", "_law_bounds", "_law_skipped"] []) (gBe : mg "_law_best" = some (.ref fBe)) :
    FnOk P w K mg base CX0 (k + 2) f fd ["_law_one", "_law_other", "_law_bounds", "_law_waste", "_law_often"] spLo := by
  have GBe : FnOk P w K mg base CX0 (k + 1) fBe fdBe ["_law_one", "_law_other", "_law_bounds", "_law_skipped"] spBe := ok_be FBe B
  refine F.ok scLo (fun vs H Q E h => ?_) (fun cdv A outer s H vs Q E hr h => ?_)
  · obtain ⟨p1, p2, pr, pw, po, a, b, waste, often, R, rfl, _⟩ := h
    rfl
  · obtain ⟨p1, p2, pr, pw, po, a, b, waste, often, ⟨lo, hi, lo2, hi2⟩, rfl, h1, h2, h3, h4, h5, wf, z1, z2, z3, z4, z5, z6, q⟩ := h
    refine ⟨_, (pss_cons (ps_asg (pv 2) (pg_tup rfl (pgs_cons (pg_name (i := 5) scLo.nd rfl (.inl rfl)) (pgs_cons (pg_name (i := 6) scLo.nd rfl (.inl rfl)) (pgs_cons (pg_name (i := 7) scLo.nd rfl (.inl rfl)) (pgs_cons (pg_name (i := 8) scLo.nd rfl (.inl rfl)) pgs_nil))))))
      (pss_cons (ps_asg (pe_call GBe (hr.mono (by omega)) (by rfl) gBe FBe.kp bBe .nil pass0 (pa_cons (pv 0) (pa_cons (pv 1) (pa_cons (pv 2) (pa_cons (pe_op op_cat (pv 3) (pv 4)) pa_nil))))) (pg_tup rfl (pgs_cons (pg_name (i := 9) scLo.nd rfl (.inl rfl)) (pgs_cons (pg_name (i := 10) scLo.nd rfl (.inl rfl)) (pgs_cons (pg_name (i := 11) scLo.nd rfl (.inl rfl)) pgs_nil)))))
      (pss_cons (ps_for PassesOwn.never rfl (pi_tup (pe_tup (pa_cons pe_bl (pa_cons pe_bl pa_nil)))) (pg_name (i := 12) scLo.nd rfl (.inl rfl)) (C8.pss_cut (ps_while PassesOwn.never (PW.pt (pw_and (pt_cmpR op_gt (pv 9) (pv 5) (nomark _)) (pw_and (pt_cmpR op_gt (pv 10) (pv 7) (nomark _)) (pw_and (pt_cmpR op_eq (pe_ix ix_list (pv 0) (pe_op op_sub (pv 9) pe_int) (fun _ _ => rfl)) (pe_ix ix_list (pv 1) (pe_op op_sub (pv 10) pe_int) (fun _ _ => rfl)) (nomark _)) (pw_and1 (pt_cmpR op_eq (pe_cmpR op_in_seq (pe_ix ix_list (pv 1) (pe_op op_sub (pv 10) pe_int) (fun _ _ => rfl)) (pv 3) (by rfl)) (pv 12) (nomark _))))))) (pss_one (ps_par3 (by rfl) scLo.nd (i := 9) (j := 10) (l := 11) rfl rfl rfl (by decide) (by decide) (by decide) rfl rfl rfl (pa_cons (pe_op op_sub (pv 9) pe_int) (pa_cons (pe_op op_sub (pv 10) pe_int) (pa_cons (pe_op op_add (pv 11) pe_int) pa_nil))) (by rfl))))
      (pss_one (ps_while PassesOwn.never (PW.pt (pw_and (pt_cmpR op_lt (pe_op op_add (pv 9) (pv 11)) (pv 6) (nomark _)) (pw_and (pt_cmpR op_lt (pe_op op_add (pv 10) (pv 11)) (pv 8) (nomark _)) (pw_and1 (pt_cmpR op_eq (pe_ix ix_list (pv 0) (pe_op op_add (pv 9) (pv 11)) (fun _ _ => rfl)) (pe_ix ix_list (pv 1) (pe_op op_add (pv 10) (pv 11)) (fun _ _ => rfl)) (nomark _)))))) (pss_cons (ps_if (pt_cmpR op_ne (pe_cmpR op_in_seq (pe_ix ix_list (pv 1) (pe_op op_add (pv 10) (pv 11)) (fun _ _ => rfl)) (pv 3) (by rfl)) (pv 12) (nomark _)) (pss_one ps_break) pss_nil)
      (pss_one (ps_set (i := 11) scLo.nd rfl (.inl rfl) (pe_op op_add (pv 11) pe_int))))))))
      (pss_one (ps_ret (pe_tup (pa_cons (pv 9) (pa_cons (pv 10) (pa_cons (pv 11) pa_nil))))))))), ?_⟩
    simp only at z1 z2
    -- the bounds
    refine ⟨.ref pr, rfl, pr, _, rfl, sqT h3, rfl, vN lo, _, rfl, vN hi, _, rfl, vN lo2, _, rfl, vN hi2, _, rfl, rfl, ?_⟩
    refine ⟨.ref p1, rfl, .ref p2, rfl, .ref pr, rfl, .ref pw, rfl, .ref po, rfl, pw, po, _, _, rfl, rfl, h4, h5, by rw [List.length_map, List.length_map]; exact szL (by omega), fun pc nc => ?_⟩
    have s1 := same_upd (o := .lst (waste.map kV ++ often.map kV)) nc
    have hc : (upd H pc (.lst (waste.map kV ++ often.map kV))) pc = some (.lst ((waste ++ often).map kV)) := by rw [upd_same, List.map_append]
    generalize (upd H pc (.lst (waste.map kV ++ often.map kV))) = H1 at s1 hc
    refine ⟨p1, p2, pr, pc, a, b, waste ++ often, ⟨lo, hi, lo2, hi2⟩, rfl, s1 _ _ h1, s1 _ _ h2, s1 _ _ h3, hc, wf, z1, z2, z3, z4, fun H2 pb s2 hb => ?_⟩
    generalize hsk : (fun x => memB x (waste ++ often)) = sk at hb q
    have E0 := mge a b sk (wsB waste)
    have bs := (best_spec (M := mtB a b sk) wf).run
    have i0 : InR (eqB a b) ⟨lo, hi, lo2, hi2⟩ (best (mtB a b sk) ⟨lo, hi, lo2, hi2⟩) := ⟨bs.1, bs.2.1, bs.2.2.1, bs.2.2.2.1, fun k hk => E0.m _ _ (bs.2.2.2.2 k hk)⟩
    obtain ⟨gs, hgs0, hgs1, hgs2⟩ : ∃ gs : Nat → Bk, gs 0 = best (mtB a b sk) ⟨lo, hi, lo2, hi2⟩ ∧ gs 1 = grow (gqB a b (wsB waste) false) ⟨lo, hi, lo2, hi2⟩ (gs 0) ∧ gs 2 = grow (gqB a b (wsB waste) true) ⟨lo, hi, lo2, hi2⟩ (gs 1) :=
      ⟨fun n => match n with
        | 0 => best (mtB a b sk) ⟨lo, hi, lo2, hi2⟩
        | 1 => grow (gqB a b (wsB waste) false) ⟨lo, hi, lo2, hi2⟩ (best (mtB a b sk) ⟨lo, hi, lo2, hi2⟩)
        | _ => grow (gqB a b (wsB waste) true) ⟨lo, hi, lo2, hi2⟩ (grow (gqB a b (wsB waste) false) ⟨lo, hi, lo2, hi2⟩ (best (mtB a b sk) ⟨lo, hi, lo2, hi2⟩)), rfl, rfl, rfl⟩
    have sH2 := s1.trans s2
    rw [← hgs0] at hb i0
    refine ⟨pb, _, rfl, sqT hb, rfl, _, _, rfl, _, _, rfl, _, _, rfl, rfl, ?_⟩
    -- the two ways
    refine ⟨by show 2 ≤ sizeLine; decide, fun pt nt => ⟨pt, rfl, ⟨_, sqT upd_same⟩, ?_⟩⟩
    have s3 := sH2.trans (same_upd (o := .tup [.bl false, .bl true]) nt)
    have ht : (upd H2 pt (.tup [.bl false, .bl true])) pt = some (.tup [.bl false, .bl true]) := upd_same
    generalize (upd H2 pt (.tup [.bl false, .bl true])) = H3 at s3 ht
    refine for_tup (K := K) (a := pt) (xs := [.bl false, .bl true]) (fun k σ H' => ∃ x12 : Option V, σ = [some (.ref p1), some (.ref p2), some (.ref pr), some (.ref pw), some (.ref po), some (vN lo), some (vN hi), some (vN lo2), some (vN hi2), some (vN (gs k).1), some (vN (gs k).2.1), some (vN (gs k).2.2), x12] ∧ H' = H3 ∧ InR (eqB a b) ⟨lo, hi, lo2, hi2⟩ (gs k)) ?_ ?_ ?_ ?_
    · exact ⟨none, rfl, rfl, i0⟩
    · rintro k σ H' _ ⟨x12, rfl, rfl, _⟩
      exact sqT ht
    · rintro k x σ H' hx ⟨x12, rfl, rfl, inr⟩
      obtain ⟨qj, rfl, hgs⟩ : ∃ qj : Bool, x = .bl qj ∧ gs (k + 1) = grow (gqB a b (wsB waste) qj) ⟨lo, hi, lo2, hi2⟩ (gs k) := by
        match k, hx with
        | 0, hx => exact ⟨false, (Option.some.inj hx).symm, hgs1⟩
        | 1, hx => exact ⟨true, (Option.some.inj hx).symm, hgs2⟩
      have inr' : InR (eqB a b) ⟨lo, hi, lo2, hi2⟩ (gs (k + 1)) := by rw [hgs]; exact (grow_in (E0.g qj) inr).1
      generalize hg1 : gs (k + 1) = g1 at hgs inr'
      generalize gs k = g0 at inr hgs
      obtain ⟨i0, j0, n0⟩ := g0
      obtain ⟨y1, y2, y3, y4, _⟩ := inr
      simp only at y1 y2 y3 y4
      have bl0 := back_le (G := gqB a b (wsB waste) qj) (lo := lo) (lo2 := lo2) i0 j0
      have k1 := s3 _ _ h1
      have k2 := s3 _ _ h2
      have kw := s3 _ _ h4
      have inw : ∀ y : Key, decide (V.bl (if false = true then !inV (kV y) (waste.map kV) else inV (kV y) (waste.map kV)) = V.bl qj) = (wsB waste y == qj) := fun y => by
        rw [if_neg Bool.false_ne_true, inV_vK]
        show decide (V.bl (wsB waste y) = V.bl qj) = _
        cases wsB waste y <;> cases qj <;> decide
      refine ⟨fun σ H4 => σ = sL18 p1 p2 pr pw po lo hi lo2 hi2 (i0 - back (gqB a b (wsB waste) qj) lo lo2 i0 j0) (j0 - back (gqB a b (wsB waste) qj) lo lo2 i0 j0) (n0 + back (gqB a b (wsB waste) qj) lo lo2 i0 j0) qj ∧ H4 = H', ?_, ?_⟩
      · refine ⟨fun mm σ H4 => ∃ i j n : Nat, mm = i ∧ σ = sL18 p1 p2 pr pw po lo hi lo2 hi2 i j n qj ∧ H4 = H' ∧ lo ≤ i ∧ lo2 ≤ j ∧ i ≤ i0 ∧ j ≤ j0 ∧ i + n = i0 + n0 ∧ j + n = j0 + n0 ∧
          i - back (gqB a b (wsB waste) qj) lo lo2 i j = i0 - back (gqB a b (wsB waste) qj) lo lo2 i0 j0, ⟨i0, i0, j0, n0, rfl, rfl, rfl, y1, y3, Nat.le_refl _, Nat.le_refl _, rfl, rfl, rfl⟩, ?_⟩
        rintro mm σ H4 ⟨i, j, n, rfl, rfl, rfl, w1, w2, w3, w4, w5, w6, w7⟩
        have stop : back (gqB a b (wsB waste) qj) lo lo2 mm j = 0 → sL18 p1 p2 pr pw po lo hi lo2 hi2 mm j n qj = sL18 p1 p2 pr pw po lo hi lo2 hi2 (i0 - back (gqB a b (wsB waste) qj) lo lo2 i0 j0) (j0 - back (gqB a b (wsB waste) qj) lo lo2 i0 j0) (n0 + back (gqB a b (wsB waste) qj) lo lo2 i0 j0) qj := fun hz => by
          rw [hz] at w7
          have e1 : mm = i0 - back (gqB a b (wsB waste) qj) lo lo2 i0 j0 := by omega
          have e2 : j = j0 - back (gqB a b (wsB waste) qj) lo lo2 i0 j0 := by omega
          have e3 : n = n0 + back (gqB a b (wsB waste) qj) lo lo2 i0 j0 := by omega
          rw [← e1, ← e2, ← e3]
        refine ⟨vN mm, rfl, vN lo, rfl, _, _, rfl, rfl, _, rfl, ?_⟩
        by_cases c1 : lo < mm
        · rw [decide_eq_true (show (lo : Int) < mm by omega)]
          refine iteT ⟨vN j, rfl, vN lo2, rfl, _, _, rfl, rfl, _, rfl, ?_⟩
          by_cases c2 : lo2 < j
          · rw [decide_eq_true (show (lo2 : Int) < j by omega)]
            obtain ⟨i', rfl⟩ : ∃ i', mm = i' + 1 := ⟨mm - 1, by omega⟩
            obtain ⟨j', rfl⟩ : ∃ j', j = j' + 1 := ⟨j - 1, by omega⟩
            have gx := List.getElem?_eq_getElem (show i' < a.length by omega)
            have gy := List.getElem?_eq_getElem (show j' < b.length by omega)
            generalize a[i'] = x at gx
            generalize b[j'] = y at gy
            have eg := gqB_at (jk := wsB waste) (q := qj) gx gy
            refine iteT ⟨.ref p1, rfl, vN (i' + 1), rfl, _, _, rfl, rfl, p1, _, (i' : Int), kV x, rfl, vN_pred i', sqL k1, atI_nat (map_at gx), .ref p2, rfl, vN (j' + 1), rfl, _, _, rfl, rfl, p2, _, (j' : Int), kV y, rfl, vN_pred j', sqL k2, atI_nat (map_at gy), vK_scal x y, _, rfl, ?_⟩
            rw [vK_eq]
            by_cases c3 : x = y
            · rw [decide_eq_true c3] at eg ⊢
              rw [Bool.true_and] at eg
              refine iteT ⟨.ref p2, rfl, vN (j' + 1), rfl, _, _, rfl, rfl, p2, _, (j' : Int), kV y, rfl, vN_pred j', sqL k2, atI_nat (map_at gy), .ref pw, rfl, pw, _, rfl, .inl (sqL kw), flat_vK y, flat_all waste, .bl qj, rfl, rfl, _, rfl, ?_⟩
              rw [inw y, ← eg]
              by_cases c4 : gqB a b (wsB waste) qj i' j' = true
              · rw [c4]
                refine iteT ⟨fun σ' H'' => σ' = sL18 p1 p2 pr pw po lo hi lo2 hi2 i' j' (n + 1) qj ∧ H'' = H4, ?_, ?_⟩
                · rintro σ' H'' ⟨rfl, rfl⟩
                  have bk := back_yes (G := gqB a b (wsB waste) qj) (lo := lo) (lo2 := lo2) (i := i') (j := j') (by omega) (by omega) c4
                  have bl := back_le (G := gqB a b (wsB waste) qj) (lo := lo) (lo2 := lo2) i' j'
                  exact ⟨i', by omega, i', j', n + 1, rfl, rfl, rfl, by omega, by omega, by omega, by omega, by omega, by omega, by omega⟩
                · refine ⟨vN (i' + 1), rfl, _, _, rfl, rfl, vN (j' + 1), rfl, _, _, rfl, rfl, vN n, rfl, _, _, rfl, rfl, _, _, _, rfl, ?_, rfl⟩
                  show [some (V.ref p1), some (.ref p2), some (.ref pr), some (.ref pw), some (.ref po), some (vN lo), some (vN hi), some (vN lo2), some (vN hi2), some (V.int (((i' + 1 : Nat) : Int) - 1)), some (V.int (((j' + 1 : Nat) : Int) - 1)), some (vN (n + 1)), some (.bl qj)] = _
                  rw [vN_pred, vN_pred]
              · rw [Bool.eq_false_iff.mpr c4]
                exact iteF ⟨stop (back_no (by rintro ⟨_, _, z⟩; exact c4 z)), rfl⟩
            · rw [decide_eq_false c3] at eg ⊢
              rw [Bool.false_and] at eg
              exact iteF (iteF ⟨stop (back_no (by rintro ⟨_, _, z⟩; rw [eg] at z; cases z)), rfl⟩)
          · rw [decide_eq_false (show ¬ (lo2 : Int) < j by omega)]
            exact iteF (iteF ⟨stop (back_lo (by omega)), rfl⟩)
        · rw [decide_eq_false (show ¬ (lo : Int) < mm by omega)]
          exact iteF (iteF ⟨stop (back_lo (by omega)), rfl⟩)
      · -- forward
        rintro σ H4 ⟨rfl, rfl⟩
        unfold grow at hgs
        generalize hB : back (gqB a b (wsB waste) qj) lo lo2 i0 j0 = B at *
        have v1 : i0 - B + (n0 + B) = i0 + n0 := by omega
        have v2 : j0 - B + (n0 + B) = j0 + n0 := by omega
        simp only [hB] at hgs
        refine ⟨fun m2 σ H5 => ∃ n' : Nat, m2 = hi - (i0 - B + n') ∧ σ = sL18 p1 p2 pr pw po lo hi lo2 hi2 (i0 - B) (j0 - B) n' qj ∧ H5 = H4 ∧ i0 - B + n' ≤ hi ∧ j0 - B + n' ≤ hi2 ∧
          n' + hd (gqB a b (wsB waste) qj) hi hi2 (i0 - B + n') (j0 - B + n') = n0 + B + hd (gqB a b (wsB waste) qj) hi hi2 (i0 + n0) (j0 + n0), ⟨_, n0 + B, rfl, rfl, rfl, by omega, by omega, by rw [v1, v2]⟩, ?_⟩
        rintro m2 σ H5 ⟨n', rfl, rfl, rfl, x1, x2, x3⟩
        have fin : hd (gqB a b (wsB waste) qj) hi hi2 (i0 - B + n') (j0 - B + n') = 0 → ∃ x12 : Option V, sL18 p1 p2 pr pw po lo hi lo2 hi2 (i0 - B) (j0 - B) n' qj = [some (.ref p1), some (.ref p2), some (.ref pr), some (.ref pw), some (.ref po), some (vN lo), some (vN hi), some (vN lo2), some (vN hi2), some (vN g1.1), some (vN g1.2.1), some (vN g1.2.2), x12] ∧ H5 = H5 ∧ InR (eqB a b) ⟨lo, hi, lo2, hi2⟩ g1 := fun hz => by
          rw [hz] at x3
          refine ⟨some (.bl qj), ?_, rfl, inr'⟩
          rw [hgs, ← x3]
          rfl
        refine ⟨vN (i0 - B), rfl, vN n', rfl, _, _, rfl, rfl, vN hi, rfl, _, _, rfl, rfl, _, rfl, ?_⟩
        by_cases c1 : i0 - B + n' < hi
        · rw [decide_eq_true (show ((i0 - B : Nat) : Int) + n' < hi by omega)]
          refine iteT ⟨vN (j0 - B), rfl, vN n', rfl, _, _, rfl, rfl, vN hi2, rfl, _, _, rfl, rfl, _, rfl, ?_⟩
          by_cases c2 : j0 - B + n' < hi2
          · rw [decide_eq_true (show ((j0 - B : Nat) : Int) + n' < hi2 by omega)]
            have gx := List.getElem?_eq_getElem (show i0 - B + n' < a.length by omega)
            have gy := List.getElem?_eq_getElem (show j0 - B + n' < b.length by omega)
            generalize a[i0 - B + n'] = x at gx
            generalize b[j0 - B + n'] = y at gy
            have eg := gqB_at (jk := wsB waste) (q := qj) gx gy
            refine iteT ⟨.ref p1, rfl, vN (i0 - B), rfl, vN n', rfl, _, _, rfl, rfl, p1, _, ((i0 - B + n' : Nat) : Int), kV x, rfl, rfl, sqL k1, atI_nat (map_at gx), .ref p2, rfl, vN (j0 - B), rfl, vN n', rfl, _, _, rfl, rfl, p2, _, ((j0 - B + n' : Nat) : Int), kV y, rfl, rfl, sqL k2, atI_nat (map_at gy), vK_scal x y, _, rfl, ?_⟩
            rw [vK_eq]
            by_cases c3 : x = y
            · rw [decide_eq_true c3] at eg ⊢
              rw [Bool.true_and] at eg
              refine iteT ⟨fun σ' H'' => σ' = sL18 p1 p2 pr pw po lo hi lo2 hi2 (i0 - B) (j0 - B) (n' + 1) qj ∧ H'' = H5 ∧ gqB a b (wsB waste) qj (i0 - B + n') (j0 - B + n') = true, ?_, ?_⟩
              · rintro σ' H'' ⟨rfl, rfl, c4⟩
                have hy := hd_yes (M := gqB a b (wsB waste) qj) (hi := hi) (hi2 := hi2) c1 c2 c4
                refine ⟨hi - (i0 - B + (n' + 1)), by omega, n' + 1, rfl, rfl, rfl, by omega, by omega, ?_⟩
                rw [show i0 - B + (n' + 1) = i0 - B + n' + 1 by omega, show j0 - B + (n' + 1) = j0 - B + n' + 1 by omega]
                omega
              · refine ⟨.ref p2, rfl, vN (j0 - B), rfl, vN n', rfl, _, _, rfl, rfl, p2, _, ((j0 - B + n' : Nat) : Int), kV y, rfl, rfl, sqL k2, atI_nat (map_at gy), .ref pw, rfl, pw, _, rfl, .inl (sqL kw), flat_vK y, flat_all waste, .bl qj, rfl, rfl, _, rfl, ?_⟩
                rw [inw y, ← eg]
                by_cases c4 : gqB a b (wsB waste) qj (i0 - B + n') (j0 - B + n') = true
                · rw [c4]
                  refine iteF ⟨vN n', rfl, _, _, rfl, rfl, ?_⟩
                  exact ⟨rfl, rfl, rfl⟩
                · rw [Bool.eq_false_iff.mpr c4]
                  exact iteT (fin (hd_no (by rintro ⟨_, _, z⟩; exact c4 z)))
            · rw [decide_eq_false c3] at eg ⊢
              rw [Bool.false_and] at eg
              exact iteF (fin (hd_no (by rintro ⟨_, _, z⟩; rw [eg] at z; cases z)))
          · rw [decide_eq_false (show ¬ ((j0 - B : Nat) : Int) + n' < hi2 by omega)]
            exact iteF (iteF (fin (hd_no (by omega))))
        · rw [decide_eq_false (show ¬ ((i0 - B : Nat) : Int) + n' < hi by omega)]
          exact iteF (iteF (fin (hd_no (by omega))))
    · rintro σ H' ⟨x12, rfl, rfl, _⟩
      refine ⟨_, rfl, _, rfl, _, rfl, by show 3 ≤ sizeLine; decide, fun p np => q _ p (s3.trans (same_upd np)) ?_⟩
      rw [upd_same]
      unfold lmS lm
      rw [← hgs0, ← hgs1, ← hgs2]
      rfl
end
end Tw
end
section
namespace Tw
open PySem PySem.Spec PyProof.Rows L2 LamX NdefX
theorem eqv2 (a b c d : Nat) (h : ¬ (a = c ∧ b = d)) : PyData.eqv (iD [(a : Int), (b : Int)]) (iD [(c : Int), (d : Int)]) = false := by
  unfold iD
  simp only [List.map_cons, List.map_nil, PyData.eqv, PyData.eqvAll]
  simp
  intro h1 h2
  exact h ⟨by omega, by omega⟩
section
variable {P : Program} {w : World} {K : PySem.W.Frag} {mg : Str → Option Value} {base : Heap} {C : Addr}
theorem scBr : FnScope ["_law_blocks", "_law_one", "_law_other", "_law_i", "_law_j", "_law_k", "_law_block"] ["_law_blocks", "_law_one", "_law_other"] (defScope sLRight) := ⟨rfl, rfl, rfl, by decide +kernel, rfl, by decide +kernel, by decide +kernel⟩
def spBr : Sp := fun vs H Q _ => ∃ (p p1 p2 : Addr) (a b : List Key) (xs : List V) (bs : List Bk) (gap : Rg → Prop), vs = [.ref p, .ref p1, .ref p2] ∧ H p = some (.lst xs) ∧ AllT H xs ((bs ++ [(a.length, b.length, 0)]).map bkV) ∧ H p1 = some (.lst (a.map kV)) ∧ H p2 = some (.lst (b.map kV)) ∧
  (∀ x ∈ a, kOk x) ∧ (∀ x ∈ b, kOk x) ∧ SC (eqB a b) gap false 0 0 bs a.length b.length ∧ ∀ H', Same H H' → Q (.bl true) H'
theorem ok_br {f fSm : Addr} {fd fdSm : FuncData} {k : Nat} (F : Fun K "_law_blocks_right" "_law_blocks_right" sLRight f fd) (B : Bm mg) (FSm : Fun K "_law_same" "_law_same" sLSame fSm fdSm) (bSm : Binds K fdSm ["_law_found", "_law_due"] []) (gSm : mg "_law_same" = some (.ref fSm)) :
    FnOk P w K mg base CX0 (k + 4) f fd ["_law_blocks", "_law_one", "_law_other"] spBr := by
  have GSm : FnOk P w K mg base CX0 (k + 3) fSm fdSm ["_law_found", "_law_due"] (spSm 3) := (ok_sm FSm B bSm gSm 3).mono (by omega)
  refine F.ok scBr (fun vs H Q E h => ?_) (fun cdv A outer s H vs Q E hr h => ?_)
  · obtain ⟨p, p1, p2, a, b, xs, bs, gap, rfl, _⟩ := h
    rfl
  · obtain ⟨p, p1, p2, a, b, xs0, bs, gap, rfl, hp, hx, h1, h2, ka, kb, sc, q⟩ := h
    refine ⟨_, (pss_cons (ps_asg (pe_tup (pa_cons pe_int (pa_cons pe_int pa_nil))) (pg_tup rfl (pgs_cons (pg_name (i := 3) scBr.nd rfl (.inl rfl)) (pgs_cons (pg_name (i := 4) scBr.nd rfl (.inl rfl)) pgs_nil))))
      (pss_cons (ps_for PassesOwn.never rfl (pi_enum (by rfl) B.enum (pa_cons (pe_slice sl_list (pv 0) po_none (po_some (pe_un un_neg pe_int))) pa_nil)) (pg_tup rfl (pgs_cons (pg_name (i := 5) scBr.nd rfl (.inl rfl)) (pgs_cons (pg_name (i := 6) scBr.nd rfl (.inl rfl)) pgs_nil))) (pss_cons (ps_if (PW.pt (pw_or (pt_cmpR op_lt (pe_ix ix_tup (pv 6) pe_int (fun _ _ => rfl)) pe_int (nomark _)) (pw_or (pt_cmpR op_lt (pe_ix ix_tup (pv 6) pe_int (fun _ _ => rfl)) (pv 3) (nomark _)) (pw_or (pt_cmpR op_lt (pe_ix ix_tup (pv 6) pe_int (fun _ _ => rfl)) (pv 4) (nomark _)) (pw_or1 (PW.pt (pw_and (pt_cmpR op_gt (pv 5) pe_int (nomark _)) (pw_and1 (pt_cmpR (op_eqD hr.units) (pe_tup (pa_cons (pe_ix ix_tup (pv 6) pe_int (fun _ _ => rfl)) (pa_cons (pe_ix ix_tup (pv 6) pe_int (fun _ _ => rfl)) pa_nil))) (pe_tup (pa_cons (pv 3) (pa_cons (pv 4) pa_nil))) (nomark _)))))))))) (pss_one (ps_ret pe_bl)) pss_nil)
      (pss_cons (ps_par (by rfl) scBr.nd (i := 3) (j := 4) rfl rfl (by decide) rfl rfl (pa_cons (pe_op op_add (pe_ix ix_tup (pv 6) pe_int (fun _ _ => rfl)) (pe_ix ix_tup (pv 6) pe_int (fun _ _ => rfl))) (pa_cons (pe_op op_add (pe_ix ix_tup (pv 6) pe_int (fun _ _ => rfl)) (pe_ix ix_tup (pv 6) pe_int (fun _ _ => rfl))) pa_nil)) (by rfl))
      (pss_one (ps_if (pt_cmpR (op_neD hr.units) (pe_callTy call_list_of (by rfl) B.list (by decide +kernel) (pa_cons (pe_slice sl_list (pv 1) (po_some (pe_ix ix_tup (pv 6) pe_int (fun _ _ => rfl))) (po_some (pv 3))) pa_nil)) (pe_callTy call_list_of (by rfl) B.list (by decide +kernel) (pa_cons (pe_slice sl_list (pv 2) (po_some (pe_ix ix_tup (pv 6) pe_int (fun _ _ => rfl))) (po_some (pv 4))) pa_nil)) (nomark _)) (pss_one (ps_ret pe_bl)) pss_nil)))))
      (pss_one (ps_ret (pe_and (pe_cmpR op_le (pv 3) (pe_callB call_len_seq (by rfl) B.len PySem.boot_len (pa_cons (pv 1) pa_nil)) (nomark _)) (pe_and (pe_cmpR op_le (pv 4) (pe_callB call_len_seq (by rfl) B.len PySem.boot_len (pa_cons (pv 2) pa_nil)) (nomark _)) (pe_one (pe_call GSm (hr.mono (by omega)) (by rfl) gSm FSm.kp bSm .nil pass0 (pa_cons (pe_ix ix_list (pv 0) (pe_un un_neg pe_int) (fun _ _ => rfl)) (pa_cons (pe_tup (pa_cons (pe_callB call_len_seq (by rfl) B.len PySem.boot_len (pa_cons (pv 1) pa_nil)) (pa_cons (pe_callB call_len_seq (by rfl) B.len PySem.boot_len (pa_cons (pv 2) pa_nil)) (pa_cons pe_int pa_nil)))) pa_nil)))))))))), ?_⟩
    rw [List.map_append] at hx
    obtain ⟨xs, pl, rfl, ax, hpl⟩ := hx.last
    -- i, j = 0, 0
    refine ⟨by show 2 ≤ sizeLine; decide, fun t0 nt0 => ⟨t0, _, rfl, sqT upd_same, rfl, _, _, rfl, _, _, rfl, rfl, ?_⟩⟩
    have s1 := same_upd (o := .tup [.int 0, .int 0]) nt0
    generalize (upd H t0 (.tup [.int 0, .int 0])) = H1 at s1
    -- enumerate(blocks[:-1])
    refine ⟨.ref p, rfl, _, rfl, _, rfl, p, _, rfl, sqL (s1 _ _ hp), fun u nu => ?_⟩
    have s2 := s1.trans (same_upd (o := .lst (cutV (xs ++ [.ref pl]) none (some (-1)))) nu)
    have hu : (upd H1 u (.lst (cutV (xs ++ [.ref pl]) none (some (-1))))) u = some (.lst xs) := by rw [upd_same, cutV_init, List.dropLast_concat]
    refine ⟨u, _, rfl, sqL hu, ?_⟩
    refine for_enumL (K := K) (a := u) (xs := xs) (fun m σ H' => ∃ (i j : Nat) (x5 x6 : Option V), σ = [some (.ref p), some (.ref p1), some (.ref p2), some (vN i), some (vN j), x5, x6] ∧ Same H H' ∧ H' u = some (.lst xs) ∧ SC (eqB a b) gap (decide (0 < m)) i j (bs.drop m) a.length b.length) ?_ ?_ ?_ ?_
    · exact ⟨0, 0, none, none, rfl, s2, hu, sc⟩
    · rintro m σ H' ⟨i, j, x5, x6, rfl, _, hu', _⟩
      exact sqL hu'
    · rintro m x T0 σ H3 hx ⟨i, j, x5, x6, rfl, s3, hu3, scm⟩ nT
      have s4 := same_upd (o := .tup [.int (m : Nat), x]) nT
      refine ⟨T0, _, rfl, sqT upd_same, rfl, _, _, rfl, _, _, rfl, rfl, ?_⟩
      have hu4 := s4 _ _ hu3
      have s5 := s3.trans s4
      generalize (upd H3 T0 (.tup [.int (m : Nat), x])) = H4 at s4 hu4 s5
      obtain ⟨pb, t, rfl, ht, hpb⟩ := (ax.same s5).2 m x hx
      rw [List.getElem?_map] at ht
      obtain ⟨⟨bi, bj, n⟩, hb, rfl⟩ : ∃ bk, bs[m]? = some bk ∧ bkV bk = t := by
        cases e : bs[m]? with
        | none => rw [e] at ht; cases ht
        | some bk => rw [e] at ht; exact ⟨bk, rfl, Option.some.inj ht⟩
      have hdr : bs.drop m = (bi, bj, n) :: bs.drop (m + 1) := by
        obtain ⟨hm, he⟩ := List.getElem?_eq_some_iff.mp hb
        rw [List.drop_eq_getElem_cons hm, he]
      rw [hdr] at scm
      obtain ⟨c1, c2, c3, c4, _, c6, c7⟩ := scm
      have le7 := c7.le
      refine ⟨.ref pb, rfl, pb, _, 2, vN n, rfl, rfl, sqT hpb, atI_nat (j := 2) rfl, _, _, rfl, rfl, _, rfl, ?_⟩
      rw [decide_eq_false (show ¬ (n : Int) < 1 by omega)]
      refine iteF ⟨.ref pb, rfl, pb, _, 0, vN bi, rfl, rfl, sqT hpb, atI_nat (j := 0) rfl, vN i, rfl, _, _, rfl, rfl, _, rfl, ?_⟩
      rw [decide_eq_false (show ¬ (bi : Int) < i by omega)]
      refine iteF ⟨.ref pb, rfl, pb, _, 1, vN bj, rfl, rfl, sqT hpb, atI_nat (j := 1) rfl, vN j, rfl, _, _, rfl, rfl, _, rfl, ?_⟩
      rw [decide_eq_false (show ¬ (bj : Int) < j by omega)]
      refine iteF ⟨.int (m : Nat), rfl, _, _, rfl, rfl, _, rfl, ?_⟩
      -- k > 0 and ..
      by_cases cm : 0 < m
      · rw [decide_eq_true (show (0 : Int) < ((m : Nat) : Int) by omega)]
        refine iteT ⟨.ref pb, rfl, pb, _, 0, vN bi, rfl, rfl, sqT hpb, atI_nat (j := 0) rfl, .ref pb, rfl, pb, _, 1, vN bj, rfl, rfl, sqT hpb, atI_nat (j := 1) rfl, by show 2 ≤ sizeLine; decide, fun t1 nt1 => ?_⟩
        refine ⟨vN i, rfl, vN j, rfl, by show 2 ≤ sizeLine; decide, fun t2 nt2 => ?_⟩
        have s6 := same_upd (o := .tup [vN bi, vN bj]) nt1
        have s7 := s6.trans (same_upd (o := .tup [vN i, vN j]) nt2)
        have g1 : (upd (upd H4 t1 (.tup [vN bi, vN bj])) t2 (.tup [vN i, vN j])) t1 = some (.tup [vN bi, vN bj]) := same_upd nt2 _ _ upd_same
        have g2 : (upd (upd H4 t1 (.tup [vN bi, vN bj])) t2 (.tup [vN i, vN j])) t2 = some (.tup [vN i, vN j]) := upd_same
        generalize (upd (upd H4 t1 (.tup [vN bi, vN bj])) t2 (.tup [vN i, vN j])) = H7 at s7 g1 g2
        have d1 : Dp K H7 (.ref t1) (iD [(bi : Int), (bj : Int)]) := .tup (sqT g1) (int_all [(bi : Int), (bj : Int)])
        have d2 : Dp K H7 (.ref t2) (iD [(i : Int), (j : Int)]) := .tup (sqT g2) (int_all [(i : Int), (j : Int)])
        refine ⟨_, _, d1, d2, rfl, rfl, _, rfl, ?_⟩
        rw [eqv2 bi bj i j (fun z => c6 (decide_eq_true cm) ⟨z.1.symm, z.2.symm⟩)]
        refine iteF ?_
        have s5 := s5.trans s7
        have hpb := s7 _ _ hpb
        have hu4 := s7 _ _ hu4
        clear s4 s6 s7 g1 g2 d1 d2
        refine ⟨.ref pb, rfl, pb, _, 0, vN bi, rfl, rfl, sqT hpb, atI_nat (j := 0) rfl, .ref pb, rfl, pb, _, 2, vN n, rfl, rfl, sqT hpb, atI_nat (j := 2) rfl, _, _, rfl, rfl,
          .ref pb, rfl, pb, _, 1, vN bj, rfl, rfl, sqT hpb, atI_nat (j := 1) rfl, .ref pb, rfl, pb, _, 2, vN n, rfl, rfl, sqT hpb, atI_nat (j := 2) rfl, _, _, rfl, rfl, _, _, rfl, ?_⟩
        refine ⟨.ref p1, rfl, .ref pb, rfl, pb, _, 0, vN bi, rfl, rfl, sqT hpb, atI_nat (j := 0) rfl, _, rfl, vN (bi + n), rfl, _, rfl, p1, _, rfl, sqL (s5 _ _ h1), fun u1 nu1 => ?_⟩
        have r1 := same_upd (o := .lst (cutV (a.map kV) (some (bi : Int)) (some ((bi + n : Nat) : Int)))) nu1
        refine ⟨u1, _, rfl, .inl (sqL upd_same), fun l1 nl1 => ?_⟩
        have r2 := r1.trans (same_upd (o := .lst (cutV (a.map kV) (some (bi : Int)) (some ((bi + n : Nat) : Int)))) nl1)
        have hl1 : (upd (upd H7 u1 (.lst (cutV (a.map kV) (some (bi : Int)) (some ((bi + n : Nat) : Int))))) l1 (.lst (cutV (a.map kV) (some (bi : Int)) (some ((bi + n : Nat) : Int))))) l1 = some (.lst (((a.drop bi).take n).map kV)) := by
          rw [upd_same, cutV_any, List.map_take, List.map_drop, Nat.add_sub_cancel_left]
        generalize (upd (upd H7 u1 (.lst (cutV (a.map kV) (some (bi : Int)) (some ((bi + n : Nat) : Int))))) l1 (.lst (cutV (a.map kV) (some (bi : Int)) (some ((bi + n : Nat) : Int))))) = H8 at r2 hl1
        have hpb8 := r2 _ _ hpb
        refine ⟨.ref p2, rfl, .ref pb, rfl, pb, _, 1, vN bj, rfl, rfl, sqT hpb8, atI_nat (j := 1) rfl, _, rfl, vN (bj + n), rfl, _, rfl, p2, _, rfl, sqL (r2 _ _ (s5 _ _ h2)), fun u2 nu2 => ?_⟩
        have r3 := same_upd (o := .lst (cutV (b.map kV) (some (bj : Int)) (some ((bj + n : Nat) : Int)))) nu2
        refine ⟨u2, _, rfl, .inl (sqL upd_same), fun l2 nl2 => ?_⟩
        have r4 := r3.trans (same_upd (o := .lst (cutV (b.map kV) (some (bj : Int)) (some ((bj + n : Nat) : Int)))) nl2)
        have hl2 : (upd (upd H8 u2 (.lst (cutV (b.map kV) (some (bj : Int)) (some ((bj + n : Nat) : Int))))) l2 (.lst (cutV (b.map kV) (some (bj : Int)) (some ((bj + n : Nat) : Int))))) l2 = some (.lst (((a.drop bi).take n).map kV)) := by
          rw [upd_same, cutV_any, ← List.map_drop, ← List.map_take, Nat.add_sub_cancel_left, ← eqB_cut c4]
        generalize (upd (upd H8 u2 (.lst (cutV (b.map kV) (some (bj : Int)) (some ((bj + n : Nat) : Int))))) l2 (.lst (cutV (b.map kV) (some (bj : Int)) (some ((bj + n : Nat) : Int))))) = H9 at r4 hl2
        have kc : ∀ x ∈ (a.drop bi).take n, kOk x := fun x hx => ka x (List.mem_of_mem_drop (List.mem_of_mem_take hx))
        refine ⟨_, _, .lst (sqL (r4 _ _ hl1)) (kD_all _), .lst (sqL hl2) (kD_all _), kD_shL kc, kD_shL kc, _, rfl, ?_⟩
        rw [eqv_self (kD_shL kc)]
        have r5 := r2.trans r4
        exact iteF ⟨bi + n, bj + n, _, _, rfl, s5.trans r5, r5 _ _ hu4, by rw [decide_eq_true (show 0 < m + 1 by omega)]; exact c7⟩
      · rw [decide_eq_false (show ¬ (0 : Int) < ((m : Nat) : Int) by omega)]
        refine iteF (iteF ?_)
        refine ⟨.ref pb, rfl, pb, _, 0, vN bi, rfl, rfl, sqT hpb, atI_nat (j := 0) rfl, .ref pb, rfl, pb, _, 2, vN n, rfl, rfl, sqT hpb, atI_nat (j := 2) rfl, _, _, rfl, rfl,
          .ref pb, rfl, pb, _, 1, vN bj, rfl, rfl, sqT hpb, atI_nat (j := 1) rfl, .ref pb, rfl, pb, _, 2, vN n, rfl, rfl, sqT hpb, atI_nat (j := 2) rfl, _, _, rfl, rfl, _, _, rfl, ?_⟩
        refine ⟨.ref p1, rfl, .ref pb, rfl, pb, _, 0, vN bi, rfl, rfl, sqT hpb, atI_nat (j := 0) rfl, _, rfl, vN (bi + n), rfl, _, rfl, p1, _, rfl, sqL (s5 _ _ h1), fun u1 nu1 => ?_⟩
        have r1 := same_upd (o := .lst (cutV (a.map kV) (some (bi : Int)) (some ((bi + n : Nat) : Int)))) nu1
        refine ⟨u1, _, rfl, .inl (sqL upd_same), fun l1 nl1 => ?_⟩
        have r2 := r1.trans (same_upd (o := .lst (cutV (a.map kV) (some (bi : Int)) (some ((bi + n : Nat) : Int)))) nl1)
        have hl1 : (upd (upd H4 u1 (.lst (cutV (a.map kV) (some (bi : Int)) (some ((bi + n : Nat) : Int))))) l1 (.lst (cutV (a.map kV) (some (bi : Int)) (some ((bi + n : Nat) : Int))))) l1 = some (.lst (((a.drop bi).take n).map kV)) := by
          rw [upd_same, cutV_any, List.map_take, List.map_drop, Nat.add_sub_cancel_left]
        generalize (upd (upd H4 u1 (.lst (cutV (a.map kV) (some (bi : Int)) (some ((bi + n : Nat) : Int))))) l1 (.lst (cutV (a.map kV) (some (bi : Int)) (some ((bi + n : Nat) : Int))))) = H8 at r2 hl1
        have hpb8 := r2 _ _ hpb
        refine ⟨.ref p2, rfl, .ref pb, rfl, pb, _, 1, vN bj, rfl, rfl, sqT hpb8, atI_nat (j := 1) rfl, _, rfl, vN (bj + n), rfl, _, rfl, p2, _, rfl, sqL (r2 _ _ (s5 _ _ h2)), fun u2 nu2 => ?_⟩
        have r3 := same_upd (o := .lst (cutV (b.map kV) (some (bj : Int)) (some ((bj + n : Nat) : Int)))) nu2
        refine ⟨u2, _, rfl, .inl (sqL upd_same), fun l2 nl2 => ?_⟩
        have r4 := r3.trans (same_upd (o := .lst (cutV (b.map kV) (some (bj : Int)) (some ((bj + n : Nat) : Int)))) nl2)
        have hl2 : (upd (upd H8 u2 (.lst (cutV (b.map kV) (some (bj : Int)) (some ((bj + n : Nat) : Int))))) l2 (.lst (cutV (b.map kV) (some (bj : Int)) (some ((bj + n : Nat) : Int))))) l2 = some (.lst (((a.drop bi).take n).map kV)) := by
          rw [upd_same, cutV_any, ← List.map_drop, ← List.map_take, Nat.add_sub_cancel_left, ← eqB_cut c4]
        generalize (upd (upd H8 u2 (.lst (cutV (b.map kV) (some (bj : Int)) (some ((bj + n : Nat) : Int))))) l2 (.lst (cutV (b.map kV) (some (bj : Int)) (some ((bj + n : Nat) : Int))))) = H9 at r4 hl2
        have kc : ∀ x ∈ (a.drop bi).take n, kOk x := fun x hx => ka x (List.mem_of_mem_drop (List.mem_of_mem_take hx))
        refine ⟨_, _, .lst (sqL (r4 _ _ hl1)) (kD_all _), .lst (sqL hl2) (kD_all _), kD_shL kc, kD_shL kc, _, rfl, ?_⟩
        rw [eqv_self (kD_shL kc)]
        have r5 := r2.trans r4
        exact iteF ⟨bi + n, bj + n, _, _, rfl, s5.trans r5, r5 _ _ hu4, by rw [decide_eq_true (show 0 < m + 1 by omega)]; exact c7⟩
    · rintro σ H3 ⟨i, j, x5, x6, rfl, s3, _, scm⟩
      have hlen : xs.length = bs.length := by rw [ax.1, List.length_map]
      rw [hlen, List.drop_length] at scm
      obtain ⟨c1, c2, _⟩ := scm
      refine ⟨vN i, rfl, .ref p1, rfl, p1, _, rfl, .inl (sqL (s3 _ _ h1)), _, _, rfl, rfl, _, rfl, ?_⟩
      rw [List.length_map, decide_eq_true (show (i : Int) ≤ a.length by omega)]
      refine iteT ⟨vN j, rfl, .ref p2, rfl, p2, _, rfl, .inl (sqL (s3 _ _ h2)), _, _, rfl, rfl, _, rfl, ?_⟩
      rw [List.length_map, decide_eq_true (show (j : Int) ≤ b.length by omega)]
      refine iteT ⟨.ref p, rfl, _, rfl, p, _, -1, .ref pl, rfl, rfl, sqL (s3 _ _ hp), atI_last _ _, .ref p1, rfl, p1, _, rfl, .inl (sqL (s3 _ _ h1)), .ref p2, rfl, p2, _, rfl, .inl (sqL (s3 _ _ h2)), ?_⟩
      rw [List.length_map, List.length_map]
      refine ⟨by show 3 ≤ sizeLine; decide, fun t nt => ?_⟩
      have s4 := same_upd (o := .tup [vN a.length, vN b.length, .int 0]) nt
      refine ⟨.ref pl, .ref t, rfl, .inr ⟨pl, t, _, _, rfl, rfl, .inr ⟨s4 _ _ (s3 _ _ hpl), upd_same⟩, rfl, by show 3 ≤ 1000; decide, fun i x y e1 e2 => .inl ?_⟩, fun H' s' => q _ ((s3.trans s4).trans s')⟩
      match i, e1, e2 with
      | 0, e1, e2 => exact ⟨_, (Option.some.inj e1).symm, (Option.some.inj e2).symm⟩
      | 1, e1, e2 => exact ⟨_, (Option.some.inj e1).symm, (Option.some.inj e2).symm⟩
      | 2, e1, e2 => exact ⟨_, (Option.some.inj e1).symm, (Option.some.inj e2).symm⟩
end
end Tw
end
section
namespace Tw
open PySem PySem.Spec PyProof.Rows L2 LamX NdefX
theorem pe_ex {ι : Type} {X : Cx} {e : Expr} {t : ι → TE} (h : ∀ z, PE X e (t z)) : PE X e (fun σ H Q => ∃ z, t z σ H Q) := ⟨fun pins s σ H Q I ⟨z, q⟩ => (h z).run pins s σ H Q I q⟩
/-! ### the lambdas' places -/
def kwVal : Stmt → Expr
  | .Assign _ (.Call _ _ (k :: _) _) _ => k.value
  | _ => .Constant .none 0 ⟨0, 0, 0, 0⟩
def lamA : Expr → Arguments
  | .Lambda a _ _ _ => a
  | _ => defArgs sLaw
def lamB : Expr → Expr
  | .Lambda _ b _ _ => b
  | e => e
def lamS : Expr → Scope
  | .Lambda _ _ sc _ => sc
  | _ => defScope sLaw
abbrev lam1 : Expr := kwVal ((defBody sLaw).getD 6 (.Pass ⟨0, 0, 0, 0⟩))
abbrev lam2 : Expr := kwVal ((defBody sLaw).getD 7 (.Pass ⟨0, 0, 0, 0⟩))
/-- a def of the text, a method of the class -/
def HasF (K : PySem.W.Frag) (mg : Str → Option Value) (x : Str) (st : Stmt) (ps : List Str) : Prop := ∃ f fd, Fun K x x st f fd ∧ Binds K fd ps [] ∧ mg x = some (.ref f)
def HasM (K : PySem.W.Frag) (C : Addr) (x qual : Str) (st : Stmt) (ps : List Str) : Prop := ∃ f fd, Fun K x qual st f fd ∧ Binds K fd ps [] ∧ Meth K C x f
/-- the class is made by junk alone, by junk and auto -/
def HasI (K : PySem.W.Frag) (C : Addr) : Prop := ∃ f fd, FunA K "__init__" "Matcher.__init__" sInit f fd ∧ Mk K C f ∧
  (∃ g gV, KBn K fd ["self", "one", "other", "junk", "auto"] 3 ["junk"] g gV ∧ ∀ m a b j, gV [m, a, b] [j] = [m, a, b, j, .bl true]) ∧
  ∃ g gV, KBn K fd ["self", "one", "other", "junk", "auto"] 3 ["junk", "auto"] g gV ∧ ∀ m a b j u, gV [m, a, b] [j, u] = [m, a, b, j, u]
structure Txt (K : PySem.W.Frag) (mg : Str → Option Value) (C : Addr) : Prop where
  B : Bm mg
  T : Tx K C
  gM : mg "Matcher" = some (.ref C)
  gL : ∃ t, mg "LEAST_LONG" = some (.int 200 t)
  gW : ∃ aW, mg "WORDS" = some (.ref aW) ∧ ∀ H, SqT K H aW wordsV
  isI : HasF K mg "is_integer" sIsInt ["thing"]
  isR : HasF K mg "is_row" sIsRow ["thing"]
  ro : HasF K mg "row_of" sRowOf ["sequence"]
  wb : HasF K mg "word_between" sWordB ["i", "i2", "j", "j2"]
  cb : HasF K mg "codes_between" sCodesB ["blocks"]
  ic : HasF K mg "is_code" sIsCode ["thing"]
  ir : HasF K mg "is_right_code" sIsRight ["one", "other", "code"]
  is_ : HasF K mg "is_codes" sIsCodes ["one", "other", "codes"]
  dr : HasF K mg "_law_draws" sLDraws ["_law_script"]
  mx : HasF K mg "_law_mixed" sLMixed ["_law_seed", "_law_k"]
  tk : HasF K mg "_law_take" sLTake ["_law_draws_here", "_law_size"]
  pk : HasF K mg "_law_pick" sLPick ["_law_draws_here", "_law_some"]
  sm : HasF K mg "_law_same" sLSame ["_law_found", "_law_due"]
  po : HasF K mg "_law_popular" sLPop ["_law_other", "_law_waste"]
  be : HasF K mg "_law_best" sLBest ["_law_one", "_law_other", "_law_bounds", "_law_skipped"]
  lo : HasF K mg "_law_longest" sLLong ["_law_one", "_law_other", "_law_bounds", "_law_waste", "_law_often"]
  br : HasF K mg "_law_blocks_right" sLRight ["_law_blocks", "_law_one", "_law_other"]
  ini : HasI K C
  so : HasM K C "set_other" "Matcher.set_other" sSetOther ["self", "sequence"]
  bg : HasM K C "begun" "Matcher.begun" sBegun ["self", "low", "high", "low2", "high2"]
  gr : HasM K C "grown" "Matcher.grown" sGrown ["self", "block", "bounds", "by_junk"]
  go : HasM K C "goes_on" "Matcher.goes_on" sGoesOn ["self", "i", "j", "by_junk"]
  lm : ∃ f fd, FunA K "longest_match" "Matcher.longest_match" sLongest f fd ∧ Binds K fd ["self", "low", "high", "low2", "high2"] [] ∧ Meth K C "longest_match" f
  bl : HasM K C "blocks" "Matcher.blocks" sBlocks ["self"]
  cs : HasM K C "codes" "Matcher.codes" sCodes ["self"]
/-- law itself, its code object known -/
structure FunC (K : PySem.W.Frag) (x qual : Str) (st : Stmt) (f : Addr) (fd : FuncData) (c : Addr) : Prop where
  ex : ∃ (oc : Value) (od : Option Addr) (dV kV doc pm : Value) (an : Option Addr) (ct : Value) (osl : Array (Option Value)),
    fd = PySem.W.fnOf x qual (defArgs st) (defBody st) (defScope st) dV kV doc pm an (.ref c) ct ∧ K.lookup f = some ⟨oc, od, .func fd, osl⟩ ∧ PySem.W.codeIn K (.ref c) qual = true
theorem FunC.ok {P : Program} {w : World} {K : PySem.W.Frag} {mg : Str → Option Value} {base : Heap} {x qual : Str} {st : Stmt} {f c : Addr} {fd : FuncData} {N ps : List Str} {k : Nat} {sp : Sp} (F : FunC K x qual st f fd c) (S : FnScope N ps (defScope st)) (len : ∀ vs H Q E, sp vs H Q E → vs.length = ps.length)
    (hbody : ∀ (A : Around) (outer : List Env) (s : Shared) (H : Hp) (vs : List V) (Q : VK) (E : XK), Room k (A.deeper (envOfC qual (defScope st) s.heap.objs.size f (.ref c))) → sp vs H Q E →
      ∃ t, PSs (cxOf CX0 P w K mg base N qual (defScope st) f (.ref c) A outer s H E).nox (defBody st) t ∧ t { nx := fun _ H' => Q .non H', rt := Q } (start N vs) H) : FnOk P w K mg base CX0 (k + 1) f fd ps sp := by
  obtain ⟨oc, od, dV, kV, doc, pm, an, ct, osl, rfl, lk, hcd⟩ := F.ex
  refine fn_of lk hcd S len fun A outer s H vs Q E hr hsp => ?_
  obtain ⟨t, h, q⟩ := hbody A outer s H vs Q E hr hsp
  exact ⟨t, h.nox, q⟩
abbrev ixT (K : PySem.W.Frag) (v : Nat) (i : Int) : TE := tOp (rIxT K) (tVar v) (tC (.int i))
abbrev ttK (K : PySem.W.Frag) : TT := tAnd (tTest (tOp (rI0 fun i j => .bl (decide (i ≤ j))) (ixT K 22 0) (ixT K 19 0))) (tTest (tOp (rI0 fun i j => .bl (decide (i ≤ j))) (tOp (rI0 fun i j => .int (i + j)) (ixT K 19 0) (ixT K 19 2)) (tOp (rI0 fun i j => .int (i + j)) (ixT K 22 0) (ixT K 22 2))))
abbrev teK (K : PySem.W.Frag) : TE := tOp rEq (tOp (rI0 fun i j => .int (i - j)) (ixT K 22 1) (ixT K 22 0)) (tOp (rI0 fun i j => .int (i - j)) (ixT K 19 1) (ixT K 19 0))
section
variable {P : Program} {w : World} {K : PySem.W.Frag} {mg : Str → Option Value} {base : Heap} {C : Addr}
theorem scLw : FnScope ["_law_script", "_law_draws_here", "_law_many", "_law_rare", "_law_k", "_law_one", "_law_other", "_law_at", "_law_way", "_law_part", "_law_matcher", "_law_plain", "_law_some", "_law_low", "_law_low2", "_law_often", "_law_i", "_law_j", "_law_size", "_law_first", "_law_kept", "_law_waste", "_law_block"] ["_law_script"] (defScope sLaw) := ⟨rfl, rfl, rfl, by decide +kernel, rfl, by decide +kernel, by decide +kernel⟩
theorem scF1 : ∀ y ∈ (lamS lam1).names, y.2 = .free → (defScope sLaw).names.lookup y.1 = some .cell ∨ (defScope sLaw).names.lookup y.1 = some .free := by decide +kernel
theorem scF2 : ∀ y ∈ (lamS lam2).names, y.2 = .free → (defScope sLaw).names.lookup y.1 = some .cell ∨ (defScope sLaw).names.lookup y.1 = some .free := by decide +kernel
def spLw (K : PySem.W.Frag) (P0 : Addr) : Sp := fun vs H Q _ => ∃ (a : Addr) (is : List Int), vs = [.ref a] ∧ SqL K H a (is.map V.int) ∧ is.length ≤ 63 ∧ H P0 = some (.tbl #[]) ∧ ∀ H', Q (.bl true) H'
abbrev LQ : Str := "law.<locals>.<lambda>"
theorem fnOk_ex {ι : Type} {P : Program} {w : World} {K : PySem.W.Frag} {mg : Str → Option Value} {base : Heap} {CX : CXT} {k : Nat} {f : Addr} {fd : FuncData} {ps : List Str} {sp : ι → Sp} (h : ∀ z, FnOk P w K mg base CX k f fd ps (sp z)) : FnOk P w K mg base CX k f fd ps (fun vs H Q E => ∃ z, sp z vs H Q E) :=
  ⟨fun vs H Q E ⟨z, q⟩ => (h z).len vs H Q E q, fun A outer s H args us vs Q E hr he hb hv ⟨z, q⟩ => (h z).run A outer s H args us vs Q E hr he hb hv q⟩
theorem TabsN.keep2 {H H' : Hp} {p l1 l2 : Addr} {c : Nat} {T : List NTab} (t : TabsN T H) (d : DrAt H p l1 l2 c) (k : Keep2 p l1 H H') : TabsN T H' := fun z hz => by
  obtain ⟨q, xs1, xs2, D⟩ := d
  obtain ⟨ps, h1, h2, h3⟩ := t z hz
  have ne : ∀ {b : Addr} {o : HO}, H b = some o → (∀ xs, o ≠ .lst xs) → b ≠ p ∧ b ≠ l1 := fun {b o} e n => ⟨fun e' => by rw [e', D.at_] at e; exact n _ (Option.some.inj e).symm, fun e' => by rw [e', D.one] at e; exact n _ (Option.some.inj e).symm⟩
  have n1 := ne h1 (fun _ e => nomatch e)
  refine ⟨ps, k _ _ h1 n1.1 n1.2, h2, fun pos cv hc => ?_⟩
  obtain ⟨c, e1, e2⟩ := h3 pos cv hc
  have n2 := ne e2 (fun xs e => by unfold CodeO at e; cases e)
  exact ⟨c, e1, k _ _ e2 n2.1 n2.2⟩
theorem TabsN.updL {H : Hp} {D : Addr} {xs : List V} {o : HO} {T : List NTab} (t : TabsN T H) (h : H D = some (.lst xs)) : TabsN T (upd H D o) := fun z hz => by
  obtain ⟨ps, h1, h2, h3⟩ := t z hz
  refine ⟨ps, by rw [upd_ne (fun e => by rw [e, h] at h1; cases h1)]; exact h1, h2, fun pos cv hc => ?_⟩
  obtain ⟨c, e1, e2⟩ := h3 pos cv hc
  exact ⟨c, e1, by rw [upd_ne (fun e => by rw [e, h] at e2; unfold CodeO at e2; cases e2)]; exact e2⟩
theorem DrAt.upd {H : Hp} {D p l1 l2 : Addr} {c : Nat} {o : HO} (h : DrAt H p l1 l2 c) (n1 : D ≠ p) (n2 : D ≠ l1) (n3 : D ≠ l2) : DrAt (L2.upd H D o) p l1 l2 c := by
  obtain ⟨q, xs1, xs2, h⟩ := h
  exact ⟨q, xs1, xs2, by rw [upd_ne n1.symm]; exact h.at_, by rw [upd_ne n2.symm]; exact h.one, by rw [upd_ne n3.symm]; exact h.two, h.q0, h.p1, h.p2, h.n12, h.pos, h.z2⟩
theorem new_at {H : Hp} {p : Addr} {o : HO} (n : H p = none) : Same H (L2.upd H p o) ∧ (L2.upd H p o) p = some o := ⟨same_upd n, upd_same⟩
theorem rep_keys (n : Nat) (x : Key) : (List.replicate n [kV x]).flatten = (List.replicate n x).map kV := by
  induction n with
  | zero => rfl
  | succ n ih => rw [List.replicate_succ, List.replicate_succ, List.flatten_cons, ih]; rfl
theorem three_way {H : Hp} {q1 q2 q3 : Addr} {way m : Nat} {A B C : List Key} (hw : way < 3) (h1 : H q1 = some (.lst (A.map kV))) (h2 : H q2 = some (.lst (B.map kV))) (h3 : H q3 = some (.lst (C.map kV)))
    (ok : ∀ x, x ∈ A ∨ x ∈ B ∨ x ∈ C → kOk x) (l1 : A.length ≤ m) (l2 : B.length ≤ m) (l3 : C.length ≤ m) :
    ∃ (q : Addr) (X : List Key), [V.ref q1, V.ref q2, V.ref q3][way]? = some (.ref q) ∧ H q = some (.lst (X.map kV)) ∧ (∀ x ∈ X, kOk x) ∧ X.length ≤ m ∧ (q = q1 ∨ q = q2 ∨ q = q3) := by
  have c3 : way = 0 ∨ way = 1 ∨ way = 2 := by omega
  rcases c3 with rfl | rfl | rfl
  · exact ⟨q1, A, rfl, h1, fun x hx => ok x (.inl hx), l1, .inl rfl⟩
  · exact ⟨q2, B, rfl, h2, fun x hx => ok x (.inr (.inl hx)), l2, .inr (.inl rfl)⟩
  · exact ⟨q3, C, rfl, h3, fun x hx => ok x (.inr (.inr hx)), l3, .inr (.inr rfl)⟩
theorem FdAt.ext {H H' : Hp} {d : Addr} {b : List Key} {sk : Key → Bool} {kvs : List (Key × V)} (s : ExtN H H') (h : FdAt H d b sk kvs) : FdAt H' d b sk kvs :=
  ⟨s _ _ h.at_ (fun _ e => nomatch e), h.no, fun x h1 h2 => let ⟨l, e1, e2⟩ := h.yes x h1 h2; ⟨l, e1, s _ _ e2 (fun _ e => nomatch e)⟩⟩
theorem MtAt.ext {C : Addr} {H H' : Hp} {m : Addr} {a b : List Key} {jk sk : Key → Bool} (s : ExtN H H') (h : MtAt C H m a b jk sk) : MtAt C H' m a b jk sk := by
  obtain ⟨dx, t1, t2, d, jl, pl, fj, au, kvs, js, h⟩ := h
  exact ⟨dx, t1, t2, d, jl, pl, fj, au, kvs, js, s _ _ h.ins (fun _ e => nomatch e), s _ _ h.one (fun _ e => nomatch e), s _ _ h.two (fun _ e => nomatch e), h.fd.ext s, s _ _ h.jl (fun _ e => nomatch e), h.jm⟩
/-- a new instance is made and set up -/
theorem sameX_new {H H' : Hp} {x dx : Addr} {o1 o2 : HO} (nx : H x = none) (nd : H dx = none) (s : SameX x (upd (upd H dx o1) x o2) H') : Same H H' := fun c o e => by
  have n1 := ne_of_none e nx
  refine s c o ?_ n1
  rw [upd_ne n1, upd_ne (ne_of_none e nd)]
  exact e
theorem often_sk {b waste L : List Key} (h : ∀ x, memB x L = (memB x b && popB b waste true x)) : (fun x => memB x (waste ++ L)) = skB b waste true := by
  funext x
  unfold skB
  have e : memB x (waste ++ L) = (memB x waste || memB x L) := by
    unfold memB
    rw [List.any_append]
  rw [e, h x]
  cases p : popB b waste true x with
  | false => simp
  | true => rw [memB_iff.mpr (popB_mem p)]; rfl
theorem ab_key {x : V} (h : x ∈ [V.str "a", .str "b", .str "c", .str " "]) : ∃ key, kV key = x ∧ kOk key := by
  rcases List.mem_cons.mp h with rfl | h
  · exact ⟨.inr "a", rfl, by show PyData.canLay0 _ = true; decide +kernel⟩
  rcases List.mem_cons.mp h with rfl | h
  · exact ⟨.inr "b", rfl, by show PyData.canLay0 _ = true; decide +kernel⟩
  rcases List.mem_cons.mp h with rfl | h
  · exact ⟨.inr "c", rfl, by show PyData.canLay0 _ = true; decide +kernel⟩
  rcases List.mem_cons.mp h with rfl | h
  · exact ⟨.inr " ", rfl, by show PyData.canLay0 _ = true; decide +kernel⟩
  · cases h
theorem x_ok : kOk (.inr "x") := by show PyData.canLay0 _ = true; decide +kernel
/-- two lists of the same blocks are the same data -/
theorem de_blocks {H : Hp} {q1 q2 : Addr} {xs ys : List V} {bs : List Bk} (h1 : H q1 = some (.lst xs)) (h2 : H q2 = some (.lst ys)) (a1 : AllT H xs (bs.map bkV)) (a2 : AllT H ys (bs.map bkV)) (hl : bs.length ≤ 1000) : DE 3 H (.ref q1) (.ref q2) := by
  refine .inr ⟨q1, q2, xs, ys, rfl, rfl, .inl ⟨h1, h2⟩, a1.1.trans a2.1.symm, by rw [a1.1, List.length_map]; exact hl, fun i x y e1 e2 => ?_⟩
  obtain ⟨p, t, rfl, u1, u2⟩ := a1.2 i x e1
  obtain ⟨p', t', rfl, v1, v2⟩ := a2.2 i y e2
  rw [u1] at v1
  cases v1
  rw [List.getElem?_map] at u1
  obtain ⟨bk, _, rfl⟩ : ∃ bk, bs[i]? = some bk ∧ bkV bk = t := by
    cases e : bs[i]? with
    | none => rw [e] at u1; cases u1
    | some bk => rw [e] at u1; exact ⟨bk, rfl, Option.some.inj u1⟩
  refine .inr ⟨p, p', _, _, rfl, rfl, .inr ⟨u2, v2⟩, rfl, by show 3 ≤ 1000; decide, fun j x y e1 e2 => .inl ?_⟩
  rw [e1] at e2
  cases e2
  match j, e1 with
  | 0, e1 => exact ⟨_, (Option.some.inj e1).symm, (Option.some.inj e1).symm⟩
  | 1, e1 => exact ⟨_, (Option.some.inj e1).symm, (Option.some.inj e1).symm⟩
  | 2, e1 => exact ⟨_, (Option.some.inj e1).symm, (Option.some.inj e1).symm⟩
end
end Tw
end
section
namespace Tw
open PySem PySem.Spec PyProof.Rows L2 LamX NdefX
section
variable {P : Program} {w : World} {K : PySem.W.Frag} {mg : Str → Option Value} {base : Heap} {C : Addr}
abbrev sA (a p p5 p6 : Addr) (n rare : Nat) (x4 x7 x8 x9 : Option V) : L2.St := [some (.ref a), some (.ref p), some (vN n), some (vN rare), x4, some (.ref p5), some (.ref p6), x7, x8, x9, none, none, none, none, none, none, none, none, none, none, none, none, none]
theorem ok_lw {f c P0 : Addr} {fd : FuncData} (F : FunC K "law" "law" sLaw f fd c) (TX : Txt K mg C) (TB : TabB base mg c P0)
    (L1 : ∀ cl c', LamW P w K mg ⟨LQ, lamA lam1, lamB lam1, lamS lam1, cl, c'⟩) (L2 : ∀ cl c', LamW P w K mg ⟨LQ, lamA lam2, lamB lam2, lamS lam2, cl, c'⟩) :
    FnOk P w K mg base CX0 6 f fd ["_law_script"] (spLw K P0) := by
  obtain ⟨fRo, fdRo, FRo, bRo, gRo⟩ := TX.ro
  obtain ⟨fI, fdI, FI, bI, gI⟩ := TX.isI
  obtain ⟨fR, fdR, FR, bR, gR⟩ := TX.isR
  obtain ⟨fWb, fdWb, FWb, bWb, gWb⟩ := TX.wb
  obtain ⟨fCb, fdCb, FCb, bCb, gCb⟩ := TX.cb
  obtain ⟨fIc, fdIc, FIc, bIc, gIc⟩ := TX.ic
  obtain ⟨fIr, fdIr, FIr, bIr, gIr⟩ := TX.ir
  obtain ⟨fIs, fdIs, FIs, bIs, gIs⟩ := TX.is_
  obtain ⟨fDr, fdDr, FDr, bDr, gDr⟩ := TX.dr
  obtain ⟨fMx, fdMx, FMx, bMx, gMx⟩ := TX.mx
  obtain ⟨fTk, fdTk, FTk, bTk, gTk⟩ := TX.tk
  obtain ⟨fPk, fdPk, FPk, bPk, gPk⟩ := TX.pk
  obtain ⟨fSm, fdSm, FSm, bSm, gSm⟩ := TX.sm
  obtain ⟨fPo, fdPo, FPo, bPo, gPo⟩ := TX.po
  obtain ⟨fBe, fdBe, FBe, bBe, gBe⟩ := TX.be
  obtain ⟨fLo, fdLo, FLo, bLo, gLo⟩ := TX.lo
  obtain ⟨fBr, fdBr, FBr, bBr, gBr⟩ := TX.br
  obtain ⟨fIn, fdIn, FIn, M, ⟨g1, gV1, KB1, eV1⟩, ⟨g2, gV2, KB2, eV2⟩⟩ := TX.ini
  obtain ⟨fSo, fdSo, FSo, bSo, mSo⟩ := TX.so
  obtain ⟨fBg, fdBg, FBg, bBg, mBg⟩ := TX.bg
  obtain ⟨fGr, fdGr, FGr, bGr, mGr⟩ := TX.gr
  obtain ⟨fGo, fdGo, FGo, bGo, mGo⟩ := TX.go
  obtain ⟨fLm, fdLm, FLm, bLm, mLm⟩ := TX.lm
  obtain ⟨fBl, fdBl, FBl, bBl, mBl⟩ := TX.bl
  obtain ⟨fCs, fdCs, FCs, bCs, mCs⟩ := TX.cs
  obtain ⟨aW, gW, hW⟩ := TX.gW
  have B := TX.B
  have T := TX.T
  have GDr : FnOk P w K mg base CX0 5 fDr fdDr ["_law_script"] (spDr (K := K)) := ok_dr (k := 4) FDr
  have GTk : FnOk P w K mg base CX0 2 fTk fdTk ["_law_draws_here", "_law_size"] spTk := ok_tk (k := 0) FTk B FMx bMx gMx
  have GPk : FnOk P w K mg base CX0 3 fPk fdPk ["_law_draws_here", "_law_some"] spPk := ok_pk (k := 0) FPk B FTk bTk gTk GTk
  have GSm : FnOk P w K mg base CX0 3 fSm fdSm ["_law_found", "_law_due"] (spSm 3) := ok_sm FSm B bSm gSm 3
  have GPo : FnOk P w K mg base CX0 1 fPo fdPo ["_law_other", "_law_waste"] spPo := ok_po (k := 0) FPo B
  have GLo : FnOk P w K mg base CX0 2 fLo fdLo ["_law_one", "_law_other", "_law_bounds", "_law_waste", "_law_often"] spLo := ok_lo (k := 0) FLo B FBe bBe gBe
  have GBr : FnOk P w K mg base CX0 4 fBr fdBr ["_law_blocks", "_law_one", "_law_other"] spBr := ok_br (k := 0) FBr B FSm bSm gSm
  have GIs : FnOk P w K mg base CX0 3 fIs fdIs ["one", "other", "codes"] spIsCodes := ok_isCodes (k := 0) FIs B FR bR gR FIc (ok_isCode (k := 0) FIc B FR bR gR FI bI gI gW hW) bIc gIc FIr (ok_isRight (k := 0) FIr B FWb bWb gWb) bIr gIr
  have GLm : FnOk P w K mg base CX0 3 fLm fdLm ["self", "low", "high", "low2", "high2"] (spLm C) := ok_lm (k := 0) FLm T B FBg bBg mBg FGr bGr mGr FGo bGo mGo
  have GBl : FnOk P w K mg base CX0 4 fBl fdBl ["self"] (spBl C) := ok_bl (k := 0) FBl T B GLm bLm mLm
  have GCs : FnOk P w K mg base CX0 5 fCs fdCs ["self"] (spCs C) := ok_cs (k := 0) FCs GBl bBl mBl FCb ((ok_codesB (k := 0) FCb FWb bWb gWb).mono (by omega)) bCb gCb T
  refine F.ok scLw (fun vs H Q E h => ?_) (fun A outer s H vs Q E hr h => ?_)
  · obtain ⟨a, is, rfl, _⟩ := h
    rfl
  · obtain ⟨a, is, rfl, ha, hl, hP, q⟩ := h
    have GIn1 : ∀ (wa : Addr) (b : Heap), K.In b → JC b (cloFrom (envOfC "law" (defScope sLaw) s.heap.objs.size f (.ref c)).cells (lamS lam1).names []) "_law_waste" (.ref wa) →
        FnOk P w K mg b CX0 4 fIn fdIn ["self", "one", "other", "junk", "auto"] (fun vs H Q E => ∃ c' : Addr, spIn C ⟨LQ, lamA lam1, lamB lam1, lamS lam1, cloFrom (envOfC "law" (defScope sLaw) s.heap.objs.size f (.ref c)).cells (lamS lam1).names [], c'⟩ wa vs H Q E) := fun wa b hb hJ =>
      fnOk_ex fun c' => ok_in (k := 0) FIn T B FRo bRo gRo (ok_so (k := 0) FSo T B FRo bRo gRo TX.gL (L1 _ c') hJ) bSo mSo
    have GIn2 : ∀ (wa : Addr) (b : Heap), K.In b → JC b (cloFrom (envOfC "law" (defScope sLaw) s.heap.objs.size f (.ref c)).cells (lamS lam2).names []) "_law_waste" (.ref wa) →
        FnOk P w K mg b CX0 4 fIn fdIn ["self", "one", "other", "junk", "auto"] (fun vs H Q E => ∃ c' : Addr, spIn C ⟨LQ, lamA lam2, lamB lam2, lamS lam2, cloFrom (envOfC "law" (defScope sLaw) s.heap.objs.size f (.ref c)).cells (lamS lam2).names [], c'⟩ wa vs H Q E) := fun wa b hb hJ =>
      fnOk_ex fun c' => ok_in (k := 0) FIn T B FRo bRo gRo (ok_so (k := 0) FSo T B FRo bRo gRo TX.gL (L2 _ c') hJ) bSo mSo
    refine ⟨_, (pss_cons (ps_set (i := 1) scLw.nd rfl (.inr rfl) (pe_call GDr (hr.mono (by omega)) (by rfl) gDr FDr.kp bDr .nil pass0 (pa_cons (pv 0) pa_nil)))
      (pss_cons (ps_asg (pe_tup (pa_cons (pe_ix ix_list (pe_lst (pa_cons (pe_op op_add pe_int (pe_call GTk (hr.mono (by omega)) (by rfl) gTk FTk.kp bTk .nil pass0 (pa_cons (pv 1) (pa_cons pe_int pa_nil)))) (pa_cons pe_int pa_nil))) (pe_callTy call_int1 (by rfl) B.int (by decide +kernel) (pa_cons (pe_cmpR op_eq (pe_call GTk (hr.mono (by omega)) (by rfl) gTk FTk.kp bTk .nil pass0 (pa_cons (pv 1) (pa_cons pe_int pa_nil))) pe_int (nomark _)) pa_nil)) (fun _ _ => rfl)) (pa_cons (pe_call GTk (hr.mono (by omega)) (by rfl) gTk FTk.kp bTk .nil pass0 (pa_cons (pv 1) (pa_cons pe_int pa_nil))) pa_nil))) (pg_tup rfl (pgs_cons (pg_name (i := 2) scLw.nd rfl (.inl rfl)) (pgs_cons (pg_name (i := 3) scLw.nd rfl (.inr rfl)) pgs_nil))))
      (pss_cons (ps_setLc (i := 5) (own := [("_law_k", 4)]) (g := gName 4) (tt := tYes) (by rfl) scLw.nd rfl rfl (sw_true rfl rfl rfl (by decide +kernel)) (pi_range1 (by rfl) B.range (pa_cons (pv 2) pa_nil)) (blkOk_by (own := [("_law_k", 4)]) (N := ["_law_script", "_law_draws_here", "_law_many", "_law_rare", "_law_k", "_law_one", "_law_other", "_law_at", "_law_way", "_law_part", "_law_matcher", "_law_plain", "_law_some", "_law_low", "_law_low2", "_law_often", "_law_i", "_law_j", "_law_size", "_law_first", "_law_kept", "_law_waste", "_law_block"]) (sc := defScope sLaw) (by decide +kernel)) (fun _ _ _ _ _ => (pg_name (i := 4) scLw.nd rfl (.inl rfl))) (fun _ _ _ _ _ => pts_nil) (fun _ _ _ _ _ => (pe_ifExp (pt_cmpR op_lt (pe_call GTk (hr.mono (by omega)) (by rfl) gTk FTk.kp bTk .nil pass0 (pa_cons (pv 1) (pa_cons pe_int pa_nil))) (pv 3) (nomark _)) (pe_call GPk (hr.mono (by omega)) (by rfl) gPk FPk.kp bPk .nil pass0 (pa_cons (pv 1) (pa_cons (pe_lst (pa_cons pe_str (pa_cons pe_str (pa_cons pe_str (pa_cons pe_str pa_nil))))) pa_nil))) (pv 4))))
      (pss_cons (ps_set (i := 6) scLw.nd rfl (.inl rfl) (pe_callTy call_list_of (by rfl) B.list (by decide +kernel) (pa_cons (pv 5) pa_nil)))
      (pss_cons (ps_for PassesOwn.never rfl (pi_range1 (by rfl) B.range (pa_cons (pe_call GTk (hr.mono (by omega)) (by rfl) gTk FTk.kp bTk .nil pass0 (pa_cons (pv 1) (pa_cons pe_int pa_nil))) pa_nil)) (pg_name (i := 4) scLw.nd rfl (.inl rfl)) (pss_cons (ps_par (by rfl) scLw.nd (i := 7) (j := 8) rfl rfl (by decide) rfl rfl (pa_cons (pe_call GTk (hr.mono (by omega)) (by rfl) gTk FTk.kp bTk .nil pass0 (pa_cons (pv 1) (pa_cons (pe_callB call_len_seq (by rfl) B.len PySem.boot_len (pa_cons (pv 6) pa_nil)) pa_nil))) (pa_cons (pe_call GTk (hr.mono (by omega)) (by rfl) gTk FTk.kp bTk .nil pass0 (pa_cons (pv 1) (pa_cons pe_int pa_nil))) pa_nil)) (by rfl))
      (pss_cons (ps_set (i := 9) scLw.nd rfl (.inl rfl) (pe_slice sl_list (pv 6) (po_some (pv 7)) (po_some (pe_op op_add (pe_op op_add (pv 7) pe_int) (pe_call GTk (hr.mono (by omega)) (by rfl) gTk FTk.kp bTk .nil pass0 (pa_cons (pv 1) (pa_cons pe_int pa_nil)))))))
      (pss_one (ps_set (i := 6) scLw.nd rfl (.inl rfl) (pe_op op_cat (pe_op op_cat (pe_slice sl_list (pv 6) po_none (po_some (pv 7))) (pe_ix ix_list (pe_lst (pa_cons (pe_op op_rep (pe_lst (pa_cons pe_str pa_nil)) (pe_call GTk (hr.mono (by omega)) (by rfl) gTk FTk.kp bTk .nil pass0 (pa_cons (pv 1) (pa_cons pe_int pa_nil)))) (pa_cons (pe_op op_cat (pv 9) (pv 9)) (pa_cons (pe_lst pa_nil) pa_nil)))) (pv 8) (fun _ _ => rfl))) (pe_slice sl_list (pv 6) (po_some (pe_op op_add (pv 7) (pe_callB call_len_seq (by rfl) B.len PySem.boot_len (pa_cons (pv 9) pa_nil)))) po_none)))))))
      (pss_cons (ps_set (i := 21) scLw.nd rfl (.inr rfl) (pe_ix ix_list (pe_lst (pa_cons (pe_lst pa_nil) (pa_cons (pe_lst (pa_cons pe_str pa_nil)) (pa_cons (pe_lst (pa_cons pe_str pa_nil)) pa_nil)))) (pe_call GTk (hr.mono (by omega)) (by rfl) gTk FTk.kp bTk .nil pass0 (pa_cons (pv 1) (pa_cons pe_int pa_nil))) (fun _ _ => rfl)))
      (pss_cons (ps_set (i := 10) scLw.nd rfl (.inl rfl) (pe_ex fun wa : Addr => pe_makeKB (k := 4) (J := fun b => JC b (cloFrom (envOfC "law" (defScope sLaw) s.heap.objs.size f (.ref c)).cells (lamS lam1).names []) "_law_waste" (.ref wa)) (Js := fun σ => σ[21]? = some (some (.ref wa))) M (fun b hb hJ => GIn1 wa b hb hJ) (hr.mono (by omega)) (by rfl) TX.gM KB1 pass0 (pa_cons (pv 5) (pa_cons (pv 6) pa_nil)) (pk_cons (pe_lamE (T := [(P0, fun _ _ => LQ)]) (nm := fun _ _ => LQ) TB rfl (List.mem_singleton.mpr rfl) rfl (fun p hp _ => by rw [List.mem_singleton.mp hp]) rfl (by exact scF1)) pk_nil) (fun pins σ H' s' hσ I => jc_of (i := 21) (scope := lamS lam1) I (fun _ => rfl) (by exact scF1) (by decide +kernel) (by rfl) rfl hσ)))
      (pss_cons (ps_set (i := 11) scLw.nd rfl (.inl rfl) (pe_ex fun wa : Addr => pe_makeKB (k := 4) (J := fun b => JC b (cloFrom (envOfC "law" (defScope sLaw) s.heap.objs.size f (.ref c)).cells (lamS lam2).names []) "_law_waste" (.ref wa)) (Js := fun σ => σ[21]? = some (some (.ref wa))) M (fun b hb hJ => GIn2 wa b hb hJ) (hr.mono (by omega)) (by rfl) TX.gM KB2 pass0 (pa_cons (pv 5) (pa_cons (pv 6) pa_nil)) (pk_cons (pe_lamE (T := [(P0, fun _ _ => LQ)]) (nm := fun _ _ => LQ) TB rfl (List.mem_singleton.mpr rfl) rfl (fun p hp _ => by rw [List.mem_singleton.mp hp]) rfl (by exact scF2)) (pk_cons pe_bl pk_nil)) (fun pins σ H' s' hσ I => jc_of (i := 21) (scope := lamS lam2) I (fun _ => rfl) (by exact scF2) (by decide +kernel) (by rfl) rfl hσ)))
      (pss_cons (ps_for PassesOwn.never rfl (pi_tup (pe_tup (pa_cons (pv 10) (pa_cons (pv 11) pa_nil)))) (pg_name (i := 12) scLw.nd rfl (.inl rfl)) (pss_one (ps_if (PW.pt (pw_or (pt_not (pt_val (pe_call GBr (hr.mono (by omega)) (by rfl) gBr FBr.kp bBr .nil pass0 (pa_cons (pe_meth0 (pv 12) T.cl mBl GBl (hr.mono (by omega)) bBl .nil pass0) (pa_cons (pv 5) (pa_cons (pv 6) pa_nil)))))) (pw_or1 (pt_not (pt_val (pe_call GIs (hr.mono (by omega)) (by rfl) gIs FIs.kp bIs .nil pass0 (pa_cons (pv 5) (pa_cons (pv 6) (pa_cons (pe_meth0 (pv 12) T.cl mCs GCs (hr.mono (by omega)) bCs .nil pass0) pa_nil))))))))) (pss_one (ps_ret pe_bl)) pss_nil)))
      (pss_cons (ps_par3 (by rfl) scLw.nd (i := 13) (j := 14) (l := 15) rfl rfl rfl (by decide) (by decide) (by decide) rfl rfl rfl (pa_cons pe_int (pa_cons pe_int (pa_cons (pe_call GPo (hr.mono (by omega)) (by rfl) gPo FPo.kp bPo .nil pass0 (pa_cons (pv 6) (pa_cons (pv 21) pa_nil))) pa_nil))) (by rfl))
      (pss_cons (ps_for PassesOwn.never rfl (pi_list (pe_meth0 (pv 10) T.cl mBl GBl (hr.mono (by omega)) bBl .nil pass0)) (pg_tup rfl (pgs_cons (pg_name (i := 16) scLw.nd rfl (.inl rfl)) (pgs_cons (pg_name (i := 17) scLw.nd rfl (.inl rfl)) (pgs_cons (pg_name (i := 18) scLw.nd rfl (.inl rfl)) pgs_nil)))) (pss_cons (ps_if (pt_cmpR op_gt (pe_ix ix_tup (pe_call GLo (hr.mono (by omega)) (by rfl) gLo FLo.kp bLo .nil pass0 (pa_cons (pv 5) (pa_cons (pv 6) (pa_cons (pe_tup (pa_cons (pv 13) (pa_cons (pv 16) (pa_cons (pv 14) (pa_cons (pv 17) pa_nil))))) (pa_cons (pv 21) (pa_cons (pv 15) pa_nil)))))) pe_int (fun _ _ => rfl)) pe_int (nomark _)) (pss_one (ps_ret pe_bl)) pss_nil)
      (pss_one (ps_par (by rfl) scLw.nd (i := 13) (j := 14) rfl rfl (by decide) rfl rfl (pa_cons (pe_op op_add (pv 16) (pv 18)) (pa_cons (pe_op op_add (pv 17) (pv 18)) pa_nil)) (by rfl)))))
      (C8.pss_cut (ps_if (PW.pt (pw_and (pt_cmpR (op_eqD hr.units) (pv 15) (pe_lst pa_nil) (nomark _)) (pw_and1 (pt_not (pt_val (pe_call GSm (hr.mono (by omega)) (by rfl) gSm FSm.kp bSm .nil pass0 (pa_cons (pe_meth0 (pv 10) T.cl mBl GBl (hr.mono (by omega)) bBl .nil pass0) (pa_cons (pe_meth0 (pv 11) T.cl mBl GBl (hr.mono (by omega)) bBl .nil pass0) pa_nil)))))))) (pss_one (ps_ret pe_bl)) pss_nil)
      (pss_cons (ps_set (i := 19) scLw.nd rfl (.inr rfl) (pe_call GLo (hr.mono (by omega)) (by rfl) gLo FLo.kp bLo .nil pass0 (pa_cons (pv 5) (pa_cons (pv 6) (pa_cons (pe_tup (pa_cons pe_int (pa_cons (pe_callB call_len_seq (by rfl) B.len PySem.boot_len (pa_cons (pv 5) pa_nil)) (pa_cons pe_int (pa_cons (pe_callB call_len_seq (by rfl) B.len PySem.boot_len (pa_cons (pv 6) pa_nil)) pa_nil))))) (pa_cons (pv 21) (pa_cons (pv 15) pa_nil)))))))
      (pss_cons (ps_setLc (i := 20) (own := [("_law_block", 22)]) (g := gName 22) (tt := (ttK K)) (by rfl) scLw.nd rfl rfl (sw_true rfl rfl rfl (by decide +kernel)) (pi_list (pe_meth0 (pv 10) T.cl mBl GBl (hr.mono (by omega)) bBl .nil pass0)) (blkOk_by (own := [("_law_block", 22)]) (N := ["_law_script", "_law_draws_here", "_law_many", "_law_rare", "_law_k", "_law_one", "_law_other", "_law_at", "_law_way", "_law_part", "_law_matcher", "_law_plain", "_law_some", "_law_low", "_law_low2", "_law_often", "_law_i", "_law_j", "_law_size", "_law_first", "_law_kept", "_law_waste", "_law_block"]) (sc := defScope sLaw) (by decide +kernel)) (fun _ _ _ _ _ => (pg_name (i := 22) scLw.nd rfl (.inl rfl))) (fun _ _ _ _ _ => (pts_one (PW.pt (pw_and (pt_cmpR op_le (pe_ix ix_tup (pv 22) pe_int (fun _ _ => rfl)) (pe_ix ix_tup (pv 19) pe_int (fun _ _ => rfl)) (nomark _)) (pw_and1 (pt_cmpR op_le (pe_op op_add (pe_ix ix_tup (pv 19) pe_int (fun _ _ => rfl)) (pe_ix ix_tup (pv 19) pe_int (fun _ _ => rfl))) (pe_op op_add (pe_ix ix_tup (pv 22) pe_int (fun _ _ => rfl)) (pe_ix ix_tup (pv 22) pe_int (fun _ _ => rfl))) (nomark _))))))) (fun _ _ _ _ _ => (pv 22)))
      (pss_one (ps_ret (pe_or (pe_cmpR op_eq (pe_ix ix_tup (pv 19) pe_int (fun _ _ => rfl)) pe_int (nomark _)) (pe_one (pe_callB (cr_any rfl) (by rfl) B.any (by decide +kernel) (pa_cons (pe_lc (own := [("_law_block", 22)]) (g := gName 22) (tt := tYes) (te := (teK K)) (by rfl) scLw.nd (pi_list (pv 20)) (blkOk_by (own := [("_law_block", 22)]) (N := ["_law_script", "_law_draws_here", "_law_many", "_law_rare", "_law_k", "_law_one", "_law_other", "_law_at", "_law_way", "_law_part", "_law_matcher", "_law_plain", "_law_some", "_law_low", "_law_low2", "_law_often", "_law_i", "_law_j", "_law_size", "_law_first", "_law_kept", "_law_waste", "_law_block"]) (sc := defScope sLaw) (by decide +kernel)) (fun _ _ _ _ _ => (pg_name (i := 22) scLw.nd rfl (.inl rfl))) (fun _ _ _ _ _ => pts_nil) (fun _ _ _ _ _ => (pe_cmpR op_eq (pe_op op_sub (pe_ix ix_tup (pv 22) pe_int (fun _ _ => rfl)) (pe_ix ix_tup (pv 22) pe_int (fun _ _ => rfl))) (pe_op op_sub (pe_ix ix_tup (pv 19) pe_int (fun _ _ => rfl)) (pe_ix ix_tup (pv 19) pe_int (fun _ _ => rfl))) (nomark _)))) pa_nil)))))))))))))))))))), ?_⟩
    have tb0 : TabsN [(P0, fun _ _ => LQ)] H := fun p hp => by
      rw [List.mem_singleton.mp hp]
      exact TabN.nil hP
    -- the draws
    refine ⟨.ref a, rfl, a, is, rfl, ha, hl, fun H1 p l1 l2 s1 np nl1 nl2 D1 => ?_⟩
    have tb1 := tb0.ext s1
    clear tb0 ha hP
    have pN : ∀ {H' : Hp} {k : Nat} {x : Addr}, DrAt H' p l1 l2 k → H' x = none → x ≠ p ∧ x ≠ l1 ∧ x ≠ l2 := fun {H' k x} ⟨_, _, _, d⟩ n =>
      ⟨fun e => (by rw [e, d.at_] at n; cases n), fun e => (by rw [e, d.one] at n; cases n), fun e => (by rw [e, d.two] at n; cases n)⟩
    -- many, rare
    refine ⟨.ref p, rfl, p, l1, l2, 51, 0, rfl, by decide, by decide, by decide, D1, fun H2 r1 hr1 k2 D2 => ?_⟩
    have tb2 := TabsN.keep2 tb1 D1 k2
    refine ⟨_, _, rfl, rfl, by show 2 ≤ sizeLine; decide, fun pL nL => ?_⟩
    have s3 := same_upd (o := .lst [vN (180 + r1), .int 320]) nL
    have hL : (upd H2 pL (.lst [vN (180 + r1), .int 320])) pL = some (.lst [vN (180 + r1), .int 320]) := upd_same
    have tb3 := tb2.ext s3
    have D3 := D2.same s3
    have nL' := pN D2 nL
    refine ⟨.ref p, rfl, p, l1, l2, 5, 1, rfl, by decide, by decide, by decide, D3, fun H4 r5 hr5 k4 D4 => ?_⟩
    have tb4 := TabsN.keep2 tb3 D3 k4
    obtain ⟨n, hn, n1, n2⟩ : ∃ n : Nat, atI [vN (180 + r1), V.int 320] (if decide (vN r5 = V.int 0) = true then 1 else 0) = some (vN n) ∧ 180 ≤ n ∧ n ≤ 320 := by
      by_cases c : decide (vN r5 = V.int 0) = true
      · rw [if_pos c]
        exact ⟨320, rfl, by omega, by omega⟩
      · rw [if_neg c]
        exact ⟨180 + r1, rfl, by omega, by omega⟩
    refine ⟨rfl, .inr ⟨_, rfl, pL, _, _, vN n, rfl, rfl, sqL (k4 _ _ hL nL'.1 nL'.2.1), hn, ?_⟩⟩
    refine ⟨.ref p, rfl, p, l1, l2, 3, 2, rfl, by decide, by decide, by decide, D4, fun H5 rare hrare k5 D5 => ?_⟩
    have tb5 := TabsN.keep2 tb4 D4 k5
    refine ⟨by show 2 ≤ sizeLine; decide, fun pt nt => ⟨pt, _, rfl, sqT upd_same, rfl, _, _, rfl, _, _, rfl, rfl, ?_⟩⟩
    have s6 := same_upd (o := .tup [vN n, vN rare]) nt
    have tb6 := tb5.ext s6
    have D6 := D5.same s6
    generalize (upd H5 pt (.tup [vN n, vN rare])) = H6 at s6 tb6 D6
    clear tb5 tb4 tb3 tb2 tb1 s3 hL nL' nL k4 k5 k2 s1 s6 hn hr1 hr5 hrare nt D1 D2 D3 D4 D5 np nl1 nl2
    -- one
    refine ⟨vN n, rfl, (n : Int), rfl, by omega, by omega, fun D nD => ?_⟩
    have nDp := pN D6 nD
    refine lc_range (lo := 0) (n := n) (fun i H' => ∃ (ks : List Key) (c : Nat), c ≤ 10 + 2 * i ∧ TabsN [(P0, fun _ _ => LQ)] H' ∧ DrAt H' p l1 l2 c ∧ H' D = some (.lst (ks.map kV)) ∧ ks.length = i ∧ ∀ x ∈ ks, kOk x) ?_ ?_ ?_
    · have s7 := same_upd (o := .lst []) nD
      exact ⟨[], 3, by omega, tb6.ext s7, D6.same s7, upd_same, rfl, fun x hx => absurd hx List.not_mem_nil⟩
    · rintro i H7 hi ⟨ks, c, hc, tb7, D7, hD, hlen, hok⟩
      refine ⟨rfl, ?_⟩
      unfold tYes
      refine iteT ⟨.ref p, rfl, p, l1, l2, 3, c, rfl, by decide, by decide, by omega, D7, fun H8 r hr k8 D8 => ?_⟩
      have tb8 := TabsN.keep2 tb7 D7 k8
      have hD8 := k8 _ _ hD nDp.1 nDp.2.1
      have fin : ∀ (H9 : Hp) (key : Key) (c9 : Nat), c9 ≤ c + 2 → TabsN [(P0, fun _ _ => LQ)] H9 → DrAt H9 p l1 l2 c9 → H9 D = some (.lst (ks.map kV)) → kOk key →
          ∃ acc, H9 D = some (.lst acc) ∧ acc.length < sizeLine ∧ ∃ (ks : List Key) (c : Nat), c ≤ 10 + 2 * (i + 1) ∧ TabsN [(P0, fun _ _ => LQ)] (upd H9 D (.lst (acc ++ [kV key]))) ∧ DrAt (upd H9 D (.lst (acc ++ [kV key]))) p l1 l2 c ∧ (upd H9 D (.lst (acc ++ [kV key]))) D = some (.lst (ks.map kV)) ∧ ks.length = i + 1 ∧ ∀ x ∈ ks, kOk x := by
        intro H9 key c9 hc9 tb9 D9 hD9 ok
        refine ⟨_, hD9, by rw [List.length_map, hlen]; exact szl (by omega), ks ++ [key], c9, by omega, TabsN.updL tb9 hD9, DrAt.upd D9 nDp.1 nDp.2.1 nDp.2.2, ?_, by rw [List.length_append, hlen]; rfl, fun x hx => ?_⟩
        · rw [upd_same, List.map_append]
          rfl
        · rcases List.mem_append.mp hx with z | z
          · exact hok x z
          · rw [List.mem_singleton.mp z]; exact ok
      refine ⟨vN rare, rfl, _, _, rfl, rfl, _, rfl, ?_⟩
      by_cases c1 : r < rare
      · rw [decide_eq_true (show (r : Int) < rare by omega)]
        refine iteT ⟨.ref p, rfl, by show 4 ≤ sizeLine; decide, fun L nL => ?_⟩
        have s9 := same_upd (o := .lst [.str "a", .str "b", .str "c", .str " "]) nL
        have nLp := pN D8 nL
        refine ⟨p, l1, l2, L, _, c + 1, rfl, upd_same, nLp.1, nLp.2.1, by show 1 ≤ 4; decide, by show 4 ≤ 1000; decide, by omega, D8.same s9, fun H9 x hx k9 D9 => ?_⟩
        obtain ⟨key, rfl, ok⟩ := ab_key hx
        exact fin H9 key _ (by omega) (TabsN.keep2 (tb8.ext s9) (D8.same s9) k9) D9 (k9 _ _ (s9 _ _ hD8) nDp.1 nDp.2.1) ok
      · rw [decide_eq_false (show ¬ (r : Int) < rare by omega)]
        exact iteF ⟨.int (0 + i), rfl, fin H8 (.inl (0 + i)) _ (by omega) tb8 D8 hD8 trivial⟩
    · rintro H7 ⟨ks, c, hc, tb7, D7, hD, hlen, hok⟩
      clear tb6 D6 nD
      -- other = list(one)
      refine ⟨.ref D, rfl, D, _, rfl, .inl (sqL hD), fun p6 n6 => ?_⟩
      have s8 := same_upd (o := .lst (ks.map kV)) n6
      have h6 : (upd H7 p6 (.lst (ks.map kV))) p6 = some (.lst (ks.map kV)) := upd_same
      have n6p := pN D7 n6
      have tb8 := tb7.ext s8
      have D8 := D7.same s8
      have hD8 := s8 _ _ hD
      have n6D : p6 ≠ D := fun e => by rw [e, hD] at n6; cases n6
      generalize (upd H7 p6 (.lst (ks.map kV))) = H8 at s8 h6 tb8 D8 hD8
      -- the changes
      refine ⟨.ref p, rfl, p, l1, l2, 9, c, rfl, by decide, by decide, by omega, D8, fun H9 r9 hr9 k9 D9 => ?_⟩
      refine ⟨(r9 : Int), rfl, by omega, by omega, ?_⟩
      refine for_range (lo := 0) (n := r9) (fun i σ H' => ∃ (x4 x7 x8 x9 : Option V) (p6 : Addr) (b : List Key) (c : Nat), σ = sA a p D p6 n rare x4 x7 x8 x9 ∧ TabsN [(P0, fun _ _ => LQ)] H' ∧ DrAt H' p l1 l2 c ∧ c ≤ 700 + 4 * i ∧ H' D = some (.lst (ks.map kV)) ∧ H' p6 = some (.lst (b.map kV)) ∧
        p6 ≠ p ∧ p6 ≠ l1 ∧ (∀ x ∈ b, kOk x) ∧ 180 ≤ b.length + 9 * i ∧ b.length ≤ 320 + 9 * i) ?_ ?_ ?_
      · exact ⟨none, none, none, none, p6, ks, _, rfl, TabsN.keep2 tb8 D8 k9, D9, by omega, k9 _ _ hD8 nDp.1 nDp.2.1, k9 _ _ h6 n6p.1 n6p.2.1, n6p.1, n6p.2.1, hok, by omega, by omega⟩
      · rintro i σ HA hi ⟨x4, x7, x8, x9, q6, b, c, rfl, tbA, DA, hc, hDA, hq6, nq1, nq2, okb, lb1, lb2⟩
        have lb : 100 ≤ b.length ∧ b.length ≤ 400 := by omega
        -- at, way
        refine ⟨.ref p, rfl, .ref q6, rfl, q6, _, rfl, .inl (sqL hq6), p, l1, l2, b.length, c, (by rw [List.length_map]; rfl), by omega, by omega, by omega, DA, fun HB at_ hat kB DB => ?_⟩
        have tbB := TabsN.keep2 tbA DA kB
        refine ⟨.ref p, rfl, p, l1, l2, 3, c + 1, rfl, by decide, by decide, by omega, DB, fun HC way hway kC DC => ?_⟩
        have tbC := TabsN.keep2 tbB DB kC
        have kAC := kB.trans kC
        have hDC := kAC _ _ hDA nDp.1 nDp.2.1
        have hqC := kAC _ _ hq6 nq1 nq2
        refine ⟨_, _, rfl, ?_⟩
        -- part
        refine ⟨.ref q6, rfl, vN at_, rfl, _, rfl, vN at_, rfl, _, _, rfl, rfl, .ref p, rfl, p, l1, l2, 9, c + 2, rfl, by decide, by decide, by omega, DC, fun HE rp hrp kE DE => ?_⟩
        have tbE := TabsN.keep2 tbC DC kE
        have hDE := kE _ _ hDC nDp.1 nDp.2.1
        have hqE := kE _ _ hqC nq1 nq2
        refine ⟨_, _, rfl, rfl, _, rfl, q6, _, rfl, sqL hqE, fun pp npp => ?_⟩
        have sF := same_upd (o := .lst (((b.drop at_).take (rp + 1)).map kV)) npp
        have ecut : cutV (b.map kV) (some (at_ : Int)) (some ((at_ : Int) + 1 + (rp : Int))) = ((b.drop at_).take (rp + 1)).map kV := by
          have z := cutV_any (b.map kV) at_ (at_ + 1 + rp)
          rw [show at_ + 1 + rp - at_ = rp + 1 by omega, ← List.map_drop, ← List.map_take] at z
          exact z
        obtain ⟨pt_, hpt⟩ : ∃ l, (b.drop at_).take (rp + 1) = l := ⟨_, rfl⟩
        have lpt : 1 ≤ pt_.length ∧ pt_.length ≤ 9 ∧ at_ + pt_.length ≤ b.length := by
          rw [← hpt, List.length_take, List.length_drop]
          omega
        have okp : ∀ x ∈ pt_, kOk x := fun x hx => okb x (List.mem_of_mem_drop (List.mem_of_mem_take (by rw [hpt]; exact hx)))
        rw [hpt] at ecut sF
        have hpp : (upd HE pp (.lst (cutV (b.map kV) (some (at_ : Int)) (some ((at_ : Int) + 1 + (rp : Int)))))) pp = some (.lst (pt_.map kV)) := by rw [upd_same, ecut]
        have npp3 := pN DE npp
        have sF' : Same HE (upd HE pp (.lst (cutV (b.map kV) (some (at_ : Int)) (some ((at_ : Int) + 1 + (rp : Int)))))) := same_upd npp
        have tbF := tbE.ext sF'
        have DF := DE.same sF'
        have hDF := sF' _ _ hDE
        have hqF := sF' _ _ hqE
        -- other = ..
        refine ⟨.ref q6, rfl, vN at_, rfl, _, rfl, q6, _, rfl, sqL hqF, fun qa nqa => ?_⟩
        have fG := new_at (o := .lst (cutV (b.map kV) none (some (at_ : Int)))) nqa
        have hqa := fG.2.trans (congrArg (fun l => some (HO.lst l)) ((cutV_to (b.map kV) at_).trans List.map_take.symm))
        have qa3 := pN DF nqa
        have DG := DF.same fG.1
        have tbG := tbF.ext fG.1
        refine ⟨by show 1 ≤ sizeLine; decide, fun qx nqx => ?_⟩
        have fX := new_at (o := .lst [.str "x"]) nqx
        have qx3 := pN DG nqx
        have DX := DG.same fX.1
        have tbX := tbG.ext fX.1
        refine ⟨.ref p, rfl, p, l1, l2, 4, c + 3, rfl, by decide, by decide, by omega, DX, fun HY rx hrx kY DY => ?_⟩
        have tbY := TabsN.keep2 tbX DX kY
        have hqaY := kY _ _ (fX.1 _ _ hqa) qa3.1 qa3.2.1
        have hqxY := kY _ _ fX.2 qx3.1 qx3.2.1
        have hppY := kY _ _ (fX.1 _ _ (fG.1 _ _ hpp)) npp3.1 npp3.2.1
        have hDY := kY _ _ (fX.1 _ _ (fG.1 _ _ hDF)) nDp.1 nDp.2.1
        have hqY := kY _ _ (fX.1 _ _ (fG.1 _ _ hqF)) nq1 nq2
        clear fG fX
        refine ⟨qx, (rx : Int), [.str "x"], rfl, rfl, hqxY, by omega, by omega, by show 1 * (rx : Int).toNat ≤ sizeLine; exact szL (by omega), fun qr nqr => ?_⟩
        have fR := new_at (o := .lst (List.replicate (rx : Int).toNat [V.str "x"]).flatten) nqr
        have hqr := fR.2.trans (congrArg (fun l => some (HO.lst l)) (rep_keys rx (.inr "x")))
        refine ⟨.ref pp, rfl, .ref pp, rfl, pp, pp, _, _, rfl, rfl, fR.1 _ _ hppY, fR.1 _ _ hppY, by rw [List.length_map]; exact szL (by omega), fun q2 nq2' => ?_⟩
        have f2 := new_at (o := .lst (pt_.map kV ++ pt_.map kV)) nq2'
        have hq2 := f2.2.trans (congrArg (fun l => some (HO.lst l)) (List.map_append (f := kV) (l₁ := pt_) (l₂ := pt_)).symm)
        refine ⟨Nat.zero_le _, fun q3 nq3 => ?_⟩
        have f3 := new_at (o := .lst []) nq3
        refine ⟨by show 3 ≤ sizeLine; decide, fun ql nql => ?_⟩
        have f4 := new_at (o := .lst [.ref qr, .ref q2, .ref q3]) nql
        have sZ := (((fR.1.trans f2.1).trans f3.1).trans f4.1)
        obtain ⟨qB, Bk_, eB, hB, okB, lB, _⟩ := three_way (m := pt_.length + 9) (C := []) hway (((f2.1.trans f3.1).trans f4.1) _ _ hqr) ((f3.1.trans f4.1) _ _ hq2) (f4.1 _ _ f3.2) (fun x hx => by
          rcases hx with hx | hx | hx
          · rw [(List.mem_replicate.mp hx).2]; exact x_ok
          · exact (List.mem_append.mp hx).elim (okp x) (okp x)
          · exact absurd hx List.not_mem_nil) (by rw [List.length_replicate]; omega) (by rw [List.length_append]; omega) (Nat.zero_le _)
        have tbZ := tbY.ext sZ
        have DZ := DY.same sZ
        have hqaZ := sZ _ _ hqaY
        have hppZ := sZ _ _ hppY
        have hDZ := sZ _ _ hDY
        have hqZ := sZ _ _ hqY
        clear hq2 hqr fR f2 f3 f4 sZ
        refine ⟨vN way, rfl, ql, _, (way : Int), .ref qB, rfl, rfl, sqL upd_same, atI_nat eB, ?_⟩
        refine ⟨qa, qB, _, _, rfl, rfl, hqaZ, hB, by rw [List.length_map, List.length_map, List.length_take]; exact szL (by omega), fun q7 nq7 => ?_⟩
        have f7 := new_at (o := .lst ((b.take at_).map kV ++ Bk_.map kV)) nq7
        have hq7 := f7.2
        refine ⟨.ref q6, rfl, vN at_, rfl, .ref pp, rfl, pp, _, rfl, .inl (sqL (f7.1 _ _ hppZ)), _, _, rfl, rfl, _, rfl, q6, _, rfl, sqL (f7.1 _ _ hqZ), fun q8 nq8 => ?_⟩
        have f8 := new_at (o := .lst (cutV (b.map kV) (some ((at_ : Int) + ((pt_.map kV).length : Nat))) none)) nq8
        have e8 : cutV (b.map kV) (some ((at_ : Int) + ((pt_.map kV).length : Nat))) none = (b.drop (at_ + pt_.length)).map kV := by
          have z := cutV_from (b.map kV) (at_ + pt_.length)
          rw [List.length_map, List.map_drop]
          exact z
        have hq8 := f8.2.trans (congrArg (fun l => some (HO.lst l)) e8)
        refine ⟨q7, q8, _, _, rfl, rfl, f8.1 _ _ hq7, hq8, by rw [List.length_append, List.length_map, List.length_map, List.length_map, List.length_take, List.length_drop]; exact szL (by omega), fun q9 nq9 => ?_⟩
        have f9 := new_at (o := .lst ((b.take at_).map kV ++ Bk_.map kV ++ (b.drop (at_ + pt_.length)).map kV)) nq9
        have e9 : (b.take at_).map kV ++ Bk_.map kV ++ (b.drop (at_ + pt_.length)).map kV = (b.take at_ ++ Bk_ ++ b.drop (at_ + pt_.length)).map kV := by rw [List.map_append, List.map_append]
        have sW := (f7.1.trans f8.1).trans f9.1
        have nq9p := pN (DZ.same (f7.1.trans f8.1)) nq9
        refine ⟨_, _, _, _, q9, b.take at_ ++ Bk_ ++ b.drop (at_ + pt_.length), c + 4, rfl, tbZ.ext sW, DZ.same sW, by omega, sW _ _ hDZ, f9.2.trans (congrArg (fun l => some (HO.lst l)) e9), nq9p.1, nq9p.2.1, fun x hx => ?_, ?_, ?_⟩
        · rcases List.mem_append.mp hx with hx | hx
          · rcases List.mem_append.mp hx with hx | hx
            · exact okb x (List.mem_of_mem_take hx)
            · exact okB x hx
          · exact okb x (List.mem_of_mem_drop hx)
        · rw [List.length_append, List.length_append, List.length_take, List.length_drop]
          omega
        · rw [List.length_append, List.length_append, List.length_take, List.length_drop]
          omega
      · rintro σ HA ⟨x4, x7, x8, x9, p6, b, c, rfl, tbA, DA, hc, h5, h6, np1, np2, okb, lb1, lb2⟩
        have lb : 100 ≤ b.length ∧ b.length ≤ 400 := by omega
        -- waste
        refine ⟨Nat.zero_le _, fun w1 nw1 => ?_⟩
        have f1 := new_at (o := .lst []) nw1
        refine ⟨by show 1 ≤ sizeLine; decide, fun w2 nw2 => ?_⟩
        have f2 := new_at (o := .lst [.str " "]) nw2
        refine ⟨by show 1 ≤ sizeLine; decide, fun w3 nw3 => ?_⟩
        have f3 := new_at (o := .lst [.str "a"]) nw3
        refine ⟨by show 3 ≤ sizeLine; decide, fun wl nwl => ?_⟩
        have f4 := new_at (o := .lst [.ref w1, .ref w2, .ref w3]) nwl
        have n1 := pN DA nw1
        have n2 := pN (DA.same f1.1) nw2
        have n3 := pN (DA.same (f1.1.trans f2.1)) nw3
        have n4 := pN (DA.same ((f1.1.trans f2.1).trans f3.1)) nwl
        have s4 := ((f1.1.trans f2.1).trans f3.1).trans f4.1
        have D4 := DA.same s4
        have tb4 := tbA.ext s4
        refine ⟨.ref p, rfl, p, l1, l2, 3, c, rfl, by decide, by decide, by omega, D4, fun HB way hway kB DB => ?_⟩
        have tbB := TabsN.keep2 tb4 D4 kB
        have h5B := kB _ _ (s4 _ _ h5) nDp.1 nDp.2.1
        have h6B := kB _ _ (s4 _ _ h6) np1 np2
        obtain ⟨wa, waste, eW, hW', _, lW, _⟩ := three_way (m := 1) (A := []) (B := [.inr " "]) (C := [.inr "a"]) hway (kB _ _ (((f2.1.trans f3.1).trans f4.1) _ _ f1.2) n1.1 n1.2.1) (kB _ _ ((f3.1.trans f4.1) _ _ f2.2) n2.1 n2.2.1) (kB _ _ (f4.1 _ _ f3.2) n3.1 n3.2.1)
          (fun x hx => by
            rcases hx with hx | hx | hx
            · cases hx
            · rw [List.mem_singleton.mp hx]; show PyData.canLay0 _ = true; decide +kernel
            · rw [List.mem_singleton.mp hx]; show PyData.canLay0 _ = true; decide +kernel) (Nat.zero_le _) (Nat.le_refl _) (Nat.le_refl _)
        have hwl := kB _ _ f4.2 n4.1 n4.2.1
        refine ⟨wl, _, (way : Int), .ref wa, rfl, rfl, sqL hwl, atI_nat eW, ?_⟩
        clear hwl f1 f2 f3 f4 n1 n2 n3 n4 s4 D4 tb4 kB tbA DA nw1 nw2 nw3 nwl eW hway
        generalize ha_ : ks = as at *
        have la : 180 ≤ as.length ∧ as.length ≤ 320 := by omega
        -- the first matcher
        refine ⟨wa, rfl, .ref D, rfl, .ref p6, rfl, tbB, fun f1 c1 HC eN1 nn1 tbC nf1 hf1 hc1 => ⟨rfl, rfl, fun m1 dx1 nm1 nd1 ne1 => ⟨c1, m1, D, p6, f1, dx1, true, as, b, waste, eV1 _ _ _ _, upd_same, ?_⟩⟩⟩
        have nL : ∀ {xs : List V}, (∀ ps, HO.lst xs ≠ .tbl ps) := fun {xs} ps e => nomatch e
        have h5C := eN1 _ _ h5B nL
        have h6C := eN1 _ _ h6B nL
        have hWC := eN1 _ _ hW' nL
        have sM1 := (same_upd (o := .own m1) nd1).trans (same_upd (H := upd HC dx1 (.own m1)) (p := m1) (o := .ins C dx1 []) (by rw [upd_ne ne1.symm]; exact nm1))
        refine ⟨sM1 _ _ h5C, sM1 _ _ h6C, sM1 _ _ hf1, sM1 _ _ hc1, sM1 _ _ hWC, by omega, fun H2 sX1 MA1 => ⟨rfl, ?_⟩⟩
        have s2 := sameX_new nm1 nd1 sX1
        have tb2 := tbC.ext s2
        have h52 := s2 _ _ h5C
        have h62 := s2 _ _ h6C
        have hW2 := s2 _ _ hWC
        clear sX1 sM1 s2 h5C h6C hWC tbC hf1 hc1 nf1 eN1 nn1 nm1 nd1 ne1 h5B h6B hW' tbB DB
        -- the second
        refine ⟨wa, rfl, .ref D, rfl, .ref p6, rfl, tb2, fun f2 c2 HD eN2 nn2 tbD nf2 hf2 hc2 => ⟨rfl, rfl, fun m2 dx2 nm2 nd2 ne2 => ⟨c2, m2, D, p6, f2, dx2, false, as, b, waste, eV2 _ _ _ _ _, upd_same, ?_⟩⟩⟩
        have h5D := eN2 _ _ h52 nL
        have h6D := eN2 _ _ h62 nL
        have hWD := eN2 _ _ hW2 nL
        have sM2 := (same_upd (o := .own m2) nd2).trans (same_upd (H := upd HD dx2 (.own m2)) (p := m2) (o := .ins C dx2 []) (by rw [upd_ne ne2.symm]; exact nm2))
        refine ⟨sM2 _ _ h5D, sM2 _ _ h6D, sM2 _ _ hf2, sM2 _ _ hc2, sM2 _ _ hWD, by omega, fun H3 sX2 MA2 => ⟨rfl, ?_⟩⟩
        have s3 := sameX_new nm2 nd2 sX2
        have h5 := s3 _ _ h5D
        have h6 := s3 _ _ h6D
        have hW := s3 _ _ hWD
        have MA1 := (MA1.ext eN2).same s3
        clear sX2 sM2 s3 h5D h6D hWD tbD hf2 hc2 nf2 eN2 nn2 nm2 nd2 ne2 h52 h62 hW2 tb2
        -- for some in (matcher, plain)
        refine ⟨.ref m1, rfl, .ref m2, rfl, by show 2 ≤ sizeLine; decide, fun pm nm => ⟨pm, rfl, ⟨_, sqT upd_same⟩, ?_⟩⟩
        have sm0 := new_at (o := .tup [.ref m1, .ref m2]) nm
        refine for_tup (K := K) (a := pm) (xs := [.ref m1, .ref m2]) (fun i σ H' => ∃ x12 : Option V, σ = [some (.ref a), some (.ref p), some (vN n), some (vN rare), x4, some (.ref D), some (.ref p6), x7, x8, x9, some (.ref m1), some (.ref m2), x12, none, none, none, none, none, none, none, none, some (.ref wa), none] ∧ Same H3 H' ∧ H' pm = some (.tup [.ref m1, .ref m2])) ?_ ?_ ?_ ?_
        · exact ⟨none, rfl, sm0.1, sm0.2⟩
        · rintro i σ H' _ ⟨x12, rfl, _, hp⟩
          exact sqT hp
        · rintro i x σ H4 hx ⟨x12, rfl, s4, hp4⟩
          obtain ⟨m, sk, rfl, MA⟩ : ∃ m sk, x = .ref m ∧ MtAt C H3 m as b (wsB waste) sk := by
            match i, hx with
            | 0, hx => exact ⟨m1, _, (Option.some.inj hx).symm, MA1⟩
            | 1, hx => exact ⟨m2, _, (Option.some.inj hx).symm, MA2⟩
          obtain ⟨dx, t1, t2, d, jl, pl, fj, au, kvs, js, MW⟩ := id (MA.same s4)
          refine ⟨.ref m, rfl, m, dx, _, rfl, MW.ins, rfl, m, as, b, _, sk, rfl, MA.same s4, by omega, by omega, fun H5 pb xs s5 npb hpb hxs => ?_⟩
          have s45 := s4.trans s5
          refine ⟨.ref D, rfl, .ref p6, rfl, pb, D, p6, as, b, xs, _, _, rfl, hpb, hxs, s45 _ _ h5, s45 _ _ h6, hok, okb, bks_sc as b (wsB waste) sk, fun H6 s6 => ⟨true, rfl, iteF ?_⟩⟩
          have s46 := s45.trans s6
          obtain ⟨dx', t1', t2', d', jl', pl', fj', au', kvs', js', MW'⟩ := id (MA.same s46)
          refine ⟨.ref D, rfl, .ref p6, rfl, .ref m, rfl, m, dx', _, rfl, MW'.ins, rfl, m, as, b, _, sk, rfl, MA.same s46, by omega, by omega, fun H7 pc ys s7 hpc hys => ?_⟩
          have s47 := s46.trans s7
          have ck : COk (eqB as b) as.length b.length 0 0 none (cgo 0 0 (bks as b (wsB waste) sk ++ [(as.length, b.length, 0)])) := cgo_ok (bks_sc as b (wsB waste) sk) (fun _ => rfl) (fun e => nomatch e)
          have cl : (cgo 0 0 (bks as b (wsB waste) sk ++ [(as.length, b.length, 0)])).length ≤ 5000 := by
            have z1 := cgo_len (bks as b (wsB waste) sk ++ [(as.length, b.length, 0)]) 0 0
            have z2 := bks_len as b (wsB waste) sk
            rw [List.length_append, List.length_singleton] at z1
            omega
          refine ⟨D, p6, pc, as, b, ys, _, rfl, s47 _ _ h5, s47 _ _ h6, hpc, hys, hok, okb, ck, cl, fun H8 s8 => ⟨true, rfl, iteF ?_⟩⟩
          exact ⟨_, rfl, s47.trans s8, (s5.trans (s6.trans (s7.trans s8))) _ _ hp4⟩
        · rintro σ H4 ⟨x12, rfl, s4, _⟩
          -- the popular things
          refine ⟨.ref p6, rfl, .ref wa, rfl, p6, wa, b, waste, rfl, s4 _ _ h6, s4 _ _ hW, by omega, fun H5 po L s5 npo hpo lpo hm => ⟨_, _, _, rfl, ?_⟩⟩
          have s35 := s4.trans s5
          have hsk := often_sk hm
          obtain ⟨sk1, hsk1⟩ : ∃ sk1, skB b waste true = sk1 := ⟨_, rfl⟩
          rw [hsk1] at MA1 hsk
          obtain ⟨dx, t1, t2, d, jl, pl, fj, au, kvs, js, MW⟩ := id (MA1.same s35)
          -- the gaps
          refine ⟨.ref m1, rfl, m1, dx, _, rfl, MW.ins, rfl, m1, as, b, _, sk1, rfl, MA1.same s35, by omega, by omega, fun H6 pb xs s6 npb hpb hxs => ?_⟩
          have s36 := s35.trans s6
          have hpo6 := s6 _ _ hpo
          obtain ⟨bs, hbs⟩ : ∃ bs, bks as b (wsB waste) sk1 = bs := ⟨_, rfl⟩
          have sc := bks_sc as b (wsB waste) sk1
          have lbs := bks_len as b (wsB waste) sk1
          rw [hbs] at hxs sc lbs
          refine ⟨pb, rfl, ⟨_, sqL hpb⟩, ?_⟩
          refine for_list (K := K) (xs := xs) (fun m σ H' => ∃ (lo lo2 : Nat) (x16 x17 x18 : Option V), σ = [some (.ref a), some (.ref p), some (vN n), some (vN rare), x4, some (.ref D), some (.ref p6), x7, x8, x9, some (.ref m1), some (.ref m2), x12, some (vN lo), some (vN lo2), some (.ref po), x16, x17, x18, none, none, some (.ref wa), none] ∧ Same H6 H' ∧
            (m ≤ bs.length → ∃ t, SC (eqB as b) (fun R => (lmS as b (wsB waste) sk1 R).2.2 = 0) t lo lo2 (bs.drop m) as.length b.length)) ?_ ?_ ?_ ?_
          · exact ⟨0, 0, none, none, none, rfl, fun _ _ e => e, fun _ => ⟨false, sc⟩⟩
          · rintro m σ H' _ ⟨lo, lo2, x16, x17, x18, rfl, s7, _⟩
            exact sqL (s7 _ _ hpb)
          · rintro m x σ H7 hx ⟨lo, lo2, x16, x17, x18, rfl, s7, ck⟩
            obtain ⟨pk, t, rfl, ht, hpk⟩ := (hxs.same s7).2 m x hx
            rw [List.getElem?_map] at ht
            obtain ⟨⟨bi, bj, nn⟩, hb, rfl⟩ : ∃ bk, (bs ++ [(as.length, b.length, 0)])[m]? = some bk ∧ bkV bk = t := by
              cases e : (bs ++ [(as.length, b.length, 0)])[m]? with
              | none => rw [e] at ht; cases ht
              | some bk => rw [e] at ht; exact ⟨bk, rfl, Option.some.inj ht⟩
            obtain ⟨c1, c2, c3, c4, gap, ck'⟩ : lo ≤ bi ∧ lo2 ≤ bj ∧ bi ≤ as.length ∧ bj ≤ b.length ∧ (lmS as b (wsB waste) sk1 ⟨lo, bi, lo2, bj⟩).2.2 = 0 ∧ (m + 1 ≤ bs.length → ∃ t, SC (eqB as b) (fun R => (lmS as b (wsB waste) sk1 R).2.2 = 0) t (bi + nn) (bj + nn) (bs.drop (m + 1)) as.length b.length) := by
              by_cases hm' : m < bs.length
              · rw [List.getElem?_append_left hm'] at hb
                have hdr : bs.drop m = (bi, bj, nn) :: bs.drop (m + 1) := by
                  obtain ⟨hm, he⟩ := List.getElem?_eq_some_iff.mp hb
                  rw [List.drop_eq_getElem_cons hm, he]
                obtain ⟨t, sct⟩ := ck (by omega)
                rw [hdr] at sct
                obtain ⟨d1, d2, d3, d4, d5, d6, d7⟩ := sct
                have := d7.le
                exact ⟨d1, d2, by omega, by omega, d5, fun _ => ⟨_, d7⟩⟩
              · have hl : m = bs.length := by
                  have := (List.getElem?_eq_some_iff.mp hb).1
                  rw [List.length_append, List.length_singleton] at this
                  omega
                rw [hl, List.getElem?_append_right (Nat.le_refl _), Nat.sub_self] at hb
                have hb' : (as.length, b.length, 0) = (bi, bj, nn) := Option.some.inj hb
                cases hb'
                obtain ⟨t, sct⟩ := ck (by omega)
                rw [hl, List.drop_length] at sct
                obtain ⟨d1, d2, d3⟩ := sct
                exact ⟨d1, d2, Nat.le_refl _, Nat.le_refl _, d3, fun z => by omega⟩
            refine ⟨pk, _, rfl, sqT hpk, rfl, _, _, rfl, _, _, rfl, _, _, rfl, rfl, ?_⟩
            refine ⟨.ref D, rfl, .ref p6, rfl, vN lo, rfl, vN bi, rfl, vN lo2, rfl, vN bj, rfl, by show 4 ≤ sizeLine; decide, fun pr nr => ?_⟩
            have fr := new_at (o := .tup (rgV ⟨lo, bi, lo2, bj⟩)) nr
            have s38 := (s36.trans s7).trans fr.1
            refine ⟨.ref wa, rfl, .ref po, rfl, D, p6, pr, wa, po, as, b, waste, L, ⟨lo, bi, lo2, bj⟩, rfl, s38 _ _ h5, s38 _ _ h6, fr.2, s38 _ _ hW, fr.1 _ _ (s7 _ _ hpo6), ⟨c1, c2⟩, c3, c4, by omega, by omega, by omega, lpo, fun H8 pq s8 hpq => ?_⟩
            rw [hsk] at hpq
            obtain ⟨⟨q1, q2, q3⟩, hq⟩ : ∃ bk : Bk, lmS as b (wsB waste) sk1 ⟨lo, bi, lo2, bj⟩ = bk := ⟨_, rfl⟩
            rw [hq] at hpq gap
            have gap : q3 = 0 := gap
            subst gap
            refine ⟨pq, _, 2, vN 0, rfl, rfl, sqT hpq, atI_nat (j := 2) rfl, _, _, rfl, rfl, _, rfl, iteF ?_⟩
            exact ⟨vN bi, rfl, vN nn, rfl, _, _, rfl, rfl, vN bj, rfl, vN nn, rfl, _, _, rfl, rfl, _, _, rfl, bi + nn, bj + nn, _, _, _, rfl, (s7.trans fr.1).trans s8, ck'⟩
          · rintro σ H7 ⟨lo, lo2, x16, x17, x18, rfl, s7, _⟩
            have s37 := s36.trans s7
            have hpo7 := s7 _ _ hpo6
            have okL : ∀ x ∈ L, kOk x := fun x hx => by
              have z := hm x
              rw [memB_iff.mpr hx] at z
              exact okb x (memB_iff.mp (Bool.and_eq_true_iff.mp z.symm).1)
            -- without popular things both tell the same
            refine ⟨fun σ H' => σ = [some (.ref a), some (.ref p), some (vN n), some (vN rare), x4, some (.ref D), some (.ref p6), x7, x8, x9, some (.ref m1), some (.ref m2), x12, some (vN lo), some (vN lo2), some (.ref po), x16, x17, x18, none, none, some (.ref wa), none] ∧ Same H7 H', ?_, ?_⟩
            · refine ⟨.ref po, rfl, Nat.zero_le _, fun pe ne => ?_⟩
              have fe := new_at (o := .lst []) ne
              refine ⟨_, _, .lst (sqL (fe.1 _ _ hpo7)) (kD_all L), .lst (sqL fe.2) .nil, kD_shL okL, rfl, _, rfl, ?_⟩
              rw [eqv_nil]
              by_cases cL : L = []
              · subst cL
                have skE : bks as b (wsB waste) (skB b waste false) = bs := by
                  rw [← skB_same (b := b) (waste := waste) (fun x hx => by
                    have z := hm x
                    rw [memB_iff.mpr hx] at z
                    exact z.symm), hsk1, hbs]
                have s38 := s37.trans fe.1
                obtain ⟨dx1, u1, u2, u3, u4, u5, u6, u7, u8, u9, MW1⟩ := id (MA1.same s38)
                refine iteT ⟨.ref m1, rfl, m1, dx1, _, rfl, MW1.ins, rfl, m1, as, b, _, sk1, rfl, MA1.same s38, by omega, by omega, fun H8 q1 xs1 s8 nq1' hq1 hxs1 => ?_⟩
                have s39 := s38.trans s8
                obtain ⟨dx2, v1, v2, v3, v4, v5, v6, v7, v8, v9, MW2⟩ := id (MA2.same s39)
                refine ⟨.ref m2, rfl, m2, dx2, _, rfl, MW2.ins, rfl, m2, as, b, _, _, rfl, MA2.same s39, by omega, by omega, fun H9 q2 xs2 s9 nq2' hq2 hxs2 => ?_⟩
                rw [hbs] at hxs1
                rw [skE] at hxs2
                refine ⟨.ref q1, .ref q2, rfl, de_blocks (s9 _ _ hq1) hq2 (hxs1.same s9) hxs2 (by rw [List.length_append, List.length_singleton]; omega), fun HA sA => ⟨true, rfl, iteF ⟨rfl, ((fe.1.trans s8).trans s9).trans sA⟩⟩⟩
              · rw [show (L.map kD).isEmpty = false by cases L with | nil => exact absurd rfl cL | cons _ _ => rfl]
                exact iteF (iteF ⟨rfl, fe.1⟩)
            · rintro σ H8 ⟨rfl, s8⟩
              have s38 := s37.trans s8
              have hpo8 := s8 _ _ hpo7
              -- first
              refine ⟨.ref D, rfl, .ref p6, rfl, .ref D, rfl, D, _, rfl, .inl (sqL (s38 _ _ h5)), .ref p6, rfl, p6, _, rfl, .inl (sqL (s38 _ _ h6)), ?_⟩
              rw [List.length_map, List.length_map]
              refine ⟨by show 4 ≤ sizeLine; decide, fun pr nr => ?_⟩
              have fr := new_at (o := .tup (rgV (Rg.all as b))) nr
              have s39 := s38.trans fr.1
              refine ⟨.ref wa, rfl, .ref po, rfl, D, p6, pr, wa, po, as, b, waste, L, Rg.all as b, rfl, s39 _ _ h5, s39 _ _ h6, fr.2, s39 _ _ hW, fr.1 _ _ hpo8, Rg.all_wf as b, Nat.le_refl _, Nat.le_refl _, by omega, by omega, by omega, lpo, fun H9 pq s9 hpq => ?_⟩
              rw [hsk] at hpq
              have hold := bks_hold as b (wsB waste) sk1
              obtain ⟨⟨q1, q2, q3⟩, hq⟩ : ∃ bk : Bk, lmS as b (wsB waste) sk1 (Rg.all as b) = bk := ⟨_, rfl⟩
              rw [hq] at hpq hold
              rw [hbs] at hold
              have sA := s39.trans s9
              -- kept
              obtain ⟨dx3, v1, v2, v3, v4, v5, v6, v7, v8, v9, MW3⟩ := id (MA1.same sA)
              refine ⟨.ref m1, rfl, m1, dx3, _, rfl, MW3.ins, rfl, m1, as, b, _, sk1, rfl, MA1.same sA, by omega, by omega, fun HB pz zs sB npz hpz hzs => ?_⟩
              rw [hbs] at hzs
              have hpqB := sB _ _ hpq
              refine ⟨pz, rfl, ⟨_, sqL hpz⟩, fun D2 nD2 => ?_⟩
              refine lc_list (K := K) (a := pz) (xs := zs) (fun i H' => ∃ (ys : List V) (kk : List Bk), Same HB H' ∧ H' D2 = some (.lst ys) ∧ AllT H' ys (kk.map bkV) ∧ ys.length ≤ i ∧ ∀ Bk_ ∈ (bs ++ [(as.length, b.length, 0)]).take i, Bk_.1 ≤ q1 ∧ q1 + q3 ≤ Bk_.1 + Bk_.2.2 → Bk_ ∈ kk) ?_ ?_ ?_ ?_
              · exact ⟨[], [], same_upd nD2, upd_same, AllT.nil, Nat.le_refl _, fun x hx => absurd hx (by simp)⟩
              · rintro i H' _ ⟨ys, kk, sm, _⟩
                exact sqL (sm _ _ hpz)
              · rintro i x H' hx ⟨ys, kk, sm, hD2, hys, lys, hk⟩
                obtain ⟨pk, t, rfl, ht, hpk⟩ := (hzs.same sm).2 i x hx
                rw [List.getElem?_map] at ht
                obtain ⟨⟨bi, bj, nn⟩, hb, rfl⟩ : ∃ bk, (bs ++ [(as.length, b.length, 0)])[i]? = some bk ∧ bkV bk = t := by
                  cases e : (bs ++ [(as.length, b.length, 0)])[i]? with
                  | none => rw [e] at ht; cases ht
                  | some bk => rw [e] at ht; exact ⟨bk, rfl, Option.some.inj ht⟩
                have hi : i ≤ 1000 := by
                  have := (List.getElem?_eq_some_iff.mp hb).1
                  rw [List.length_append, List.length_singleton] at this
                  omega
                have hpq' := sm _ _ hpqB
                have skip : ¬ (bi ≤ q1 ∧ q1 + q3 ≤ bi + nn) → ∃ (ys : List V) (kk : List Bk), Same HB H' ∧ H' D2 = some (.lst ys) ∧ AllT H' ys (kk.map bkV) ∧ ys.length ≤ i + 1 ∧ ∀ Bk_ ∈ (bs ++ [(as.length, b.length, 0)]).take (i + 1), Bk_.1 ≤ q1 ∧ q1 + q3 ≤ Bk_.1 + Bk_.2.2 → Bk_ ∈ kk := fun z =>
                  ⟨ys, kk, sm, hD2, hys, by omega, fun y hy hc => by
                    rw [take_snoc hb] at hy
                    rcases List.mem_append.mp hy with u | u
                    · exact hk y u hc
                    · rw [List.mem_singleton.mp u] at hc
                      exact absurd hc z⟩
                refine ⟨rfl, ?_⟩
                refine ⟨.ref pk, rfl, pk, _, 0, vN bi, rfl, rfl, sqT hpk, atI_nat (j := 0) rfl, .ref pq, rfl, pq, _, 0, vN q1, rfl, rfl, sqT hpq', atI_nat (j := 0) rfl, _, _, rfl, rfl, _, rfl, ?_⟩
                by_cases c1 : bi ≤ q1
                · rw [decide_eq_true (show (bi : Int) ≤ q1 by omega)]
                  refine iteT ⟨.ref pq, rfl, pq, _, 0, vN q1, rfl, rfl, sqT hpq', atI_nat (j := 0) rfl, .ref pq, rfl, pq, _, 2, vN q3, rfl, rfl, sqT hpq', atI_nat (j := 2) rfl, _, _, rfl, rfl,
                    .ref pk, rfl, pk, _, 0, vN bi, rfl, rfl, sqT hpk, atI_nat (j := 0) rfl, .ref pk, rfl, pk, _, 2, vN nn, rfl, rfl, sqT hpk, atI_nat (j := 2) rfl, _, _, rfl, rfl, _, _, rfl, rfl, _, rfl, ?_⟩
                  by_cases c2 : q1 + q3 ≤ bi + nn
                  · rw [decide_eq_true (show (q1 : Int) + q3 ≤ (bi : Int) + nn by omega)]
                    refine iteT ⟨.ref pk, rfl, ys, hD2, szl (by omega), ys ++ [.ref pk], kk ++ [(bi, bj, nn)], fun c o e => ?_, upd_same, ?_, by rw [List.length_append, List.length_singleton]; omega, fun y hy hc => ?_⟩
                    · rw [upd_ne (ne_of_none e nD2)]
                      exact sm _ _ e
                    · rw [List.map_append]
                      have nk : pk ≠ D2 := fun z => by rw [z, hD2] at hpk; cases hpk
                      refine AllT.snoc ⟨hys.1, fun u x hu => ?_⟩ (by rw [upd_ne nk]; exact hpk)
                      obtain ⟨p', t', e1, e2, e3⟩ := hys.2 u x hu
                      exact ⟨p', t', e1, e2, by rw [upd_ne (fun z => by rw [z, hD2] at e3; cases e3)]; exact e3⟩
                    · rw [take_snoc hb] at hy
                      rcases List.mem_append.mp hy with u | u
                      · exact List.mem_append_left _ (hk y u hc)
                      · exact List.mem_append_right _ u
                  · rw [decide_eq_false (show ¬ (q1 : Int) + q3 ≤ (bi : Int) + nn by omega)]
                    exact iteF (skip fun z => c2 z.2)
                · rw [decide_eq_false (show ¬ (bi : Int) ≤ q1 by omega)]
                  exact iteF (iteF (skip fun z => c1 z.1))
              · rintro HC ⟨ys, kk, sC, hD2, hys, lys, hk⟩
                have hzl : zs.length = bs.length + 1 := by rw [hzs.1, List.length_map, List.length_append]; rfl
                rw [hzl, List.take_of_length_le (by rw [List.length_append]; exact Nat.le_refl _)] at hk
                have hpqC := sC _ _ hpqB
                refine ⟨.ref pq, rfl, pq, _, 2, vN q3, rfl, rfl, sqT hpqC, atI_nat (j := 2) rfl, rfl, _, rfl, ?_⟩
                by_cases c0 : q3 = 0
                · rw [show decide (vN q3 = V.int 0) = true from decide_eq_true (by rw [c0]; rfl)]
                  exact iteT (q _)
                · rw [show decide (vN q3 = V.int 0) = false from decide_eq_false (fun z => c0 (by have := V.int.inj z; omega))]
                  obtain ⟨hB_, hB1, hB2⟩ := hold c0
                  refine iteF ⟨.ref D2, rfl, D2, rfl, ⟨_, sqL hD2⟩, fun D3 nD3 => ?_⟩
                  refine lc_list (K := K) (a := D2) (xs := ys) (fun i H' => Same HC H' ∧ H' D3 = some (.lst (((kk.take i).map fun y : Bk => decide (V.int ((y.2.1 : Int) - (y.1 : Int)) = V.int ((q2 : Int) - (q1 : Int)))).map V.bl))) ⟨same_upd nD3, upd_same⟩ ?_ ?_ ?_
                  · rintro i H' _ ⟨sm, _⟩
                    exact sqL (sm _ _ hD2)
                  · rintro i x H' hx ⟨sm, hD3⟩
                    obtain ⟨pk, t, rfl, ht, hpk⟩ := (hys.same sm).2 i x hx
                    rw [List.getElem?_map] at ht
                    obtain ⟨⟨bi, bj, nn⟩, hb, rfl⟩ : ∃ bk, kk[i]? = some bk ∧ bkV bk = t := by
                      cases e : kk[i]? with
                      | none => rw [e] at ht; cases ht
                      | some bk => rw [e] at ht; exact ⟨bk, rfl, Option.some.inj ht⟩
                    have hpq' := sm _ _ hpqC
                    refine ⟨rfl, ?_⟩
                    unfold tYes
                    refine iteT ⟨.ref pk, rfl, pk, _, 1, vN bj, rfl, rfl, sqT hpk, atI_nat (j := 1) rfl, .ref pk, rfl, pk, _, 0, vN bi, rfl, rfl, sqT hpk, atI_nat (j := 0) rfl, _, _, rfl, rfl,
                      .ref pq, rfl, pq, _, 1, vN q2, rfl, rfl, sqT hpq', atI_nat (j := 1) rfl, .ref pq, rfl, pq, _, 0, vN q1, rfl, rfl, sqT hpq', atI_nat (j := 0) rfl, _, _, rfl, rfl, rfl, _, hD3, ?_, fun c o e => ?_, ?_⟩
                    · rw [List.length_map, List.length_map, List.length_take]
                      refine szl ?_
                      have := hys.1
                      rw [List.length_map] at this
                      omega
                    · rw [upd_ne (ne_of_none e nD3)]
                      exact sm _ _ e
                    · rw [upd_same, take_snoc hb, List.map_append, List.map_append]
                      rfl
                  · rintro H' ⟨sm, hD3⟩
                    have hl : ys.length = kk.length := by rw [hys.1, List.length_map]
                    rw [hl, List.take_of_length_le (Nat.le_refl _)] at hD3
                    refine ⟨D3, _, rfl, sqL hD3, ?_⟩
                    have hin := hk hB_ (List.mem_append_left _ hB1) ⟨hB2.1, hB2.2.1⟩
                    rw [show (List.map (fun y : Bk => decide (V.int ((y.2.1 : Int) - (y.1 : Int)) = V.int ((q2 : Int) - (q1 : Int)))) kk).any id = true from List.any_eq_true.mpr ⟨true, List.mem_map.mpr ⟨hB_, hin, decide_eq_true (by
                      have z := hB2.2.2
                      show V.int _ = V.int _
                      congr 1
                      simp only at z
                      omega)⟩, rfl⟩]
                    exact q _
end
end Tw
end
section
namespace Tw
open PySem PySem.Spec PyProof.Rows L2 LamX NdefX
section
variable {P : Program} {w : World} {K : PySem.W.Frag} {mg : Str → Option Value} {base : Heap} {C : Addr}
theorem has_f {x : Str} {st : Stmt} {ps : List Str} {f : Addr} {fd : FuncData} (F : Fun K x x st f fd) (b : Binds K fd ps []) (g : mg x = some (.ref f)) : HasF K mg x st ps := ⟨f, fd, F, b, g⟩
/-- longest_match: all that it takes is written -/
theorem lm_binds {f : Addr} {fd : FuncData} (F : FunD K "longest_match" "Matcher.longest_match" (defArgs sLongest) (defBody sLongest) (defScope sLongest) [.int 0, .non, .int 0, .non] [] f fd) : Binds K fd ["self", "low", "high", "low2", "high2"] [] := by
  obtain ⟨ds, v, b⟩ := F.binds1 (ps := ["self", "low", "high", "low2", "high2"]) 5 4 (by decide) (by decide) (fun T kV doc pm an cdv ct us its hu hi => match us, its, hu, hi with | [_, _, _, _, _], [_, _, _, _], _, _ => ⟨_, rfl, rfl⟩)
  have v' : Vals [] ds := v
  cases v'
  exact b
theorem in_kb1 {f : Addr} {fd : FuncData} (F : FunD K "__init__" "Matcher.__init__" (defArgs sInit) (defBody sInit) (defScope sInit) [.str "", .str ""] [("junk", .non), ("auto", .bl true)] f fd) :
    ∃ g gV, KBn K fd ["self", "one", "other", "junk", "auto"] 3 ["junk"] g gV ∧ ∀ m a b j, gV [m, a, b] [j] = [m, a, b, j, .bl true] := by
  obtain ⟨its, mv, b⟩ := F.kbinds (ps := ["self", "one", "other", "junk", "auto"]) 3 ["junk"] [("auto", .bl true)] (fun us _ mv ws => us ++ (ws ++ mv)) (by decide) (by decide) (fun q hq => by rw [List.mem_singleton.mp hq]; exact List.mem_cons_of_mem _ List.mem_cons_self)
    (fun r1 _ r3 r4 => r1.append (r4.append r3)) (fun T D doc pm an cdv ct us its mv ws hu hi hm hw => match us, its, mv, ws, hu, hi, hm, hw with | [_, _, _], [_, _], [_], [_], _, _, _, _ => ⟨_, rfl, _, _, _, _, _, _, rfl, rfl, rfl⟩)
  exact ⟨_, _, b, fun m a b j => rfl⟩
theorem in_kb2 {f : Addr} {fd : FuncData} (F : FunD K "__init__" "Matcher.__init__" (defArgs sInit) (defBody sInit) (defScope sInit) [.str "", .str ""] [("junk", .non), ("auto", .bl true)] f fd) :
    ∃ g gV, KBn K fd ["self", "one", "other", "junk", "auto"] 3 ["junk", "auto"] g gV ∧ ∀ m a b j u, gV [m, a, b] [j, u] = [m, a, b, j, u] := by
  obtain ⟨its, mv, b⟩ := F.kbinds (ps := ["self", "one", "other", "junk", "auto"]) 3 ["junk", "auto"] [] (fun us _ mv ws => us ++ (ws ++ mv)) (by decide) (by decide) (fun q hq => absurd hq List.not_mem_nil)
    (fun r1 _ r3 r4 => r1.append (r4.append r3)) (fun T D doc pm an cdv ct us its mv ws hu hi hm hw => match us, its, mv, ws, hu, hi, hm, hw with | [_, _, _], [_, _], [], [_, _], _, _, _, _ => ⟨_, rfl, rfl⟩)
  exact ⟨_, _, b, fun m a b j u => rfl⟩
/-- the lambdas -/
theorem lamW1 (cl : List (Str × Addr)) (c' : Addr) : LamW P w K mg ⟨LQ, lamA lam1, lamB lam1, lamS lam1, cl, c'⟩ :=
  ⟨nscope_by (by show nscB _ _ _ (lamS lam1) = true; decide +kernel), fun pm ctv u => rfl, fun base f A outer s H => pe_cmpR op_in_seq (pv 0) (pv 1) (by rfl)⟩
theorem lamW2 (cl : List (Str × Addr)) (c' : Addr) : LamW P w K mg ⟨LQ, lamA lam2, lamB lam2, lamS lam2, cl, c'⟩ :=
  ⟨nscope_by (by show nscB _ _ _ (lamS lam2) = true; decide +kernel), fun pm ctv u => rfl, fun base f A outer s H => pe_cmpR op_in_seq (pv 0) (pv 1) (by rfl)⟩
end
/-- what the top has written -/
theorem all_mk {l : PySem.W.OpenLaw} {w : World} {K : PySem.W.Frag} {h : Heap} {mg : Str → Option Value} {fa C c P0 : Addr} (X : K.In h) (G : h.Ns mainGlobals mg) (hfa : mg "law" = some (.ref fa)) (hT : h.get? P0 = some { cls := .none, data := .fields #[] }) (nP : K.lookup P0 = none)
    {T_in D_in : Addr} {oT_in : Value} {dT_in : Option Addr} {its_in : Array Value} {sT_in : Array (Option Value)} {uj_in ua_in : Value}
    {T_lm : Addr} {oT_lm : Value} {dT_lm : Option Addr} {its_lm : Array Value} {sT_lm : Array (Option Value)}
    {od_isI an_isI : Option Addr} {sl_isI : Array (Option Value)} {oc_isI kV_isI dc_isI pm_isI cd_isI ct_isI : Value} {f_isI : Addr}
    (a_isI : PySem.W.nsIn K mainGlobals "is_integer" = some (some (.ref f_isI))) (l_isI : K.lookup f_isI = some ⟨oc_isI, od_isI, .func (PySem.W.fnOf "is_integer" "is_integer" (defArgs sIsInt) (defBody sIsInt) (defScope sIsInt) .none kV_isI dc_isI pm_isI an_isI cd_isI ct_isI), sl_isI⟩) (c_isI : PySem.W.codeIn K cd_isI "is_integer" = true) (k_isI : PySem.W.keepIn K (.ref f_isI) = true)
    {od_isR an_isR : Option Addr} {sl_isR : Array (Option Value)} {oc_isR kV_isR dc_isR pm_isR cd_isR ct_isR : Value} {f_isR : Addr}
    (a_isR : PySem.W.nsIn K mainGlobals "is_row" = some (some (.ref f_isR))) (l_isR : K.lookup f_isR = some ⟨oc_isR, od_isR, .func (PySem.W.fnOf "is_row" "is_row" (defArgs sIsRow) (defBody sIsRow) (defScope sIsRow) .none kV_isR dc_isR pm_isR an_isR cd_isR ct_isR), sl_isR⟩) (c_isR : PySem.W.codeIn K cd_isR "is_row" = true) (k_isR : PySem.W.keepIn K (.ref f_isR) = true)
    {od_ro an_ro : Option Addr} {sl_ro : Array (Option Value)} {oc_ro kV_ro dc_ro pm_ro cd_ro ct_ro : Value} {f_ro : Addr}
    (a_ro : PySem.W.nsIn K mainGlobals "row_of" = some (some (.ref f_ro))) (l_ro : K.lookup f_ro = some ⟨oc_ro, od_ro, .func (PySem.W.fnOf "row_of" "row_of" (defArgs sRowOf) (defBody sRowOf) (defScope sRowOf) .none kV_ro dc_ro pm_ro an_ro cd_ro ct_ro), sl_ro⟩) (c_ro : PySem.W.codeIn K cd_ro "row_of" = true) (k_ro : PySem.W.keepIn K (.ref f_ro) = true)
    {od_wb an_wb : Option Addr} {sl_wb : Array (Option Value)} {oc_wb kV_wb dc_wb pm_wb cd_wb ct_wb : Value} {f_wb : Addr}
    (a_wb : PySem.W.nsIn K mainGlobals "word_between" = some (some (.ref f_wb))) (l_wb : K.lookup f_wb = some ⟨oc_wb, od_wb, .func (PySem.W.fnOf "word_between" "word_between" (defArgs sWordB) (defBody sWordB) (defScope sWordB) .none kV_wb dc_wb pm_wb an_wb cd_wb ct_wb), sl_wb⟩) (c_wb : PySem.W.codeIn K cd_wb "word_between" = true) (k_wb : PySem.W.keepIn K (.ref f_wb) = true)
    {od_cb an_cb : Option Addr} {sl_cb : Array (Option Value)} {oc_cb kV_cb dc_cb pm_cb cd_cb ct_cb : Value} {f_cb : Addr}
    (a_cb : PySem.W.nsIn K mainGlobals "codes_between" = some (some (.ref f_cb))) (l_cb : K.lookup f_cb = some ⟨oc_cb, od_cb, .func (PySem.W.fnOf "codes_between" "codes_between" (defArgs sCodesB) (defBody sCodesB) (defScope sCodesB) .none kV_cb dc_cb pm_cb an_cb cd_cb ct_cb), sl_cb⟩) (c_cb : PySem.W.codeIn K cd_cb "codes_between" = true) (k_cb : PySem.W.keepIn K (.ref f_cb) = true)
    {od_ic an_ic : Option Addr} {sl_ic : Array (Option Value)} {oc_ic kV_ic dc_ic pm_ic cd_ic ct_ic : Value} {f_ic : Addr}
    (a_ic : PySem.W.nsIn K mainGlobals "is_code" = some (some (.ref f_ic))) (l_ic : K.lookup f_ic = some ⟨oc_ic, od_ic, .func (PySem.W.fnOf "is_code" "is_code" (defArgs sIsCode) (defBody sIsCode) (defScope sIsCode) .none kV_ic dc_ic pm_ic an_ic cd_ic ct_ic), sl_ic⟩) (c_ic : PySem.W.codeIn K cd_ic "is_code" = true) (k_ic : PySem.W.keepIn K (.ref f_ic) = true)
    {od_ir an_ir : Option Addr} {sl_ir : Array (Option Value)} {oc_ir kV_ir dc_ir pm_ir cd_ir ct_ir : Value} {f_ir : Addr}
    (a_ir : PySem.W.nsIn K mainGlobals "is_right_code" = some (some (.ref f_ir))) (l_ir : K.lookup f_ir = some ⟨oc_ir, od_ir, .func (PySem.W.fnOf "is_right_code" "is_right_code" (defArgs sIsRight) (defBody sIsRight) (defScope sIsRight) .none kV_ir dc_ir pm_ir an_ir cd_ir ct_ir), sl_ir⟩) (c_ir : PySem.W.codeIn K cd_ir "is_right_code" = true) (k_ir : PySem.W.keepIn K (.ref f_ir) = true)
    {od_is_ an_is_ : Option Addr} {sl_is_ : Array (Option Value)} {oc_is_ kV_is_ dc_is_ pm_is_ cd_is_ ct_is_ : Value} {f_is_ : Addr}
    (a_is_ : PySem.W.nsIn K mainGlobals "is_codes" = some (some (.ref f_is_))) (l_is_ : K.lookup f_is_ = some ⟨oc_is_, od_is_, .func (PySem.W.fnOf "is_codes" "is_codes" (defArgs sIsCodes) (defBody sIsCodes) (defScope sIsCodes) .none kV_is_ dc_is_ pm_is_ an_is_ cd_is_ ct_is_), sl_is_⟩) (c_is_ : PySem.W.codeIn K cd_is_ "is_codes" = true) (k_is_ : PySem.W.keepIn K (.ref f_is_) = true)
    {od_dr an_dr : Option Addr} {sl_dr : Array (Option Value)} {oc_dr kV_dr dc_dr pm_dr cd_dr ct_dr : Value} {f_dr : Addr}
    (a_dr : PySem.W.nsIn K mainGlobals "_law_draws" = some (some (.ref f_dr))) (l_dr : K.lookup f_dr = some ⟨oc_dr, od_dr, .func (PySem.W.fnOf "_law_draws" "_law_draws" (defArgs sLDraws) (defBody sLDraws) (defScope sLDraws) .none kV_dr dc_dr pm_dr an_dr cd_dr ct_dr), sl_dr⟩) (c_dr : PySem.W.codeIn K cd_dr "_law_draws" = true) (k_dr : PySem.W.keepIn K (.ref f_dr) = true)
    {od_mx an_mx : Option Addr} {sl_mx : Array (Option Value)} {oc_mx kV_mx dc_mx pm_mx cd_mx ct_mx : Value} {f_mx : Addr}
    (a_mx : PySem.W.nsIn K mainGlobals "_law_mixed" = some (some (.ref f_mx))) (l_mx : K.lookup f_mx = some ⟨oc_mx, od_mx, .func (PySem.W.fnOf "_law_mixed" "_law_mixed" (defArgs sLMixed) (defBody sLMixed) (defScope sLMixed) .none kV_mx dc_mx pm_mx an_mx cd_mx ct_mx), sl_mx⟩) (c_mx : PySem.W.codeIn K cd_mx "_law_mixed" = true) (k_mx : PySem.W.keepIn K (.ref f_mx) = true)
    {od_tk an_tk : Option Addr} {sl_tk : Array (Option Value)} {oc_tk kV_tk dc_tk pm_tk cd_tk ct_tk : Value} {f_tk : Addr}
    (a_tk : PySem.W.nsIn K mainGlobals "_law_take" = some (some (.ref f_tk))) (l_tk : K.lookup f_tk = some ⟨oc_tk, od_tk, .func (PySem.W.fnOf "_law_take" "_law_take" (defArgs sLTake) (defBody sLTake) (defScope sLTake) .none kV_tk dc_tk pm_tk an_tk cd_tk ct_tk), sl_tk⟩) (c_tk : PySem.W.codeIn K cd_tk "_law_take" = true) (k_tk : PySem.W.keepIn K (.ref f_tk) = true)
    {od_pk an_pk : Option Addr} {sl_pk : Array (Option Value)} {oc_pk kV_pk dc_pk pm_pk cd_pk ct_pk : Value} {f_pk : Addr}
    (a_pk : PySem.W.nsIn K mainGlobals "_law_pick" = some (some (.ref f_pk))) (l_pk : K.lookup f_pk = some ⟨oc_pk, od_pk, .func (PySem.W.fnOf "_law_pick" "_law_pick" (defArgs sLPick) (defBody sLPick) (defScope sLPick) .none kV_pk dc_pk pm_pk an_pk cd_pk ct_pk), sl_pk⟩) (c_pk : PySem.W.codeIn K cd_pk "_law_pick" = true) (k_pk : PySem.W.keepIn K (.ref f_pk) = true)
    {od_sm an_sm : Option Addr} {sl_sm : Array (Option Value)} {oc_sm kV_sm dc_sm pm_sm cd_sm ct_sm : Value} {f_sm : Addr}
    (a_sm : PySem.W.nsIn K mainGlobals "_law_same" = some (some (.ref f_sm))) (l_sm : K.lookup f_sm = some ⟨oc_sm, od_sm, .func (PySem.W.fnOf "_law_same" "_law_same" (defArgs sLSame) (defBody sLSame) (defScope sLSame) .none kV_sm dc_sm pm_sm an_sm cd_sm ct_sm), sl_sm⟩) (c_sm : PySem.W.codeIn K cd_sm "_law_same" = true) (k_sm : PySem.W.keepIn K (.ref f_sm) = true)
    {od_po an_po : Option Addr} {sl_po : Array (Option Value)} {oc_po kV_po dc_po pm_po cd_po ct_po : Value} {f_po : Addr}
    (a_po : PySem.W.nsIn K mainGlobals "_law_popular" = some (some (.ref f_po))) (l_po : K.lookup f_po = some ⟨oc_po, od_po, .func (PySem.W.fnOf "_law_popular" "_law_popular" (defArgs sLPop) (defBody sLPop) (defScope sLPop) .none kV_po dc_po pm_po an_po cd_po ct_po), sl_po⟩) (c_po : PySem.W.codeIn K cd_po "_law_popular" = true) (k_po : PySem.W.keepIn K (.ref f_po) = true)
    {od_be an_be : Option Addr} {sl_be : Array (Option Value)} {oc_be kV_be dc_be pm_be cd_be ct_be : Value} {f_be : Addr}
    (a_be : PySem.W.nsIn K mainGlobals "_law_best" = some (some (.ref f_be))) (l_be : K.lookup f_be = some ⟨oc_be, od_be, .func (PySem.W.fnOf "_law_best" "_law_best" (defArgs sLBest) (defBody sLBest) (defScope sLBest) .none kV_be dc_be pm_be an_be cd_be ct_be), sl_be⟩) (c_be : PySem.W.codeIn K cd_be "_law_best" = true) (k_be : PySem.W.keepIn K (.ref f_be) = true)
    {od_lo an_lo : Option Addr} {sl_lo : Array (Option Value)} {oc_lo kV_lo dc_lo pm_lo cd_lo ct_lo : Value} {f_lo : Addr}
    (a_lo : PySem.W.nsIn K mainGlobals "_law_longest" = some (some (.ref f_lo))) (l_lo : K.lookup f_lo = some ⟨oc_lo, od_lo, .func (PySem.W.fnOf "_law_longest" "_law_longest" (defArgs sLLong) (defBody sLLong) (defScope sLLong) .none kV_lo dc_lo pm_lo an_lo cd_lo ct_lo), sl_lo⟩) (c_lo : PySem.W.codeIn K cd_lo "_law_longest" = true) (k_lo : PySem.W.keepIn K (.ref f_lo) = true)
    {od_br an_br : Option Addr} {sl_br : Array (Option Value)} {oc_br kV_br dc_br pm_br cd_br ct_br : Value} {f_br : Addr}
    (a_br : PySem.W.nsIn K mainGlobals "_law_blocks_right" = some (some (.ref f_br))) (l_br : K.lookup f_br = some ⟨oc_br, od_br, .func (PySem.W.fnOf "_law_blocks_right" "_law_blocks_right" (defArgs sLRight) (defBody sLRight) (defScope sLRight) .none kV_br dc_br pm_br an_br cd_br ct_br), sl_br⟩) (c_br : PySem.W.codeIn K cd_br "_law_blocks_right" = true) (k_br : PySem.W.keepIn K (.ref f_br) = true)
    {od_so an_so : Option Addr} {sl_so : Array (Option Value)} {oc_so kV_so dc_so pm_so cd_so ct_so : Value} {f_so : Addr}
    (a_so : PySem.W.findIn K (.ref C) "set_other" = some (some (.ref f_so))) (i_so : PySem.W.isFn K (.ref f_so) = true) (l_so : K.lookup f_so = some ⟨oc_so, od_so, .func (PySem.W.fnOf "set_other" "Matcher.set_other" (defArgs sSetOther) (defBody sSetOther) (defScope sSetOther) .none kV_so dc_so pm_so an_so cd_so ct_so), sl_so⟩) (c_so : PySem.W.codeIn K cd_so "Matcher.set_other" = true) (k_so : PySem.W.keepIn K (.ref f_so) = true)
    {od_bg an_bg : Option Addr} {sl_bg : Array (Option Value)} {oc_bg kV_bg dc_bg pm_bg cd_bg ct_bg : Value} {f_bg : Addr}
    (a_bg : PySem.W.findIn K (.ref C) "begun" = some (some (.ref f_bg))) (i_bg : PySem.W.isFn K (.ref f_bg) = true) (l_bg : K.lookup f_bg = some ⟨oc_bg, od_bg, .func (PySem.W.fnOf "begun" "Matcher.begun" (defArgs sBegun) (defBody sBegun) (defScope sBegun) .none kV_bg dc_bg pm_bg an_bg cd_bg ct_bg), sl_bg⟩) (c_bg : PySem.W.codeIn K cd_bg "Matcher.begun" = true) (k_bg : PySem.W.keepIn K (.ref f_bg) = true)
    {od_gr an_gr : Option Addr} {sl_gr : Array (Option Value)} {oc_gr kV_gr dc_gr pm_gr cd_gr ct_gr : Value} {f_gr : Addr}
    (a_gr : PySem.W.findIn K (.ref C) "grown" = some (some (.ref f_gr))) (i_gr : PySem.W.isFn K (.ref f_gr) = true) (l_gr : K.lookup f_gr = some ⟨oc_gr, od_gr, .func (PySem.W.fnOf "grown" "Matcher.grown" (defArgs sGrown) (defBody sGrown) (defScope sGrown) .none kV_gr dc_gr pm_gr an_gr cd_gr ct_gr), sl_gr⟩) (c_gr : PySem.W.codeIn K cd_gr "Matcher.grown" = true) (k_gr : PySem.W.keepIn K (.ref f_gr) = true)
    {od_go an_go : Option Addr} {sl_go : Array (Option Value)} {oc_go kV_go dc_go pm_go cd_go ct_go : Value} {f_go : Addr}
    (a_go : PySem.W.findIn K (.ref C) "goes_on" = some (some (.ref f_go))) (i_go : PySem.W.isFn K (.ref f_go) = true) (l_go : K.lookup f_go = some ⟨oc_go, od_go, .func (PySem.W.fnOf "goes_on" "Matcher.goes_on" (defArgs sGoesOn) (defBody sGoesOn) (defScope sGoesOn) .none kV_go dc_go pm_go an_go cd_go ct_go), sl_go⟩) (c_go : PySem.W.codeIn K cd_go "Matcher.goes_on" = true) (k_go : PySem.W.keepIn K (.ref f_go) = true)
    {od_bl an_bl : Option Addr} {sl_bl : Array (Option Value)} {oc_bl kV_bl dc_bl pm_bl cd_bl ct_bl : Value} {f_bl : Addr}
    (a_bl : PySem.W.findIn K (.ref C) "blocks" = some (some (.ref f_bl))) (i_bl : PySem.W.isFn K (.ref f_bl) = true) (l_bl : K.lookup f_bl = some ⟨oc_bl, od_bl, .func (PySem.W.fnOf "blocks" "Matcher.blocks" (defArgs sBlocks) (defBody sBlocks) (defScope sBlocks) .none kV_bl dc_bl pm_bl an_bl cd_bl ct_bl), sl_bl⟩) (c_bl : PySem.W.codeIn K cd_bl "Matcher.blocks" = true) (k_bl : PySem.W.keepIn K (.ref f_bl) = true)
    {od_cs an_cs : Option Addr} {sl_cs : Array (Option Value)} {oc_cs kV_cs dc_cs pm_cs cd_cs ct_cs : Value} {f_cs : Addr}
    (a_cs : PySem.W.findIn K (.ref C) "codes" = some (some (.ref f_cs))) (i_cs : PySem.W.isFn K (.ref f_cs) = true) (l_cs : K.lookup f_cs = some ⟨oc_cs, od_cs, .func (PySem.W.fnOf "codes" "Matcher.codes" (defArgs sCodes) (defBody sCodes) (defScope sCodes) .none kV_cs dc_cs pm_cs an_cs cd_cs ct_cs), sl_cs⟩) (c_cs : PySem.W.codeIn K cd_cs "Matcher.codes" = true) (k_cs : PySem.W.keepIn K (.ref f_cs) = true)
    {od_lm an_lm : Option Addr} {sl_lm : Array (Option Value)} {oc_lm kV_lm dc_lm pm_lm cd_lm ct_lm : Value} {f_lm : Addr}
    (a_lm : PySem.W.findIn K (.ref C) "longest_match" = some (some (.ref f_lm))) (i_lm : PySem.W.isFn K (.ref f_lm) = true) (l_lm : K.lookup f_lm = some ⟨oc_lm, od_lm, .func (PySem.W.fnOf "longest_match" "Matcher.longest_match" (defArgs sLongest) (defBody sLongest) (defScope sLongest) (.ref T_lm) kV_lm dc_lm pm_lm an_lm cd_lm ct_lm), sl_lm⟩) (c_lm : PySem.W.codeIn K cd_lm "Matcher.longest_match" = true) (k_lm : PySem.W.keepIn K (.ref f_lm) = true) (t_lm : K.lookup T_lm = some ⟨oT_lm, dT_lm, .seq its_lm, sT_lm⟩) (v_lm : Vals [.int 0, .non, .int 0, .non] its_lm.toList)
    {od_in an_in : Option Addr} {sl_in : Array (Option Value)} {oc_in dc_in pm_in cd_in ct_in : Value} {f_in : Addr}
    (a_in : PySem.W.findIn K (.ref C) "__init__" = some (some (.ref f_in))) (i_in : PySem.W.isFn K (.ref f_in) = true) (l_in : K.lookup f_in = some ⟨oc_in, od_in, .func (PySem.W.fnOf "__init__" "Matcher.__init__" (defArgs sInit) (defBody sInit) (defScope sInit) (.ref T_in) (.ref D_in) dc_in pm_in an_in cd_in ct_in), sl_in⟩) (c_in : PySem.W.codeIn K cd_in "Matcher.__init__" = true) (k_in : PySem.W.keepIn K (.ref f_in) = true) (t_in : K.lookup T_in = some ⟨oT_in, dT_in, .seq its_in, sT_in⟩) (v_in : Vals [.str "", .str ""] its_in.toList) (j_in : PySem.W.nsIn K D_in "junk" = some (some uj_in)) (rj_in : RelV .non uj_in) (u_in : PySem.W.nsIn K D_in "auto" = some (some ua_in)) (ru_in : RelV (.bl true) ua_in)
    {od_lw an_lw : Option Addr} {sl_lw : Array (Option Value)} {oc_lw kV_lw dc_lw pm_lw ct_lw : Value} {f_lw : Addr}
    (a_lw : PySem.W.nsIn K mainGlobals "law" = some (some (.ref f_lw))) (l_lw : K.lookup f_lw = some ⟨oc_lw, od_lw, .func (PySem.W.fnOf "law" "law" (defArgs sLaw) (defBody sLaw) (defScope sLaw) .none kV_lw dc_lw pm_lw an_lw (.ref c) ct_lw), sl_lw⟩) (c_lw : PySem.W.codeIn K (.ref c) "law" = true)
    {tL : Tok} {aWd : Addr} {dW : Option Addr} {itsW : Array Value} {sW : Array (Option Value)}
    (a_M : PySem.W.nsIn K mainGlobals "Matcher" = some (some (.ref C))) (a_L : PySem.W.nsIn K mainGlobals "LEAST_LONG" = some (some (.int 200 tL))) (a_W : PySem.W.nsIn K mainGlobals "WORDS" = some (some (.ref aWd))) (l_W : K.lookup aWd = some ⟨.type "tuple", dW, .seq itsW, sW⟩) (v_W : itsW.size ≤ sizeLine ∧ Vals wordsV itsW.toList)
    (x_pg : PySem.W.plainGet K C Str.empty = true) (x_hd : PySem.W.hasDictIn K C = true) (x_po : PySem.W.plainOver K C = true) (x_sa : PySem.W.findIn K (.ref C) "__setattr__" = some (some (.builtin "object.__setattr__"))) (x_mk : PySem.W.makesIn K C = true) (x_kc : PySem.W.keepIn K (.ref C) = true)
    (n_is_junk : PySem.W.findIn K (.ref C) "is_junk" = some none)
    (n_auto : PySem.W.findIn K (.ref C) "auto" = some none)
    (n_first : PySem.W.findIn K (.ref C) "first" = some none)
    (n_second : PySem.W.findIn K (.ref C) "second" = some none)
    (n_found : PySem.W.findIn K (.ref C) "found" = some none)
    (n_junk : PySem.W.findIn K (.ref C) "junk" = some none)
    (n_popular : PySem.W.findIn K (.ref C) "popular" = some none)
    (z_len : PySem.W.nsIn K mainGlobals "len" = some none)
    (z_isi : PySem.W.nsIn K mainGlobals "isinstance" = some none)
    (z_int : PySem.W.nsIn K mainGlobals "int" = some none)
    (z_bool : PySem.W.nsIn K mainGlobals "bool" = some none)
    (z_list : PySem.W.nsIn K mainGlobals "list" = some none)
    (z_tuple : PySem.W.nsIn K mainGlobals "tuple" = some none)
    (z_str : PySem.W.nsIn K mainGlobals "str" = some none)
    (z_all : PySem.W.nsIn K mainGlobals "all" = some none)
    (z_any : PySem.W.nsIn K mainGlobals "any" = some none)
    (z_zip : PySem.W.nsIn K mainGlobals "zip" = some none)
    (z_enum : PySem.W.nsIn K mainGlobals "enumerate" = some none)
    (z_range : PySem.W.nsIn K mainGlobals "range" = some none)
    (z_sorted : PySem.W.nsIn K mainGlobals "sorted" = some none) (hC : PySem.W.CodeHd h c P0) :
    LawAtS l w K CX0 6 63 "_law_script" mg fa h := by
  have e := hfa.symm.trans (PySem.W.mg_of X G a_lw)
  cases e
  have kw_in : ∀ q ∈ ([("junk", .non), ("auto", .bl true)] : List (Str × V)), ∃ u, PySem.W.nsIn K D_in q.1 = some (some u) ∧ RelV q.2 u := fun q hq => by
    rcases List.mem_cons.mp hq with rfl | hq
    · exact ⟨_, j_in, rj_in⟩
    · rw [List.mem_singleton.mp hq]
      exact ⟨_, u_in, ru_in⟩
  have FI : FunD K "__init__" "Matcher.__init__" (defArgs sInit) (defBody sInit) (defScope sInit) [.str "", .str ""] [("junk", .non), ("auto", .bl true)] f_in (PySem.W.fnOf "__init__" "Matcher.__init__" (defArgs sInit) (defBody sInit) (defScope sInit) (.ref T_in) (.ref D_in) dc_in pm_in an_in cd_in ct_in) := ⟨⟨_, _, _, _, _, _, _, _, _, _, rfl, l_in, c_in, .inr ⟨by decide, T_in, _, _, _, rfl, t_in, rfl, v_in⟩, .inr ⟨D_in, rfl, kw_in⟩⟩, k_in⟩
  have TX : Txt K mg C := ⟨⟨PySem.W.mg_none_of X G z_len, PySem.W.mg_none_of X G z_isi, PySem.W.mg_none_of X G z_int, PySem.W.mg_none_of X G z_bool, PySem.W.mg_none_of X G z_list, PySem.W.mg_none_of X G z_tuple, PySem.W.mg_none_of X G z_str, PySem.W.mg_none_of X G z_all, PySem.W.mg_none_of X G z_any, PySem.W.mg_none_of X G z_zip, PySem.W.mg_none_of X G z_enum, PySem.W.mg_none_of X G z_range, PySem.W.mg_none_of X G z_sorted⟩, ⟨⟨x_pg, x_hd, x_po, x_sa⟩, n_is_junk, n_auto, n_first, n_second, n_found, n_junk, n_popular⟩, PySem.W.mg_of X G a_M, ⟨tL, PySem.W.mg_of X G a_L⟩,
    ⟨aWd, PySem.W.mg_of X G a_W, fun H => .inr ⟨_, itsW, _, l_W, rfl, rfl, v_W.1, v_W.2⟩⟩,
    ⟨_, _, fun_mk (st := sIsInt) l_isI c_isI k_isI, (fun_mk (st := sIsInt) l_isI c_isI k_isI).binds (ps := ["thing"]) (fun _ _ _ _ _ _ us hl => match us, hl with | [_], _ => rfl), PySem.W.mg_of X G a_isI⟩,
    ⟨_, _, fun_mk (st := sIsRow) l_isR c_isR k_isR, (fun_mk (st := sIsRow) l_isR c_isR k_isR).binds (ps := ["thing"]) (fun _ _ _ _ _ _ us hl => match us, hl with | [_], _ => rfl), PySem.W.mg_of X G a_isR⟩,
    ⟨_, _, fun_mk (st := sRowOf) l_ro c_ro k_ro, (fun_mk (st := sRowOf) l_ro c_ro k_ro).binds (ps := ["sequence"]) (fun _ _ _ _ _ _ us hl => match us, hl with | [_], _ => rfl), PySem.W.mg_of X G a_ro⟩,
    ⟨_, _, fun_mk (st := sWordB) l_wb c_wb k_wb, (fun_mk (st := sWordB) l_wb c_wb k_wb).binds (ps := ["i", "i2", "j", "j2"]) (fun _ _ _ _ _ _ us hl => match us, hl with | [_, _, _, _], _ => rfl), PySem.W.mg_of X G a_wb⟩,
    ⟨_, _, fun_mk (st := sCodesB) l_cb c_cb k_cb, (fun_mk (st := sCodesB) l_cb c_cb k_cb).binds (ps := ["blocks"]) (fun _ _ _ _ _ _ us hl => match us, hl with | [_], _ => rfl), PySem.W.mg_of X G a_cb⟩,
    ⟨_, _, fun_mk (st := sIsCode) l_ic c_ic k_ic, (fun_mk (st := sIsCode) l_ic c_ic k_ic).binds (ps := ["thing"]) (fun _ _ _ _ _ _ us hl => match us, hl with | [_], _ => rfl), PySem.W.mg_of X G a_ic⟩,
    ⟨_, _, fun_mk (st := sIsRight) l_ir c_ir k_ir, (fun_mk (st := sIsRight) l_ir c_ir k_ir).binds (ps := ["one", "other", "code"]) (fun _ _ _ _ _ _ us hl => match us, hl with | [_, _, _], _ => rfl), PySem.W.mg_of X G a_ir⟩,
    ⟨_, _, fun_mk (st := sIsCodes) l_is_ c_is_ k_is_, (fun_mk (st := sIsCodes) l_is_ c_is_ k_is_).binds (ps := ["one", "other", "codes"]) (fun _ _ _ _ _ _ us hl => match us, hl with | [_, _, _], _ => rfl), PySem.W.mg_of X G a_is_⟩,
    ⟨_, _, fun_mk (st := sLDraws) l_dr c_dr k_dr, (fun_mk (st := sLDraws) l_dr c_dr k_dr).binds (ps := ["_law_script"]) (fun _ _ _ _ _ _ us hl => match us, hl with | [_], _ => rfl), PySem.W.mg_of X G a_dr⟩,
    ⟨_, _, fun_mk (st := sLMixed) l_mx c_mx k_mx, (fun_mk (st := sLMixed) l_mx c_mx k_mx).binds (ps := ["_law_seed", "_law_k"]) (fun _ _ _ _ _ _ us hl => match us, hl with | [_, _], _ => rfl), PySem.W.mg_of X G a_mx⟩,
    ⟨_, _, fun_mk (st := sLTake) l_tk c_tk k_tk, (fun_mk (st := sLTake) l_tk c_tk k_tk).binds (ps := ["_law_draws_here", "_law_size"]) (fun _ _ _ _ _ _ us hl => match us, hl with | [_, _], _ => rfl), PySem.W.mg_of X G a_tk⟩,
    ⟨_, _, fun_mk (st := sLPick) l_pk c_pk k_pk, (fun_mk (st := sLPick) l_pk c_pk k_pk).binds (ps := ["_law_draws_here", "_law_some"]) (fun _ _ _ _ _ _ us hl => match us, hl with | [_, _], _ => rfl), PySem.W.mg_of X G a_pk⟩,
    ⟨_, _, fun_mk (st := sLSame) l_sm c_sm k_sm, (fun_mk (st := sLSame) l_sm c_sm k_sm).binds (ps := ["_law_found", "_law_due"]) (fun _ _ _ _ _ _ us hl => match us, hl with | [_, _], _ => rfl), PySem.W.mg_of X G a_sm⟩,
    ⟨_, _, fun_mk (st := sLPop) l_po c_po k_po, (fun_mk (st := sLPop) l_po c_po k_po).binds (ps := ["_law_other", "_law_waste"]) (fun _ _ _ _ _ _ us hl => match us, hl with | [_, _], _ => rfl), PySem.W.mg_of X G a_po⟩,
    ⟨_, _, fun_mk (st := sLBest) l_be c_be k_be, (fun_mk (st := sLBest) l_be c_be k_be).binds (ps := ["_law_one", "_law_other", "_law_bounds", "_law_skipped"]) (fun _ _ _ _ _ _ us hl => match us, hl with | [_, _, _, _], _ => rfl), PySem.W.mg_of X G a_be⟩,
    ⟨_, _, fun_mk (st := sLLong) l_lo c_lo k_lo, (fun_mk (st := sLLong) l_lo c_lo k_lo).binds (ps := ["_law_one", "_law_other", "_law_bounds", "_law_waste", "_law_often"]) (fun _ _ _ _ _ _ us hl => match us, hl with | [_, _, _, _, _], _ => rfl), PySem.W.mg_of X G a_lo⟩,
    ⟨_, _, fun_mk (st := sLRight) l_br c_br k_br, (fun_mk (st := sLRight) l_br c_br k_br).binds (ps := ["_law_blocks", "_law_one", "_law_other"]) (fun _ _ _ _ _ _ us hl => match us, hl with | [_, _, _], _ => rfl), PySem.W.mg_of X G a_br⟩,
    ⟨_, _, ⟨⟨_, _, _, _, _, _, _, _, _, _, rfl, l_in, c_in⟩, k_in⟩, ⟨x_mk, a_in, i_in, x_kc⟩, in_kb1 FI, in_kb2 FI⟩,
    ⟨_, _, fun_mk (st := sSetOther) l_so c_so k_so, (fun_mk (st := sSetOther) l_so c_so k_so).binds (ps := ["self", "sequence"]) (fun _ _ _ _ _ _ us hl => match us, hl with | [_, _], _ => rfl), ⟨a_so, i_so, k_so⟩⟩,
    ⟨_, _, fun_mk (st := sBegun) l_bg c_bg k_bg, (fun_mk (st := sBegun) l_bg c_bg k_bg).binds (ps := ["self", "low", "high", "low2", "high2"]) (fun _ _ _ _ _ _ us hl => match us, hl with | [_, _, _, _, _], _ => rfl), ⟨a_bg, i_bg, k_bg⟩⟩,
    ⟨_, _, fun_mk (st := sGrown) l_gr c_gr k_gr, (fun_mk (st := sGrown) l_gr c_gr k_gr).binds (ps := ["self", "block", "bounds", "by_junk"]) (fun _ _ _ _ _ _ us hl => match us, hl with | [_, _, _, _], _ => rfl), ⟨a_gr, i_gr, k_gr⟩⟩,
    ⟨_, _, fun_mk (st := sGoesOn) l_go c_go k_go, (fun_mk (st := sGoesOn) l_go c_go k_go).binds (ps := ["self", "i", "j", "by_junk"]) (fun _ _ _ _ _ _ us hl => match us, hl with | [_, _, _, _], _ => rfl), ⟨a_go, i_go, k_go⟩⟩,
    ⟨_, _, ⟨⟨_, _, _, _, _, _, _, _, _, _, rfl, l_lm, c_lm⟩, k_lm⟩, lm_binds ⟨⟨_, _, _, _, _, _, _, _, _, _, rfl, l_lm, c_lm, .inr ⟨by decide, T_lm, _, _, _, rfl, t_lm, rfl, v_lm⟩, .inl rfl⟩, k_lm⟩, ⟨a_lm, i_lm, k_lm⟩⟩,
    ⟨_, _, fun_mk (st := sBlocks) l_bl c_bl k_bl, (fun_mk (st := sBlocks) l_bl c_bl k_bl).binds (ps := ["self"]) (fun _ _ _ _ _ _ us hl => match us, hl with | [_], _ => rfl), ⟨a_bl, i_bl, k_bl⟩⟩,
    ⟨_, _, fun_mk (st := sCodes) l_cs c_cs k_cs, (fun_mk (st := sCodes) l_cs c_cs k_cs).binds (ps := ["self"]) (fun _ _ _ _ _ _ us hl => match us, hl with | [_], _ => rfl), ⟨a_cs, i_cs, k_cs⟩⟩⟩
  refine ⟨PySem.W.fnOf "law" "law" (defArgs sLaw) (defBody sLaw) (defScope sLaw) .none kV_lw dc_lw pm_lw an_lw (.ref c) ct_lw, [(c, P0)], spLw K P0, fun p hp => by rw [List.mem_singleton.mp hp]; exact hT, fun p hp => by rw [List.mem_singleton.mp hp]; exact nP, fun p hp => by rw [List.mem_singleton.mp hp]; exact hC, fun s u => .of_eq rfl,
    fun H a ns hl _ hH hS => ⟨a, ns, rfl, hS, hl, hH (c, P0) (List.mem_singleton.mpr rfl), fun _ => rfl⟩, fun base KB _ hTB => ok_lw ⟨⟨_, _, _, _, _, _, _, _, _, rfl, l_lw, c_lw⟩⟩ TX (hTB (c, P0) (List.mem_singleton.mpr rfl)) lamW1 lamW2⟩
end Tw
end
section
open PySem PySem.W PyProof.Rows
set_option maxHeartbeats 0 in
theorem PySem.Challenge.cw_twinseam_k07_whole_blocks_of_long_sequen_holds : PySem.Challenge.rw_twinseam_k07_whole_blocks_of_long_sequen.Holds := by
  w_on; o_law; k_head; (case hw => w_witness2)
  k_fill
  refine LamX.walk_ofTs (l := PySem.Challenge.rw_twinseam_k07_whole_blocks_of_long_sequen) (n := 63) (k := 6) (x := "_law_script") (CX := fun _ => L2.CX0) rfl (by decide) rfl ⟨rfl, by decide, by decide⟩ (fun w h Y => PySem.W.km_in_of Y) ?F (fun _ _ _ _ _ z => z)
  case F =>
    intro w mg fa h Y KX G hmg
    replace hmg : mg "law" = some (.ref fa) := hmg
    refine' Tw.all_mk KX G hmg (PySem.W.km_tabs_of Y _ List.mem_cons_self) ?nP ?a_isI ?l_isI ?c_isI ?k_isI ?a_isR ?l_isR ?c_isR ?k_isR ?a_ro ?l_ro ?c_ro ?k_ro ?a_wb ?l_wb ?c_wb ?k_wb ?a_cb ?l_cb ?c_cb ?k_cb ?a_ic ?l_ic ?c_ic ?k_ic ?a_ir ?l_ir ?c_ir ?k_ir ?a_is_ ?l_is_ ?c_is_ ?k_is_ ?a_dr ?l_dr ?c_dr ?k_dr ?a_mx ?l_mx ?c_mx ?k_mx ?a_tk ?l_tk ?c_tk ?k_tk ?a_pk ?l_pk ?c_pk ?k_pk ?a_sm ?l_sm ?c_sm ?k_sm ?a_po ?l_po ?c_po ?k_po ?a_be ?l_be ?c_be ?k_be ?a_lo ?l_lo ?c_lo ?k_lo ?a_br ?l_br ?c_br ?k_br ?a_so ?i_so ?l_so ?c_so ?k_so ?a_bg ?i_bg ?l_bg ?c_bg ?k_bg ?a_gr ?i_gr ?l_gr ?c_gr ?k_gr ?a_go ?i_go ?l_go ?c_go ?k_go ?a_bl ?i_bl ?l_bl ?c_bl ?k_bl ?a_cs ?i_cs ?l_cs ?c_cs ?k_cs ?a_lm ?i_lm ?l_lm ?c_lm ?k_lm ?t_lm ?v_lm ?a_in ?i_in ?l_in ?c_in ?k_in ?t_in ?v_in ?j_in ?rj_in ?u_in ?ru_in ?a_lw ?l_lw ?c_lw ?a_M ?a_L ?a_W ?l_W ?v_W ?x_pg ?x_hd ?x_po ?x_sa ?x_mk ?x_kc ?n_is_junk ?n_auto ?n_first ?n_second ?n_found ?n_junk ?n_popular ?z_len ?z_isi ?z_int ?z_bool ?z_list ?z_tuple ?z_str ?z_all ?z_any ?z_zip ?z_enum ?z_range ?z_sorted ?hC
    (case nP => rfl)
    (case a_M => k_is)
    (case a_isI => k_is)
    (case l_isI => k_is)
    (case c_isI => k_is)
    (case k_isI => k_is)
    (case a_isR => k_is)
    (case l_isR => k_is)
    (case c_isR => k_is)
    (case k_isR => k_is)
    (case a_ro => k_is)
    (case l_ro => k_is)
    (case c_ro => k_is)
    (case k_ro => k_is)
    (case a_wb => k_is)
    (case l_wb => k_is)
    (case c_wb => k_is)
    (case k_wb => k_is)
    (case a_cb => k_is)
    (case l_cb => k_is)
    (case c_cb => k_is)
    (case k_cb => k_is)
    (case a_ic => k_is)
    (case l_ic => k_is)
    (case c_ic => k_is)
    (case k_ic => k_is)
    (case a_ir => k_is)
    (case l_ir => k_is)
    (case c_ir => k_is)
    (case k_ir => k_is)
    (case a_is_ => k_is)
    (case l_is_ => k_is)
    (case c_is_ => k_is)
    (case k_is_ => k_is)
    (case a_dr => k_is)
    (case l_dr => k_is)
    (case c_dr => k_is)
    (case k_dr => k_is)
    (case a_mx => k_is)
    (case l_mx => k_is)
    (case c_mx => k_is)
    (case k_mx => k_is)
    (case a_tk => k_is)
    (case l_tk => k_is)
    (case c_tk => k_is)
    (case k_tk => k_is)
    (case a_pk => k_is)
    (case l_pk => k_is)
    (case c_pk => k_is)
    (case k_pk => k_is)
    (case a_sm => k_is)
    (case l_sm => k_is)
    (case c_sm => k_is)
    (case k_sm => k_is)
    (case a_po => k_is)
    (case l_po => k_is)
    (case c_po => k_is)
    (case k_po => k_is)
    (case a_be => k_is)
    (case l_be => k_is)
    (case c_be => k_is)
    (case k_be => k_is)
    (case a_lo => k_is)
    (case l_lo => k_is)
    (case c_lo => k_is)
    (case k_lo => k_is)
    (case a_br => k_is)
    (case l_br => k_is)
    (case c_br => k_is)
    (case k_br => k_is)
    (case a_so => k_is)
    (case i_so => k_is)
    (case l_so => k_is)
    (case c_so => k_is)
    (case k_so => k_is)
    (case a_bg => k_is)
    (case i_bg => k_is)
    (case l_bg => k_is)
    (case c_bg => k_is)
    (case k_bg => k_is)
    (case a_gr => k_is)
    (case i_gr => k_is)
    (case l_gr => k_is)
    (case c_gr => k_is)
    (case k_gr => k_is)
    (case a_go => k_is)
    (case i_go => k_is)
    (case l_go => k_is)
    (case c_go => k_is)
    (case k_go => k_is)
    (case a_bl => k_is)
    (case i_bl => k_is)
    (case l_bl => k_is)
    (case c_bl => k_is)
    (case k_bl => k_is)
    (case a_cs => k_is)
    (case i_cs => k_is)
    (case l_cs => k_is)
    (case c_cs => k_is)
    (case k_cs => k_is)
    (case a_lm => k_is)
    (case i_lm => k_is)
    (case l_lm => k_is)
    (case c_lm => k_is)
    (case k_lm => k_is)
    (case t_lm => k_is)
    (case v_lm => exact .cons ⟨_, rfl⟩ (.cons rfl (.cons ⟨_, rfl⟩ (.cons rfl .nil))))
    (case a_in => k_is)
    (case i_in => k_is)
    (case l_in => k_is)
    (case c_in => k_is)
    (case k_in => k_is)
    (case t_in => k_is)
    (case v_in => exact .cons ⟨_, rfl⟩ (.cons ⟨_, rfl⟩ .nil))
    (case j_in => k_is)
    (case rj_in => exact rfl)
    (case u_in => k_is)
    (case ru_in => exact rfl)
    (case a_lw => k_is)
    (case l_lw => k_is)
    (case c_lw => k_is)
    (case a_L => k_is)
    (case a_W => k_is)
    (case l_W => k_is)
    (case v_W => exact ⟨by decide, .cons ⟨_, rfl⟩ (.cons ⟨_, rfl⟩ (.cons ⟨_, rfl⟩ (.cons ⟨_, rfl⟩ .nil)))⟩)
    (case x_pg => k_is)
    (case x_hd => k_is)
    (case x_po => k_is)
    (case x_sa => k_is)
    (case x_mk => k_is)
    (case x_kc => k_is)
    (case n_is_junk => k_is)
    (case n_auto => k_is)
    (case n_first => k_is)
    (case n_second => k_is)
    (case n_found => k_is)
    (case n_junk => k_is)
    (case n_popular => k_is)
    (case z_len => k_is)
    (case z_isi => k_is)
    (case z_int => k_is)
    (case z_bool => k_is)
    (case z_list => k_is)
    (case z_tuple => k_is)
    (case z_str => k_is)
    (case z_all => k_is)
    (case z_any => k_is)
    (case z_zip => k_is)
    (case z_enum => k_is)
    (case z_range => k_is)
    (case z_sorted => k_is)
    (case hC => exact PySem.W.codeHd_of_K KX rfl)
end
