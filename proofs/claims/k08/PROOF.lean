import PyProof.Rows.All
import Wide.All
import OpenK.AllK
import Wide.FinOn
import HandS.ForExc
import HandS.Comp
import HandS.Iter
import HandS.Walk
import HandS.IsInst
import HandS.Style
import HandS.Conv
import HandS.TupAny
import HandS.Star
import HandS.SortKw
import HandS.Codes
import KE.GoesEnum
import KE.SortKeyHeap
import KE.SortData
import PySem.Challenge.RW_pitlots_k08_whole_best_pits
set_option Elab.async false
set_option linter.all false
set_option maxRecDepth 100000
set_option maxHeartbeats 4000000
/-! Rules that the hand layer lacks: len(o) by an own __len__, enumerate(tuple), sorted of data, sorted by a key def. -/
namespace K8
open PySem PySem.Spec PyProof.Rows L2

/-! ### len(o), o of an own class -/
def rLenO (C : Addr) (sp : Sp) (E : XK) : List V → Hp → VK → Prop := fun xs H Q => ∃ (a dx : Addr) (fs : List (Str × V)), xs = [V.ref a] ∧ H a = some (.ins C dx fs) ∧
  sp [.ref a] H (fun v H' => ∃ n : Int, v = .int n ∧ 0 ≤ n ∧ n < 2 ^ 63 ∧ Q (.int n) H') E
theorem call_lenO {X : Cx} {CX : CXT} {k : Nat} {C f : Addr} {fd : FuncData} {ps : List Str} {sp : Sp} {E : XK} (F : FnOk X.prog X.w X.K X.mg X.base CX k f fd ps sp) (hr : Room (k + 1) X.A)
    (hs : PySem.W.findIn X.K (.ref C) "__len__" = some (some (.ref f))) (hf : PySem.W.isFn X.K (.ref f) = true) (hb : Binds X.K fd ps []) (hx : Passes CX X E) : CallR X (.builtin "len") (rLenO C sp E) := by
  intro pins s σ H xs us Q I r h
  obtain ⟨a, dx, fs, rfl, ha, hsp⟩ := h
  obtain rfl := Vals.ref1 r
  obtain ⟨mA, J, _⟩ := ins_get I.hok ha
  obtain ⟨od, J, _⟩ := J.look
  obtain ⟨m, hF⟩ := I.fr
  have hl := F.len _ _ _ _ hsp
  have hb' : BindsTo s fd ⟨[Value.ref a], []⟩ (ps.zip [Value.ref a]) := by
    have q := hb s [Value.ref a] I.kIn (by simpa using hl)
    simpa using q
  refine PySem.W.len_K hF I.ok.mod.kin J hs hf (wpAny_call (codeAny_mono (F.run X.A.in1 X.stack s H ⟨[.ref a], []⟩ [.ref a] [.ref a] _ E hr.in1 I.env0.in1 hb' (.cons rfl .nil) hsp) fun r s' hq => ?_))
  cases r with
  | error e => exact hx pins σ H s e s' I hq
  | ok fl =>
    cases fl with
    | ret w =>
      obtain ⟨v, H', I', rz, n, rfl, h0, h1, q⟩ := I.after hq
      obtain ⟨t, rfl⟩ := rz
      exact ⟨⟨h0, h1⟩, V.int n, H', I'.tok _, ⟨_, rfl⟩, q⟩
    | next => exact False.elim hq
    | brk => exact False.elim hq
    | cont => exact False.elim hq

/-! ### enumerate(tuple) -/
theorem meets_enumT {v : Value} {o : Obj} {G : Heap → Prop} (B : Begins v o G) :
    Meets (Builtin.«enumerate.__new__» ⟨[.type "enumerate", v], []⟩) (fun _ R s => G s.heap ∧
      R (.ok (.ret (.ref (s.heap.push o).objs.size))) { s with heap := (s.heap.push o).push { cls := .type "enumerate", data := .fields #[.none, .bool false, .ref s.heap.objs.size, rawInt 0, .none, .none] } }) :=
  .of_wp fun prog w A R s h => by
    obtain ⟨hp, g, d, tk, os⟩ := s
    obtain ⟨h1, h⟩ := h
    have hsub := sub_enumerate
    have beg : ∀ {A' : Around} {E : Value → Shared → Prop} {Q : Value → Shared → Prop}, Q (.ref hp.objs.size) ⟨hp.push o, g, d, tk, os⟩ → wpAny (model prog w) A' (pyIter v) Q E ⟨hp, g, d, tk, os⟩ :=
      fun q => B.iter prog w _ _ ⟨hp, g, d, tk, os⟩ _ h1 q
    wp_walk using beg
    refine wpAny_stack_any fun st => wpAny_pure ?_
    split
    · rename_i c _ _ _ _ _
      cases (c == Value.type "enumerate") <;> (wp_walk using beg; exact ⟨_, rfl, h⟩)
    · wp_walk using beg
      exact ⟨_, rfl, h⟩
theorem enum_new {prog : Program} {w : World} {A : Around} {E : Value → Shared → Prop} {s : Shared} {v : Value} {o : Obj} {G : Heap → Prop} {Q : Value → Shared → Prop} (B : Begins v o G) (h1 : G s.heap)
    (h : ∀ h', IsEnum h' (s.heap.objs.size + 1) s.heap.objs.size 0 .none → h'.get? s.heap.objs.size = some o → (∀ b o, s.heap.get? b = some o → h'.get? b = some o) → Q (.ref (s.heap.objs.size + 1)) { s with heap := h' }) :
    wpAny (model prog w) A (call (.type "enumerate") [v]) Q E s := by
  refine callType_new F.called_enumerate (by decide) (F.typeCall_enumerate_1 _) (F.newCall_enumerate_1 _) (fun obj => F.args_object_init_2 obj _) F.entry_enumerate_new (meets_enumT B) ⟨h1, ?_⟩
  have hz : (s.heap.push o).objs.size = s.heap.objs.size + 1 := Heap.size_push ..
  show _ ∧ _
  rw [hz]
  have e1 := Heap.get?_push_size (s.heap.push o) (o := { cls := .type "enumerate", data := .fields #[.none, .bool false, .ref s.heap.objs.size, rawInt 0, .none, .none] }) rfl
  rw [hz] at e1
  have he : IsEnum ((s.heap.push o).push { cls := .type "enumerate", data := .fields #[.none, .bool false, .ref s.heap.objs.size, rawInt 0, .none, .none] }) (s.heap.objs.size + 1) s.heap.objs.size 0 .none := e1
  exact ⟨⟨_, he, rfl⟩, h _ he (Heap.get?_push_of_some _ (Heap.get?_push_size _ B.free)) fun b o x => Heap.get?_push_of_some _ (Heap.get?_push_of_some _ x)⟩
/-- the tuple at a, each item in a new pair with its place -/
def IteT (K : PySem.W.Frag) (a : Addr) : It :=
  ⟨fun i H => ∃ (xs : List V) (x : V), SqT K H a xs ∧ xs[i]? = some x, fun i H v H' => ∃ T x, v = .ref T ∧ H T = none ∧ H' = upd H T (.tup [.int (i : Nat), x]) ∧ ∀ xs, SqT K H a xs → xs[i]? = some x, fun i H => ∃ xs : List V, SqT K H a xs ∧ xs.length = i⟩
/-- what stands while the pairs are drawn, apart from the tuple itself -/
def EnT (e it a : Addr) (i : Nat) (h : Heap) : Prop := e ≠ it ∧ (∃ o, IsEnum h e it (0 + (i : Int)) o) ∧ h.IsTupleIter it a i
theorem EnT.cls {e it a : Addr} {i : Nat} {h : Heap} {its : Array Value} (st : EnT e it a i h) (tu : h.IsTuple a its) : it ≠ a ∧ e ≠ a := by
  obtain ⟨_, ⟨_, se⟩, oi, gi, ci, _⟩ := st
  obtain ⟨ot, gt, ct, _⟩ := tu
  refine ⟨fun z => ?_, fun z => ?_⟩
  · subst z
    rw [gt] at gi
    cases gi
    rw [ct] at ci
    exact absurd ci (by decide)
  · subst z
    have se' : h.get? e = some _ := se
    rw [gt] at se'
    cases se'
    exact absurd (show Value.type "enumerate" = Value.type "tuple" from ct) (by decide)
/-- the library's walk over enumerate, over a tuple's iterator -/
theorem enT_walk {X : Cx} {pins : List (Addr × Obj)} {σ : L2.St} {H : Hp} {s : Shared} {e it a : Addr} {i : Nat} {its : Array Value} (I : Inv X pins σ H s) (hc : X.calm = true) (st : EnT e it a i s.heap) (tu : s.heap.IsTuple a its) :
    WalksT X.prog X.w X.A e [e, it, a] [e, it] its.size (fun j vals => ∃ t x, its[j]? = some x ∧ vals = #[.int (0 + (j : Int)) t, x]) (fun j h => (∃ o, IsEnum h e it (0 + (j : Int)) o) ∧ h.IsTupleIter it a j ∧ h.IsTuple a its)
      (fun j T h => (∃ x, IsEnumOut h e it (0 + (j : Int) + 1) x T) ∧ (h.IsTupleIter it a (j + 1) ∧ h.IsTuple a its) ∧ T ≠ e ∧ T ≠ it) :=
  WalksT.enumFrom (prog := X.prog) (w := X.w) (A := X.A) 0 (Draws.tuple (prog := X.prog) (w := X.w) (A := X.A.in1) (I.ok.hd hc) it a (Ne.symm (st.cls tu).1) its) e st.1
    (fun z => by
        rcases List.mem_cons.mp z with z | z
        · exact st.1 z
        · exact (st.cls tu).2 (List.mem_singleton.mp z)) (List.mem_cons_self ..)
theorem turn_enumT {P : Program} {w : World} {K : PySem.W.Frag} {elts : List Expr} {kk : Nat} {tpos : Pos} (a e it : Addr) : Turn P w K (.Tuple elts kk tpos) (IteT K a) [e, it] e (EnT e it a) where
  mem := List.mem_cons_self ..
  obj := by
    rintro i h ⟨_, ⟨o, se⟩, oi, gi, _, di⟩ b hb
    rcases List.mem_cons.mp hb with rfl | hb
    · exact ⟨_, se, fun _ z => by cases z⟩
    · rw [List.mem_singleton.mp hb]
      exact ⟨oi, gi, fun _ z => by rw [di] at z; cases z⟩
  keep := by
    rintro i h h' ⟨ne, ⟨o, se⟩, oi, gi, r⟩ k
    exact ⟨ne, ⟨o, k e (by simp) _ se⟩, oi, k it (by simp) _ gi, r⟩
  item := by
    rintro X rfl rfl rfl hc i pins s σ H E I ok st ⟨xs, x, ex, gx⟩
    obtain ⟨its, rs, tu, _⟩ := I.tuple ex
    obtain ⟨u, gu, ru⟩ := rs.get gx
    have W := enT_walk (its := its.toArray) I hc st tu
    have lt : i < its.toArray.size := by simpa using (List.getElem?_eq_some_iff.mp gu).1
    refine W.item i s _ _ lt ⟨st.2.1, st.2.2, tu⟩ fun T vals h1 tk py le hT mid k1 => ⟨_, rfl, W.go elts kk tpos i T { s with heap := h1, toks := tk } _ _ mid fun h2 st2 k2 => ?_⟩
    obtain ⟨t, y, gy, rfl⟩ := py
    obtain rfl : u = y := by
      rw [List.getElem?_toArray, gu] at gy
      exact Option.some.inj gy
    have hT2 : h2.IsTuple T #[.int (0 + (i : Int)) t, u] := hT.at fun o q => k2 T o (W.apart i T h1 mid) q
    refine ⟨.ref T, _, I.turnedNew (t' := tk) (ch := [e, it]) (ob := .tup [.int (i : Nat), x]) (fun b o hb q => k2 b o hb (k1 b o hb q)) ok le ?_, rfl, ⟨T, x, rfl, I.hok.fresh le, rfl, fun ys hy => I.tuple_inj hy ex ▸ gx⟩, ⟨st.1, st2.1, st2.2.1⟩, fun b hb => ?_⟩
    · exact ⟨Nat.le_trans (Nat.le_refl 2) (show 2 ≤ sizeLine by decide), [.int (0 + (i : Int)) t, u], .cons ⟨t, by rw [Int.zero_add]⟩ (.cons ru .nil), hT2⟩
    · obtain ⟨o, go⟩ : ∃ o, s.heap.get? b = some o := by
        obtain ⟨_, ⟨o, se⟩, oi, gi, _⟩ := st
        rcases List.mem_cons.mp hb with rfl | hb
        · exact ⟨_, se⟩
        · exact ⟨oi, (List.mem_singleton.mp hb) ▸ gi⟩
      rw [upd_ne (Nat.ne_of_lt (Nat.lt_of_lt_of_le (Heap.lt_size go) le))]
      exact (ok b hb).1
  done := by
    rintro X rfl rfl rfl hc i pins s σ H E I ok st ⟨xs, ex, n⟩
    obtain ⟨its, rs, tu, _⟩ := I.tuple ex
    have W := enT_walk (its := its.toArray) I hc st tu
    have n' : i = its.toArray.size := by rw [List.size_toArray, ← rs.length, n]
    subst n'
    exact W.done s _ _ ⟨st.2.1, st.2.2, tu⟩ fun h1 tk k1 => ⟨rfl, I.turnedL (t' := tk) (ch := [e, it]) k1 ok⟩
  self := by
    rintro A i s Q E ⟨_, ⟨o, se⟩, _⟩ h
    exact wpAny_pyIter_enum se h
def iEnumT (K : PySem.W.Frag) (ta : TA) : TI := fun σ H R => ta σ H fun vs H1 => ∃ a xs, vs = [.ref a] ∧ SqT K H1 a xs ∧ R (IteT K a) H1
theorem pi_enumT {X : Cx} {e : Expr} {ta : TA} {p pos tpos : Pos} {elts : List Expr} {kk : Nat} (hg : Gl X "enumerate") (hm : X.mg "enumerate" = none) (ha : PA X [e] ta) (hs : starEach [e] X.env = [(false, eval e X.env)] := by rfl) :
    PI X (.Tuple elts kk tpos) (.Call (.Name "enumerate" p) [e] [] pos) (iEnumT X.K ta) where
  run pins s σ H R I h := by
    refine Call_ (ld_blt I hg hm boot_enumerate ?_)
    refine callWith_type1 (thn (ha.run pos pins s σ H _ I h) ?_) hs rfl
    rintro us s1 ⟨_, H1, I1, r1, a, xs, rfl, ex, q⟩
    obtain rfl := Vals.ref1 r1
    obtain ⟨its, _, tu, _⟩ := I1.tuple ex
    refine enum_new (begins_tuple a its.toArray) tu fun h' se gi k => wpAny_pyIter_enum se ⟨_, _, _, _, H1, rfl, I1.kept (t' := s1.toks) k, turn_enumT a _ _, ⟨Nat.succ_ne_self _, ⟨_, se⟩, _, gi, rfl, rfl⟩, ?_, q⟩
    intro b hb
    have le : s1.heap.objs.size ≤ b := by
      rcases List.mem_cons.mp hb with rfl | hb
      · exact Nat.le_succ _
      · exact Nat.le_of_eq (List.mem_singleton.mp hb).symm
    exact I1.fpOk le (I1.hok.fresh le)
theorem walk_enumT {K : PySem.W.Frag} {a : Addr} {xs : List V} : Walk (IteT K a) xs.length (fun H => SqT K H a xs) (YPair (fun i => some (.int (i : Nat))) (fun i => xs[i]?)) :=
  ⟨fun i _ hi q => ⟨xs, xs[i], q, List.getElem?_eq_getElem hi⟩, fun _ q => ⟨xs, q, rfl⟩, by
    rintro i H v H' _ q ⟨T, x, rfl, fr, rfl, gx⟩
    exact ⟨T, _, x, rfl, fr, rfl, rfl, gx xs q⟩⟩

/-! ### sorted of data -/
section
open PySem.W
variable {β : Type}
theorem EachIs.get {α : Type} {R : α → β → Prop} : ∀ {as : List α} {bs : List β} {i : Nat} {a : α}, PySem.W.EachIs R as bs → as[i]? = some a → ∃ b, bs[i]? = some b ∧ R a b
  | _, _, _, _, .nil, e => by simp at e
  | _, _, 0, _, .cons h _, e => by
    have q := Option.some.inj e
    subst q
    exact ⟨_, rfl, h⟩
  | _, _, i + 1, a, .cons _ t, e => by
    obtain ⟨b, h1, h2⟩ := EachIs.get (i := i) t (by simpa using e)
    exact ⟨b, by simpa using h1, h2⟩
theorem EachIs.append {α : Type} {R : α → β → Prop} : ∀ {as as' : List α} {bs bs' : List β}, PySem.W.EachIs R as bs → PySem.W.EachIs R as' bs' → PySem.W.EachIs R (as ++ as') (bs ++ bs')
  | _, _, _, _, .nil, t => t
  | _, _, _, _, .cons h s, t => .cons h (EachIs.append s t)
/-- from values to what stands for them, and back -/
theorem each_to {R : V → β → Prop} : ∀ {xs : List V} {us : List Value} {bs : List β}, Vals xs us → PySem.W.EachIs R xs bs → PySem.W.EachIs (fun u b => ∃ v, RelV v u ∧ R v b) us bs
  | _, _, _, .nil, .nil => .nil
  | _, _, _, .cons r t, .cons h s => .cons ⟨_, r, h⟩ (each_to t s)
theorem each_back {R : V → β → Prop} : ∀ {us : List Value} {bs : List β}, PySem.W.EachIs (fun u b => ∃ v, RelV v u ∧ R v b) us bs → ∃ xs, Vals xs us ∧ PySem.W.EachIs R xs bs
  | _, _, .nil => ⟨[], .nil, .nil⟩
  | _, _, .cons ⟨v, r, h⟩ t => by
    obtain ⟨xs, h1, h2⟩ := each_back t
    exact ⟨v :: xs, .cons r h1, .cons h h2⟩
/-- sorted(xs): xs the items that stand for bs (R) and read as data (enc) -/
def rSortedD (K : PySem.W.Frag) (A : Around) : List V → Hp → VK → Prop := fun vs H Q => ∃ (β : Type) (a : Addr) (xs : List V) (bs : List β) (enc : β → PyData) (R : V → β → Prop), vs = [V.ref a] ∧ SqL K H a xs ∧ PySem.W.EachIs R xs bs ∧
  (∀ v b, R v b → Dp K H v (enc b)) ∧ AllAlike (bs.map enc) ∧ Sortable (bs.map enc) ∧ (∀ b, b ∈ bs → A.units + 2 + (enc b).depth < cLine) ∧
  ∀ (ys : List V) (p : Addr), H p = none → PySem.W.EachIs R ys (bs.mergeSort (dataLe false enc)) → Q (.ref p) (upd H p (.lst ys))
theorem cr_sortedD {X : Cx} : CallR X (.builtin "sorted") (rSortedD X.K X.A) := by
  intro pins s σ H vs us Q I r h
  obtain ⟨β, a, xs, bs, enc, R, rfl, hs, hR, hD, hal, hk, hu, q⟩ := h
  obtain rfl := Vals.ref1 r
  obtain ⟨its, rv, hl, hz⟩ := I.list hs
  have e := each_to rv hR
  have lxs : xs.length = bs.length := hR.length
  have er : PySem.W.EachIs (fun v b => ∃ as, Reads s.heap v (enc b) as) its bs := e.mono fun u b hh => by
    obtain ⟨v, r1, r2⟩ := hh
    exact Dp.reads I (enc b) v u (hD v b r2) r1
  refine sorted_data (s := s) hl.isList e er hal hk (by rw [← lxs]; exact hz) hu fun out hlen eo => ?_
  obtain ⟨ys, r3, r4⟩ := each_back eo
  obtain ⟨ep, he'⟩ := PyProof.Rows.sortedAll_at s.heap its out.toArray
  have hly : ys.length ≤ sizeLine := by rw [r3.length, hlen, ← lxs]; exact hz
  exact ⟨.ref _, upd H (s.heap.objs.size + 1) (.lst ys), I.laid (t' := s.toks) (fun _ _ => PyProof.Rows.sortedAll_old) (Nat.le_succ _) ⟨hly, _, ep, r3, he'⟩, rfl, q _ _ (I.hok.fresh (Nat.le_succ _)) r4⟩
/-! ### sorted by a key def that keeps the heap -/
def rSortedKD (K : PySem.W.Frag) (A : Around) (f : Addr) (β : Type) (k : β → PyData) (R : V → β → Hp → Prop) : List V → List V → Hp → VK → Prop := fun vs zs H Q => ∃ (a : Addr) (xs : List V) (bs : List β), vs = [V.ref a] ∧ zs = [V.ref f] ∧ SqL K H a xs ∧ PySem.W.EachIs (fun v b => R v b H) xs bs ∧
  AllAlike (bs.map k) ∧ Sortable (bs.map k) ∧ (∀ b, b ∈ bs → A.units + 2 + (k b).depth < cLine) ∧
  ∀ (ys : List V) (p : Addr), H p = none → PySem.W.EachIs (fun v b => R v b H) ys (bs.mergeSort (dataLe false k)) → Q (.ref p) (upd H p (.lst ys))
theorem cr_sortedKD {X : Cx} {f : Addr} {k : β → PyData} {R : V → β → Hp → Prop}
    (turn : ∀ (pins : List (Addr × Obj)) (σ : L2.St) (H : Hp) (s : Shared) (v : V) (u : Value) (b : β), Inv X pins σ H s → RelV v u → R v b H → wpAny (model X.prog X.w) X.A.in1.in1 (call (.ref f) [u]) (KeyPure (k b) s) (fun _ _ => False) s) :
    CallRK X (.builtin "sorted") [Str.ofString "key"] (rSortedKD X.K X.A f β k R) := by
  intro pins s σ H vs zs us ws Q I r rz h
  obtain ⟨a, xs, bs, rfl, rfl, hs, hR, hal, hk, hu, q⟩ := h
  obtain rfl := Vals.ref1 r
  obtain rfl := Vals.ref1 rz
  obtain ⟨its, rv, hl, hz⟩ := I.list hs
  have e := each_to rv hR
  have lxs : xs.length = bs.length := hR.length
  refine sorted_key_data (s := s) (b := false) (kw := [(Str.ofString "key", Value.ref f)]) k hl.isList e hal hk (by rw [← lxs]; exact hz) hu (ksk_s1 _ _) (fun _ => ksk_l1 _ _) (fun _ => ksk_t1 _ _) (fun u b hh _ h tk hkeep => ?_) fun out c h' tk hkeep hfree hD hlen eo => ?_
  · obtain ⟨v, r1, r2⟩ := hh
    exact turn pins σ H { s with heap := h, toks := tk } v u b (I.kept (t' := tk) hkeep) r1 r2
  · obtain ⟨ys, r3, r4⟩ := each_back eo
    have hly : ys.length ≤ sizeLine := by rw [r3.length, hlen, ← lxs]; exact hz
    exact ⟨.ref _, upd H (s.heap.objs.size + 1) (.lst ys), I.laid (t' := tk) hkeep (Nat.le_succ _) ⟨hly, out, c, r3, hD⟩, rfl, q _ _ (I.hok.fresh (Nat.le_succ _)) r4⟩
end
end K8

/-! The plain law: lots, pits, worths, with no program in sight. -/
namespace K8
open PySem PySem.W

abbrev Lot := List Int
/-- all lots of n blocks, in no order -/
def lotsN : Nat → List Lot
  | 0 => [[]]
  | n + 1 => lotsN n ++ (lotsN n).map fun l => l ++ [(n : Int)]
def full (cs l : Lot) : Bool := cs.all fun c => l.any fun y => decide (y = c)
def covAt (cov : List Lot) (b : Int) : Lot := cov.getD b.toNat []
def pitsN (cov : List Lot) : Nat → List Lot
  | 0 => [[]]
  | n + 1 => pitsN cov n ++ ((pitsN cov n).filter (full (cov.getD n []))).map fun l => l ++ [(n : Int)]
def isPit (cov : List Lot) (l : Lot) : Bool := l.all fun b => full (covAt cov b) l
def enc (l : Lot) : PyData := .tuple [.int (l.length : Int), .tuple (l.map .int)]
abbrev leL : Lot → Lot → Bool := dataLe false enc
def sortL (ls : List Lot) : List Lot := ls.mergeSort leL
def lawPits (cov : List Lot) : List Lot := (sortL (lotsN cov.length)).filter (isPit cov)
def progPits (cov : List Lot) : List Lot := sortL (pitsN cov cov.length)
structure GoodLot (n : Int) (l : Lot) : Prop where
  rise : l.Pairwise (· < ·)
  lo : ∀ c ∈ l, 0 ≤ c
  hi : ∀ c ∈ l, c < n
structure Good (cov : List Lot) : Prop where
  pos : 1 ≤ cov.length
  le : cov.length ≤ 8
  ok : ∀ (i : Nat) (l : Lot), cov[i]? = some l → GoodLot i l

theorem GoodLot.nil (n : Int) : GoodLot n [] := ⟨.nil, fun _ h => absurd h (by simp), fun _ h => absurd h (by simp)⟩
theorem pairwise_snoc {l : List Int} {x : Int} (h : l.Pairwise (· < ·)) (hx : ∀ c ∈ l, c < x) : (l ++ [x]).Pairwise (· < ·) := by
  rw [List.pairwise_append]
  exact ⟨h, List.pairwise_singleton _ _, fun a ha b hb => by rw [List.mem_singleton.mp hb]; exact hx a ha⟩
theorem GoodLot.snoc {n : Nat} {l : Lot} (h : GoodLot n l) : GoodLot ((n + 1 : Nat) : Int) (l ++ [(n : Int)]) where
  rise := pairwise_snoc h.rise h.hi
  lo := fun c hc => by
    rcases List.mem_append.mp hc with q | q
    · exact h.lo c q
    · rw [List.mem_singleton.mp q]; omega
  hi := fun c hc => by
    rcases List.mem_append.mp hc with q | q
    · have := h.hi c q
      omega
    · rw [List.mem_singleton.mp q]; omega
theorem GoodLot.up {n m : Int} {l : Lot} (h : GoodLot n l) (hm : n ≤ m) : GoodLot m l := ⟨h.rise, h.lo, fun c hc => Int.lt_of_lt_of_le (h.hi c hc) hm⟩
theorem lots_good : ∀ (n : Nat) (l : Lot), l ∈ lotsN n → GoodLot n l
  | 0, l, h => by
    have e : l = [] := by simpa [lotsN] using h
    rw [e]
    exact .nil _
  | n + 1, l, h => by
    unfold lotsN at h
    rcases List.mem_append.mp h with q | q
    · exact (lots_good n l q).up (by omega)
    · obtain ⟨l', h1, rfl⟩ := List.mem_map.mp q
      exact (lots_good n l' h1).snoc
theorem pits_sub (cov : List Lot) : ∀ (n : Nat) (l : Lot), l ∈ pitsN cov n → l ∈ lotsN n
  | 0, l, h => h
  | n + 1, l, h => by
    unfold pitsN at h
    unfold lotsN
    rcases List.mem_append.mp h with q | q
    · exact List.mem_append_left _ (pits_sub cov n l q)
    · obtain ⟨l', h1, rfl⟩ := List.mem_map.mp q
      exact List.mem_append_right _ (List.mem_map.mpr ⟨l', pits_sub cov n l' (List.mem_filter.mp h1).1, rfl⟩)
theorem lots_len : ∀ n : Nat, (lotsN n).length = 2 ^ n
  | 0 => rfl
  | n + 1 => by
    unfold lotsN
    rw [List.length_append, List.length_map, lots_len n, Nat.pow_succ]
    omega
theorem pits_len (cov : List Lot) : ∀ n : Nat, (pitsN cov n).length ≤ 2 ^ n
  | 0 => Nat.le_refl _
  | n + 1 => by
    unfold pitsN
    rw [List.length_append, List.length_map, Nat.pow_succ]
    have h1 := pits_len cov n
    have h2 := List.length_filter_le (full (cov.getD n [])) (pitsN cov n)
    omega
theorem pow_le8 {n : Nat} (h : n ≤ 8) : 2 ^ n ≤ 256 := Nat.pow_le_pow_right (n := 2) (by decide) h
theorem lot_len {n : Nat} {l : Lot} (h : GoodLot n l) : l.length ≤ n := by
  have key : ∀ (m : Nat) (l : Lot), GoodLot m l → l.length ≤ m := by
    intro m
    induction m with
    | zero =>
      intro l h
      cases l with
      | nil => exact Nat.le_refl _
      | cons c r =>
        have h1 := h.lo c (List.mem_cons_self ..)
        have h2 := h.hi c (List.mem_cons_self ..)
        omega
    | succ m ih =>
      intro l h
      rcases List.eq_nil_or_concat l with e | ⟨r, x, e⟩
      · rw [e]
        exact Nat.zero_le _
      · rw [List.concat_eq_append] at e
        subst e
        have hp := List.pairwise_append.mp h.rise
        have hx := h.hi x (List.mem_append_right _ (List.mem_singleton.mpr rfl))
        have hr : GoodLot m r := ⟨hp.1, fun c hc => h.lo c (List.mem_append_left _ hc), fun c hc => by
          have := hp.2.2 c hc x (List.mem_singleton.mpr rfl)
          omega⟩
        have := ih r hr
        rw [List.length_append, List.length_singleton]
        omega
  exact key n l h

/-- a block behind the others changes nothing for covers below it -/
theorem full_snoc {cs l : Lot} {n : Nat} (h : ∀ c ∈ cs, c < (n : Int)) : full cs (l ++ [(n : Int)]) = full cs l := by
  have key : ∀ c ∈ cs, ((l ++ [(n : Int)]).any fun y => decide (y = c)) = l.any fun y => decide (y = c) := fun c hc => by
    have hn : decide ((n : Int) = c) = false := decide_eq_false (by have := h c hc; omega)
    rw [List.any_append, List.any_cons, List.any_nil, hn, Bool.or_false, Bool.or_false]
  unfold full
  rw [Bool.eq_iff_iff, List.all_eq_true, List.all_eq_true]
  constructor
  · intro q c hc
    rw [← key c hc]
    exact q c hc
  · intro q c hc
    rw [key c hc]
    exact q c hc
theorem cov_hi {cov : List Lot} (g : Good cov) (i : Nat) : ∀ c ∈ cov.getD i [], c < (i : Int) := by
  rw [List.getD_eq_getElem?_getD]
  cases e : cov[i]? with
  | none =>
    intro c hc
    exact absurd hc (by simp)
  | some l => exact (g.ok i l e).hi
theorem isPit_snoc {cov : List Lot} (g : Good cov) {n : Nat} {l : Lot} (hl : GoodLot n l) : isPit cov (l ++ [(n : Int)]) = (full (cov.getD n []) l && isPit cov l) := by
  have e1 : ∀ b ∈ l, full (covAt cov b) (l ++ [(n : Int)]) = full (covAt cov b) l := fun b hb => full_snoc fun c hc => by
    have q := cov_hi g b.toNat c hc
    have h1 := hl.lo b hb
    have h2 := hl.hi b hb
    omega
  have e2 : (l.all fun b => full (covAt cov b) (l ++ [(n : Int)])) = l.all fun b => full (covAt cov b) l := by
    rw [Bool.eq_iff_iff, List.all_eq_true, List.all_eq_true]
    exact ⟨fun q b hb => by rw [← e1 b hb]; exact q b hb, fun q b hb => by rw [e1 b hb]; exact q b hb⟩
  have e3 : covAt cov (n : Int) = cov.getD n [] := by
    unfold covAt
    rw [Int.toNat_natCast]
  unfold isPit
  rw [List.all_append, e2, List.all_cons, List.all_nil, Bool.and_true, e3, full_snoc (cov_hi g n), Bool.and_comm]
theorem pits_same {cov : List Lot} (g : Good cov) : ∀ n : Nat, (lotsN n).filter (isPit cov) = pitsN cov n
  | 0 => rfl
  | n + 1 => by
    unfold lotsN pitsN
    rw [List.filter_append, pits_same g n, List.filter_map]
    congr 1
    rw [← pits_same g n, List.filter_filter]
    congr 1
    refine List.filter_congr fun l hl => ?_
    exact isPit_snoc g (lots_good n l hl)

theorem le_total : TotalLe leL := sortLe_total _ _ _
theorem sort_filter (p : Lot → Bool) (ls : List Lot) : (sortL ls).filter p = sortL (ls.filter p) := by
  refine sort_unique le_total ((sort_pairwise le_total ls).sublist (List.filter_sublist ..)) fun c => ?_
  show ((sortL ls).filter p).filter (sameRank leL c) = (ls.filter p).filter (sameRank leL c)
  have e := congrArg (List.filter p) (sort_stable le_total ls c)
  rw [List.filter_filter, List.filter_filter] at e ⊢
  have e' : (fun a => sameRank leL c a && p a) = fun a => p a && sameRank leL c a := by
    funext a
    exact Bool.and_comm _ _
  rw [e']
  exact e
/-- THE LAW: both ways of making the pits give one list -/
theorem pits_eq {cov : List Lot} (g : Good cov) : lawPits cov = progPits cov := by
  unfold lawPits progPits
  rw [sort_filter, pits_same g]
theorem sort_mem {ls : List Lot} {l : Lot} : l ∈ sortL ls ↔ l ∈ ls := (List.mergeSort_perm ls leL).mem_iff
theorem sort_len (ls : List Lot) : (sortL ls).length = ls.length := (List.mergeSort_perm ls leL).length_eq
theorem prog_good {cov : List Lot} {l : Lot} (h : l ∈ progPits cov) : GoodLot cov.length l := lots_good _ _ (pits_sub cov _ _ (sort_mem.mp h))
theorem nil_mem (cov : List Lot) : ∀ n : Nat, [] ∈ pitsN cov n
  | 0 => List.mem_singleton.mpr rfl
  | n + 1 => List.mem_append_left _ (nil_mem cov n)
theorem prog_ne (cov : List Lot) : progPits cov ≠ [] := fun e => by
  have h : [] ∈ progPits cov := sort_mem.mpr (nil_mem cov _)
  rw [e] at h
  exact absurd h (by simp)
theorem prog_len {cov : List Lot} (g : Good cov) : (progPits cov).length ≤ 256 := by
  unfold progPits
  rw [sort_len]
  exact Nat.le_trans (pits_len cov _) (pow_le8 g.le)

/-! ### the greatest -/
def maxI : List Int → Int
  | [] => 0
  | x :: r => r.foldl max x
theorem foldl_max : ∀ (r : List Int) (x : Int), (r.foldl max x ∈ x :: r) ∧ ∀ y ∈ x :: r, y ≤ r.foldl max x
  | [], x => ⟨List.mem_singleton.mpr rfl, fun y hy => by rw [List.mem_singleton.mp hy]; exact Int.le_refl _⟩
  | z :: r, x => by
    obtain ⟨h1, h2⟩ := foldl_max r (max x z)
    refine ⟨?_, fun y hy => ?_⟩
    · show r.foldl max (max x z) ∈ x :: z :: r
      rcases List.mem_cons.mp h1 with e | e
      · rw [e]
        rcases Int.le_total x z with q | q
        · rw [Int.max_eq_right q]
          exact List.mem_cons_of_mem _ (List.mem_cons_self ..)
        · rw [Int.max_eq_left q]
          exact List.mem_cons_self ..
      · exact List.mem_cons_of_mem _ (List.mem_cons_of_mem _ e)
    · show y ≤ r.foldl max (max x z)
      have hm := h2 (max x z) (List.mem_cons_self ..)
      rcases List.mem_cons.mp hy with e | e
      · rw [e]
        exact Int.le_trans (Int.le_max_left ..) hm
      · rcases List.mem_cons.mp e with e | e
        · rw [e]
          exact Int.le_trans (Int.le_max_right ..) hm
        · exact h2 y (List.mem_cons_of_mem _ e)
theorem max_one {ns : List Int} {m : Int} (hm : m ∈ ns) (hle : ∀ y, y ∈ ns → y ≤ m) : m = maxI ns := by
  cases ns with
  | nil => exact absurd hm (by simp)
  | cons x r =>
    obtain ⟨h1, h2⟩ := foldl_max r x
    exact Int.le_antisymm (h2 m hm) (hle _ h1)
theorem max_mem {ns : List Int} (h : ns ≠ []) : maxI ns ∈ ns := by
  cases ns with
  | nil => exact absurd rfl h
  | cons x r => exact (foldl_max r x).1
/-! ### worths -/
def wAt (w : List Int) (b : Int) : Int := w.getD b.toNat 0
def sumL (w : List Int) (l : Lot) : Int := (l.map (wAt w)).sum
def mostOf (w : List Int) (ls : List Lot) : Int := maxI (ls.map (sumL w))
def bestOf (w : List Int) (ls : List Lot) : List Lot := ls.filter fun l => decide (sumL w l = mostOf w ls)
theorem best_ne {w : List Int} {ls : List Lot} (h : ls ≠ []) : bestOf w ls ≠ [] := fun e => by
  have h1 : ls.map (sumL w) ≠ [] := fun q => h (List.map_eq_nil_iff.mp q)
  obtain ⟨l, h2, h3⟩ := List.mem_map.mp (max_mem h1)
  have h4 : l ∈ bestOf w ls := List.mem_filter.mpr ⟨h2, decide_eq_true h3⟩
  rw [e] at h4
  exact absurd h4 (by simp)
theorem best_sum {w : List Int} {ls : List Lot} {l : Lot} (h : l ∈ bestOf w ls) : sumL w l = mostOf w ls := of_decide_eq_true (List.mem_filter.mp h).2
theorem best_sub {w : List Int} {ls : List Lot} {l : Lot} (h : l ∈ bestOf w ls) : l ∈ ls := (List.mem_filter.mp h).1
theorem best_len (w : List Int) (ls : List Lot) : (bestOf w ls).length ≤ ls.length := List.length_filter_le ..
/-! ### the data that the sorts see -/
theorem enc_alike (a b : Lot) : alike (enc a) (enc b) = true := by
  unfold enc
  rw [alike, alikeAll, alikeAll, alikeAll, alike, alike, alike_ints]
  rfl
theorem enc_depth (l : Lot) : (enc l).depth ≤ 3 := by
  unfold enc
  simp only [PyData.depth, PyData.depthAll, depth_ints]
  decide
theorem enc_tup (l : Lot) : ∃ x r, enc l = .tuple (x :: r) := ⟨_, _, rfl⟩
end K8

/-! What the walks share: lots on the heap, comprehensions in one lemma, defs by name. -/
namespace K8
open PySem PySem.Spec PyProof.Rows L2

/-! ### heaps -/
def TK (H H' : Hp) : Prop := ∀ a xs, H a = some (.tup xs) → H' a = some (.tup xs)
theorem tk_same {H H' : Hp} (s : Same H H') : TK H H' := fun a xs e => s a _ e
theorem TK.trans {H H1 H2 : Hp} (a : TK H H1) (b : TK H1 H2) : TK H H2 := fun c xs h => b c xs (a c xs h)
theorem tk_lst {H : Hp} {D : Addr} {xs : List V} {o : HO} (h : H D = some (.lst xs)) : TK H (upd H D o) := fun a ys e => by
  rw [upd_ne (ne_of e h (by intro z; cases z))]
  exact e
theorem same_new {H : Hp} {p : Addr} {o : HO} (h : H p = none) : Same H (upd H p o) := fun b x e => by
  rw [upd_ne (ne_of_none e h)]
  exact e
/-- all but what stands at r is as it was -/
def But (r : Addr) (H H' : Hp) : Prop := ∀ b o, b ≠ r → H b = some o → H' b = some o
theorem But.refl (r : Addr) (H : Hp) : But r H H := fun _ _ _ h => h
theorem But.trans {r : Addr} {H H1 H2 : Hp} (a : But r H H1) (b : But r H1 H2) : But r H H2 := fun c o n h => b c o n (a c o n h)
theorem Same.but {r : Addr} {H H' : Hp} (s : Same H H') : But r H H' := fun c o _ h => s c o h
theorem But.tk {r : Addr} {H H' : Hp} {xs : List V} (s : But r H H') (h : H r = some (.lst xs)) : TK H H' := fun a ys e => s a _ (ne_of e h (by intro z; cases z)) e
theorem but_upd {r : Addr} {H : Hp} {o : HO} : But r H (upd H r o) := fun b x n e => by
  rw [upd_ne n]
  exact e
/-- what was free at first was not the tracked r -/
theorem But.same {r : Addr} {H H1 H2 : Hp} (a : Same H H1) (hr : H r = none) (b : But r H1 H2) : Same H H2 := fun c o h => b c o (ne_of_none h hr) (a c o h)

/-! ### lots -/
def IsLot (v : V) (l : Lot) (H : Hp) : Prop := ∃ a, v = .ref a ∧ H a = some (.tup (l.map V.int))
theorem IsLot.tk {v : V} {l : Lot} {H H' : Hp} (h : IsLot v l H) (k : TK H H') : IsLot v l H' := by
  obtain ⟨a, e, q⟩ := h
  exact ⟨a, e, k a _ q⟩
abbrev EachLot (vs : List V) (ls : List Lot) (H : Hp) : Prop := PySem.W.EachIs (fun v l => IsLot v l H) vs ls
theorem EachLot.tk {vs : List V} {ls : List Lot} {H H' : Hp} (h : EachLot vs ls H) (k : TK H H') : EachLot vs ls H' := h.mono fun _ _ q => q.tk k
def LotsAt (a : Addr) (ls : List Lot) (H : Hp) : Prop := ∃ vs, H a = some (.lst vs) ∧ EachLot vs ls H
def CovAt (a : Addr) (ls : List Lot) (H : Hp) : Prop := ∃ vs, H a = some (.tup vs) ∧ EachLot vs ls H
theorem LotsAt.same {a : Addr} {ls : List Lot} {H H' : Hp} (h : LotsAt a ls H) (s : Same H H') : LotsAt a ls H' := by
  obtain ⟨vs, e, q⟩ := h
  exact ⟨vs, s _ _ e, q.tk (tk_same s)⟩
theorem CovAt.tk {a : Addr} {ls : List Lot} {H H' : Hp} (h : CovAt a ls H) (s : TK H H') : CovAt a ls H' := by
  obtain ⟨vs, e, q⟩ := h
  exact ⟨vs, s _ _ e, q.tk s⟩
theorem CovAt.same {a : Addr} {ls : List Lot} {H H' : Hp} (h : CovAt a ls H) (s : Same H H') : CovAt a ls H' := h.tk (tk_same s)
theorem EachLot.at {vs : List V} {ls : List Lot} {H : Hp} {i : Nat} {l : Lot} (h : EachLot vs ls H) (e : ls[i]? = some l) : ∃ v, vs[i]? = some v ∧ IsLot v l H := by
  have hl := h.length
  have hi : i < vs.length := by
    have := (List.getElem?_eq_some_iff.mp e).1
    omega
  obtain ⟨b, h1, h2⟩ := EachIs.get (R := fun v l => IsLot v l H) h (List.getElem?_eq_getElem hi)
  rw [e] at h1
  cases h1
  exact ⟨_, List.getElem?_eq_getElem hi, h2⟩
theorem each_val {γ : Type} {f : γ → V} : ∀ {vs : List V} {zs : List γ}, PySem.W.EachIs (fun v z => v = f z) vs zs → vs = zs.map f
  | _, _, .nil => rfl
  | _, _, .cons h t => by
    rw [h, each_val t]
    rfl
theorem int_at {l : Lot} {i : Nat} {x : V} (h : (l.map V.int)[i]? = some x) : ∃ n, l[i]? = some n ∧ x = V.int n := by
  rw [List.getElem?_map] at h
  cases e : l[i]? with
  | none =>
    rw [e] at h
    cases h
  | some n =>
    rw [e] at h
    exact ⟨n, rfl, (Option.some.inj h).symm⟩
theorem at_int {l : Lot} {i : Nat} {n : Int} (h : l[i]? = some n) : (l.map V.int)[i]? = some (V.int n) := by
  rw [List.getElem?_map, h]
  rfl
theorem get_of {l : List Int} {b : Int} (h0 : 0 ≤ b) (h1 : b < (l.length : Int)) : ∃ j : Nat, b = (j : Int) ∧ l[j]? = some (wAt l b) := by
  refine ⟨b.toNat, by omega, ?_⟩
  have hj : b.toNat < l.length := by omega
  unfold wAt
  rw [List.getD_eq_getElem?_getD, List.getElem?_eq_getElem hj]
  rfl
/-- a lot's blocks, asked for with «in» -/
theorem in_lot (l : Lot) (n : Int) : inV (V.int n) (l.map V.int) = l.any fun y => decide (y = n) := by
  unfold inV
  rw [List.any_map]
  rfl
theorem flat_ints (l : Lot) : (l.map V.int).all flatV = true := by
  rw [List.all_map, List.all_eq_true]
  intro x _
  rfl

/-! ### tests -/
theorem ifd {c A B : Prop} [Decidable c] (hc : c) (h : A) : if decide c = true then A else B := by
  rw [if_pos (decide_eq_true hc)]
  exact h
theorem ifn {c A B : Prop} [Decidable c] (hc : ¬ c) (h : B) : if decide c = true then A else B := by
  rw [if_neg (by rw [decide_eq_false hc]; exact Bool.false_ne_true)]
  exact h
theorem ifb {b : Bool} {A B : Prop} (hb : b = true) (h : A) : if b = true then A else B := by
  rw [if_pos hb]
  exact h
theorem ifbn {b : Bool} {A B : Prop} (hb : b = false) (h : B) : if b = true then A else B := by
  rw [if_neg (by rw [hb]; exact Bool.false_ne_true)]
  exact h

theorem kept {te : TE} {σ : L2.St} {H : Hp} {P1 : V → Hp → Prop} {P0 : Hp → Prop} (h : te σ H P1) : tYes σ H (fun b H3 => if b = true then te σ H3 P1 else P0 H3) := by
  show if true = true then te σ H P1 else P0 H
  rw [if_pos rfl]
  exact h

/-! ### a comprehension whose turns keep all that stood -/
theorem flat_map1 {α γ : Type} (f : α → γ) : ∀ as : List α, (as.flatMap fun a => [f a]) = as.map f
  | [] => rfl
  | a :: r => by
    rw [List.flatMap_cons, flat_map1 f r]
    rfl
theorem flat_filter {α γ : Type} (p : α → Bool) (f : α → γ) : ∀ as : List α, (as.flatMap fun a => if p a = true then [f a] else []) = (as.filter p).map f
  | [] => rfl
  | a :: r => by
    rw [List.flatMap_cons, flat_filter p f r]
    cases h : p a with
    | true =>
      rw [if_pos rfl, List.filter_cons_of_pos h]
      rfl
    | false =>
      rw [if_neg Bool.false_ne_true, List.filter_cons_of_neg (by rw [h]; exact Bool.false_ne_true)]
      rfl
theorem take_flat {α γ : Type} (c : α → List γ) {as : List α} {i : Nat} {a : α} (h : as[i]? = some a) : (as.take (i + 1)).flatMap c = (as.take i).flatMap c ++ c a := by
  rw [List.take_add_one, h, List.flatMap_append]
  show _ ++ List.flatMap c [a] = _
  rw [List.flatMap_cons, List.flatMap_nil, List.append_nil]
theorem lc_made {J : It} {n : Nat} {G : Hp → Prop} {Y : Nat → Hp → V → Hp → Prop} (w : Walk J n G Y) {α γ : Type} (as : List α) (hn : as.length = n) (c : α → List γ) (R : V → γ → Hp → Prop) (hR : ∀ v z H H', TK H H' → R v z H → R v z H')
    {g : TG} {tt : TT} {te : TE} {vs : List Nat} {σ : L2.St} {H1 : Hp} {D : Addr} {Qd : Hp → Prop} (hD : H1 D = none) (hsz : n < sizeLine) (hG : ∀ H, Same H1 H → G H)
    (hs : ∀ (i : Nat) (a : α) (x : V) (H H' : Hp) (P1 : V → Hp → Prop) (P0 : Hp → Prop), as[i]? = some a → Same H1 H → H D ≠ none → Y i H x H' →
      (∀ (y : V) (z : γ) (H4 : Hp), c a = [z] → R y z H4 → Same H H4 → P1 y H4) → (∀ H3 : Hp, c a = [] → Same H H3 → P0 H3) →
      g x (wipe σ vs) H' fun σ2 H2 => wipe σ2 vs = wipe σ vs ∧ tt σ2 H2 fun b H3 => if b = true then te σ2 H3 P1 else P0 H3)
    (hd : ∀ (H : Hp) (ys : List V), Same H1 H → H D = some (.lst ys) → PySem.W.EachIs (fun v z => R v z H) ys (as.flatMap c) → ys.length ≤ n → Qd H) :
    ∃ W : Nat → Nat → Hp → Prop, (∃ m, W 0 m (upd H1 D (.lst []))) ∧ ∀ i m H, W i m H →
      (J.stop i H ∧ Qd H) ∨ (J.go i H ∧ ∃ Nx : Hp → Prop, (∀ H', Nx H' → ∃ m', m' < m ∧ W (i + 1) m' H') ∧ ∀ x H', J.yld i H x H' → g x (wipe σ vs) H' fun σ2 H2 => wipe σ2 vs = wipe σ vs ∧ tt σ2 H2 fun b H3 =>
        if b = true then te σ2 H3 fun y H4 => ∃ acc, H4 D = some (.lst acc) ∧ acc.length < sizeLine ∧ Nx (upd H4 D (.lst (acc ++ [y]))) else Nx H3) := by
  refine lc_it w (fun i H => Same H1 H ∧ ∃ ys, H D = some (.lst ys) ∧ ys.length ≤ i ∧ PySem.W.EachIs (fun v z => R v z H) ys ((as.take i).flatMap c))
    ⟨same_new hD, [], upd_same, Nat.le_refl _, .nil⟩ (fun i H _ p => hG H p.1) (fun i x H H' hi p y => ?_) (fun H p => ?_)
  · obtain ⟨s, ys, e, hl, r⟩ := p
    have hia : i < as.length := by omega
    have ea := List.getElem?_eq_getElem hia
    refine hs i as[i] x H H' _ _ ea s (by rw [e]; exact fun z => nomatch z) y (fun v z H4 ec rv s4 => ?_) (fun H3 ec s3 => ?_)
    · have e4 := s4 _ _ e
      have k4 : TK H4 (upd H4 D (.lst (ys ++ [v]))) := tk_lst e4
      refine ⟨ys, e4, by omega, ?_, ys ++ [v], upd_same, by rw [List.length_append, List.length_singleton]; omega, ?_⟩
      · intro b o q
        have nb : b ≠ D := ne_of_none q hD
        rw [upd_ne nb]
        exact s4 _ _ (s _ _ q)
      · rw [take_flat c ea, ec]
        exact EachIs.append (r.mono fun _ _ q => hR _ _ _ _ ((tk_same s4).trans k4) q) (.cons (hR _ _ _ _ k4 rv) .nil)
    · refine ⟨s.trans s3, ys, s3 _ _ e, by omega, ?_⟩
      rw [take_flat c ea, ec, List.append_nil]
      exact r.mono fun _ _ q => hR _ _ _ _ (tk_same s3) q
  · obtain ⟨s, ys, e, hl, r⟩ := p
    rw [List.take_of_length_le (by omega)] at r
    exact hd H ys s e r hl

/-! ### defs by name -/
structure Def (P : Program) (w : World) (K : PySem.W.Frag) (mg : Str → Option Value) (base : Heap) (k : Nat) (x : Str) (ps : List Str) (sp : Sp) : Prop where
  ex : ∃ f fd, FnOk P w K mg base CX0 k f fd ps sp ∧ mg x = some (.ref f) ∧ PySem.W.keepIn K (.ref f) = true ∧ Binds K fd ps []
theorem Def.mono {P : Program} {w : World} {K : PySem.W.Frag} {mg : Str → Option Value} {base : Heap} {j k : Nat} {x : Str} {ps : List Str} {sp : Sp} (D : Def P w K mg base j x ps sp) (h : j ≤ k) : Def P w K mg base k x ps sp := by
  obtain ⟨f, fd, F, a, b, c⟩ := D.ex
  exact ⟨f, fd, F.mono h, a, b, c⟩
theorem pe_def {X : Cx} {k : Nat} {x : Str} {ps : List Str} {sp : Sp} {p pos : Pos} {e : Expr} {es : List Expr} {t : TA} (D : Def X.prog X.w X.K X.mg X.base k x ps sp) (hr : Room k X.A) (hg : Gl X x) (ha : PA X (e :: es) t) (hdb : (x == ("__debug__" : Str)) = false := by decide)
    (he : starEach (e :: es) X.env = (false, eval e X.env) :: starEach es X.env := by rfl) (hpl : (backTo pos (starEach es X.env)).any (·.1) = false := by rfl) : PE X (.Call (.Name x p) (e :: es) [] pos) (tCall sp [] E0 t) := by
  obtain ⟨f, fd, F, a, b, c⟩ := D.ex
  exact pe_call F hr hg a b c .nil pass0 ha hdb he hpl
end K8

/-! The program's own defs, each with its promise. -/
namespace K8
open PySem PySem.Spec PyProof.Rows L2

def topS (i : Nat) : Stmt := PySem.Challenge.pw_pitlots_k08_whole_best_pits.main.body.getD i (.Pass ⟨0, 0, 0, 0⟩)
abbrev sFrom : Stmt := topS 8
abbrev sRises : Stmt := topS 9
abbrev sCover : Stmt := topS 10
abbrev sInit : Stmt := inClass (topS 11) 0
abbrev sLen : Stmt := inClass (topS 11) 2
abbrev sNeedG : Stmt := topS 12
abbrev sBlock : Stmt := topS 13
abbrev sIsLot : Stmt := topS 15
abbrev sNeedL : Stmt := topS 16
abbrev sSized : Stmt := topS 17
abbrev sPits : Stmt := topS 18
abbrev sNeedW : Stmt := topS 21
abbrev sSum : Stmt := topS 22
abbrev sGreat : Stmt := topS 23
abbrev sBest : Stmt := topS 24
abbrev sWorthOf : Stmt := topS 25
abbrev sBestW : Stmt := topS 26
abbrev sAllB : Stmt := topS 27
abbrev sLeast : Stmt := topS 28
abbrev sMost : Stmt := topS 29

/-- what the walks ask of the top: the class, two constants, the built-ins' names -/
structure Txt (K : PySem.W.Frag) (mg : Str → Option Value) (C : Addr) : Prop where
  cl : Cls K C
  nT : NoAttr K C "table"
  mgC : mg "Ground" = some (.ref C)
  ca : PySem.W.findIn K (.ref C) "__class__" = some (some (.builtin "object.__class__"))
  cg : PySem.W.specialIn K (.builtin "object.__class__") "__get__" = some (some (.builtin "getset_descriptor.__get__"))
  ct : PySem.W.takesIn K (.builtin "object.__class__") = some true
  cm : PySem.W.mroIn K C (.type "object") = some true
  mB : ∃ t, mg "MOST_BLOCKS" = some (.int 10 t)
  mW : ∃ t, mg "MOST_WORTH" = some (.int 50 t)
  isi : mg "isinstance" = none
  int : mg "int" = none
  bool : mg "bool" = none
  str : mg "str" = none
  tuple : mg "tuple" = none
  list : mg "list" = none
  all : mg "all" = none
  range : mg "range" = none
  len : mg "len" = none
  sum : mg "sum" = none
  max : mg "max" = none
  sorted : mg "sorted" = none
  enu : mg "enumerate" = none
/-- a Ground stands at g, its covers at c -/
structure GroundAt (C g c : Addr) (cov : List Lot) (H : Hp) : Prop where
  ob : ∃ dx, H g = some (.ins C dx (putF "table" (.ref c) []))
  cv : CovAt c cov H
theorem GroundAt.same {C g c : Addr} {cov : List Lot} {H H' : Hp} (h : GroundAt C g c cov H) (s : Same H H') : GroundAt C g c cov H' := by
  obtain ⟨⟨dx, e⟩, q⟩ := h
  exact ⟨⟨dx, s _ _ e⟩, q.same s⟩
theorem tb_at (c : Addr) : (putF "table" (.ref c) []).lookup ("table" : Str) = some (V.ref c) := by
  rw [lookup_putF, if_pos rfl]
theorem CovAt.len {c : Addr} {cov : List Lot} {H : Hp} (h : CovAt c cov H) : ∃ vs, H c = some (.tup vs) ∧ EachLot vs cov H ∧ vs.length = cov.length := by
  obtain ⟨vs, e, q⟩ := h
  exact ⟨vs, e, q, q.length⟩
theorem kit_self {K : PySem.W.Frag} {C : Addr} : PySem.W.kitOne K (.ref C) (.ref C) = some true := by
  unfold PySem.W.kitOne
  rw [if_pos (by simp)]

def spFrom : Sp := fun vs H Q _ => ∃ i lo hi : Int, vs = [.int i, .int lo, .int hi] ∧ lo ≤ i ∧ i ≤ hi ∧ Q (.bl true) H
def spRises : Sp := fun vs H Q _ => ∃ (v : V) (l : Lot), vs = [v] ∧ IsLot v l H ∧ l.Pairwise (· < ·) ∧ l.length ≤ 1000 ∧ ∀ H', Same H H' → Q (.bl true) H'
def spCover : Sp := fun vs H Q _ => ∃ (v : V) (l : Lot) (b : Int), vs = [v, .int b] ∧ IsLot v l H ∧ GoodLot b l ∧ l.length ≤ 1000 ∧ ∀ H', Same H H' → Q (.bl true) H'
def spInit (C : Addr) : Sp := fun vs H Q _ => ∃ (p dx c : Addr) (cov : List Lot), vs = [.ref p, .ref c] ∧ H p = some (.ins C dx []) ∧ CovAt c cov H ∧ Good cov ∧ ∀ H', But p H H' → H' p = some (.ins C dx (putF "table" (.ref c) [])) → Q .non H'
def spLen (C : Addr) : Sp := fun vs H Q _ => ∃ (g c : Addr) (cov : List Lot), vs = [.ref g] ∧ GroundAt C g c cov H ∧ Q (.int cov.length) H
def spNeedG (C : Addr) : Sp := fun vs H Q _ => ∃ (g c : Addr) (cov : List Lot), vs = [.ref g] ∧ GroundAt C g c cov H ∧ Q .non H
def spBlock (C : Addr) : Sp := fun vs H Q _ => ∃ (g c : Addr) (cov : List Lot) (i : Int), vs = [.ref g, .int i] ∧ GroundAt C g c cov H ∧ cov.length ≤ 1000 ∧ 0 ≤ i ∧ i < cov.length ∧ Q (.bl true) H
def spIsLot (C : Addr) : Sp := fun vs H Q _ => ∃ (g c : Addr) (cov : List Lot) (v : V) (l : Lot), vs = [.ref g, v] ∧ GroundAt C g c cov H ∧ cov.length ≤ 1000 ∧ IsLot v l H ∧ GoodLot cov.length l ∧ l.length ≤ 1000 ∧ ∀ H', Same H H' → Q (.bl true) H'
def spNeedL (C : Addr) : Sp := fun vs H Q _ => ∃ (g c : Addr) (cov : List Lot) (v : V) (l : Lot), vs = [.ref g, v] ∧ GroundAt C g c cov H ∧ cov.length ≤ 1000 ∧ IsLot v l H ∧ GoodLot cov.length l ∧ l.length ≤ 1000 ∧ ∀ H', Same H H' → Q .non H'

section
variable {P : Program} {w : World} {K : PySem.W.Frag} {mg : Str → Option Value} {base : Heap}

theorem scFrom : FnScope ["value", "low", "high"] ["value", "low", "high"] (defScope sFrom) := ⟨rfl, rfl, rfl, by decide +kernel, rfl, by decide +kernel, by decide +kernel⟩
theorem ok_from {C f : Addr} {fd : FuncData} (F : Fun K "is_from" "is_from" sFrom f fd) (T : Txt K mg C) : FnOk P w K mg base CX0 1 f fd ["value", "low", "high"] spFrom := by
  refine F.ok scFrom (fun vs H Q E h => ?_) (fun cdv A outer s H vs Q E hr h => ?_)
  · obtain ⟨i, lo, hi, rfl, _⟩ := h
    rfl
  · obtain ⟨i, lo, hi, rfl, h1, h2, q⟩ := h
    refine ⟨_, pss_one (ps_ret (pe_and (pe_callB call_isi (by rfl) T.isi boot_isinstance (pa_cons (pv 0) (pa_cons (pe_bltn (v := .ty "int") (by rfl) T.int (by decide +kernel) rfl) pa_nil)))
      (pe_and (pe_not (pe_callB call_isi (by rfl) T.isi boot_isinstance (pa_cons (pv 0) (pa_cons (pe_bltn (v := .ty "bool") (by rfl) T.bool (by decide +kernel) rfl) pa_nil))))
      (pe_one (pe_chain op_le op_le (pv 1) (pv 0) (pv 2)))))), ?_⟩
    refine ⟨_, rfl, .int i, .ty "int", .type "int", .type "int", true, rfl, .ty _, .base (.int i), kit_ty (by decide +kernel), true, rfl, ifb rfl ?_⟩
    refine ⟨_, rfl, .int i, .ty "bool", .type "int", .type "bool", false, rfl, .ty _, .base (.int i), kit_ty (by decide +kernel), false, rfl, true, rfl, ifb rfl ?_⟩
    refine ⟨_, rfl, _, rfl, lo, i, rfl, rfl, _, rfl, ifd h1 ⟨_, rfl, i, hi, rfl, rfl, ?_⟩⟩
    show Q (.bl (decide (i ≤ hi))) H
    rw [decide_eq_true h2]
    exact q

theorem scRises : FnScope ["value", "at"] ["value"] (defScope sRises) := ⟨rfl, rfl, rfl, by decide +kernel, rfl, by decide +kernel, by decide +kernel⟩
theorem all_true {ys : List V} {us : List Unit} (h : PySem.W.EachIs (fun v (_ : Unit) => v = .bl true) ys us) : ys = (us.map fun _ => true).map V.bl ∧ (us.map fun _ => true).all id = true := by
  refine ⟨?_, ?_⟩
  · rw [each_val (f := fun _ : Unit => V.bl true) h, List.map_map]
    rfl
  · rw [List.all_map, List.all_eq_true]
    intro _ _
    rfl
theorem ok_rises {C f : Addr} {fd : FuncData} (F : Fun K "rises" "rises" sRises f fd) (T : Txt K mg C) : FnOk P w K mg base CX0 1 f fd ["value"] spRises := by
  refine F.ok scRises (fun vs H Q E h => ?_) (fun cdv A outer s H vs Q E hr h => ?_)
  · obtain ⟨v, l, rfl, _⟩ := h
    rfl
  · obtain ⟨v, l, rfl, ⟨a, rfl, ha⟩, hp, hl, q⟩ := h
    refine ⟨_, pss_one (ps_ret (pe_callB (cr_all rfl) (by rfl) T.all boot_all (pa_cons (pe_lc (own := [("at", 1)]) (g := gName 1) (tt := tYes) rfl scRises.nd
      (pi_range2 (by rfl) T.range (pa_cons pe_int (pa_cons (pe_callB call_len_seq (by rfl) T.len PySem.boot_len (pa_cons (pv 0) pa_nil)) pa_nil)))
      (blkOk_by (N := ["value", "at"]) (sc := defScope sRises) (by decide +kernel)) (fun _ _ _ _ _ => pg_name (i := 1) scRises.nd rfl (Or.inl rfl)) (fun _ _ _ _ _ => pts_nil)
      (fun _ _ _ _ _ => pe_cmpR op_lt (pe_ix (r := rIxT K) ix_tup (pv 0) (pe_op op_sub (pv 1) pe_int) (fun _ _ => rfl)) (pe_ix (r := rIxT K) ix_tup (pv 0) (pv 1) (fun _ _ => rfl)) (nomark _))) pa_nil))), ?_⟩
    refine ⟨_, rfl, a, _, rfl, .inr (SqT.of ha), 1, _, rfl, ⟨by decide, by decide, by omega, by rw [List.length_map]; omega⟩, fun D hD => ?_⟩
    rw [List.length_map]
    refine lc_made walk_range (List.range ((l.length : Int) - 1).toNat) (List.length_range ..) (fun _ => [()]) (fun v _ _ => v = .bl true) (fun _ _ _ _ _ h => h) hD (small1000 (by omega)) (fun _ _ => trivial) ?_ ?_
    · intro i _ x H1 H2 P1 P0 hi s1 _ y k1 _
      obtain ⟨rfl, rfl⟩ := y
      have hi' : i < ((l.length : Int) - 1).toNat := by
        have := (List.getElem?_eq_some_iff.mp hi).1
        rw [List.length_range] at this
        exact this
      have g0 : l[i]? = some (l[i]'(by omega)) := List.getElem?_eq_getElem _
      have g1 : l[i + 1]? = some (l[i + 1]'(by omega)) := List.getElem?_eq_getElem _
      have hlt : l[i]'(by omega) < l[i + 1]'(by omega) := List.pairwise_iff_getElem.mp hp i (i + 1) (by omega) (by omega) (by omega)
      refine ⟨rfl, kept ?_⟩
      refine ⟨_, rfl, _, rfl, _, _, rfl, rfl, a, _, _, _, rfl, rfl, SqT.of (s1 _ _ ha), at_of (j := i) (by omega) (at_int g0), _, rfl, _, rfl, a, _, _, _, rfl, rfl, SqT.of (s1 _ _ ha), at_of (j := i + 1) (by omega) (at_int g1), _, _, rfl, rfl, ?_⟩
      exact k1 _ () _ rfl (congrArg V.bl (decide_eq_true hlt)) (Same.refl _)
    · intro H1 ys s1 e r _
      obtain ⟨e1, e2⟩ := all_true r
      rw [e1] at e
      refine ⟨D, _, rfl, SqL.of e, ?_⟩
      rw [e2]
      exact q _ s1

theorem scCover : FnScope ["value", "block", "one"] ["value", "block"] (defScope sCover) := ⟨rfl, rfl, rfl, by decide +kernel, rfl, by decide +kernel, by decide +kernel⟩
theorem ok_cover {C f : Addr} {fd : FuncData} (F : Fun K "is_cover" "is_cover" sCover f fd) (T : Txt K mg C) (DF : Def P w K mg base 1 "is_from" ["value", "low", "high"] spFrom) (DR : Def P w K mg base 1 "rises" ["value"] spRises) : FnOk P w K mg base CX0 2 f fd ["value", "block"] spCover := by
  refine F.ok scCover (fun vs H Q E h => ?_) (fun cdv A outer s H vs Q E hr h => ?_)
  · obtain ⟨v, l, b, rfl, _⟩ := h
    rfl
  · obtain ⟨v, l, b, rfl, ⟨a, rfl, ha⟩, hg, hl, q⟩ := h
    refine ⟨_, pss_one (ps_ret (pe_and (pe_callB call_isi (by rfl) T.isi boot_isinstance (pa_cons (pv 0) (pa_cons (pe_bltn (v := .ty "tuple") (by rfl) T.tuple (by decide +kernel) rfl) pa_nil)))
      (pe_and (pe_callB (cr_all rfl) (by rfl) T.all boot_all (pa_cons (pe_lc (own := [("one", 2)]) (g := gName 2) (tt := tYes) rfl scCover.nd (pi_tup (pv 0)) (blkOk_by (N := ["value", "block", "one"]) (sc := defScope sCover) (by decide +kernel)) (fun _ _ _ _ _ => pg_name (i := 2) scCover.nd rfl (Or.inl rfl)) (fun _ _ _ _ _ => pts_nil)
        (fun _ _ _ _ _ => pe_def DF hr (by rfl) (pa_cons (pv 2) (pa_cons pe_int (pa_cons (pe_op op_sub (pv 1) pe_int) pa_nil))))) pa_nil))
      (pe_one (pe_def DR hr (by rfl) (pa_cons (pv 0) pa_nil)))))), ?_⟩
    refine ⟨_, rfl, .ref a, .ty "tuple", .type "tuple", .type "tuple", true, rfl, .ty _, .base (.tup ha), kit_ty (by decide +kernel), true, rfl, ifb rfl ?_⟩
    refine ⟨_, rfl, a, rfl, ⟨_, SqT.of ha⟩, fun D hD => ?_⟩
    refine lc_made (walk_tup (xs := l.map V.int)) l (List.length_map ..).symm (fun _ => [()]) (fun v _ _ => v = .bl true) (fun _ _ _ _ _ h => h) hD (by rw [List.length_map]; exact small1000 hl) (fun H1 s1 => SqT.of (s1 _ _ ha)) ?_ ?_
    · intro i n x H1 H2 P1 P0 hi s1 _ y k1 _
      obtain ⟨rfl, hx⟩ := y
      obtain ⟨n', hn, rfl⟩ := int_at hx
      rw [hi] at hn
      cases hn
      have hm := List.mem_of_getElem? hi
      refine ⟨rfl, kept ?_⟩
      refine ⟨_, rfl, _, rfl, _, _, rfl, rfl, n, 0, b - 1, rfl, hg.lo n hm, by have := hg.hi n hm; omega, ?_⟩
      exact k1 _ () _ rfl rfl (Same.refl _)
    · intro H1 ys s1 e r _
      obtain ⟨e1, e2⟩ := all_true r
      rw [e1] at e
      refine ⟨D, _, rfl, SqL.of e, _, rfl, ?_⟩
      rw [e2]
      refine ifb rfl ⟨_, rfl, .ref a, l, rfl, ⟨a, rfl, s1 _ _ ha⟩, hg.rise, hl, fun H2 s2 => q _ (s1.trans s2)⟩

theorem scInit : FnScope ["self", "covers", "index", "value"] ["self", "covers"] (defScope sInit) := ⟨rfl, rfl, rfl, by decide +kernel, rfl, by decide +kernel, by decide +kernel⟩
theorem ok_init {C f : Addr} {fd : FuncData} (F : Fun K "__init__" "Ground.__init__" sInit f fd) (T : Txt K mg C) (DC : Def P w K mg base 2 "is_cover" ["value", "block"] spCover) : FnOk P w K mg base CX0 3 f fd ["self", "covers"] (spInit C) := by
  refine F.ok scInit (fun vs H Q E h => ?_) (fun cdv A outer s H vs Q E hr h => ?_)
  · obtain ⟨p, dx, c, cov, rfl, _⟩ := h
    rfl
  · obtain ⟨p, dx, c, cov, rfl, hp, hc, hg, q⟩ := h
    obtain ⟨ws, ec, each, hlen⟩ := hc.len
    obtain ⟨tB, mB⟩ := T.mB
    have h1 := hg.pos
    have h8 := hg.le
    refine ⟨_, pss_cons (ps_if (PW.pt (pw_or (pt_not (pt_val (pe_callB call_isi (by rfl) T.isi boot_isinstance (pa_cons (pv 1) (pa_cons (pe_bltn (v := .ty "tuple") (by rfl) T.tuple (by decide +kernel) rfl) pa_nil)))))
        (pw_or1 (pt_not (pt_chain op_le op_le pe_int (pe_callB call_len_seq (by rfl) T.len PySem.boot_len (pa_cons (pv 1) pa_nil)) (pe_glob (v := .int 10) rfl mB ⟨_, rfl⟩)))))) pss_never pss_nil)
      (pss_cons (ps_for PassesOwn.never rfl (pi_enumT (by rfl) T.enu (pa_cons (pv 1) pa_nil)) (pg_tup rfl (pgs_cons (pg_name (i := 2) scInit.nd rfl (Or.inl rfl)) (pgs_cons (pg_name (i := 3) scInit.nd rfl (Or.inl rfl)) pgs_nil)))
        (pss_one (ps_if (pt_not (pt_val (pe_def DC hr (by rfl) (pa_cons (pv 3) (pa_cons (pv 2) pa_nil))))) pss_never pss_nil)))
      (pss_one (ps_fld (pv 0) (pv 1) rfl))), ?_⟩
    refine ⟨_, rfl, .ref c, .ty "tuple", .type "tuple", .type "tuple", true, rfl, .ty _, .base (.tup ec), kit_ty (by decide +kernel), true, rfl, ifbn rfl ?_⟩
    refine ⟨_, rfl, c, _, rfl, .inr (SqT.of ec), _, _, rfl, rfl, _, rfl, ifd (by omega) ?_⟩
    refine ⟨_, _, rfl, rfl, true, congrArg V.bl (decide_eq_true (by omega)), ifbn rfl ?_⟩
    refine ⟨_, rfl, c, ws, rfl, SqT.of ec, for_it walk_enumT (fun i σ H1 => ∃ v2 v3, σ = [some (.ref p), some (.ref c), v2, v3] ∧ Same H H1) ⟨none, none, rfl, Same.refl _⟩ (fun i σ H1 _ ⟨_, _, _, s1⟩ => SqT.of (s1 _ _ ec)) ?_ ?_⟩
    · rintro i x σ H1 H2 hi ⟨v2, v3, rfl, s1⟩ ⟨Tp, x1, x2, rfl, hT, rfl, e1, e2⟩
      cases e1
      obtain ⟨l, hl, hlot⟩ := EachIs.get (R := fun v l => IsLot v l H) each e2
      have gl := hg.ok i l hl
      have s2 : Same H1 (upd H1 Tp (.tup [.int i, x2])) := same_new hT
      refine ⟨Tp, _, rfl, SqT.of upd_same, rfl, _, _, rfl, _, _, rfl, rfl, ?_⟩
      refine ⟨_, rfl, _, rfl, x2, l, i, rfl, hlot.tk (tk_same (s1.trans s2)), gl, ?_, fun H3 s3 => ⟨true, rfl, ifbn rfl ?_⟩⟩
      · have := lot_len gl
        omega
      · exact ⟨_, _, rfl, (s1.trans s2).trans s3⟩
    · rintro σ H1 ⟨v2, v3, rfl, s1⟩
      refine ⟨_, rfl, _, rfl, p, C, dx, _, rfl, s1 _ _ hp, T.cl, T.nT, (by show 0 < 1000; decide), ?_⟩
      exact q _ (fun b o nb e => by rw [upd_ne nb]; exact s1 _ _ e) upd_same

theorem scLen : FnScope ["self"] ["self"] (defScope sLen) := ⟨rfl, rfl, rfl, by decide +kernel, rfl, by decide +kernel, by decide +kernel⟩
theorem ok_len {C f : Addr} {fd : FuncData} (F : Fun K "__len__" "Ground.__len__" sLen f fd) (T : Txt K mg C) : FnOk P w K mg base CX0 1 f fd ["self"] (spLen C) := by
  refine F.ok scLen (fun vs H Q E h => ?_) (fun cdv A outer s H vs Q E hr h => ?_)
  · obtain ⟨g, c, cov, rfl, _⟩ := h
    rfl
  · obtain ⟨g, c, cov, rfl, ⟨⟨dx, eg⟩, hc⟩, q⟩ := h
    obtain ⟨ws, ec, each, hlen⟩ := hc.len
    refine ⟨_, pss_one (ps_ret (pe_callB call_len_seq (by rfl) T.len PySem.boot_len (pa_cons (pe_fld (pv 0) rfl) pa_nil))), ?_⟩
    refine ⟨_, rfl, g, C, dx, _, _, rfl, eg, T.cl, T.nT, tb_at c, c, ws, rfl, .inr (SqT.of ec), ?_⟩
    show Q (V.int ((ws.length : Nat) : Int)) H
    rw [hlen]
    exact q
/-- the class's __len__, as a def that len(..) calls -/
structure LenOf (P : Program) (w : World) (K : PySem.W.Frag) (mg : Str → Option Value) (base : Heap) (C : Addr) : Prop where
  ex : ∃ f fd, FnOk P w K mg base CX0 1 f fd ["self"] (spLen C) ∧ PySem.W.findIn K (.ref C) "__len__" = some (some (.ref f)) ∧ PySem.W.isFn K (.ref f) = true ∧ Binds K fd ["self"] []
/-- len(ground) -/
def rLenG (C : Addr) : List V → Hp → VK → Prop := fun xs H Q => ∃ (g c : Addr) (cov : List Lot), xs = [V.ref g] ∧ GroundAt C g c cov H ∧ cov.length ≤ 1000 ∧ Q (.int cov.length) H
theorem call_lenG {X : Cx} {C : Addr} (L : LenOf X.prog X.w X.K X.mg X.base C) (hr : Room 2 X.A) : CallR X (.builtin "len") (rLenG C) := by
  obtain ⟨f, fd, F, h1, h2, h3⟩ := L.ex
  intro pins s σ H xs us Q I r h
  obtain ⟨g, c, cov, rfl, hg, hz, q⟩ := h
  obtain ⟨dx, eg⟩ := hg.ob
  exact call_lenO F hr h1 h2 h3 (E := E0) pass0 pins s σ H _ us Q I r ⟨g, dx, _, rfl, eg, g, c, cov, rfl, hg, _, rfl, by omega, by omega, q⟩

theorem scNeedG : FnScope ["ground"] ["ground"] (defScope sNeedG) := ⟨rfl, rfl, rfl, by decide +kernel, rfl, by decide +kernel, by decide +kernel⟩
theorem ok_needG {C f : Addr} {fd : FuncData} (F : Fun K "need_ground" "need_ground" sNeedG f fd) (T : Txt K mg C) : FnOk P w K mg base CX0 1 f fd ["ground"] (spNeedG C) := by
  refine F.ok scNeedG (fun vs H Q E h => ?_) (fun cdv A outer s H vs Q E hr h => ?_)
  · obtain ⟨g, c, cov, rfl, _⟩ := h
    rfl
  · obtain ⟨g, c, cov, rfl, ⟨⟨dx, eg⟩, hc⟩, q⟩ := h
    refine ⟨_, pss_one (ps_if (pt_not (pt_val (pe_callB call_isi (by rfl) T.isi boot_isinstance (pa_cons (pv 0) (pa_cons (pe_glob (v := .ref C) rfl T.mgC rfl) pa_nil))))) pss_never pss_nil), ?_⟩
    exact ⟨_, rfl, .ref g, .ref C, .ref C, .ref C, true, rfl, .own C, .base (.ins eg T.cl T.ca T.cg T.ct T.cm), kit_self, true, rfl, ifbn rfl q⟩

theorem scBlock : FnScope ["ground", "value"] ["ground", "value"] (defScope sBlock) := ⟨rfl, rfl, rfl, by decide +kernel, rfl, by decide +kernel, by decide +kernel⟩
theorem ok_block {C f : Addr} {fd : FuncData} (F : Fun K "is_block" "is_block" sBlock f fd) (T : Txt K mg C) (DF : Def P w K mg base 1 "is_from" ["value", "low", "high"] spFrom) (L : LenOf P w K mg base C) : FnOk P w K mg base CX0 3 f fd ["ground", "value"] (spBlock C) := by
  refine F.ok scBlock (fun vs H Q E h => ?_) (fun cdv A outer s H vs Q E hr h => ?_)
  · obtain ⟨g, c, cov, i, rfl, _⟩ := h
    rfl
  · obtain ⟨g, c, cov, i, rfl, hg, hz, h0, h1, q⟩ := h
    refine ⟨_, pss_one (ps_ret (pe_def DF (hr.mono (by decide)) (by rfl) (pa_cons (pv 1) (pa_cons pe_int (pa_cons (pe_op op_sub (pe_callB (call_lenG L hr) (by rfl) T.len PySem.boot_len (pa_cons (pv 0) pa_nil)) pe_int) pa_nil))))), ?_⟩
    exact ⟨_, rfl, _, rfl, g, c, cov, rfl, hg, hz, _, _, rfl, rfl, i, 0, (cov.length : Int) - 1, rfl, h0, by omega, q⟩

theorem scIsLot : FnScope ["ground", "value", "one"] ["ground", "value"] (defScope sIsLot) := ⟨rfl, rfl, rfl, by decide +kernel, rfl, by decide +kernel, by decide +kernel⟩
theorem ok_isLot {C f : Addr} {fd : FuncData} (F : Fun K "is_lot" "is_lot" sIsLot f fd) (T : Txt K mg C) (DB : Def P w K mg base 3 "is_block" ["ground", "value"] (spBlock C)) (DR : Def P w K mg base 1 "rises" ["value"] spRises) : FnOk P w K mg base CX0 4 f fd ["ground", "value"] (spIsLot C) := by
  refine F.ok scIsLot (fun vs H Q E h => ?_) (fun cdv A outer s H vs Q E hr h => ?_)
  · obtain ⟨g, c, cov, v, l, rfl, _⟩ := h
    rfl
  · obtain ⟨g, c, cov, v, l, rfl, hg, hz, ⟨a, rfl, ha⟩, gl, hl, q⟩ := h
    refine ⟨_, pss_one (ps_ret (pe_and (pe_callB call_isi (by rfl) T.isi boot_isinstance (pa_cons (pv 1) (pa_cons (pe_bltn (v := .ty "tuple") (by rfl) T.tuple (by decide +kernel) rfl) pa_nil)))
      (pe_and (pe_callB (cr_all rfl) (by rfl) T.all boot_all (pa_cons (pe_lc (own := [("one", 2)]) (g := gName 2) (tt := tYes) rfl scIsLot.nd (pi_tup (pv 1)) (blkOk_by (N := ["ground", "value", "one"]) (sc := defScope sIsLot) (by decide +kernel)) (fun _ _ _ _ _ => pg_name (i := 2) scIsLot.nd rfl (Or.inl rfl)) (fun _ _ _ _ _ => pts_nil)
        (fun _ _ _ _ _ => pe_def DB hr (by rfl) (pa_cons (pv 0) (pa_cons (pv 2) pa_nil)))) pa_nil))
      (pe_one (pe_def DR (hr.mono (by decide)) (by rfl) (pa_cons (pv 1) pa_nil)))))), ?_⟩
    refine ⟨_, rfl, .ref a, .ty "tuple", .type "tuple", .type "tuple", true, rfl, .ty _, .base (.tup ha), kit_ty (by decide +kernel), true, rfl, ifb rfl ?_⟩
    refine ⟨_, rfl, a, rfl, ⟨_, SqT.of ha⟩, fun D hD => ?_⟩
    refine lc_made (walk_tup (xs := l.map V.int)) l (List.length_map ..).symm (fun _ => [()]) (fun v _ _ => v = .bl true) (fun _ _ _ _ _ h => h) hD (by rw [List.length_map]; exact small1000 hl) (fun H1 s1 => SqT.of (s1 _ _ ha)) ?_ ?_
    · intro i n x H1 H2 P1 P0 hi s1 _ y k1 _
      obtain ⟨rfl, hx⟩ := y
      obtain ⟨n', hn, rfl⟩ := int_at hx
      rw [hi] at hn
      cases hn
      have hm := List.mem_of_getElem? hi
      refine ⟨rfl, kept ?_⟩
      exact ⟨_, rfl, _, rfl, g, c, cov, n, rfl, hg.same s1, hz, gl.lo n hm, gl.hi n hm, k1 _ () _ rfl rfl (Same.refl _)⟩
    · intro H1 ys s1 e r _
      obtain ⟨e1, e2⟩ := all_true r
      rw [e1] at e
      refine ⟨D, _, rfl, SqL.of e, _, rfl, ?_⟩
      rw [e2]
      refine ifb rfl ⟨_, rfl, .ref a, l, rfl, ⟨a, rfl, s1 _ _ ha⟩, gl.rise, hl, fun H2 s2 => q _ (s1.trans s2)⟩

theorem scNeedL : FnScope ["ground", "lot"] ["ground", "lot"] (defScope sNeedL) := ⟨rfl, rfl, rfl, by decide +kernel, rfl, by decide +kernel, by decide +kernel⟩
theorem ok_needL {C f : Addr} {fd : FuncData} (F : Fun K "need_lot" "need_lot" sNeedL f fd) (DG : Def P w K mg base 1 "need_ground" ["ground"] (spNeedG C)) (DL : Def P w K mg base 4 "is_lot" ["ground", "value"] (spIsLot C)) : FnOk P w K mg base CX0 5 f fd ["ground", "lot"] (spNeedL C) := by
  refine F.ok scNeedL (fun vs H Q E h => ?_) (fun cdv A outer s H vs Q E hr h => ?_)
  · obtain ⟨g, c, cov, v, l, rfl, _⟩ := h
    rfl
  · obtain ⟨g, c, cov, v, l, rfl, hg, hz, hv, gl, hl, q⟩ := h
    refine ⟨_, pss_cons (ps_expr (pe_def DG (hr.mono (by decide)) (by rfl) (pa_cons (pv 0) pa_nil)))
      (pss_one (ps_if (pt_not (pt_val (pe_def DL hr (by rfl) (pa_cons (pv 0) (pa_cons (pv 1) pa_nil))))) pss_never pss_nil)), ?_⟩
    refine ⟨_, rfl, g, c, cov, rfl, hg, ?_⟩
    exact ⟨_, rfl, _, rfl, g, c, cov, v, l, rfl, hg, hz, hv, gl, hl, fun H1 s1 => ⟨true, rfl, ifbn rfl (q _ s1)⟩⟩
end
end K8

/-! sized, as a key that keeps the heap; pits_of. -/
namespace K8
open PySem PySem.Spec PyProof.Rows L2

section
variable {P : Program} {w : World} {K : PySem.W.Frag} {mg : Str → Option Value} {base : Heap}
theorem reads_ints {h : Heap} : ∀ {its : List Value} {ns : List Int}, IntsAre its ns → ReadsAll h its (ns.map .int) []
  | _, _, .nil => .nil
  | _, _, .cons n t r => .cons (.int n t) (reads_ints r)
theorem scSized : FnScope ["lot"] ["lot"] (defScope sSized) := ⟨rfl, rfl, rfl, by decide +kernel, rfl, by decide +kernel, by decide +kernel⟩
/-- sized(lot): the key is read off a new tuple, and all that stood stands -/
theorem sized_pure {X : Cx} {C f : Addr} {fd : FuncData} {pins : List (Addr × Obj)} {σ : L2.St} {H : Hp} {s : Shared} {v : V} {u : Value} {l : Lot} {A : Around} (F : Fun X.K "sized" "sized" sSized f fd) (T : Txt X.K X.mg C) (b : Binds X.K fd ["lot"] [])
    (I : Inv X pins σ H s) (hr : A.depth < recursionLimit) (r : RelV v u) (hl : IsLot v l H) : wpAny (model X.prog X.w) A (call (.ref f) [u]) (PySem.W.KeyPure (enc l) s) (fun _ _ => False) s := by
  obtain ⟨a, rfl, ha⟩ := hl
  obtain rfl : u = .ref a := r
  obtain ⟨oc, od, kV, doc, pm, an, cdv, ct, osl, rfl, lk, hcd⟩ := F.ex
  obtain ⟨its, rv, p, hz⟩ := I.tuple (SqT.of ha)
  have hints := rv.ints
  have hb := b s [.ref a] I.kIn rfl
  refine wpAny_call (codeAny_call_function hr (I.kIn _ _ lk) rfl rfl rfl rfl (PySem.W.codeRec_of I.kIn hcd) (hb _ _ _ _ ?_))
  refine wpAny_newFunctionEnv_cells rfl (fun y hy => .inl ?_) fun env he s1 x => ?_
  · have e : y = (("lot" : Str), Value.ref a) := List.mem_singleton.mp hy
    rw [e]
    rfl
  subst he
  have K1 := x.toInCall.keep
  refine ⟨I.nolimit.keeps K1, codeAny_func ?_⟩
  have p1 : IsTup s1.heap a its.toArray := by
    obtain ⟨o, q1, q2⟩ := p
    exact ⟨o, K1 _ _ q1, q2⟩
  obtain ⟨mb, hb1, hb2⟩ := I.mod.blt
  have glob : s1.heap.Ns mainGlobals X.mg := (I.mod.glob.keeps I.bk).keeps K1
  have blt : s1.heap.Ns builtinsNs mb := (hb1.keeps I.bk).keeps K1
  obtain ⟨h1, tk, rfl, hk⟩ := x.done
  have ns := x.toInCall.ns
  have lot : ∀ (tk' : Nat) (pos : Pos) (A' : Around) (E' : Value → Shared → Prop) (Q' : Value → Shared → Prop), Q' (.ref a) { s with heap := h1, toks := tk' } →
      wpAny (model X.prog X.w) A' (eval (.Name "lot" pos) (newEnv (defScope sSized) s.heap.objs.size mainGlobals (cellsFrom (s.heap.objs.size + 1) (defScope sSized).names []) ("sized" ++ ".<locals>.") (some f) cdv none builtinsNs)) Q' E' { s with heap := h1, toks := tk' } := by
    intro tk' pos A' E' Q' q
    exact wpAny_Name (wpAny_loadName_local rfl rfl ns (bindL_get (P := ["lot"]) (vs := [.ref a]) (i := 0) (by decide) rfl rfl rfl) q) (by decide)
  refine wpAny_execs_cons (wpAny_Return_some (wpAny_Tuple_spliced (Calls.spliced_cons (wpAny_Call_Name_kw ?_))))
  refine Calls.Name_function_global rfl rfl (Calls.loadGlobal_builtin glob T.len blt ((hb2 _ (by decide)).trans PySem.boot_len) ?_) (by decide)
  refine PyProof.Rows.callWith_builtin1 (Calls.spliced_cons (lot _ _ _ _ _ (Calls.spliced_nil ?_)))
  refine PyProof.Rows.len_tuple p1 (by rw [List.size_toArray]; have := sizeLine_eq; have := rv.length; omega) ?_
  refine Calls.spliced_cons (lot _ _ _ _ _ (Calls.spliced_nil ⟨by show 2 ≤ sizeLine; decide, ?_⟩))
  have hz2 : its.toArray.size = l.length := by rw [List.size_toArray, ← rv.length, List.length_map]
  refine ⟨_, _, rfl, fun b o e => Heap.get?_push_of_some _ (hk b o e), ?_⟩
  rw [hz2]
  refine Reads.tuple (as := []) (Heap.get?_push_size _ rfl) rfl rfl (ReadsAll.cons (as := []) (bs := []) (Reads.int _ _) (ReadsAll.cons (as := []) (bs := []) ?_ .nil))
  obtain ⟨o, q1, c1, n1, d1⟩ := p1
  exact Reads.tuple (Heap.get?_push_of_some _ q1) c1 d1 (by simpa using reads_ints hints)
end
end K8

/-! pits_of. -/
namespace K8
open PySem PySem.Spec PyProof.Rows L2 StX

def spPits (C : Addr) : Sp := fun vs H Q _ => ∃ (g c : Addr) (cov : List Lot), vs = [.ref g] ∧ GroundAt C g c cov H ∧ Good cov ∧ ∀ H' p, Same H H' → H p = none → LotsAt p (progPits cov) H' → Q (.ref p) H'
section
variable {P : Program} {w : World} {K : PySem.W.Frag} {mg : Str → Option Value} {base : Heap}
theorem each_get {vs : List V} {ls : List Lot} {H : Hp} {i : Nat} {x : V} {l : Lot} (h : EachLot vs ls H) (hx : vs[i]? = some x) (hl : ls[i]? = some l) : IsLot x l H := by
  obtain ⟨b, h1, h2⟩ := EachIs.get (R := fun v l => IsLot v l H) h hx
  rw [hl] at h1
  cases h1
  exact h2
/-- the block of the outer comprehension -/
abbrev scLot : Scope := { kind := .function, names := [(Str.ofString ".0", .local), (Str.ofString "lot", .cell), (Str.ofString "all", .globalImplicit), (Str.ofString "block", .free), (Str.ofString "firsts", .free)], isGenerator := false, isCoroutine := false }
theorem scPits : FnScope ["ground", "found", "block", "firsts", "lot", "one"] ["ground"] (defScope sPits) := ⟨rfl, rfl, rfl, by decide +kernel, rfl, by decide +kernel, by decide +kernel⟩
theorem ok_pits {C f fS : Addr} {fd fdS : FuncData} (F : Fun K "pits_of" "pits_of" sPits f fd) (T : Txt K mg C) (L : LenOf P w K mg base C) (FS : Fun K "sized" "sized" sSized fS fdS) (gS : mg "sized" = some (.ref fS)) (bS : Binds K fdS ["lot"] []) :
    FnOk P w K mg base CX0 3 f fd ["ground"] (spPits C) := by
  refine F.ok scPits (fun vs H Q E h => ?_) (fun cdv A outer s H vs Q E hr h => ?_)
  · obtain ⟨g, c, cov, rfl, _⟩ := h
    rfl
  · obtain ⟨g, c, cov, rfl, hg, good, q⟩ := h
    obtain ⟨dx, eg⟩ := hg.ob
    obtain ⟨ws, ec, each, hlen⟩ := hg.cv.len
    have h8 := good.le
    refine ⟨_, pss_cons (ps_set (i := 1) scPits.nd rfl (Or.inl rfl) (pe_lst (pa_cons (pe_tup pa_nil) pa_nil)))
      (pss_cons (ps_for PassesOwn.never rfl (pi_range1 (by rfl) T.range (pa_cons (pe_callB (call_lenG L hr) (by rfl) T.len PySem.boot_len (pa_cons (pv 0) pa_nil)) pa_nil)) (pg_name (i := 2) scPits.nd rfl (Or.inr rfl))
        (pss_cons (ps_set (i := 3) scPits.nd rfl (Or.inr rfl) (pe_ix ix_tup (pe_fld (pv 0) rfl) (pv 2) (fun _ _ => rfl)))
        (pss_one (ps_set (i := 1) scPits.nd rfl (Or.inl rfl) (pe_op op_cat (pv 1)
          (pe_lc (own := [("lot", 4)]) (g := gName 4) (tt := tB (tCB (rAll K) (tCons (tLc (iTup K (tVar 3)) (gName 5) tYes (tOp (rIn K false) (tVar 5) (tVar 4)) [5]) tNil))) (te := tTup (tStar K (tVar 4) (tCons (tVar 2) tNil))) rfl scPits.nd (pi_list (pv 1))
            (blkOk_by (N := ["ground", "found", "block", "firsts", "lot", "one"]) (sc := defScope sPits) (by decide +kernel)) (fun _ _ _ _ _ => pg_name (i := 4) scPits.nd rfl (Or.inr rfl))
            (fun _ _ _ _ _ => pts_one (pt_val (pe_callB (cr_all rfl) (by rfl) T.all boot_all (pa_cons
              (pe_lc (own := [("one", 5)]) (g := gName 5) (tt := tYes) rfl scPits.nd (pi_tup (pv 3)) (blkOk_by (N := ["ground", "found", "block", "firsts", "lot", "one"]) (sc := relS scLot (defScope sPits)) (by decide +kernel)) (fun _ _ _ _ _ => pg_name (i := 5) scPits.nd rfl (Or.inl rfl)) (fun _ _ _ _ _ => pts_nil)
                (fun _ _ _ _ _ => pe_cmpR (r := rIn K false) op_in_seq (pv 5) (pv 4) (by rfl))) pa_nil))))
            (fun _ _ _ _ _ => pe_tup (pa_star (pv 4) (pa_cons (pv 2) pa_nil)))))))))
      (pss_one (ps_ret (pe_callBK (cr_sortedKD (β := Lot) (k := enc) (R := IsLot) fun pins σ H s v u l I r hl => sized_pure FS T bS I hr.depth r hl) (by rfl) T.sorted boot_sorted (pa_cons (pv 1) pa_nil) (pk_cons (pe_glob (v := .ref fS) rfl gS rfl) pk_nil))))), ?_⟩
    refine ⟨Nat.zero_le _, fun t0 ht0 => ⟨(by show 1 ≤ sizeLine; decide), fun l0 hl0 => ?_⟩⟩
    have s0 : Same H (upd (upd H t0 (.tup [])) l0 (.lst [.ref t0])) := (same_new ht0).trans (same_new hl0)
    have nt : t0 ≠ l0 := ne_of_none upd_same hl0
    refine ⟨_, rfl, g, c, cov, rfl, hg.same s0, by omega, _, rfl, by omega, by omega, ?_⟩
    rw [show ((cov.length : Int)).toNat = cov.length from Int.toNat_natCast _]
    refine for_it walk_range (fun i σ H1 => ∃ (fa : Addr) (v2 v3 : Option V), σ = [some (.ref g), some (.ref fa), v2, v3, none, none] ∧ Same H H1 ∧ LotsAt fa (pitsN cov i) H1)
      ⟨l0, none, none, rfl, s0, [.ref t0], upd_same, .cons ⟨t0, rfl, by rw [upd_ne nt, upd_same]; rfl⟩ .nil⟩ (fun _ _ _ _ _ => trivial) ?_ ?_
    · rintro i x σ H1 H2 hi ⟨fa, v2, v3, rfl, s1, vs, ef, efs⟩ ⟨rfl, rfl⟩
      obtain ⟨cs, hcs⟩ : ∃ cs, cov[i]? = some cs := ⟨cov[i], List.getElem?_eq_getElem hi⟩
      obtain ⟨v, hv, af, rfl, haf⟩ := EachLot.at each hcs
      have gcs := good.ok i cs hcs
      have ecs : cov.getD i [] = cs := by rw [List.getD_eq_getElem?_getD, hcs]; rfl
      have e0 : ((0 : Int) + (i : Nat)) = (i : Nat) := Int.zero_add _
      refine ⟨_, rfl, g, C, dx, _, _, rfl, s1 _ _ eg, T.cl, T.nT, tb_at c, _, rfl, c, ws, _, _, rfl, rfl, SqT.of (s1 _ _ ec), at_of (j := i) e0 hv, ?_⟩
      refine ⟨_, rfl, _, rfl, fa, rfl, ⟨_, SqL.of ef⟩, fun D hD => ?_⟩
      have lp := pits_len cov i
      have l2 : 2 ^ i ≤ 256 := pow_le8 (by omega)
      have lv : vs.length = (pitsN cov i).length := efs.length
      have line : (sizeLine : Nat) = 16777216 := sizeLine_eq
      refine lc_made (walk_list (xs := vs)) (pitsN cov i) lv.symm (fun l => if full cs l = true then [l ++ [(i : Int)]] else []) IsLot (fun _ _ _ _ k h => h.tk k) hD (by omega) (fun H2 s2 => SqL.of (s2 _ _ ef)) ?_ ?_
      · intro j l x H2 H3 P1 P0 hj s2 _ y k1 k0
        obtain ⟨rfl, hx⟩ := y
        obtain ⟨al, rfl, hal⟩ := (each_get efs hx hj).tk (tk_same s2)
        have gl := lots_good i l (pits_sub cov i l (List.mem_of_getElem? hj))
        have ll := lot_len gl
        have lc := lot_len gcs
        refine ⟨rfl, _, rfl, af, rfl, ⟨_, SqT.of (s2 _ _ (s1 _ _ haf))⟩, fun D2 hD2 => ?_⟩
        refine lc_made (walk_tup (xs := cs.map V.int)) cs (List.length_map ..).symm (fun c => [l.any fun y => decide (y = c)]) (fun v b _ => v = .bl b) (fun _ _ _ _ _ h => h) hD2 (by rw [List.length_map]; omega) (fun H4 s4 => SqT.of (s4 _ _ (s2 _ _ (s1 _ _ haf)))) ?_ ?_
        · intro m n x H4 H5 P1 P0 hm s4 _ y k1 _
          obtain ⟨rfl, hx⟩ := y
          obtain ⟨n', hn, rfl⟩ := int_at hx
          rw [hm] at hn
          cases hn
          refine ⟨rfl, kept ⟨_, rfl, _, rfl, al, _, rfl, .inr (SqT.of (s4 _ _ hal)), rfl, flat_ints l, ?_⟩⟩
          exact k1 _ _ _ rfl (congrArg V.bl (in_lot l n)) (Same.refl _)
        · intro H4 ys s4 e4 r4 _
          rw [flat_map1] at r4
          have ey := each_val (f := V.bl) r4
          rw [ey] at e4
          refine ⟨D2, _, rfl, SqL.of e4, _, rfl, ?_⟩
          have ea : (cs.map fun c => l.any fun y => decide (y = c)).all id = full cs l := by
            rw [List.all_map]
            rfl
          rw [ea]
          cases hf : full cs l with
          | true =>
            refine ifb rfl ⟨_, rfl, al, _, rfl, .inl (SqT.of (s4 _ _ hal)), _, rfl, ?_, fun p hp => ?_⟩
            · rw [List.length_append, List.length_map]
              show l.length + 1 ≤ sizeLine
              omega
            · refine k1 _ (l ++ [(i : Int)]) _ (if_pos hf) ⟨p, rfl, ?_⟩ (s4.trans (same_new hp))
              rw [upd_same, List.map_append]
              show some (HO.tup (l.map V.int ++ [V.int ((0 : Int) + (i : Nat))])) = _
              rw [e0]
              rfl
          | false => exact ifbn rfl (k0 _ (if_neg (by rw [hf]; exact Bool.false_ne_true)) s4)
      · intro H2 ys s2 e2 r2 hy
        rw [flat_filter] at r2
        refine ⟨fa, D, vs, ys, rfl, rfl, s2 _ _ ef, e2, by omega, fun p hp => ?_⟩
        have s3 : Same H2 (upd H2 p (.lst (vs ++ ys))) := same_new hp
        refine ⟨p, _, _, rfl, (s1.trans s2).trans s3, _, upd_same, ?_⟩
        unfold pitsN
        rw [ecs]
        exact EachIs.append (efs.tk (tk_same (s2.trans s3))) (EachLot.tk r2 (tk_same s3))
    · rintro σ H1 ⟨fa, v2, v3, rfl, s1, vs, ef, efs⟩
      have hun := hr.units
      refine ⟨_, rfl, fa, vs, _, rfl, rfl, SqL.of ef, efs, PySem.W.AllAlike.of enc_alike, PySem.W.Sortable.tuples enc_tup, fun l _ => ?_, fun ys p hp r => ?_⟩
      · have := enc_depth l
        show (A.deeper (envOfC "pits_of" (defScope sPits) s.heap.objs.size f cdv)).units + 2 + (enc l).depth < cLine
        omega
      · have s3 : Same H1 (upd H1 p (.lst ys)) := same_new hp
        exact q _ p (s1.trans s3) (s1.free hp) ⟨ys, upd_same, EachLot.tk r (tk_same s3)⟩
end
end K8

/-! The defs of worths. -/
namespace K8
open PySem PySem.Spec PyProof.Rows L2 StX

structure GoodW (cov : List Lot) (w : List Int) : Prop where
  len : w.length = cov.length
  ok : ∀ x ∈ w, -50 ≤ x ∧ x ≤ 50
def headL (ls : List Lot) : Lot := ls.getD 0 []
def lastL (ls : List Lot) : Lot := ls.getD (ls.length - 1) []
theorem at_getD {ls : List Lot} {i : Nat} (h : i < ls.length) : ls[i]? = some (ls.getD i []) := by
  rw [List.getD_eq_getElem?_getD, List.getElem?_eq_getElem h]
  rfl
theorem ne_len {ls : List Lot} (h : ls ≠ []) : 0 < ls.length := List.length_pos_iff.mpr h
theorem head_at {ls : List Lot} (h : ls ≠ []) : ls[0]? = some (headL ls) := at_getD (ne_len h)
theorem last_at {ls : List Lot} (h : ls ≠ []) : ls[ls.length - 1]? = some (lastL ls) := at_getD (by have := ne_len h; omega)
theorem at_minus {vs : List V} {v : V} (hv : vs[vs.length - 1]? = some v) : atI vs (-1) = some v := by
  have h0 : 0 < vs.length := by
    have := (List.getElem?_eq_some_iff.mp hv).1
    omega
  unfold atI ixN
  rw [if_neg (by decide), if_pos (by omega)]
  have e : ((-1 : Int) + (vs.length : Int)).toNat = vs.length - 1 := by omega
  rw [e]
  exact hv
theorem dec_ints (a b : Int) : decide (V.int a = V.int b) = decide (a = b) := by
  by_cases h : a = b
  · rw [h, decide_eq_true rfl, decide_eq_true rfl]
  · rw [decide_eq_false h, decide_eq_false fun e => h (V.int.inj e)]

def spNeedW (C : Addr) : Sp := fun vs H Q _ => ∃ (g c : Addr) (cov : List Lot) (v : V) (wl : List Int), vs = [.ref g, v] ∧ GroundAt C g c cov H ∧ Good cov ∧ IsLot v wl H ∧ GoodW cov wl ∧ ∀ H', Same H H' → Q .non H'
def spSum : Sp := fun vs H Q _ => ∃ (v u : V) (wl : List Int) (l : Lot), vs = [v, u] ∧ IsLot v wl H ∧ IsLot u l H ∧ GoodLot wl.length l ∧ wl.length ≤ 1000 ∧ ∀ H', Same H H' → Q (.int (sumL wl l)) H'
def spGreat : Sp := fun vs H Q _ => ∃ (v : V) (a : Addr) (wl : List Int) (ls : List Lot), vs = [v, .ref a] ∧ IsLot v wl H ∧ LotsAt a ls H ∧ (∀ l, l ∈ ls → GoodLot wl.length l) ∧ wl.length ≤ 1000 ∧ ls ≠ [] ∧ ls.length ≤ 1000 ∧ ∀ H', Same H H' → Q (.int (mostOf wl ls)) H'
/-- a ground with worths -/
structure Place (C g c : Addr) (cov : List Lot) (v : V) (wl : List Int) (H : Hp) : Prop where
  gr : GroundAt C g c cov H
  good : Good cov
  lot : IsLot v wl H
  goodw : GoodW cov wl
theorem Place.same {C g c : Addr} {cov : List Lot} {v : V} {wl : List Int} {H H' : Hp} (p : Place C g c cov v wl H) (s : Same H H') : Place C g c cov v wl H' := ⟨p.gr.same s, p.good, p.lot.tk (tk_same s), p.goodw⟩
def bestL (cov : List Lot) (wl : List Int) : List Lot := bestOf wl (progPits cov)
theorem bestL_ne (cov : List Lot) (wl : List Int) : bestL cov wl ≠ [] := best_ne (prog_ne cov)
theorem bestL_len {cov : List Lot} (g : Good cov) (wl : List Int) : (bestL cov wl).length ≤ 256 := Nat.le_trans (best_len ..) (prog_len g)
theorem bestL_good {cov : List Lot} {wl : List Int} {l : Lot} (h : l ∈ bestL cov wl) : GoodLot cov.length l := prog_good (best_sub h)
def spBest (C : Addr) : Sp := fun vs H Q _ => ∃ (g c : Addr) (cov : List Lot) (v : V) (wl : List Int), vs = [.ref g, v] ∧ Place C g c cov v wl H ∧ ∀ H' p, Same H H' → H p = none → LotsAt p (bestL cov wl) H' → Q (.ref p) H'
def spWorthOf (C : Addr) : Sp := fun vs H Q _ => ∃ (g c : Addr) (cov : List Lot) (v : V) (wl : List Int) (u : V) (l : Lot), vs = [.ref g, v, u] ∧ Place C g c cov v wl H ∧ IsLot u l H ∧ GoodLot cov.length l ∧ ∀ H', Same H H' → Q (.int (sumL wl l)) H'
def spBestW (C : Addr) : Sp := fun vs H Q _ => ∃ (g c : Addr) (cov : List Lot) (v : V) (wl : List Int), vs = [.ref g, v] ∧ Place C g c cov v wl H ∧ ∀ H', Same H H' → Q (.int (mostOf wl (progPits cov))) H'
def spOne (C : Addr) (pick : List Lot → Lot) : Sp := fun vs H Q _ => ∃ (g c : Addr) (cov : List Lot) (v : V) (wl : List Int), vs = [.ref g, v] ∧ Place C g c cov v wl H ∧ ∀ H' u, Same H H' → IsLot u (pick (bestL cov wl)) H' → Q u H'
section
variable {P : Program} {w : World} {K : PySem.W.Frag} {mg : Str → Option Value} {base : Heap}
theorem scNeedW : FnScope ["ground", "worths", "worth"] ["ground", "worths"] (defScope sNeedW) := ⟨rfl, rfl, rfl, by decide +kernel, rfl, by decide +kernel, by decide +kernel⟩
theorem ok_needW {C f : Addr} {fd : FuncData} (F : Fun K "need_worths" "need_worths" sNeedW f fd) (T : Txt K mg C) (L : LenOf P w K mg base C) (DG : Def P w K mg base 1 "need_ground" ["ground"] (spNeedG C)) (DF : Def P w K mg base 1 "is_from" ["value", "low", "high"] spFrom) :
    FnOk P w K mg base CX0 3 f fd ["ground", "worths"] (spNeedW C) := by
  refine F.ok scNeedW (fun vs H Q E h => ?_) (fun cdv A outer s H vs Q E hr h => ?_)
  · obtain ⟨g, c, cov, v, wl, rfl, _⟩ := h
    rfl
  · obtain ⟨g, c, cov, v, wl, rfl, hg, good, ⟨a, rfl, ha⟩, gw, q⟩ := h
    obtain ⟨tW, mW⟩ := T.mW
    have h8 := good.le
    have hl := gw.len
    refine ⟨_, pss_cons (ps_expr (pe_def DG (hr.mono (by decide)) (by rfl) (pa_cons (pv 0) pa_nil)))
      (pss_cons (ps_if (PW.pt (pw_or (pt_not (pt_val (pe_callB call_isi (by rfl) T.isi boot_isinstance (pa_cons (pv 1) (pa_cons (pe_bltn (v := .ty "tuple") (by rfl) T.tuple (by decide +kernel) rfl) pa_nil)))))
        (pw_or1 (pt_cmpR op_ne (pe_callB call_len_seq (by rfl) T.len PySem.boot_len (pa_cons (pv 1) pa_nil)) (pe_callB (call_lenG L hr) (by rfl) T.len PySem.boot_len (pa_cons (pv 0) pa_nil)) (nomark _))))) pss_never pss_nil)
      (pss_one (ps_if (pt_not (pt_val (pe_callB (cr_all rfl) (by rfl) T.all boot_all (pa_cons (pe_lc (own := [("worth", 2)]) (g := gName 2) (tt := tYes) rfl scNeedW.nd (pi_tup (pv 1)) (blkOk_by (N := ["ground", "worths", "worth"]) (sc := defScope sNeedW) (by decide +kernel)) (fun _ _ _ _ _ => pg_name (i := 2) scNeedW.nd rfl (Or.inl rfl)) (fun _ _ _ _ _ => pts_nil)
        (fun _ _ _ _ _ => pe_def DF (hr.mono (by decide)) (by rfl) (pa_cons (pv 2) (pa_cons (pe_un un_neg (pe_glob (v := .int 50) (by rfl) mW ⟨_, rfl⟩)) (pa_cons (pe_glob (v := .int 50) (by rfl) mW ⟨_, rfl⟩) pa_nil))))) pa_nil)))) pss_never pss_nil))), ?_⟩
    refine ⟨_, rfl, g, c, cov, rfl, hg, ?_⟩
    refine ⟨_, rfl, .ref a, .ty "tuple", .type "tuple", .type "tuple", true, rfl, .ty _, .base (.tup ha), kit_ty (by decide +kernel), true, rfl, ifbn rfl ?_⟩
    refine ⟨_, rfl, a, _, rfl, .inr (SqT.of ha), _, rfl, g, c, cov, rfl, hg, by omega, rfl, false, congrArg V.bl ?_, ifbn rfl ?_⟩
    · rw [List.length_map, hl, decide_eq_true rfl]
      rfl
    refine ⟨_, rfl, a, rfl, ⟨_, SqT.of ha⟩, fun D hD => ?_⟩
    refine lc_made (walk_tup (xs := wl.map V.int)) wl (List.length_map ..).symm (fun _ => [()]) (fun v _ _ => v = .bl true) (fun _ _ _ _ _ h => h) hD (by rw [List.length_map]; exact small1000 (by omega)) (fun H1 s1 => SqT.of (s1 _ _ ha)) ?_ ?_
    · intro i n x H1 H2 P1 P0 hi s1 _ y k1 _
      obtain ⟨rfl, hx⟩ := y
      obtain ⟨n', hn, rfl⟩ := int_at hx
      rw [hi] at hn
      cases hn
      obtain ⟨b1, b2⟩ := gw.ok n (List.mem_of_getElem? hi)
      exact ⟨rfl, kept ⟨_, rfl, _, rfl, n, -50, 50, rfl, b1, b2, k1 _ () _ rfl rfl (Same.refl _)⟩⟩
    · intro H1 ys s1 e r _
      obtain ⟨e1, e2⟩ := all_true r
      rw [e1] at e
      refine ⟨D, _, rfl, SqL.of e, _, rfl, ?_⟩
      rw [e2]
      exact ifbn rfl (q _ s1)

theorem scSum : FnScope ["worths", "lot", "block"] ["worths", "lot"] (defScope sSum) := ⟨rfl, rfl, rfl, by decide +kernel, rfl, by decide +kernel, by decide +kernel⟩
theorem ok_sum {C f : Addr} {fd : FuncData} (F : Fun K "sum_of" "sum_of" sSum f fd) (T : Txt K mg C) : FnOk P w K mg base CX0 1 f fd ["worths", "lot"] spSum := by
  refine F.ok scSum (fun vs H Q E h => ?_) (fun cdv A outer s H vs Q E hr h => ?_)
  · obtain ⟨v, u, wl, l, rfl, _⟩ := h
    rfl
  · obtain ⟨v, u, wl, l, rfl, ⟨a, rfl, ha⟩, ⟨b, rfl, hb⟩, gl, hz, q⟩ := h
    have ll := lot_len gl
    refine ⟨_, pss_one (ps_ret (pe_callB (cr_sum rfl) (by rfl) T.sum boot_sum (pa_cons (pe_lc (own := [("block", 2)]) (g := gName 2) (tt := tYes) rfl scSum.nd (pi_tup (pv 1)) (blkOk_by (N := ["worths", "lot", "block"]) (sc := defScope sSum) (by decide +kernel))
      (fun _ _ _ _ _ => pg_name (i := 2) scSum.nd rfl (Or.inl rfl)) (fun _ _ _ _ _ => pts_nil) (fun _ _ _ _ _ => pe_ix (r := rIxT K) ix_tup (pv 0) (pv 2) (fun _ _ => rfl))) pa_nil))), ?_⟩
    refine ⟨_, rfl, b, rfl, ⟨_, SqT.of hb⟩, fun D hD => ?_⟩
    refine lc_made (walk_tup (xs := l.map V.int)) l (List.length_map ..).symm (fun n => [wAt wl n]) (fun v z _ => v = .int z) (fun _ _ _ _ _ h => h) hD (by rw [List.length_map]; exact small1000 (by omega)) (fun H1 s1 => SqT.of (s1 _ _ hb)) ?_ ?_
    · intro i n x H1 H2 P1 P0 hi s1 _ y k1 _
      obtain ⟨rfl, hx⟩ := y
      obtain ⟨n', hn, rfl⟩ := int_at hx
      rw [hi] at hn
      cases hn
      have hm := List.mem_of_getElem? hi
      obtain ⟨j, ej, hj⟩ := get_of (l := wl) (gl.lo n hm) (gl.hi n hm)
      exact ⟨rfl, kept ⟨_, rfl, _, rfl, a, _, n, _, rfl, rfl, SqT.of (s1 _ _ ha), at_of ej (at_int hj), k1 _ _ _ rfl rfl (Same.refl _)⟩⟩
    · intro H1 ys s1 e r _
      rw [flat_map1] at r
      rw [each_val (f := V.int) r] at e
      exact ⟨D, _, rfl, SqL.of e, q _ s1⟩

theorem scGreat : FnScope ["worths", "some", "pit"] ["worths", "some"] (defScope sGreat) := ⟨rfl, rfl, rfl, by decide +kernel, rfl, by decide +kernel, by decide +kernel⟩
theorem ok_great {C f : Addr} {fd : FuncData} (F : Fun K "greatest_of" "greatest_of" sGreat f fd) (T : Txt K mg C) (DS : Def P w K mg base 1 "sum_of" ["worths", "lot"] spSum) : FnOk P w K mg base CX0 2 f fd ["worths", "some"] spGreat := by
  refine F.ok scGreat (fun vs H Q E h => ?_) (fun cdv A outer s H vs Q E hr h => ?_)
  · obtain ⟨v, a, wl, ls, rfl, _⟩ := h
    rfl
  · obtain ⟨v, a, wl, ls, rfl, hv, ⟨us, ea, each⟩, gls, hz, hne, hlen, q⟩ := h
    have hus : us.length = ls.length := each.length
    refine ⟨_, pss_one (ps_ret (pe_callB (cr_max rfl) (by rfl) T.max boot_max (pa_cons (pe_lc (own := [("pit", 2)]) (g := gName 2) (tt := tYes) rfl scGreat.nd (pi_list (pv 1)) (blkOk_by (N := ["worths", "some", "pit"]) (sc := defScope sGreat) (by decide +kernel))
      (fun _ _ _ _ _ => pg_name (i := 2) scGreat.nd rfl (Or.inl rfl)) (fun _ _ _ _ _ => pts_nil) (fun _ _ _ _ _ => pe_def DS hr (by rfl) (pa_cons (pv 0) (pa_cons (pv 2) pa_nil)))) pa_nil))), ?_⟩
    refine ⟨_, rfl, a, rfl, ⟨_, SqL.of ea⟩, fun D hD => ?_⟩
    refine lc_made (walk_list (xs := us)) ls hus.symm (fun l => [sumL wl l]) (fun v z _ => v = .int z) (fun _ _ _ _ _ h => h) hD (small1000 (by omega)) (fun H1 s1 => SqL.of (s1 _ _ ea)) ?_ ?_
    · intro i l x H1 H2 P1 P0 hi s1 _ y k1 _
      obtain ⟨rfl, hx⟩ := y
      have hl := (each_get each hx hi).tk (tk_same s1)
      exact ⟨rfl, kept ⟨_, rfl, _, rfl, v, x, wl, l, rfl, hv.tk (tk_same s1), hl, gls l (List.mem_of_getElem? hi), hz, fun H3 s3 => k1 _ _ _ rfl rfl s3⟩⟩
    · intro H1 ys s1 e r _
      rw [flat_map1] at r
      rw [each_val (f := V.int) r] at e
      refine ⟨D, _, rfl, SqL.of e, by rw [List.length_map]; exact ne_len hne, fun m hm hle => ?_⟩
      rw [max_one hm hle]
      exact q _ s1

theorem scBest : FnScope ["ground", "worths", "some", "most", "pit"] ["ground", "worths"] (defScope sBest) := ⟨rfl, rfl, rfl, by decide +kernel, rfl, by decide +kernel, by decide +kernel⟩
theorem ok_best {C f : Addr} {fd : FuncData} (F : Fun K "best_pits" "best_pits" sBest f fd) (DP : Def P w K mg base 3 "pits_of" ["ground"] (spPits C)) (DG : Def P w K mg base 2 "greatest_of" ["worths", "some"] spGreat) (DS : Def P w K mg base 1 "sum_of" ["worths", "lot"] spSum) :
    FnOk P w K mg base CX0 4 f fd ["ground", "worths"] (spBest C) := by
  refine F.ok scBest (fun vs H Q E h => ?_) (fun cdv A outer s H vs Q E hr h => ?_)
  · obtain ⟨g, c, cov, v, wl, rfl, _⟩ := h
    rfl
  · obtain ⟨g, c, cov, v, wl, rfl, hp, q⟩ := h
    have h8 := hp.good.le
    have hw := hp.goodw.len
    refine ⟨_, pss_cons (ps_set (i := 2) scBest.nd rfl (Or.inl rfl) (pe_def DP hr (by rfl) (pa_cons (pv 0) pa_nil)))
      (pss_cons (ps_set (i := 3) scBest.nd rfl (Or.inr rfl) (pe_def DG (hr.mono (by decide)) (by rfl) (pa_cons (pv 1) (pa_cons (pv 2) pa_nil))))
      (pss_one (ps_ret (pe_lc (own := [("pit", 4)]) (g := gName 4) (tt := tTest (tOp rEq (tCall spSum [] E0 (tCons (tVar 1) (tCons (tVar 4) tNil))) (tVar 3))) rfl scBest.nd (pi_list (pv 2)) (blkOk_by (N := ["ground", "worths", "some", "most", "pit"]) (sc := defScope sBest) (by decide +kernel))
        (fun _ _ _ _ _ => pg_name (i := 4) scBest.nd rfl (Or.inl rfl)) (fun _ _ _ _ _ => pts_one (pt_cmpR op_eq (pe_def DS (hr.mono (by decide)) (by rfl) (pa_cons (pv 1) (pa_cons (pv 4) pa_nil))) (pv 3) (nomark _))) (fun _ _ _ _ _ => pv 4))))), ?_⟩
    refine ⟨_, rfl, g, c, cov, rfl, hp.gr, hp.good, fun H1 p s1 np hL => ?_⟩
    have gls : ∀ l, l ∈ progPits cov → GoodLot wl.length l := fun l hl => by rw [hw]; exact prog_good hl
    have hlen := prog_len hp.good
    refine ⟨_, rfl, _, rfl, v, p, wl, _, rfl, hp.lot.tk (tk_same s1), hL, gls, by omega, prog_ne cov, by omega, fun H2 s2 => ?_⟩
    obtain ⟨us, ea, each⟩ := hL.same s2
    have hus : us.length = (progPits cov).length := each.length
    refine ⟨_, rfl, p, rfl, ⟨_, SqL.of ea⟩, fun D hD => ?_⟩
    refine lc_made (walk_list (xs := us)) (progPits cov) hus.symm (fun l => if decide (sumL wl l = mostOf wl (progPits cov)) = true then [l] else []) IsLot (fun _ _ _ _ k h => h.tk k) hD (small1000 (by omega)) (fun H3 s3 => SqL.of (s3 _ _ ea)) ?_ ?_
    · intro i l x H3 H4 P1 P0 hi s3 _ y k1 k0
      obtain ⟨rfl, hx⟩ := y
      have hl := (each_get each hx hi).tk (tk_same s3)
      refine ⟨rfl, _, rfl, _, rfl, v, x, wl, l, rfl, hp.lot.tk (tk_same ((s1.trans s2).trans s3)), hl, gls l (List.mem_of_getElem? hi), by omega, fun H4 s4 => ⟨_, rfl, rfl, _, rfl, ?_⟩⟩
      rw [dec_ints]
      cases hd : decide (sumL wl l = mostOf wl (progPits cov)) with
      | true =>
        rw [hd] at k1
        exact ifb rfl ⟨_, rfl, k1 x l _ (if_pos rfl) (hl.tk (tk_same s4)) s4⟩
      | false =>
        rw [hd] at k0
        exact ifbn rfl (k0 _ (if_neg Bool.false_ne_true) s4)
    · intro H3 ys s3 e3 r3 _
      rw [flat_filter (fun l => decide (sumL wl l = mostOf wl (progPits cov))) (fun l => l), List.map_id'] at r3
      exact q H3 D ((s1.trans s2).trans s3) ((s1.trans s2).free hD) ⟨ys, e3, r3⟩
end
end K8

/-! The five answers. -/
namespace K8
open PySem PySem.Spec PyProof.Rows L2 StX
section
variable {P : Program} {w : World} {K : PySem.W.Frag} {mg : Str → Option Value} {base : Heap}
theorem scWorthOf : FnScope ["ground", "worths", "lot"] ["ground", "worths", "lot"] (defScope sWorthOf) := ⟨rfl, rfl, rfl, by decide +kernel, rfl, by decide +kernel, by decide +kernel⟩
theorem ok_worthOf {C f : Addr} {fd : FuncData} (F : Fun K "worth_of" "worth_of" sWorthOf f fd) (DW : Def P w K mg base 3 "need_worths" ["ground", "worths"] (spNeedW C)) (DL : Def P w K mg base 5 "need_lot" ["ground", "lot"] (spNeedL C)) (DS : Def P w K mg base 1 "sum_of" ["worths", "lot"] spSum) :
    FnOk P w K mg base CX0 6 f fd ["ground", "worths", "lot"] (spWorthOf C) := by
  refine F.ok scWorthOf (fun vs H Q E h => ?_) (fun cdv A outer s H vs Q E hr h => ?_)
  · obtain ⟨g, c, cov, v, wl, u, l, rfl, _⟩ := h
    rfl
  · obtain ⟨g, c, cov, v, wl, u, l, rfl, hp, hu, gl, q⟩ := h
    have h8 := hp.good.le
    have hw := hp.goodw.len
    have ll := lot_len gl
    refine ⟨_, pss_cons (ps_expr (pe_def DW (hr.mono (by decide)) (by rfl) (pa_cons (pv 0) (pa_cons (pv 1) pa_nil)))) (pss_cons (ps_expr (pe_def DL hr (by rfl) (pa_cons (pv 0) (pa_cons (pv 2) pa_nil))))
      (pss_one (ps_ret (pe_def DS (hr.mono (by decide)) (by rfl) (pa_cons (pv 1) (pa_cons (pv 2) pa_nil)))))), ?_⟩
    refine ⟨_, rfl, _, rfl, g, c, cov, v, wl, rfl, hp.gr, hp.good, hp.lot, hp.goodw, fun H1 s1 => ?_⟩
    refine ⟨_, rfl, _, rfl, g, c, cov, u, l, rfl, hp.gr.same s1, by omega, hu.tk (tk_same s1), gl, by omega, fun H2 s2 => ?_⟩
    have s12 := s1.trans s2
    exact ⟨_, rfl, _, rfl, v, u, wl, l, rfl, hp.lot.tk (tk_same s12), hu.tk (tk_same s12), by rw [hw]; exact gl, by omega, fun H3 s3 => q _ (s12.trans s3)⟩
theorem scBestW : FnScope ["ground", "worths"] ["ground", "worths"] (defScope sBestW) := ⟨rfl, rfl, rfl, by decide +kernel, rfl, by decide +kernel, by decide +kernel⟩
theorem ok_bestW {C f : Addr} {fd : FuncData} (F : Fun K "best_worth" "best_worth" sBestW f fd) (DW : Def P w K mg base 3 "need_worths" ["ground", "worths"] (spNeedW C)) (DP : Def P w K mg base 3 "pits_of" ["ground"] (spPits C)) (DG : Def P w K mg base 2 "greatest_of" ["worths", "some"] spGreat) :
    FnOk P w K mg base CX0 4 f fd ["ground", "worths"] (spBestW C) := by
  refine F.ok scBestW (fun vs H Q E h => ?_) (fun cdv A outer s H vs Q E hr h => ?_)
  · obtain ⟨g, c, cov, v, wl, rfl, _⟩ := h
    rfl
  · obtain ⟨g, c, cov, v, wl, rfl, hp, q⟩ := h
    have h8 := hp.good.le
    have hw := hp.goodw.len
    have hlen := prog_len hp.good
    refine ⟨_, pss_cons (ps_expr (pe_def DW hr (by rfl) (pa_cons (pv 0) (pa_cons (pv 1) pa_nil)))) (pss_one (ps_ret (pe_def DG (hr.mono (by decide)) (by rfl) (pa_cons (pv 1) (pa_cons (pe_def DP hr (by rfl) (pa_cons (pv 0) pa_nil)) pa_nil))))), ?_⟩
    refine ⟨_, rfl, _, rfl, g, c, cov, v, wl, rfl, hp.gr, hp.good, hp.lot, hp.goodw, fun H1 s1 => ?_⟩
    refine ⟨_, rfl, _, rfl, g, c, cov, rfl, hp.gr.same s1, hp.good, fun H2 p s2 np hL => ?_⟩
    have s12 := s1.trans s2
    exact ⟨v, p, wl, _, rfl, hp.lot.tk (tk_same s12), hL, fun l hl => by rw [hw]; exact prog_good hl, by omega, prog_ne cov, by omega, fun H3 s3 => q _ (s12.trans s3)⟩
theorem scAllB : FnScope ["ground", "worths"] ["ground", "worths"] (defScope sAllB) := ⟨rfl, rfl, rfl, by decide +kernel, rfl, by decide +kernel, by decide +kernel⟩
theorem ok_allB {C f : Addr} {fd : FuncData} (F : Fun K "all_best" "all_best" sAllB f fd) (DW : Def P w K mg base 3 "need_worths" ["ground", "worths"] (spNeedW C)) (DB : Def P w K mg base 4 "best_pits" ["ground", "worths"] (spBest C)) :
    FnOk P w K mg base CX0 5 f fd ["ground", "worths"] (spBest C) := by
  refine F.ok scAllB (fun vs H Q E h => ?_) (fun cdv A outer s H vs Q E hr h => ?_)
  · obtain ⟨g, c, cov, v, wl, rfl, _⟩ := h
    rfl
  · obtain ⟨g, c, cov, v, wl, rfl, hp, q⟩ := h
    refine ⟨_, pss_cons (ps_expr (pe_def DW (hr.mono (by decide)) (by rfl) (pa_cons (pv 0) (pa_cons (pv 1) pa_nil)))) (pss_one (ps_ret (pe_def DB hr (by rfl) (pa_cons (pv 0) (pa_cons (pv 1) pa_nil))))), ?_⟩
    refine ⟨_, rfl, _, rfl, g, c, cov, v, wl, rfl, hp.gr, hp.good, hp.lot, hp.goodw, fun H1 s1 => ?_⟩
    exact ⟨_, rfl, _, rfl, g, c, cov, v, wl, rfl, hp.same s1, fun H2 p s2 np hL => q _ p (s1.trans s2) (s1.free np) hL⟩
theorem scLeast : FnScope ["ground", "worths"] ["ground", "worths"] (defScope sLeast) := ⟨rfl, rfl, rfl, by decide +kernel, rfl, by decide +kernel, by decide +kernel⟩
theorem ok_least {C f : Addr} {fd : FuncData} (F : Fun K "least_best" "least_best" sLeast f fd) (DW : Def P w K mg base 3 "need_worths" ["ground", "worths"] (spNeedW C)) (DB : Def P w K mg base 4 "best_pits" ["ground", "worths"] (spBest C)) :
    FnOk P w K mg base CX0 5 f fd ["ground", "worths"] (spOne C headL) := by
  refine F.ok scLeast (fun vs H Q E h => ?_) (fun cdv A outer s H vs Q E hr h => ?_)
  · obtain ⟨g, c, cov, v, wl, rfl, _⟩ := h
    rfl
  · obtain ⟨g, c, cov, v, wl, rfl, hp, q⟩ := h
    refine ⟨_, pss_cons (ps_expr (pe_def DW (hr.mono (by decide)) (by rfl) (pa_cons (pv 0) (pa_cons (pv 1) pa_nil)))) (pss_one (ps_ret (pe_ix ix_list (pe_def DB hr (by rfl) (pa_cons (pv 0) (pa_cons (pv 1) pa_nil))) pe_int (fun _ _ => rfl)))), ?_⟩
    refine ⟨_, rfl, _, rfl, g, c, cov, v, wl, rfl, hp.gr, hp.good, hp.lot, hp.goodw, fun H1 s1 => ?_⟩
    refine ⟨_, rfl, _, rfl, g, c, cov, v, wl, rfl, hp.same s1, fun H2 p s2 np hL => ?_⟩
    obtain ⟨us, ea, each⟩ := hL
    obtain ⟨u, hu, hlot⟩ := EachLot.at each (head_at (bestL_ne cov wl))
    exact ⟨p, us, 0, u, rfl, rfl, SqL.of ea, at_of (j := 0) rfl hu, q H2 u (s1.trans s2) hlot⟩
theorem scMost : FnScope ["ground", "worths"] ["ground", "worths"] (defScope sMost) := ⟨rfl, rfl, rfl, by decide +kernel, rfl, by decide +kernel, by decide +kernel⟩
theorem ok_most {C f : Addr} {fd : FuncData} (F : Fun K "greatest_best" "greatest_best" sMost f fd) (DW : Def P w K mg base 3 "need_worths" ["ground", "worths"] (spNeedW C)) (DB : Def P w K mg base 4 "best_pits" ["ground", "worths"] (spBest C)) :
    FnOk P w K mg base CX0 5 f fd ["ground", "worths"] (spOne C lastL) := by
  refine F.ok scMost (fun vs H Q E h => ?_) (fun cdv A outer s H vs Q E hr h => ?_)
  · obtain ⟨g, c, cov, v, wl, rfl, _⟩ := h
    rfl
  · obtain ⟨g, c, cov, v, wl, rfl, hp, q⟩ := h
    refine ⟨_, pss_cons (ps_expr (pe_def DW (hr.mono (by decide)) (by rfl) (pa_cons (pv 0) (pa_cons (pv 1) pa_nil)))) (pss_one (ps_ret (pe_ix ix_list (pe_def DB hr (by rfl) (pa_cons (pv 0) (pa_cons (pv 1) pa_nil))) (pe_un un_neg pe_int) (fun _ _ => rfl)))), ?_⟩
    refine ⟨_, rfl, _, rfl, g, c, cov, v, wl, rfl, hp.gr, hp.good, hp.lot, hp.goodw, fun H1 s1 => ?_⟩
    refine ⟨_, rfl, _, rfl, g, c, cov, v, wl, rfl, hp.same s1, fun H2 p s2 np hL => ?_⟩
    obtain ⟨us, ea, each⟩ := hL
    obtain ⟨u, hu, hlot⟩ := EachLot.at each (last_at (bestL_ne cov wl))
    have hn : us.length = (bestL cov wl).length := each.length
    exact ⟨1, rfl, p, us, -1, u, rfl, rfl, SqL.of ea, at_minus (by rw [hn]; exact hu), q H2 u (s1.trans s2) hlot⟩
end
end K8

/-! The law's draws. -/
namespace K8
open PySem PySem.Spec PyProof.Rows L2 StX

abbrev sTaken : Stmt := topS 31
abbrev sAlike : Stmt := topS 33
abbrev sCovers : Stmt := topS 34
abbrev sLots : Stmt := topS 35
abbrev sIsPit : Stmt := topS 36
abbrev sLPits : Stmt := topS 37
abbrev sMixed : Stmt := topS 38
abbrev sWorths : Stmt := topS 39
abbrev sLSum : Stmt := topS 40
abbrev sLBest : Stmt := topS 41
abbrev sLaw : Stmt := topS 42

/-- the script is read at a whatever becomes of the row at r -/
structure Scr (K : PySem.W.Frag) (r a : Addr) (ns : List Int) (H : Hp) : Prop where
  len : ns.length ≤ 63
  at_ : ∀ H', But r H H' → SqL K H' a (ns.map V.int)
theorem Scr.but {K : PySem.W.Frag} {r a : Addr} {ns : List Int} {H H' : Hp} (h : Scr K r a ns H) (b : But r H H') : Scr K r a ns H' := ⟨h.len, fun H2 b2 => h.at_ H2 (b.trans b2)⟩
/-- the row of draws at r: the script, a place, a mixed number, a rest -/
def Row (r a : Addr) (H : Hp) : Prop := ∃ pos mix rest : Int, H r = some (.lst [.ref a, .int pos, .int mix, .int rest]) ∧ 0 ≤ pos
theorem Row.same {r a : Addr} {H H' : Hp} (h : Row r a H) (s : Same H H') : Row r a H' := by
  obtain ⟨pos, mix, rest, e, h0⟩ := h
  exact ⟨pos, mix, rest, s _ _ e, h0⟩
theorem Row.tk {r a : Addr} {H H' : Hp} (h : Row r a H) (b : But r H H') : TK H H' := by
  obtain ⟨pos, mix, rest, e, h0⟩ := h
  exact b.tk e
theorem Row.ne {r a D : Addr} {H : Hp} (h : Row r a H) (hD : H D = none) : D ≠ r := fun z => by
  obtain ⟨pos, mix, rest, e, h0⟩ := h
  rw [z, e] at hD
  cases hD
theorem Row.put {r a p : Addr} {H : Hp} {o : HO} (h : Row r a H) (hp : p ≠ r) : Row r a (upd H p o) := by
  obtain ⟨pos, mix, rest, e, h0⟩ := h
  exact ⟨pos, mix, rest, by rw [upd_ne hp.symm]; exact e, h0⟩

def spTaken (K : PySem.W.Frag) : Sp := fun vs H Q _ => ∃ (r a : Addr) (ns : List Int) (m : Int), vs = [.ref r, .int m] ∧ Scr K r a ns H ∧ Row r a H ∧ 0 < m ∧ m < 1000 ∧ ∀ (H' : Hp) (x : Int), But r H H' → Row r a H' → 0 ≤ x → x < m → Q (.int x) H'
section
variable {P : Program} {w : World} {K : PySem.W.Frag} {mg : Str → Option Value} {base : Heap}
theorem scTaken : FnScope ["_law_row", "_law_many", "_law_found", "_law_cell"] ["_law_row", "_law_many"] (defScope sTaken) := ⟨rfl, rfl, rfl, by decide +kernel, rfl, by decide +kernel, by decide +kernel⟩
theorem ok_taken {C f : Addr} {fd : FuncData} (F : Fun K "_law_taken" "_law_taken" sTaken f fd) (T : Txt K mg C) : FnOk P w K mg base CX0 1 f fd ["_law_row", "_law_many"] (spTaken K) := by
  refine F.ok scTaken (fun vs H Q E h => ?_) (fun cdv A outer s H vs Q E hr h => ?_)
  · obtain ⟨r, a, ns, m, rfl, _⟩ := h
    rfl
  · obtain ⟨r, a, ns, m, rfl, ⟨hlen, hscr⟩, ⟨pos, mix, rest, er, hp0⟩, m0, m1, q⟩ := h
    refine ⟨_, pss_cons (ps_if (pt_cmpR op_gt (pe_ix ix_list (pv 0) pe_int (fun _ _ => rfl)) pe_int (nomark _))
        (pss_cons (ps_set (i := 2) scTaken.nd rfl (Or.inl rfl) (pe_op op_mod (pe_callTy call_int1 (by rfl) T.int (by decide +kernel) (pa_cons (pe_ix ix_list (pv 0) pe_int (fun _ _ => rfl)) pa_nil)) (pv 1)))
        (pss_cons (ps_asg (pe_op op_fdiv (pe_ix ix_list (pv 0) pe_int (fun _ _ => rfl)) (pv 1)) (pg_sub (pv 0) pe_int set_list))
        (pss_one (ps_ret (pv 2))))) pss_nil)
      (pss_cons (ps_asg (pe_op op_add (pe_ix ix_list (pv 0) pe_int (fun _ _ => rfl)) pe_int) (pg_sub (pv 0) pe_int set_list))
      (pss_cons (ps_if (pt_cmpR op_gt (pe_ix ix_list (pv 0) pe_int (fun _ _ => rfl)) (pe_callB call_len_seq (by rfl) T.len PySem.boot_len (pa_cons (pe_ix ix_list (pv 0) pe_int (fun _ _ => rfl)) pa_nil)) (nomark _))
        (pss_cons (ps_asg (pe_op op_mod (pe_callTy call_int1 (by rfl) T.int (by decide +kernel) (pa_cons (pe_op op_add (pe_op op_mul (pe_ix ix_list (pv 0) pe_int (fun _ _ => rfl)) pe_int) pe_int) pa_nil)) pe_int) (pg_sub (pv 0) pe_int set_list))
        (pss_one (ps_ret (pe_op op_mod (pe_callTy call_int1 (by rfl) T.int (by decide +kernel) (pa_cons (pe_op op_fdiv (pe_ix ix_list (pv 0) pe_int (fun _ _ => rfl)) pe_int) pa_nil)) (pv 1))))) pss_nil)
      (pss_cons (ps_set (i := 3) scTaken.nd rfl (Or.inl rfl) (pe_ix ix_list (pe_ix ix_list (pv 0) pe_int (fun _ _ => rfl)) (pe_op op_sub (pe_ix ix_list (pv 0) pe_int (fun _ _ => rfl)) pe_int) (fun _ _ => rfl)))
      (pss_cons (ps_asg (pe_op op_mod (pe_callTy call_int1 (by rfl) T.int (by decide +kernel) (pa_cons (pe_op op_add (pe_op op_add (pe_op op_mul (pe_ix ix_list (pv 0) pe_int (fun _ _ => rfl)) pe_int) (pv 3)) pe_int) pa_nil)) pe_int) (pg_sub (pv 0) pe_int set_list))
      (pss_cons (ps_if (pt_cmpR op_ge (pv 3) (pe_op op_pow pe_int pe_int) (nomark _)) (pss_one (ps_asg (pe_op op_fdiv (pv 3) (pv 1)) (pg_sub (pv 0) pe_int set_list))) pss_nil)
      (pss_one (ps_ret (pe_op op_mod (pe_callTy call_int1 (by rfl) T.int (by decide +kernel) (pa_cons (pv 3) pa_nil)) (pv 1))))))))), ?_⟩
    have ok : ∀ {H' : Hp} {p m t : Int}, 0 ≤ p → H' r = some (.lst [.ref a, .int p, .int m, .int t]) → Row r a H' := fun h0 e => ⟨_, _, _, e, h0⟩
    refine ⟨_, rfl, r, _, 3, _, rfl, rfl, SqL.of er, rfl, _, _, rfl, rfl, _, rfl, ite2 (fun _ => ?_) (fun _ => ?_)⟩
    · -- the rest of a great cell
      refine ⟨_, rfl, r, _, 3, _, rfl, rfl, SqL.of er, rfl, .inl ⟨_, rfl, ?_⟩⟩
      refine ⟨_, rfl, _, _, rfl, rfl, m0, ?_⟩
      refine ⟨_, rfl, r, _, 3, _, rfl, rfl, SqL.of er, rfl, _, rfl, _, _, rfl, rfl, ⟨m0, by omega⟩, _, rfl, r, _, 3, 3, rfl, rfl, er, rfl, _, rfl, ?_⟩
      exact q _ _ but_upd (ok hp0 upd_same) (Int.emod_nonneg _ (by omega)) (Int.emod_lt_of_pos _ m0)
    · refine ⟨_, rfl, r, _, 1, _, rfl, rfl, SqL.of er, rfl, _, _, rfl, rfl, _, rfl, r, _, 1, 1, rfl, rfl, er, rfl, ?_⟩
      have b1 : But r H (upd H r (.lst [.ref a, .int (pos + 1), .int mix, .int rest])) := but_upd
      have e1 : (upd H r (.lst [.ref a, .int (pos + 1), .int mix, .int rest])) r = some (.lst [.ref a, .int (pos + 1), .int mix, .int rest]) := upd_same
      refine ⟨_, rfl, r, _, 1, _, rfl, rfl, SqL.of e1, rfl, _, rfl, r, _, 0, _, rfl, rfl, SqL.of e1, rfl, a, _, rfl, .inl (hscr _ b1), _, _, rfl, rfl, _, rfl, ite2 (fun hgt => ?_) (fun hgt => ?_)⟩
      · -- behind the script
        refine ⟨_, rfl, r, _, 2, _, rfl, rfl, SqL.of e1, rfl, _, _, rfl, rfl, .inr ⟨by decide, by decide⟩, _, _, rfl, rfl, .inl ⟨_, rfl, ?_⟩⟩
        refine ⟨_, _, rfl, rfl, (by show (0 : Int) < 2147483647; decide), _, rfl, r, _, 2, 2, rfl, rfl, e1, rfl, ?_⟩
        refine ⟨_, rfl, r, _, 2, _, rfl, rfl, SqL.of upd_same, rfl, _, _, rfl, rfl, ⟨by decide, by decide⟩, .inl ⟨_, rfl, ?_⟩⟩
        refine ⟨_, rfl, _, _, rfl, rfl, m0, ?_⟩
        exact q _ _ (b1.trans but_upd) (ok (show 0 ≤ pos + 1 by omega) upd_same) (Int.emod_nonneg _ (by omega)) (Int.emod_lt_of_pos _ m0)
      · have hle : ¬ ((ns.map V.int).length : Int) < pos + 1 := fun z => hgt (decide_eq_true z)
        rw [List.length_map] at hle
        obtain ⟨j, ej, hj⟩ := get_of (l := ns) (b := pos) hp0 (by omega)
        refine ⟨_, rfl, r, _, 0, _, rfl, rfl, SqL.of e1, rfl, _, rfl, r, _, 1, _, rfl, rfl, SqL.of e1, rfl, _, _, rfl, rfl, a, _, _, _, rfl, rfl, hscr _ b1, at_of (j := j) (by omega) (at_int hj), ?_⟩
        refine ⟨_, rfl, r, _, 2, _, rfl, rfl, SqL.of e1, rfl, _, _, rfl, rfl, .inr ⟨by decide, by decide⟩, _, rfl, _, _, rfl, rfl, _, _, rfl, rfl, .inl ⟨_, rfl, ?_⟩⟩
        refine ⟨_, _, rfl, rfl, (by show (0 : Int) < 2147483647; decide), _, rfl, r, _, 2, 2, rfl, rfl, e1, rfl, ?_⟩
        refine ⟨_, rfl, _, _, rfl, rfl, ⟨by decide, by decide, by decide⟩, _, _, rfl, rfl, _, rfl, ite2 (fun _ => ?_) (fun _ => ?_)⟩
        · refine ⟨_, rfl, _, rfl, _, _, rfl, rfl, ⟨m0, by omega⟩, _, rfl, r, _, 3, 3, rfl, rfl, upd_same, rfl, ?_⟩
          refine ⟨_, rfl, .inl ⟨_, rfl, _, rfl, _, _, rfl, rfl, m0, ?_⟩⟩
          exact q _ _ ((b1.trans but_upd).trans but_upd) (ok (show 0 ≤ pos + 1 by omega) upd_same) (Int.emod_nonneg _ (by omega)) (Int.emod_lt_of_pos _ m0)
        · refine ⟨_, rfl, .inl ⟨_, rfl, _, rfl, _, _, rfl, rfl, m0, ?_⟩⟩
          exact q _ _ (b1.trans but_upd) (ok (show 0 ≤ pos + 1 by omega) upd_same) (Int.emod_nonneg _ (by omega)) (Int.emod_lt_of_pos _ m0)
end
end K8

/-! Drawn lots, worths. -/
namespace K8
open PySem PySem.Spec PyProof.Rows L2 StX

theorem GoodLot.sub {n : Int} {l l' : Lot} (h : GoodLot n l) (s : l'.Sublist l) : GoodLot n l' := ⟨h.rise.sublist s, fun c hc => h.lo c (s.subset hc), fun c hc => h.hi c (s.subset hc)⟩
def rangeL (n : Nat) : Lot := (List.range n).map fun j : Nat => (j : Int)
theorem rangeL_succ (n : Nat) : rangeL (n + 1) = rangeL n ++ [(n : Int)] := by
  unfold rangeL
  rw [List.range_succ, List.map_append]
  rfl
theorem range_good : ∀ n : Nat, GoodLot n (rangeL n)
  | 0 => .nil _
  | n + 1 => by
    rw [rangeL_succ]
    exact (range_good n).snoc
theorem rangeL_len (n : Nat) : (rangeL n).length = n := by
  unfold rangeL
  rw [List.length_map, List.length_range]
section
variable {P : Program} {w : World} {K : PySem.W.Frag} {mg : Str → Option Value} {base : Heap}
/-- a comprehension over a range, whose test draws -/
theorem lc_draw {n : Nat} {r a : Addr} {g : TG} {tt : TT} {te : TE} {vs : List Nat} {σ : L2.St} {H1 : Hp} {D : Addr} {Qd : Hp → Prop} (hn : n ≤ 1000) (hD : H1 D = none) (hrow : Row r a H1)
    (hs : ∀ (i : Nat) (H : Hp) (P1 : V → Hp → Prop) (P0 : Hp → Prop), i < n → But r H1 H → Row r a H → (∀ H', But r H H' → Row r a H' → P1 (.int i) H') → (∀ H', But r H H' → Row r a H' → P0 H') →
      g (.int (0 + (i : Nat))) (wipe σ vs) H fun σ2 H2 => wipe σ2 vs = wipe σ vs ∧ tt σ2 H2 fun b H3 => if b = true then te σ2 H3 P1 else P0 H3)
    (hd : ∀ (H : Hp) (l : Lot), But r H1 H → Row r a H → H D = some (.lst (l.map V.int)) → GoodLot n l → Qd H) :
    ∃ W : Nat → Nat → Hp → Prop, (∃ m, W 0 m (upd H1 D (.lst []))) ∧ ∀ i m H, W i m H →
      ((Itr 0 n).stop i H ∧ Qd H) ∨ ((Itr 0 n).go i H ∧ ∃ Nx : Hp → Prop, (∀ H', Nx H' → ∃ m', m' < m ∧ W (i + 1) m' H') ∧ ∀ x H', (Itr 0 n).yld i H x H' → g x (wipe σ vs) H' fun σ2 H2 => wipe σ2 vs = wipe σ vs ∧ tt σ2 H2 fun b H3 =>
        if b = true then te σ2 H3 fun y H4 => ∃ acc, H4 D = some (.lst acc) ∧ acc.length < sizeLine ∧ Nx (upd H4 D (.lst (acc ++ [y]))) else Nx H3) := by
  have nD : D ≠ r := hrow.ne hD
  refine lc_range (fun i H => But r H1 H ∧ Row r a H ∧ ∃ l : Lot, H D = some (.lst (l.map V.int)) ∧ GoodLot i l) ⟨Same.but (same_new hD), hrow.put nD, [], upd_same, .nil _⟩ (fun i H hi p => ?_) fun H p => ?_
  · obtain ⟨b, rw', l, e, gl⟩ := p
    have ll := lot_len gl
    refine hs i H _ _ hi b rw' (fun H' b2 r2 => ?_) (fun H' b2 r2 => ⟨b.trans b2, r2, l, b2 _ _ nD e, gl.up (by omega)⟩)
    have e2 := b2 _ _ nD e
    refine ⟨_, e2, small1000 (by rw [List.length_map]; omega), ?_, r2.put nD, l ++ [(i : Int)], ?_, gl.snoc⟩
    · intro c o nc q
      rw [upd_ne (ne_of_none q hD)]
      exact b2 _ _ nc (b _ _ nc q)
    · rw [upd_same, List.map_append]
      rfl
  · obtain ⟨b, rw', l, e, gl⟩ := p
    exact hd H l b rw' e gl

def spMixed (K : PySem.W.Frag) : Sp := fun vs H Q _ => ∃ (r a : Addr) (ns : List Int) (n : Nat), vs = [.ref r, .int n] ∧ Scr K r a ns H ∧ Row r a H ∧ n ≤ 8 ∧ ∀ (H' : Hp) (u : V) (l : Lot), But r H H' → Row r a H' → IsLot u l H' → GoodLot n l → Q u H'
theorem scMixed : FnScope ["_law_row", "_law_many", "_law_block"] ["_law_row", "_law_many"] (defScope sMixed) := ⟨rfl, rfl, rfl, by decide +kernel, rfl, by decide +kernel, by decide +kernel⟩
theorem ok_mixed {C f : Addr} {fd : FuncData} (F : Fun K "_law_mixed_lot" "_law_mixed_lot" sMixed f fd) (T : Txt K mg C) (DT : Def P w K mg base 1 "_law_taken" ["_law_row", "_law_many"] (spTaken K)) : FnOk P w K mg base CX0 2 f fd ["_law_row", "_law_many"] (spMixed K) := by
  refine F.ok scMixed (fun vs H Q E h => ?_) (fun cdv A outer s H vs Q E hr h => ?_)
  · obtain ⟨r, a, ns, n, rfl, _⟩ := h
    rfl
  · obtain ⟨r, a, ns, n, rfl, hscr, hrow, hn, q⟩ := h
    refine ⟨_, pss_one (ps_ret (pe_callTy call_tuple_of (by rfl) T.tuple boot_tuple (pa_cons (pe_lc (own := [("_law_block", 2)]) (g := gName 2) (tt := tTest (tOp rEq (tCall (spTaken K) [] E0 (tCons (tVar 0) (tCons (tC (.int 2)) tNil))) (tC (.int 0)))) rfl scMixed.nd (pi_range1 (by rfl) T.range (pa_cons (pv 1) pa_nil))
      (blkOk_by (N := ["_law_row", "_law_many", "_law_block"]) (sc := defScope sMixed) (by decide +kernel)) (fun _ _ _ _ _ => pg_name (i := 2) scMixed.nd rfl (Or.inl rfl)) (fun _ _ _ _ _ => pts_one (pt_cmpR op_eq (pe_def DT hr (by rfl) (pa_cons (pv 0) (pa_cons pe_int pa_nil))) pe_int (nomark _))) (fun _ _ _ _ _ => pv 2)) pa_nil))), ?_⟩
    refine ⟨_, rfl, _, rfl, by omega, by omega, fun D hD => ?_⟩
    rw [show ((n : Int)).toNat = n from Int.toNat_natCast _]
    refine lc_draw (by omega) hD hrow ?_ ?_
    · intro i H1 P1 P0 hi b rw' k1 k0
      refine ⟨rfl, _, rfl, r, a, ns, 2, rfl, hscr.but b, rw', by decide, by decide, fun H2 x b2 r2 h0 h1 => ⟨rfl, _, rfl, ite2 (fun _ => ?_) (fun _ => ?_)⟩⟩
      · refine ⟨_, rfl, ?_⟩
        show P1 (V.int ((0 : Int) + (i : Nat))) H2
        rw [Int.zero_add]
        exact k1 H2 b2 r2
      · exact k0 H2 b2 r2
    · intro H1 l b rw' e gl
      exact ⟨D, _, rfl, .inl ⟨SqL.of e, fun p hp => q _ _ l (b.trans (Same.but (same_new hp))) (rw'.same (same_new hp)) ⟨p, rfl, upd_same⟩ gl⟩⟩

def spWorths (K : PySem.W.Frag) : Sp := fun vs H Q _ => ∃ (r a : Addr) (ns : List Int) (n : Nat), vs = [.ref r, .int n] ∧ Scr K r a ns H ∧ Row r a H ∧ n ≤ 8 ∧ ∀ (H' : Hp) (u : V) (wl : List Int), But r H H' → Row r a H' → IsLot u wl H' → wl.length = n → (∀ x ∈ wl, -50 ≤ x ∧ x ≤ 50) → Q u H'
theorem scWorths : FnScope ["_law_row", "_law_many", "_law_found", "_law_style", "_law_block", "_law_less", "_law_more"] ["_law_row", "_law_many"] (defScope sWorths) := ⟨rfl, rfl, rfl, by decide +kernel, rfl, by decide +kernel, by decide +kernel⟩
theorem style_at {x y0 y1 y2 y3 y4 y5 : Int} (h0 : 0 ≤ x) (h1 : x < 6) (lo : ∀ y ∈ [y0, y1, y2, y3, y4, y5], 2 ≤ y ∧ y ≤ 51) : ∃ y, atI [V.int y0, .int y1, .int y2, .int y3, .int y4, .int y5] x = some (V.int y) ∧ 2 ≤ y ∧ y ≤ 51 := by
  have h : x = 0 ∨ x = 1 ∨ x = 2 ∨ x = 3 ∨ x = 4 ∨ x = 5 := by omega
  rcases h with rfl | rfl | rfl | rfl | rfl | rfl
  · exact ⟨y0, at_of (j := 0) rfl rfl, lo y0 (by simp)⟩
  · exact ⟨y1, at_of (j := 1) rfl rfl, lo y1 (by simp)⟩
  · exact ⟨y2, at_of (j := 2) rfl rfl, lo y2 (by simp)⟩
  · exact ⟨y3, at_of (j := 3) rfl rfl, lo y3 (by simp)⟩
  · exact ⟨y4, at_of (j := 4) rfl rfl, lo y4 (by simp)⟩
  · exact ⟨y5, at_of (j := 5) rfl rfl, lo y5 (by simp)⟩
theorem ok_worths {C f : Addr} {fd : FuncData} (F : Fun K "_law_worths" "_law_worths" sWorths f fd) (T : Txt K mg C) (DT : Def P w K mg base 1 "_law_taken" ["_law_row", "_law_many"] (spTaken K)) : FnOk P w K mg base CX0 2 f fd ["_law_row", "_law_many"] (spWorths K) := by
  refine F.ok scWorths (fun vs H Q E h => ?_) (fun cdv A outer s H vs Q E hr h => ?_)
  · obtain ⟨r, a, ns, n, rfl, _⟩ := h
    rfl
  · obtain ⟨r, a, ns, n, rfl, hscr, hrow, hn, q⟩ := h
    refine ⟨_, pss_cons (ps_par (i := 2) (j := 3) rfl scWorths.nd rfl rfl (by decide) rfl rfl (pa_cons (pe_lst pa_nil) (pa_cons (pe_def DT hr (by rfl) (pa_cons (pv 0) (pa_cons pe_int pa_nil))) pa_nil)) (by rfl))
      (pss_cons (ps_for PassesOwn.never rfl (pi_range1 (by rfl) T.range (pa_cons (pv 1) pa_nil)) (pg_name (i := 4) scWorths.nd rfl (Or.inl rfl))
        (pss_cons (ps_par (i := 5) (j := 6) rfl scWorths.nd rfl rfl (by decide) rfl rfl (pa_cons (pe_def DT hr (by rfl) (pa_cons (pv 0) (pa_cons (pe_ix ix_list (pe_lst (pa_cons pe_int (pa_cons pe_int (pa_cons pe_int (pa_cons pe_int (pa_cons pe_int (pa_cons pe_int pa_nil))))))) (pv 3) (fun _ _ => rfl)) pa_nil)))
          (pa_cons (pe_def DT hr (by rfl) (pa_cons (pv 0) (pa_cons (pe_ix ix_list (pe_lst (pa_cons pe_int (pa_cons pe_int (pa_cons pe_int (pa_cons pe_int (pa_cons pe_int (pa_cons pe_int pa_nil))))))) (pv 3) (fun _ _ => rfl)) pa_nil))) pa_nil)) (by rfl))
        (pss_one (ps_expr (pe_bm PySem.F.plainAttrs_list PySem.F.slot_list_append PySem.F.type_list_append mt_append (pv 2) (pa_cons (pe_op op_sub (pv 6) (pv 5)) pa_nil))))))
      (pss_one (ps_ret (pe_callTy call_tuple_of (by rfl) T.tuple boot_tuple (pa_cons (pv 2) pa_nil))))), ?_⟩
    refine ⟨Nat.zero_le _, fun fa hfa => ?_⟩
    have nf : fa ≠ r := hrow.ne hfa
    have s0 : Same H (upd H fa (.lst [])) := same_new hfa
    refine ⟨_, rfl, r, a, ns, 6, rfl, hscr.but (Same.but s0), hrow.same s0, by decide, by decide, fun H1 sty b1 r1 y0 y1 => ⟨_, _, rfl, ?_⟩⟩
    refine ⟨_, rfl, _, rfl, by omega, by omega, ?_⟩
    rw [show ((n : Int)).toNat = n from Int.toNat_natCast _]
    refine for_it walk_range (fun i σ H2 => ∃ (v4 v5 v6 : Option V) (wl : List Int), σ = [some (.ref r), some (.int n), some (.ref fa), some (.int sty), v4, v5, v6] ∧ But r H H2 ∧ Row r a H2 ∧ H2 fa = some (.lst (wl.map V.int)) ∧ wl.length = i ∧ ∀ x ∈ wl, -50 ≤ x ∧ x ≤ 50)
      ⟨none, none, none, [], rfl, (Same.but s0).trans b1, r1, b1 _ _ nf upd_same, rfl, fun _ h => absurd h (by simp)⟩ (fun _ _ _ _ _ => trivial) ?_ ?_
    · rintro i x σ H9 H2 hi ⟨v4, v5, v6, wl, rfl, b2, r2, e2, hl, hw⟩ ⟨rfl, rfl⟩
      obtain ⟨t1, a1, t1lo, t1hi⟩ := style_at (y0 := 3) (y1 := 5) (y2 := 9) (y3 := 51) (y4 := 51) (y5 := 2) y0 y1 (by decide)
      obtain ⟨t2, a2, t2lo, t2hi⟩ := style_at (y0 := 3) (y1 := 5) (y2 := 9) (y3 := 51) (y4 := 4) (y5 := 2) y0 y1 (by decide)
      refine ⟨_, rfl, (by show 6 ≤ sizeLine; decide), fun l1 hl1 => ⟨_, rfl, l1, _, _, _, rfl, rfl, SqL.of upd_same, a1, ?_⟩⟩
      have s3 : Same H2 (upd H2 l1 (.lst [.int 3, .int 5, .int 9, .int 51, .int 51, .int 2])) := same_new hl1
      refine ⟨r, a, ns, t1, rfl, hscr.but (b2.trans (Same.but s3)), r2.same s3, by omega, by omega, fun H4 less b4 r4 l0 l1' => ?_⟩
      refine ⟨_, rfl, (by show 6 ≤ sizeLine; decide), fun l2 hl2 => ⟨_, rfl, l2, _, _, _, rfl, rfl, SqL.of upd_same, a2, ?_⟩⟩
      have s5 : Same H4 (upd H4 l2 (.lst [.int 3, .int 5, .int 9, .int 51, .int 4, .int 2])) := same_new hl2
      have b5 : But r H2 (upd H4 l2 (.lst [.int 3, .int 5, .int 9, .int 51, .int 4, .int 2])) := ((Same.but s3).trans b4).trans (Same.but s5)
      refine ⟨r, a, ns, t2, rfl, hscr.but (b2.trans b5), r4.same s5, by omega, by omega, fun H6 more b6 r6 m0 m1 => ⟨_, _, rfl, ?_⟩⟩
      have b7 : But r H2 H6 := b5.trans b6
      have e6 := b7 _ _ nf e2
      refine ⟨_, rfl, .inl ⟨rfl, _, SqL.of e6⟩, _, rfl, _, rfl, _, _, rfl, rfl, fa, _, _, rfl, rfl, e6, small1000 (by rw [List.length_map]; omega), ?_⟩
      refine ⟨_, _, _, wl ++ [more - less], rfl, ?_, r6.put nf, ?_, ?_, ?_⟩
      · intro c o nc e
        rw [upd_ne (ne_of_none e hfa)]
        exact b7 _ _ nc (b2 _ _ nc e)
      · rw [upd_same, List.map_append]
        rfl
      · rw [List.length_append, List.length_singleton, hl]
      · intro x hx
        rcases List.mem_append.mp hx with h | h
        · exact hw x h
        · rw [List.mem_singleton.mp h]
          omega
    · rintro σ H2 ⟨v4, v5, v6, wl, rfl, b2, r2, e2, hl, hw⟩
      exact ⟨_, rfl, fa, _, rfl, .inl ⟨SqL.of e2, fun p hp => q _ _ wl (b2.trans (Same.but (same_new hp))) (r2.same (same_new hp)) ⟨p, rfl, upd_same⟩ hl hw⟩⟩
end
end K8

/-! Drawn covers. -/
namespace K8
open PySem PySem.Spec PyProof.Rows L2 StX
open C8 (pss_cut)

/-- what stands between two turns: the covers made so far at fa -/
structure Ci (r a fa : Addr) (H : Hp) (i : Nat) (H' : Hp) : Prop where
  but : But r H H'
  row : Row r a H'
  cov : ∃ (vs : List V) (cov : List Lot), H' fa = some (.lst vs) ∧ EachLot vs cov H' ∧ cov.length = i ∧ ∀ (j : Nat) (l : Lot), cov[j]? = some l → GoodLot j l
theorem Ci.more {r a fa : Addr} {H : Hp} {i : Nat} {H' H2 : Hp} (c : Ci r a fa H i H') (nf : fa ≠ r) (b : But r H' H2) (rw' : Row r a H2) : Ci r a fa H i H2 := by
  obtain ⟨b0, r0, vs, cov, e, each, h1, h2⟩ := c
  exact ⟨b0.trans b, rw', vs, cov, b _ _ nf e, each.tk (r0.tk b), h1, h2⟩
theorem Ci.same {r a fa : Addr} {H : Hp} {i : Nat} {H' H2 : Hp} (c : Ci r a fa H i H') (nf : fa ≠ r) (s : Same H' H2) : Ci r a fa H i H2 := c.more nf (Same.but s) (c.row.same s)
/-- .. and the block's lot at slot 6 -/
def Mid (r a fa : Addr) (way many : Int) (H : Hp) (i : Nat) : L2.St → Hp → Prop := fun σ H' => ∃ (sa : Addr) (l : Lot), σ = [some (.ref r), some (.int 8), some (.ref fa), some (.int way), some (.int many), some (.int ((0 : Int) + (i : Nat))), some (.ref sa), none] ∧ Ci r a fa H i H' ∧ H' sa = some (.lst (l.map V.int)) ∧ GoodLot i l
def spCovers (K : PySem.W.Frag) : Sp := fun vs H Q _ => ∃ (r a : Addr) (ns : List Int), vs = [.ref r, .int 8] ∧ Scr K r a ns H ∧ Row r a H ∧ ∀ (H' : Hp) (p : Addr) (cov : List Lot), But r H H' → Row r a H' → CovAt p cov H' → Good cov → Q (.ref p) H'
theorem cut_map (l : Lot) (lo hi : Option Int) : ∃ l' : Lot, cutV (l.map V.int) lo hi = l'.map V.int ∧ l'.Sublist l := by
  unfold cutV
  refine ⟨_, by rw [← List.map_drop, ← List.map_take], (List.take_sublist ..).trans (List.drop_sublist ..)⟩
theorem rg_map (i : Nat) : rgV 0 ((0 : Int) + (i : Nat)) = (rangeL i).map V.int := by
  unfold rgV rangeL
  rw [List.map_map, show ((0 : Int) + (i : Nat) - 0).toNat = i by omega]
  refine List.map_congr_left fun j _ => ?_
  show V.int ((0 : Int) + (j : Nat)) = V.int (j : Int)
  rw [Int.zero_add]
section
variable {P : Program} {w : World} {K : PySem.W.Frag} {mg : Str → Option Value} {base : Heap}
theorem scCovers : FnScope ["_law_row", "_law_most", "_law_found", "_law_way", "_law_many", "_law_block", "_law_some", "_law_one"] ["_law_row", "_law_most"] (defScope sCovers) := ⟨rfl, rfl, rfl, by decide +kernel, rfl, by decide +kernel, by decide +kernel⟩
abbrev nmC : List Str := ["_law_row", "_law_most", "_law_found", "_law_way", "_law_many", "_law_block", "_law_some", "_law_one"]
theorem ok_covers {C f : Addr} {fd : FuncData} (F : Fun K "_law_covers" "_law_covers" sCovers f fd) (T : Txt K mg C) (DT : Def P w K mg base 1 "_law_taken" ["_law_row", "_law_many"] (spTaken K)) : FnOk P w K mg base CX0 2 f fd ["_law_row", "_law_most"] (spCovers K) := by
  refine F.ok scCovers (fun vs H Q E h => ?_) (fun cdv A outer s H vs Q E hr h => ?_)
  · obtain ⟨r, a, ns, rfl, _⟩ := h
    rfl
  · obtain ⟨r, a, ns, rfl, hscr, hrow, q⟩ := h
    refine ⟨_, pss_cons (ps_asg (pe_tup (pa_cons (pe_lst pa_nil) (pa_cons (pe_def DT hr (by rfl) (pa_cons (pv 0) (pa_cons pe_int pa_nil))) (pa_cons (pe_op op_add pe_int (pe_def DT hr (by rfl) (pa_cons (pv 0) (pa_cons (pv 1) pa_nil)))) pa_nil))))
        (pg_tup rfl (pgs_cons (pg_name (i := 2) scCovers.nd rfl (Or.inl rfl)) (pgs_cons (pg_name (i := 3) scCovers.nd rfl (Or.inl rfl)) (pgs_cons (pg_name (i := 4) scCovers.nd rfl (Or.inr rfl)) pgs_nil)))))
      (pss_cons (ps_for PassesOwn.never rfl (pi_range1 (by rfl) T.range (pa_cons (pv 4) pa_nil)) (pg_name (i := 5) scCovers.nd rfl (Or.inr rfl))
        (pss_cut (ps_setLc (i := 6) (own := [("_law_one", 7)]) (g := gName 7) (tt := tTest (tOp rEq (tCall (spTaken K) [] E0 (tCons (tVar 0) (tCons (tC (.int 3)) tNil))) (tC (.int 0)))) rfl scCovers.nd rfl rfl (sw_true rfl rfl rfl (by decide +kernel)) (pi_range1 (by rfl) T.range (pa_cons (pv 5) pa_nil))
          (blkOk_by (N := nmC) (sc := defScope sCovers) (by decide +kernel)) (fun _ _ _ _ _ => pg_name (i := 7) scCovers.nd rfl (Or.inl rfl)) (fun _ _ _ _ _ => pts_one (pt_cmpR op_eq (pe_def DT hr (by rfl) (pa_cons (pv 0) (pa_cons pe_int pa_nil))) pe_int (nomark _))) (fun _ _ _ _ _ => pv 7))
        (pss_cut (ps_if (pt_cmpR op_eq (pv 3) pe_int (nomark _)) (pss_one (ps_set (i := 6) scCovers.nd rfl (Or.inl rfl) (pe_lst pa_nil))) pss_nil)
        (pss_cut (ps_if (pt_cmpR op_eq (pv 3) pe_int (nomark _)) (pss_one (ps_set (i := 6) scCovers.nd rfl (Or.inl rfl) (pe_slice sl_list (pe_listRg rfl (by rfl) T.list (prg_1 (by rfl) T.range (pv 5))) (po_some (pe_un un_neg pe_int)) po_none))) pss_nil)
        (pss_cut (ps_if (pt_cmpR op_eq (pv 3) pe_int (nomark _)) (pss_one (ps_setLc (i := 6) (own := [("_law_one", 7)]) (g := gName 7) rfl scCovers.nd rfl rfl (sw_true rfl rfl rfl (by decide +kernel)) (pi_range1 (by rfl) T.range (pa_cons (pv 5) pa_nil))
          (blkOk_by (N := nmC) (sc := defScope sCovers) (by decide +kernel)) (fun _ _ _ _ _ => pg_name (i := 7) scCovers.nd rfl (Or.inl rfl)) (fun _ _ _ _ _ => pts_one (pt_chain op_lt op_le (pe_op op_mul pe_int (pv 7)) (pv 4) (pe_op op_mul pe_int (pv 5)))) (fun _ _ _ _ _ => pv 7))) pss_nil)
        (pss_cut (ps_if (pt_cmpR op_eq (pv 3) pe_int (nomark _)) (pss_one (ps_setLc (i := 6) (own := [("_law_one", 7)]) (g := gName 7) rfl scCovers.nd rfl rfl (sw_true rfl rfl rfl (by decide +kernel)) (pi_list (pv 6))
          (blkOk_by (N := nmC) (sc := defScope sCovers) (by decide +kernel)) (fun _ _ _ _ _ => pg_name (i := 7) scCovers.nd rfl (Or.inl rfl)) (fun _ _ _ _ _ => pts_one (pt_cmpR op_lt (pe_op op_sub (pv 5) (pv 7)) pe_int (nomark _))) (fun _ _ _ _ _ => pv 7))) pss_nil)
        (pss_one (ps_expr (pe_bm PySem.F.plainAttrs_list PySem.F.slot_list_append PySem.F.type_list_append mt_append (pv 2) (pa_cons (pe_callTy call_tuple_of (by rfl) T.tuple boot_tuple (pa_cons (pv 6) pa_nil)) pa_nil))))))))))
      (pss_one (ps_ret (pe_callTy call_tuple_of (by rfl) T.tuple boot_tuple (pa_cons (pv 2) pa_nil))))), ?_⟩
    refine ⟨Nat.zero_le _, fun fa hfa => ?_⟩
    have nf : fa ≠ r := hrow.ne hfa
    have s0 : Same H (upd H fa (.lst [])) := same_new hfa
    refine ⟨_, rfl, r, a, ns, 7, rfl, hscr.but (Same.but s0), hrow.same s0, by decide, by decide, fun H1 way b1 r1 _ _ => ?_⟩
    refine ⟨_, rfl, _, rfl, r, a, ns, 8, rfl, hscr.but ((Same.but s0).trans b1), r1, by decide, by decide, fun H2 x b2 r2 x0 x8 => ⟨_, _, rfl, rfl, (by show 3 ≤ sizeLine; decide), fun tp htp => ?_⟩⟩
    refine ⟨tp, _, rfl, SqT.of upd_same, rfl, _, _, rfl, _, _, rfl, _, _, rfl, rfl, ?_⟩
    obtain ⟨n, en⟩ : ∃ n : Nat, (1 : Int) + x = (n : Int) := ⟨((1 : Int) + x).toNat, by omega⟩
    have s3 : Same H2 (upd H2 tp (.tup [.ref fa, .int way, .int ((1 : Int) + x)])) := same_new htp
    refine ⟨_, rfl, _, rfl, by omega, by omega, ?_⟩
    rw [show ((1 : Int) + x).toNat = n by omega]
    have b3 : But r H (upd H2 tp (.tup [.ref fa, .int way, .int ((1 : Int) + x)])) := (((Same.but s0).trans b1).trans b2).trans (Same.but s3)
    refine for_it walk_range (fun i σ H3 => ∃ v5 v6 : Option V, σ = [some (.ref r), some (.int 8), some (.ref fa), some (.int way), some (.int ((1 : Int) + x)), v5, v6, none] ∧ Ci r a fa H i H3)
      ⟨none, none, rfl, b3, r2.same s3, [], [], s3 _ _ (b2 _ _ nf (b1 _ _ nf upd_same)), .nil, rfl, fun j l h => absurd h (by simp)⟩ (fun _ _ _ _ _ => trivial) ?_ ?_
    · rintro i y σ H9 H3 hi ⟨v5, v6, rfl, ci⟩ ⟨rfl, rfl⟩
      have hi8 : i < 8 := by omega
      have line : (sizeLine : Nat) = 16777216 := sizeLine_eq
      -- the drawn lot
      refine ⟨Mid r a fa way ((1 : Int) + x) H i, ⟨_, rfl, _, rfl, by omega, by omega, fun D hD => ?_⟩, ?_⟩
      · rw [show ((0 : Int) + (i : Nat)).toNat = i by omega]
        refine lc_draw (by omega) hD ci.row ?_ ?_
        · intro j H4 P1 P0 hj b4 r4 k1 k0
          refine ⟨rfl, _, rfl, r, a, ns, 3, rfl, hscr.but (ci.but.trans b4), r4, by decide, by decide, fun H5 z b5 r5 _ _ => ⟨rfl, _, rfl, ite2 (fun _ => ?_) (fun _ => k0 H5 b5 r5)⟩⟩
          refine ⟨_, rfl, ?_⟩
          show P1 (V.int ((0 : Int) + (j : Nat))) H5
          rw [Int.zero_add]
          exact k1 H5 b5 r5
        · intro H4 l b4 r4 e gl
          exact ⟨D, l, rfl, ci.more nf b4 r4, e, gl⟩
      -- way 0
      rintro σ H4 ⟨sa, l, rfl, c4, e4, gl⟩
      refine ⟨Mid r a fa way ((1 : Int) + x) H i, ⟨_, rfl, rfl, _, rfl, ite2 (fun _ => ?_) (fun _ => ⟨sa, l, rfl, c4, e4, gl⟩)⟩, ?_⟩
      · exact ⟨Nat.zero_le _, fun p hp => ⟨p, [], rfl, c4.same nf (same_new hp), upd_same, .nil _⟩⟩
      clear e4 gl c4 l sa
      -- way 1
      rintro σ H4 ⟨sa, l, rfl, c4, e4, gl⟩
      refine ⟨Mid r a fa way ((1 : Int) + x) H i, ⟨_, rfl, rfl, _, rfl, ite2 (fun _ => ?_) (fun _ => ⟨sa, l, rfl, c4, e4, gl⟩)⟩, ?_⟩
      · refine ⟨_, rfl, _, rfl, .of_le (by decide) (by omega) (by decide) (by omega), fun qa hqa => ⟨1, rfl, _, rfl, qa, _, rfl, SqL.of upd_same, fun p hp => ?_⟩⟩
        obtain ⟨l', el, sl⟩ := cut_map (rangeL i) (some (-1)) none
        rw [rg_map, el]
        have s5 : Same H4 (upd H4 qa (.lst (rgV 0 ((0 : Int) + (i : Nat))))) := same_new hqa
        rw [rg_map] at s5
        rw [rg_map] at hp
        exact ⟨p, l', rfl, c4.same nf (s5.trans (same_new hp)), upd_same, (range_good i).sub sl⟩
      clear e4 gl c4 l sa
      -- way 2
      rintro σ H4 ⟨sa, l, rfl, c4, e4, gl⟩
      refine ⟨Mid r a fa way ((1 : Int) + x) H i, ⟨_, rfl, rfl, _, rfl, ite2 (fun _ => ?_) (fun _ => ⟨sa, l, rfl, c4, e4, gl⟩)⟩, ?_⟩
      · refine ⟨_, rfl, _, rfl, by omega, by omega, fun D hD => ?_⟩
        rw [show ((0 : Int) + (i : Nat)).toNat = i by omega]
        refine lc_made walk_range (List.range i) (List.length_range ..) (fun j : Nat => if decide (2 * ((0 : Int) + (j : Nat)) < (1 : Int) + x ∧ (1 : Int) + x ≤ 2 * ((0 : Int) + (i : Nat))) = true then [(j : Int)] else []) (fun v z _ => v = .int z) (fun _ _ _ _ _ h => h) hD (by omega) (fun _ _ => trivial) ?_ ?_
        · intro j j' y H5 H6 P1 P0 hj s5 _ hy k1 k0
          obtain ⟨rfl, rfl⟩ := hy
          have ej : j' = j := by
            rw [List.getElem?_range] at hj
            · exact (Option.some.inj hj).symm
            · have := (List.getElem?_eq_some_iff.mp hj).1
              rwa [List.length_range] at this
          subst ej
          refine ⟨rfl, _, rfl, _, _, rfl, rfl, .inl ⟨by decide, by decide⟩, _, rfl, _, _, rfl, rfl, _, rfl, ite2 (fun h1 => ?_) (fun h1 => ?_)⟩
          · have h1' := of_decide_eq_true h1
            refine ⟨_, rfl, _, _, rfl, rfl, .inl ⟨by decide, by decide⟩, _, _, rfl, rfl, _, rfl, ite2 (fun h2 => ?_) (fun h2 => ?_)⟩
            · have h2' := of_decide_eq_true h2
              refine ⟨_, rfl, k1 _ (j' : Int) _ (if_pos (decide_eq_true ⟨h1', h2'⟩)) ?_ (Same.refl _)⟩
              show V.int ((0 : Int) + (j' : Nat)) = V.int (j' : Int)
              rw [Int.zero_add]
            · exact k0 _ (if_neg fun z => h2 (decide_eq_true (of_decide_eq_true z).2)) (Same.refl _)
          · exact ⟨false, rfl, ifbn rfl (k0 _ (if_neg fun z => h1 (decide_eq_true (of_decide_eq_true z).1)) (Same.refl _))⟩
        · intro H5 ys s5 e5 r5 _
          rw [flat_filter (fun j : Nat => decide (2 * ((0 : Int) + (j : Nat)) < (1 : Int) + x ∧ (1 : Int) + x ≤ 2 * ((0 : Int) + (i : Nat)))) (fun j : Nat => (j : Int))] at r5
          rw [each_val (f := V.int) r5] at e5
          exact ⟨D, _, rfl, c4.same nf s5, e5, (range_good i).sub ((List.filter_sublist ..).map _)⟩
      clear e4 gl c4 l sa
      -- way 3
      rintro σ H4 ⟨sa, l, rfl, c4, e4, gl⟩
      refine ⟨Mid r a fa way ((1 : Int) + x) H i, ⟨_, rfl, rfl, _, rfl, ite2 (fun _ => ?_) (fun _ => ⟨sa, l, rfl, c4, e4, gl⟩)⟩, ?_⟩
      · have ll := lot_len gl
        refine ⟨_, rfl, sa, rfl, ⟨_, SqL.of e4⟩, fun D hD => ?_⟩
        refine lc_made (walk_list (xs := l.map V.int)) l (List.length_map ..).symm (fun z => if decide ((0 : Int) + (i : Nat) - z < 3) = true then [z] else []) (fun v z _ => v = .int z) (fun _ _ _ _ _ h => h) hD (by rw [List.length_map]; omega) (fun H5 s5 => SqL.of (s5 _ _ e4)) ?_ ?_
        · intro j z y H5 H6 P1 P0 hj s5 _ hy k1 k0
          obtain ⟨rfl, hx⟩ := hy
          obtain ⟨z', hz, rfl⟩ := int_at hx
          rw [hj] at hz
          cases hz
          refine ⟨rfl, _, rfl, _, rfl, _, _, rfl, rfl, _, _, rfl, rfl, _, rfl, ite2 (fun h => ⟨_, rfl, k1 _ z _ (if_pos h) rfl (Same.refl _)⟩) (fun h => k0 _ (if_neg h) (Same.refl _))⟩
        · intro H5 ys s5 e5 r5 _
          rw [flat_filter (fun z : Int => decide ((0 : Int) + (i : Nat) - z < 3)) (fun z : Int => z), List.map_id'] at r5
          rw [each_val (f := V.int) r5] at e5
          exact ⟨D, _, rfl, c4.same nf s5, e5, gl.sub (List.filter_sublist ..)⟩
      clear e4 gl c4 l sa
      -- found.append(tuple(..))
      rintro σ H4 ⟨sa, l, rfl, c4, e4, gl⟩
      obtain ⟨bt, rw4, vs, cov, ef, each, hc, hg⟩ := id c4
      refine ⟨_, rfl, .inl ⟨rfl, _, SqL.of ef⟩, _, rfl, sa, _, rfl, .inl ⟨SqL.of e4, fun tp htp => ?_⟩⟩
      have s5 : Same H4 (upd H4 tp (.tup (l.map V.int))) := same_new htp
      have lv : vs.length = cov.length := each.length
      have b5 : But r H (upd H4 tp (.tup (l.map V.int))) := bt.trans (Same.but s5)
      have k6 : TK (upd H4 tp (.tup (l.map V.int))) (upd (upd H4 tp (.tup (l.map V.int))) fa (.lst (vs ++ [.ref tp]))) := tk_lst (s5 _ _ ef)
      refine ⟨fa, vs, .ref tp, rfl, rfl, s5 _ _ ef, by omega, _, _, rfl, ?_, (rw4.same s5).put nf, _, cov ++ [l], upd_same, ?_, by rw [List.length_append, List.length_singleton, hc], fun j l' hj => ?_⟩
      · intro c o nc e
        rw [upd_ne (ne_of_none e hfa)]
        exact b5 _ _ nc e
      · exact EachIs.append (EachLot.tk each ((tk_same s5).trans k6)) (.cons ⟨tp, rfl, k6 _ _ upd_same⟩ .nil)
      · by_cases hjc : j < cov.length
        · rw [List.getElem?_append_left hjc] at hj
          exact hg j l' hj
        · rw [List.getElem?_append_right (by omega)] at hj
          have h0 : j - cov.length = 0 := by
            have := (List.getElem?_eq_some_iff.mp hj).1
            rw [List.length_singleton] at this
            omega
          rw [h0] at hj
          cases hj
          have ei : j = i := by omega
          rw [ei]
          exact gl
    · rintro σ H3 ⟨v5, v6, rfl, bt, rw4, vs, cov, ef, each, hc, hg⟩
      refine ⟨_, rfl, fa, _, rfl, .inl ⟨SqL.of ef, fun p hp => ?_⟩⟩
      have s5 : Same H3 (upd H3 p (.tup vs)) := same_new hp
      exact q _ p cov (bt.trans (Same.but s5)) (rw4.same s5) ⟨vs, upd_same, EachLot.tk each (tk_same s5)⟩ ⟨by omega, by omega, hg⟩
end
end K8

/-! The law's own pits, sums and best pits. -/
namespace K8
open PySem PySem.Spec PyProof.Rows L2 StX
section
variable {P : Program} {w : World} {K : PySem.W.Frag} {mg : Str → Option Value} {base : Heap}
def rLenS (K : PySem.W.Frag) : List V → Hp → VK → Prop := fun xs H Q => ∃ p ys, xs = [V.ref p] ∧ (SqL K H p ys ∨ SqT K H p ys) ∧ Q (.int ys.length) H
theorem call_lenS {X : Cx} : CallR X (.builtin "len") (rLenS X.K) := call_len_seq
/-- (len(lot), lot) -/
def IsPair (v : V) (l : Lot) (H : Hp) : Prop := ∃ t u, v = .ref t ∧ H t = some (.tup [.int (l.length : Int), u]) ∧ IsLot u l H
theorem IsPair.tk {v : V} {l : Lot} {H H' : Hp} (h : IsPair v l H) (k : TK H H') : IsPair v l H' := by
  obtain ⟨t, u, e, q, hu⟩ := h
  exact ⟨t, u, e, k _ _ q, hu.tk k⟩
theorem dp_ints {H : Hp} : ∀ l : Lot, DpAll K H (l.map V.int) (l.map PyData.int)
  | [] => .nil
  | n :: r => .cons (.int n) (dp_ints r)
theorem IsPair.dp {v : V} {l : Lot} {H : Hp} (h : IsPair v l H) : Dp K H v (enc l) := by
  obtain ⟨t, u, rfl, q, a, rfl, ha⟩ := h
  exact .tup (SqT.of q) (.cons (.int _) (.cons (.tup (SqT.of ha) (dp_ints l)) .nil))
def spLots : Sp := fun vs H Q _ => ∃ n : Nat, vs = [.int n] ∧ n ≤ 8 ∧ ∀ H' p, Same H H' → H p = none → LotsAt p (sortL (lotsN n)) H' → Q (.ref p) H'
theorem scLots : FnScope ["_law_many", "_law_found", "_law_block", "_law_lot", "_law_size"] ["_law_many"] (defScope sLots) := ⟨rfl, rfl, rfl, by decide +kernel, rfl, by decide +kernel, by decide +kernel⟩
abbrev nmL : List Str := ["_law_many", "_law_found", "_law_block", "_law_lot", "_law_size"]
theorem ok_lots {C f : Addr} {fd : FuncData} (F : Fun K "_law_lots" "_law_lots" sLots f fd) (T : Txt K mg C) : FnOk P w K mg base CX0 1 f fd ["_law_many"] spLots := by
  refine F.ok scLots (fun vs H Q E h => ?_) (fun cdv A outer s H vs Q E hr h => ?_)
  · obtain ⟨n, rfl, _⟩ := h
    rfl
  · obtain ⟨n, rfl, hn, q⟩ := h
    refine ⟨_, pss_cons (ps_set (i := 1) scLots.nd rfl (Or.inl rfl) (pe_lst (pa_cons (pe_tup pa_nil) pa_nil)))
      (pss_cons (ps_for PassesOwn.never rfl (pi_range1 (by rfl) T.range (pa_cons (pv 0) pa_nil)) (pg_name (i := 2) scLots.nd rfl (Or.inr rfl))
        (pss_one (ps_set (i := 1) scLots.nd rfl (Or.inl rfl) (pe_op op_cat (pv 1) (pe_lc (own := [("_law_lot", 3)]) (g := gName 3) (tt := tYes) rfl scLots.nd (pi_list (pv 1)) (blkOk_by (N := nmL) (sc := defScope sLots) (by decide +kernel)) (fun _ _ _ _ _ => pg_name (i := 3) scLots.nd rfl (Or.inl rfl)) (fun _ _ _ _ _ => pts_nil)
          (fun _ _ _ _ _ => pe_op (r := rCatA K) op_catA (pv 3) (pe_tup (pa_cons (pv 2) pa_nil))))))))
      (pss_one (ps_ret (pe_lc (own := [("_law_size", 4), ("_law_lot", 3)]) (g := gTup K 2 (gCons (gName 4) (gCons (gName 3) gNil))) (tt := tYes) rfl scLots.nd (pi_list (pe_callB cr_sortedD (by rfl) T.sorted boot_sorted (pa_cons
          (pe_lc (own := [("_law_lot", 3)]) (g := gName 3) (tt := tYes) rfl scLots.nd (pi_list (pv 1)) (blkOk_by (N := nmL) (sc := defScope sLots) (by decide +kernel)) (fun _ _ _ _ _ => pg_name (i := 3) scLots.nd rfl (Or.inl rfl)) (fun _ _ _ _ _ => pts_nil)
            (fun _ _ _ _ _ => pe_tup (pa_cons (pe_callB (r := rLenS K) call_lenS (by rfl) T.len PySem.boot_len (pa_cons (pv 3) pa_nil)) (pa_cons (pv 3) pa_nil)))) pa_nil)))
        (blkOk_by (N := nmL) (sc := defScope sLots) (by decide +kernel)) (fun _ _ _ _ _ => pg_tup rfl (pgs_cons (pg_name (i := 4) scLots.nd rfl (Or.inl rfl)) (pgs_cons (pg_name (i := 3) scLots.nd rfl (Or.inl rfl)) pgs_nil))) (fun _ _ _ _ _ => pts_nil) (fun _ _ _ _ _ => pv 3))))), ?_⟩
    have line : (sizeLine : Nat) = 16777216 := sizeLine_eq
    refine ⟨Nat.zero_le _, fun t0 ht0 => ⟨(by show 1 ≤ sizeLine; decide), fun l0 hl0 => ?_⟩⟩
    have s0 : Same H (upd (upd H t0 (.tup [])) l0 (.lst [.ref t0])) := (same_new ht0).trans (same_new hl0)
    have nt : t0 ≠ l0 := ne_of_none upd_same hl0
    refine ⟨_, rfl, _, rfl, by omega, by omega, ?_⟩
    rw [show ((n : Int)).toNat = n from Int.toNat_natCast _]
    refine for_it walk_range (fun i σ H1 => ∃ (fa : Addr) (v2 : Option V), σ = [some (.int n), some (.ref fa), v2, none, none] ∧ Same H H1 ∧ LotsAt fa (lotsN i) H1)
      ⟨l0, none, rfl, s0, [.ref t0], upd_same, .cons ⟨t0, rfl, by rw [upd_ne nt, upd_same]; rfl⟩ .nil⟩ (fun _ _ _ _ _ => trivial) ?_ ?_
    · rintro i x σ H9 H1 hi ⟨fa, v2, rfl, s1, vs, ef, efs⟩ ⟨rfl, rfl⟩
      have e0 : ((0 : Int) + (i : Nat)) = (i : Nat) := Int.zero_add _
      have lp := lots_len i
      have l2 : 2 ^ i ≤ 256 := pow_le8 (by omega)
      have lv : vs.length = (lotsN i).length := efs.length
      refine ⟨_, rfl, _, rfl, fa, rfl, ⟨_, SqL.of ef⟩, fun D hD => ?_⟩
      refine lc_made (walk_list (xs := vs)) (lotsN i) lv.symm (fun l => [l ++ [(i : Int)]]) IsLot (fun _ _ _ _ k h => h.tk k) hD (by omega) (fun H2 s2 => SqL.of (s2 _ _ ef)) ?_ ?_
      · intro j l x H2 H3 P1 P0 hj s2 _ y k1 _
        obtain ⟨rfl, hx⟩ := y
        obtain ⟨al, rfl, hal⟩ := (each_get efs hx hj).tk (tk_same s2)
        have ll := lot_len (lots_good i l (List.mem_of_getElem? hj))
        refine ⟨rfl, kept ⟨_, rfl, _, rfl, (by show 1 ≤ sizeLine; decide), fun t ht => ?_⟩⟩
        have st := same_new (o := .tup [.int ((0 : Int) + (i : Nat))]) ht
        have eo : (upd H3 t (.tup [.int ((0 : Int) + (i : Nat))])) t = some (.tup ([(i : Int)].map V.int)) := by
          rw [upd_same, e0]
          rfl
        refine ⟨al, t, l.map V.int, [(i : Int)].map V.int, rfl, rfl, SqT.of (st _ _ hal), SqT.of eo, by rw [List.length_map, List.length_map]; show l.length + 1 ≤ sizeLine; omega, fun hnil => ?_, fun _ h => absurd h (by simp), fun _ _ p hp => ?_⟩
        · have hl0 : l = [] := by simpa using hnil
          subst hl0
          exact k1 _ _ _ rfl ⟨t, rfl, eo⟩ st
        · refine k1 _ _ _ rfl ⟨p, rfl, ?_⟩ (st.trans (same_new hp))
          rw [upd_same, List.map_append]
      · intro H2 ys s2 e2 r2 hy
        rw [flat_map1] at r2
        refine ⟨fa, D, vs, ys, rfl, rfl, s2 _ _ ef, e2, by omega, fun p hp => ?_⟩
        have s3 : Same H2 (upd H2 p (.lst (vs ++ ys))) := same_new hp
        exact ⟨p, _, rfl, (s1.trans s2).trans s3, _, upd_same, EachIs.append (efs.tk (tk_same (s2.trans s3))) (EachLot.tk r2 (tk_same s3))⟩
    · rintro σ H1 ⟨fa, v2, rfl, s1, vs, ef, efs⟩
      have hun := hr.units
      have lp := lots_len n
      have l2 : 2 ^ n ≤ 256 := pow_le8 hn
      have lv : vs.length = (lotsN n).length := efs.length
      refine ⟨_, rfl, fa, rfl, ⟨_, SqL.of ef⟩, fun D hD => ?_⟩
      refine lc_made (walk_list (xs := vs)) (lotsN n) lv.symm (fun l => [l]) IsPair (fun _ _ _ _ k h => h.tk k) hD (by omega) (fun H2 s2 => SqL.of (s2 _ _ ef)) ?_ ?_
      · intro j l x H2 H3 P1 P0 hj s2 _ y k1 _
        obtain ⟨rfl, hx⟩ := y
        obtain ⟨al, rfl, hal⟩ := (each_get efs hx hj).tk (tk_same s2)
        refine ⟨rfl, kept ⟨_, rfl, al, _, rfl, .inr (SqT.of hal), _, rfl, (by show 2 ≤ sizeLine; decide), fun t ht => ?_⟩⟩
        refine k1 _ l _ rfl ⟨t, _, rfl, ?_, al, rfl, same_new ht _ _ hal⟩ (same_new ht)
        rw [upd_same, List.length_map]
      · intro H2 ys s2 e2 r2 _
        rw [flat_map1, List.map_id'] at r2
        refine ⟨Lot, D, ys, lotsN n, enc, fun v l => IsPair v l H2, rfl, SqL.of e2, r2, fun v l h => h.dp, PySem.W.AllAlike.of enc_alike, PySem.W.Sortable.tuples enc_tup, fun l _ => ?_, fun zs p hp r3 => ?_⟩
        · have := enc_depth l
          show (A.deeper (envOfC "_law_lots" (defScope sLots) s.heap.objs.size f cdv)).units + 2 + (enc l).depth < cLine
          omega
        · have s3 : Same H2 (upd H2 p (.lst zs)) := same_new hp
          have hzs : zs.length = (sortL (lotsN n)).length := r3.length
          have hso := sort_len (lotsN n)
          refine ⟨p, rfl, ⟨_, SqL.of upd_same⟩, fun D2 hD2 => ?_⟩
          refine lc_made (walk_list (xs := zs)) (sortL (lotsN n)) hzs.symm (fun l => [l]) IsLot (fun _ _ _ _ k h => h.tk k) hD2 (by omega) (fun H4 s4 => SqL.of (s4 _ _ upd_same)) ?_ ?_
          · intro j l x H4 H5 P1 P0 hj s4 _ y k1 _
            obtain ⟨rfl, hx⟩ := y
            obtain ⟨l', h1, h2⟩ := EachIs.get (R := fun v l => IsPair v l H2) r3 hx
            have ell : l' = l := by
              have z : (sortL (lotsN n))[j]? = some l' := h1
              rw [hj] at z
              exact (Option.some.inj z).symm
            subst ell
            obtain ⟨t, u, rfl, et, hu⟩ := h2.tk (tk_same (s3.trans s4))
            exact ⟨t, _, rfl, SqT.of et, rfl, _, _, rfl, _, _, rfl, rfl, rfl, kept ⟨_, rfl, k1 u l' _ rfl hu (Same.refl _)⟩⟩
          · intro H4 us s4 e4 r4 _
            rw [flat_map1, List.map_id'] at r4
            have s5 := ((s1.trans s2).trans s3).trans s4
            exact q H4 D2 s5 (((s1.trans s2).trans s3).free hD2) ⟨us, e4, r4⟩

theorem full_none {cs l : Lot} : full cs l = true ↔ (cs.filter fun c => !(l.any fun y => decide (y = c))) = [] := by
  unfold full
  rw [List.filter_eq_nil_iff, List.all_eq_true]
  constructor
  · intro h c hc
    rw [h c hc]
    decide
  · intro h c hc
    have := h c hc
    cases hh : (l.any fun y => decide (y = c)) with
    | true => rfl
    | false =>
      rw [hh] at this
      exact absurd rfl this
theorem eqv_nil (l : Lot) : PyData.eqv (.list (l.map .int)) (.list []) = l.isEmpty := by
  cases l with
  | nil => rfl
  | cons n r => rfl
def spIsPit : Sp := fun vs H Q _ => ∃ (c : Addr) (cov : List Lot) (v : V) (l : Lot), vs = [.ref c, v] ∧ CovAt c cov H ∧ Good cov ∧ IsLot v l H ∧ GoodLot cov.length l ∧ ∀ H', Same H H' → Q (.bl (isPit cov l)) H'
theorem scIsPit : FnScope ["_law_covers_here", "_law_lot", "_law_block", "_law_one"] ["_law_covers_here", "_law_lot"] (defScope sIsPit) := ⟨rfl, rfl, rfl, by decide +kernel, rfl, by decide +kernel, by decide +kernel⟩
theorem ok_isPit {f : Addr} {fd : FuncData} (F : Fun K "_law_is_pit" "_law_is_pit" sIsPit f fd) : FnOk P w K mg base CX0 1 f fd ["_law_covers_here", "_law_lot"] spIsPit := by
  refine F.ok scIsPit (fun vs H Q E h => ?_) (fun cdv A outer s H vs Q E hr h => ?_)
  · obtain ⟨c, cov, v, l, rfl, _⟩ := h
    rfl
  · obtain ⟨c, cov, v, l, rfl, hc, good, ⟨a, rfl, ha⟩, gl, q⟩ := h
    obtain ⟨ws, ec, each, hlen⟩ := hc.len
    have h8 := good.le
    have ll := lot_len gl
    have line : (sizeLine : Nat) = 16777216 := sizeLine_eq
    refine ⟨_, pss_cons (ps_for PassesOwn.never rfl (pi_tup (pv 1)) (pg_name (i := 2) scIsPit.nd rfl (Or.inl rfl))
        (pss_one (ps_if (pt_cmpR (op_neD hr.units) (pe_lc (own := [("_law_one", 3)]) (g := gName 3) (tt := tTest (tOp (rIn K true) (tVar 3) (tVar 1))) rfl scIsPit.nd (pi_tup (pe_ix ix_tup (pv 0) (pv 2) (fun _ _ => rfl))) (blkOk_by (N := ["_law_covers_here", "_law_lot", "_law_block", "_law_one"]) (sc := defScope sIsPit) (by decide +kernel))
            (fun _ _ _ _ _ => pg_name (i := 3) scIsPit.nd rfl (Or.inl rfl)) (fun _ _ _ _ _ => pts_one (pt_cmpR (r := rIn K true) op_notIn_seq (pv 3) (pv 1) (by rfl))) (fun _ _ _ _ _ => pv 3)) (pe_lst pa_nil) (nomark _)) (pss_one (ps_ret pe_bl)) pss_nil)))
      (pss_one (ps_ret pe_bl)), ?_⟩
    refine ⟨_, rfl, a, rfl, ⟨_, SqT.of ha⟩, for_it (walk_tup (xs := l.map V.int)) (fun i σ H1 => ∃ v2 : Option V, σ = [some (.ref c), some (.ref a), v2, none] ∧ Same H H1 ∧ ∀ b ∈ l.take i, full (covAt cov b) l = true)
      ⟨none, rfl, Same.refl _, fun b h => absurd h (by simp)⟩ (fun i σ H1 _ ⟨_, _, s1, _⟩ => SqT.of (s1 _ _ ha)) ?_ ?_⟩
    · rintro i x σ H9 H1 hi ⟨v2, rfl, s1, hp⟩ ⟨rfl, hx⟩
      obtain ⟨n, hn, rfl⟩ := int_at hx
      have hm := List.mem_of_getElem? hn
      have n0 := gl.lo n hm
      have n1 := gl.hi n hm
      have hcs : cov[n.toNat]? = some (covAt cov n) := at_getD (by omega)
      obtain ⟨v, hv, af, rfl, haf⟩ := EachLot.at each hcs
      have gcs := good.ok _ _ hcs
      have lc := lot_len gcs
      refine ⟨_, rfl, _, rfl, c, ws, _, _, rfl, rfl, SqT.of (s1 _ _ ec), at_of (j := n.toNat) (by omega) hv, af, rfl, ⟨_, SqT.of (s1 _ _ haf)⟩, fun D hD => ?_⟩
      refine lc_made (walk_tup (xs := (covAt cov n).map V.int)) (covAt cov n) (List.length_map ..).symm (fun z => if (!(l.any fun y => decide (y = z))) = true then [z] else []) (fun v z _ => v = .int z) (fun _ _ _ _ _ h => h) hD (by rw [List.length_map]; omega) (fun H2 s2 => SqT.of (s2 _ _ (s1 _ _ haf))) ?_ ?_
      · intro j z y H2 H3 P1 P0 hj s2 _ hy k1 k0
        obtain ⟨rfl, hx⟩ := hy
        obtain ⟨z', hz, rfl⟩ := int_at hx
        rw [hj] at hz
        cases hz
        refine ⟨rfl, _, rfl, _, rfl, a, _, rfl, .inr (SqT.of (s2 _ _ (s1 _ _ ha))), rfl, flat_ints l, !(l.any fun y => decide (y = z)), ?_, ite2 (fun h => ⟨_, rfl, k1 _ z _ (if_pos h) rfl (Same.refl _)⟩) (fun h => k0 _ (if_neg h) (Same.refl _))⟩
        show V.bl (!(inV (V.int z) (l.map V.int))) = _
        rw [in_lot]
      · intro H2 ys s2 e2 r2 _
        rw [flat_filter (fun z : Int => !(l.any fun y => decide (y = z))) (fun z : Int => z), List.map_id'] at r2
        rw [each_val (f := V.int) r2] at e2
        refine ⟨Nat.zero_le _, fun e0 he0 => ?_⟩
        have s3 : Same H2 (upd H2 e0 (.lst [])) := same_new he0
        refine ⟨.list _, .list [], .lst (SqL.of (s3 _ _ e2)) (dp_ints _), .lst (SqL.of upd_same) .nil, PySem.W.ke_shaped_ints _, PySem.W.ke_shaped_ints [], _, rfl, ?_⟩
        rw [eqv_nil]
        cases hfl : (covAt cov n).filter fun z => !(l.any fun y => decide (y = z)) with
        | nil =>
          refine ifbn rfl ⟨_, rfl, (s1.trans s2).trans s3, fun b hb => ?_⟩
          rw [List.take_add_one, hn] at hb
          rcases List.mem_append.mp hb with h | h
          · exact hp b h
          · have eb : b = n := by simpa using h
            rw [eb]
            exact full_none.mpr hfl
        | cons z r =>
          have hf : isPit cov l = false := by
            cases h : isPit cov l with
            | false => rfl
            | true =>
              have h2 := full_none.mp (List.all_eq_true.mp h n hm)
              rw [hfl] at h2
              cases h2
          have qq := q _ ((s1.trans s2).trans s3)
          rw [hf] at qq
          exact ifb rfl qq
    · rintro σ H1 ⟨v2, rfl, s1, hp⟩
      rw [List.length_map, List.take_length] at hp
      have hf : isPit cov l = true := List.all_eq_true.mpr hp
      have qq := q _ s1
      rw [hf] at qq
      exact qq

def spLPits : Sp := fun vs H Q _ => ∃ (c : Addr) (cov : List Lot), vs = [.ref c] ∧ CovAt c cov H ∧ Good cov ∧ ∀ H' p, Same H H' → H p = none → LotsAt p (lawPits cov) H' → Q (.ref p) H'
theorem scLPits : FnScope ["_law_covers_here", "_law_lot"] ["_law_covers_here"] (defScope sLPits) := ⟨rfl, rfl, rfl, by decide +kernel, rfl, by decide +kernel, by decide +kernel⟩
theorem ok_lpits {C f : Addr} {fd : FuncData} (F : Fun K "_law_pits" "_law_pits" sLPits f fd) (T : Txt K mg C) (DL : Def P w K mg base 1 "_law_lots" ["_law_many"] spLots) (DI : Def P w K mg base 1 "_law_is_pit" ["_law_covers_here", "_law_lot"] spIsPit) : FnOk P w K mg base CX0 2 f fd ["_law_covers_here"] spLPits := by
  refine F.ok scLPits (fun vs H Q E h => ?_) (fun cdv A outer s H vs Q E hr h => ?_)
  · obtain ⟨c, cov, rfl, _⟩ := h
    rfl
  · obtain ⟨c, cov, rfl, hc, good, q⟩ := h
    obtain ⟨ws, ec, each, hlen⟩ := hc.len
    have h8 := good.le
    refine ⟨_, pss_one (ps_ret (pe_lc (own := [("_law_lot", 1)]) (g := gName 1) (tt := tB (tCall spIsPit [] E0 (tCons (tVar 0) (tCons (tVar 1) tNil)))) rfl scLPits.nd (pi_list (pe_def DL hr (by rfl) (pa_cons (pe_callB call_len_seq (by rfl) T.len PySem.boot_len (pa_cons (pv 0) pa_nil)) pa_nil)))
      (blkOk_by (N := ["_law_covers_here", "_law_lot"]) (sc := defScope sLPits) (by decide +kernel)) (fun _ _ _ _ _ => pg_name (i := 1) scLPits.nd rfl (Or.inl rfl)) (fun _ _ _ _ _ => pts_one (pt_val (pe_def DI hr (by rfl) (pa_cons (pv 0) (pa_cons (pv 1) pa_nil))))) (fun _ _ _ _ _ => pv 1))), ?_⟩
    refine ⟨_, rfl, c, ws, rfl, .inr (SqT.of ec), cov.length, by rw [hlen]; rfl, h8, fun H1 p s1 np hL => ?_⟩
    obtain ⟨us, ea, eachL⟩ := hL
    have hso := sort_len (lotsN cov.length)
    have lp := lots_len cov.length
    have l2 : 2 ^ cov.length ≤ 256 := pow_le8 h8
    have hus : us.length = (sortL (lotsN cov.length)).length := eachL.length
    refine ⟨p, rfl, ⟨_, SqL.of ea⟩, fun D hD => ?_⟩
    refine lc_made (walk_list (xs := us)) (sortL (lotsN cov.length)) hus.symm (fun l => if isPit cov l = true then [l] else []) IsLot (fun _ _ _ _ k h => h.tk k) hD (small1000 (by omega)) (fun H2 s2 => SqL.of (s2 _ _ ea)) ?_ ?_
    · intro j l x H2 H3 P1 P0 hj s2 _ y k1 k0
      obtain ⟨rfl, hx⟩ := y
      have hl := (each_get eachL hx hj).tk (tk_same s2)
      have gl := lots_good _ _ (sort_mem.mp (List.mem_of_getElem? hj))
      refine ⟨rfl, _, rfl, _, rfl, c, cov, x, l, rfl, hc.same (s1.trans s2), good, hl, gl, fun H3 s3 => ⟨_, rfl, ite2 (fun h => ⟨_, rfl, k1 x l _ (if_pos h) (hl.tk (tk_same s3)) s3⟩) (fun h => k0 _ (if_neg h) s3)⟩⟩
    · intro H2 ys s2 e2 r2 _
      rw [flat_filter (isPit cov) (fun l : Lot => l), List.map_id'] at r2
      exact q H2 D (s1.trans s2) (s1.free hD) ⟨ys, e2, r2⟩

theorem scLSum : FnScope ["_law_worths_here", "_law_lot", "_law_block"] ["_law_worths_here", "_law_lot"] (defScope sLSum) := ⟨rfl, rfl, rfl, by decide +kernel, rfl, by decide +kernel, by decide +kernel⟩
theorem ok_lsum {C f : Addr} {fd : FuncData} (F : Fun K "_law_sum" "_law_sum" sLSum f fd) (T : Txt K mg C) : FnOk P w K mg base CX0 1 f fd ["_law_worths_here", "_law_lot"] spSum := by
  refine F.ok scLSum (fun vs H Q E h => ?_) (fun cdv A outer s H vs Q E hr h => ?_)
  · obtain ⟨v, u, wl, l, rfl, _⟩ := h
    rfl
  · obtain ⟨v, u, wl, l, rfl, ⟨a, rfl, ha⟩, ⟨b, rfl, hb⟩, gl, hz, q⟩ := h
    have ll := lot_len gl
    refine ⟨_, pss_one (ps_ret (pe_callB (cr_sum rfl) (by rfl) T.sum boot_sum (pa_cons (pe_lc (own := [("_law_block", 2)]) (g := gName 2) (tt := tYes) rfl scLSum.nd (pi_tup (pv 1)) (blkOk_by (N := ["_law_worths_here", "_law_lot", "_law_block"]) (sc := defScope sLSum) (by decide +kernel))
      (fun _ _ _ _ _ => pg_name (i := 2) scLSum.nd rfl (Or.inl rfl)) (fun _ _ _ _ _ => pts_nil) (fun _ _ _ _ _ => pe_ix (r := rIxT K) ix_tup (pv 0) (pv 2) (fun _ _ => rfl))) pa_nil))), ?_⟩
    refine ⟨_, rfl, b, rfl, ⟨_, SqT.of hb⟩, fun D hD => ?_⟩
    refine lc_made (walk_tup (xs := l.map V.int)) l (List.length_map ..).symm (fun n => [wAt wl n]) (fun v z _ => v = .int z) (fun _ _ _ _ _ h => h) hD (by rw [List.length_map]; exact small1000 (by omega)) (fun H1 s1 => SqT.of (s1 _ _ hb)) ?_ ?_
    · intro i n x H1 H2 P1 P0 hi s1 _ y k1 _
      obtain ⟨rfl, hx⟩ := y
      obtain ⟨n', hn, rfl⟩ := int_at hx
      rw [hi] at hn
      cases hn
      have hm := List.mem_of_getElem? hi
      obtain ⟨j, ej, hj⟩ := get_of (l := wl) (gl.lo n hm) (gl.hi n hm)
      exact ⟨rfl, kept ⟨_, rfl, _, rfl, a, _, n, _, rfl, rfl, SqT.of (s1 _ _ ha), at_of ej (at_int hj), k1 _ _ _ rfl rfl (Same.refl _)⟩⟩
    · intro H1 ys s1 e r _
      rw [flat_map1] at r
      rw [each_val (f := V.int) r] at e
      exact ⟨D, _, rfl, SqL.of e, q _ s1⟩

def spLBest : Sp := fun vs H Q _ => ∃ (c : Addr) (cov : List Lot) (v : V) (wl : List Int), vs = [.ref c, v] ∧ CovAt c cov H ∧ Good cov ∧ IsLot v wl H ∧ GoodW cov wl ∧ ∀ H' p, Same H H' → H p = none → LotsAt p (bestL cov wl) H' → Q (.ref p) H'
theorem scLBest : FnScope ["_law_covers_here", "_law_worths_here", "_law_some", "_law_most", "_law_pit"] ["_law_covers_here", "_law_worths_here"] (defScope sLBest) := ⟨rfl, rfl, rfl, by decide +kernel, rfl, by decide +kernel, by decide +kernel⟩
theorem ok_lbest {C f : Addr} {fd : FuncData} (F : Fun K "_law_best" "_law_best" sLBest f fd) (T : Txt K mg C) (DP : Def P w K mg base 2 "_law_pits" ["_law_covers_here"] spLPits) (DS : Def P w K mg base 1 "_law_sum" ["_law_worths_here", "_law_lot"] spSum) :
    FnOk P w K mg base CX0 3 f fd ["_law_covers_here", "_law_worths_here"] spLBest := by
  refine F.ok scLBest (fun vs H Q E h => ?_) (fun cdv A outer s H vs Q E hr h => ?_)
  · obtain ⟨c, cov, v, wl, rfl, _⟩ := h
    rfl
  · obtain ⟨c, cov, v, wl, rfl, hc, good, hv, gw, q⟩ := h
    have h8 := good.le
    have hw := gw.len
    refine ⟨_, pss_cons (ps_set (i := 2) scLBest.nd rfl (Or.inl rfl) (pe_def DP hr (by rfl) (pa_cons (pv 0) pa_nil)))
      (pss_cons (ps_set (i := 3) scLBest.nd rfl (Or.inr rfl) (pe_callB (cr_max rfl) (by rfl) T.max boot_max (pa_cons (pe_lc (own := [("_law_pit", 4)]) (g := gName 4) (tt := tYes) rfl scLBest.nd (pi_list (pv 2)) (blkOk_by (N := ["_law_covers_here", "_law_worths_here", "_law_some", "_law_most", "_law_pit"]) (sc := defScope sLBest) (by decide +kernel))
        (fun _ _ _ _ _ => pg_name (i := 4) scLBest.nd rfl (Or.inl rfl)) (fun _ _ _ _ _ => pts_nil) (fun _ _ _ _ _ => pe_def DS (hr.mono (by decide)) (by rfl) (pa_cons (pv 1) (pa_cons (pv 4) pa_nil)))) pa_nil)))
      (pss_one (ps_ret (pe_lc (own := [("_law_pit", 4)]) (g := gName 4) (tt := tTest (tOp rEq (tCall spSum [] E0 (tCons (tVar 1) (tCons (tVar 4) tNil))) (tVar 3))) rfl scLBest.nd (pi_list (pv 2)) (blkOk_by (N := ["_law_covers_here", "_law_worths_here", "_law_some", "_law_most", "_law_pit"]) (sc := defScope sLBest) (by decide +kernel))
        (fun _ _ _ _ _ => pg_name (i := 4) scLBest.nd rfl (Or.inl rfl)) (fun _ _ _ _ _ => pts_one (pt_cmpR op_eq (pe_def DS (hr.mono (by decide)) (by rfl) (pa_cons (pv 1) (pa_cons (pv 4) pa_nil))) (pv 3) (nomark _))) (fun _ _ _ _ _ => pv 4))))), ?_⟩
    refine ⟨_, rfl, c, cov, rfl, hc, good, fun H1 p s1 np hL => ?_⟩
    rw [pits_eq good] at hL
    have gls : ∀ l, l ∈ progPits cov → GoodLot wl.length l := fun l hl => by rw [hw]; exact prog_good hl
    have hlen := prog_len good
    obtain ⟨us, ea, each⟩ := hL
    have hus : us.length = (progPits cov).length := each.length
    have hv1 := hv.tk (tk_same s1)
    refine ⟨_, rfl, p, rfl, ⟨_, SqL.of ea⟩, fun D hD => ?_⟩
    refine lc_made (walk_list (xs := us)) (progPits cov) hus.symm (fun l => [sumL wl l]) (fun v z _ => v = .int z) (fun _ _ _ _ _ h => h) hD (small1000 (by omega)) (fun H2 s2 => SqL.of (s2 _ _ ea)) ?_ ?_
    · intro i l x H2 H3 P1 P0 hi s2 _ y k1 _
      obtain ⟨rfl, hx⟩ := y
      have hl := (each_get each hx hi).tk (tk_same s2)
      exact ⟨rfl, kept ⟨_, rfl, _, rfl, v, x, wl, l, rfl, hv1.tk (tk_same s2), hl, gls l (List.mem_of_getElem? hi), by omega, fun H3 s3 => k1 _ _ _ rfl rfl s3⟩⟩
    · intro H2 ys s2 e2 r2 _
      rw [flat_map1] at r2
      rw [each_val (f := V.int) r2] at e2
      refine ⟨D, _, rfl, SqL.of e2, by rw [List.length_map]; exact ne_len (prog_ne cov), fun m hm hle => ?_⟩
      rw [max_one hm hle]
      have ea2 := s2 _ _ ea
      refine ⟨_, rfl, p, rfl, ⟨_, SqL.of ea2⟩, fun D2 hD2 => ?_⟩
      refine lc_made (walk_list (xs := us)) (progPits cov) hus.symm (fun l => if decide (sumL wl l = mostOf wl (progPits cov)) = true then [l] else []) IsLot (fun _ _ _ _ k h => h.tk k) hD2 (small1000 (by omega)) (fun H3 s3 => SqL.of (s3 _ _ ea2)) ?_ ?_
      · intro i l x H3 H4 P1 P0 hi s3 _ y k1 k0
        obtain ⟨rfl, hx⟩ := y
        have hl := (each_get each hx hi).tk (tk_same (s2.trans s3))
        refine ⟨rfl, _, rfl, _, rfl, v, x, wl, l, rfl, hv1.tk (tk_same (s2.trans s3)), hl, gls l (List.mem_of_getElem? hi), by omega, fun H4 s4 => ⟨_, rfl, rfl, _, rfl, ?_⟩⟩
        rw [dec_ints]
        exact ite2 (fun h => ⟨_, rfl, k1 x l _ (if_pos h) (hl.tk (tk_same s4)) s4⟩) (fun h => k0 _ (if_neg h) s4)
      · intro H3 zs s3 e3 r3 _
        rw [flat_filter (fun l => decide (sumL wl l = mostOf wl (progPits cov))) (fun l : Lot => l), List.map_id'] at r3
        exact q H3 D2 ((s1.trans s2).trans s3) ((s1.trans s2).free hD2) ⟨zs, e3, r3⟩
end
end K8

/-! _law_alike: equal data are alike. -/
namespace K8
open PySem PySem.Spec PyProof.Rows L2 StX

/-- data: an int, or a list (true), a tuple (false) of data -/
inductive Dt where
  | int (i : Int)
  | seq (b : Bool) (xs : List Dt)
def sq (b : Bool) (vs : List V) : HO := cond b (.lst vs) (.tup vs)
def nmS (b : Bool) : String := cond b "list" "tuple"
/-- what stands for d, down to a depth -/
def AtD : Nat → V → Dt → Hp → Prop
  | 0, v, d, _ => ∃ i : Int, d = .int i ∧ v = .int i
  | n + 1, v, d, H => (∃ i : Int, d = .int i ∧ v = .int i) ∨ ∃ (b : Bool) (a : Addr) (vs : List V) (ds : List Dt), d = .seq b ds ∧ v = .ref a ∧ H a = some (sq b vs) ∧ vs.length ≤ 1000 ∧ PySem.W.EachIs (fun v d => AtD n v d H) vs ds
theorem each_mono {α β : Type} {R R' : α → β → Prop} (h : ∀ a b, R a b → R' a b) {as : List α} {bs : List β} (e : PySem.W.EachIs R as bs) : PySem.W.EachIs R' as bs := e.mono h
theorem AtD.same : ∀ {n : Nat} {v : V} {d : Dt} {H H' : Hp}, Same H H' → AtD n v d H → AtD n v d H'
  | 0, _, _, _, _, _, h => h
  | n + 1, _, _, _, _, s, .inl h => .inl h
  | n + 1, _, _, _, _, s, .inr ⟨b, a, vs, ds, e1, e2, e3, e4, e5⟩ => .inr ⟨b, a, vs, ds, e1, e2, s _ _ e3, e4, e5.mono fun _ _ q => AtD.same s q⟩
theorem AtD.int (n : Nat) (i : Int) (H : Hp) : AtD n (.int i) (.int i) H := by
  cases n with
  | zero => exact ⟨i, rfl, rfl⟩
  | succ n => exact .inl ⟨i, rfl, rfl⟩
section
variable {K : PySem.W.Frag} {H : Hp} {a : Addr} {vs : List V}
theorem sq_seq {b : Bool} (h : H a = some (sq b vs)) : SqL K H a vs ∨ SqT K H a vs := by
  cases b with
  | true => exact .inl (SqL.of h)
  | false => exact .inr (SqT.of h)
theorem sq_ix {b : Bool} {i : Int} {j : Nat} {v : V} {Q : VK} (h : H a = some (sq b vs)) (ei : i = (j : Int)) (hv : vs[j]? = some v) (q : Q v H) : rIx K (.ref a) (.int i) H Q := by
  cases b with
  | true => exact .inl ⟨a, vs, i, v, rfl, rfl, SqL.of h, at_of ei hv, q⟩
  | false => exact .inr (.inl ⟨a, vs, i, v, rfl, rfl, SqT.of h, at_of ei hv, q⟩)
theorem sq_ty {b : Bool} (h : H a = some (sq b vs)) : TyX K H (.ref a) (.type (nmS b)) := by
  cases b with
  | true => exact .base (.lst h)
  | false => exact .base (.tup h)
theorem kit_list (b : Bool) : PySem.W.kitOne K (.type (nmS b)) (.type "list") = some b := by
  cases b with
  | true => exact kit_ty (by decide +kernel)
  | false => exact kit_ty (by decide +kernel)
theorem kit_both (b : Bool) : PySem.W.kitAny K (.type (nmS b)) [.type "tuple", .type "list"] = some true := by
  cases b with
  | true => exact kitAny_cons (b := false) (kit_ty (by decide +kernel)) (fun _ => kitAny_cons (b := true) (kit_ty (by decide +kernel)) (fun h => nomatch h) fun _ => rfl) fun h => nomatch h
  | false => exact kitAny_cons (b := true) (kit_ty (by decide +kernel)) (fun h => nomatch h) fun _ => rfl
theorem kit_none : PySem.W.kitAny K (.type "int") [.type "tuple", .type "list"] = some false :=
  kitAny_cons (b := false) (kit_ty (by decide +kernel)) (fun _ => kitAny_cons (b := false) (kit_ty (by decide +kernel)) (fun _ => kitAny_nil) fun h => nomatch h) fun h => nomatch h
theorem two_cls : Paired ClsV [.ty "tuple", .ty "list"] [.type "tuple", .type "list"] := .cons (.ty _) (.cons (.ty _) .nil)
end
def spAlike (n : Nat) : Sp := fun vs H Q _ => ∃ (x y : V) (d : Dt), vs = [x, y] ∧ AtD n x d H ∧ AtD n y d H ∧ ∀ H', Same H H' → Q (.bl true) H'
section
variable {P : Program} {w : World} {K : PySem.W.Frag} {mg : Str → Option Value} {base : Heap}
theorem scAlike : FnScope ["_law_found", "_law_due", "_law_k"] ["_law_found", "_law_due"] (defScope sAlike) := ⟨rfl, rfl, rfl, by decide +kernel, rfl, by decide +kernel, by decide +kernel⟩
/-- the end of the walk for ints -/
theorem ok_alike0 {C f : Addr} {fd : FuncData} (F : Fun K "_law_alike" "_law_alike" sAlike f fd) (T : Txt K mg C) : FnOk P w K mg base CX0 1 f fd ["_law_found", "_law_due"] (spAlike 0) := by
  refine F.ok scAlike (fun vs H Q E h => ?_) (fun cdv A outer s H vs Q E hr h => ?_)
  · obtain ⟨x, y, d, rfl, _⟩ := h
    rfl
  · obtain ⟨x, y, d, rfl, ⟨i, rfl, rfl⟩, ⟨i', e, rfl⟩, q⟩ := h
    cases e
    refine ⟨_, pss_cons (ps_if (pt_val (pe_callB call_isiT (by rfl) T.isi boot_isinstance (pa_cons (pv 1) (pa_cons (pe_tup (pa_cons (pe_bltn (v := .ty "tuple") (by rfl) T.tuple (by decide +kernel) rfl) (pa_cons (pe_bltn (v := .ty "list") (by rfl) T.list (by decide +kernel) rfl) pa_nil))) pa_nil)))) pss_never pss_nil)
      (pss_cons (ps_if (PW.pt (pw_or (pt_cmpR op_isN (pv 1) pe_non (nomark _)) (pw_or1 (pt_val (pe_callB call_isi (by rfl) T.isi boot_isinstance (pa_cons (pv 1) (pa_cons (pe_bltn (v := .ty "str") (by rfl) T.str (by decide +kernel) rfl) pa_nil))))))) pss_never pss_nil)
      (pss_one (ps_ret (pe_and (pe_callB call_isi (by rfl) T.isi boot_isinstance (pa_cons (pv 0) (pa_cons (pe_bltn (v := .ty "int") (by rfl) T.int (by decide +kernel) rfl) pa_nil)))
        (pe_and (pe_cmpR op_eq (pe_callB call_isi (by rfl) T.isi boot_isinstance (pa_cons (pv 0) (pa_cons (pe_bltn (v := .ty "bool") (by rfl) T.bool (by decide +kernel) rfl) pa_nil))) (pe_callB call_isi (by rfl) T.isi boot_isinstance (pa_cons (pv 1) (pa_cons (pe_bltn (v := .ty "bool") (by rfl) T.bool (by decide +kernel) rfl) pa_nil))) (nomark _))
        (pe_one (pe_cmpR op_eq (pv 0) (pv 1) (nomark _)))))))), ?_⟩
    refine ⟨_, rfl, (by show 2 ≤ sizeLine; decide), fun p hp => ⟨_, p, _, _, _, false, rfl, upd_same, two_cls, .base (.int i), kit_none, false, rfl, ifbn rfl ?_⟩⟩
    refine ⟨_, rfl, rfl, false, rfl, ifbn rfl ⟨_, rfl, _, .ty "str", .type "int", .type "str", false, rfl, .ty _, .base (.int i), kit_ty (by decide +kernel), false, rfl, ifbn rfl ?_⟩⟩
    refine ⟨_, rfl, _, .ty "int", .type "int", .type "int", true, rfl, .ty _, .base (.int i), kit_ty (by decide +kernel), true, rfl, ifb rfl ?_⟩
    refine ⟨_, rfl, _, .ty "bool", .type "int", .type "bool", false, rfl, .ty _, .base (.int i), kit_ty (by decide +kernel), _, rfl, _, .ty "bool", .type "int", .type "bool", false, rfl, .ty _, .base (.int i), kit_ty (by decide +kernel), rfl, _, rfl, ifd rfl ?_⟩
    refine ⟨_, rfl, _, rfl, rfl, ?_⟩
    rw [decide_eq_true rfl]
    exact q _ (same_new hp)
theorem ok_alike {C f : Addr} {fd : FuncData} (F : Fun K "_law_alike" "_law_alike" sAlike f fd) (T : Txt K mg C) (gA : mg "_law_alike" = some (.ref f)) (kA : PySem.W.keepIn K (.ref f) = true) (bA : Binds K fd ["_law_found", "_law_due"] []) : ∀ n : Nat, FnOk P w K mg base CX0 (n + 1) f fd ["_law_found", "_law_due"] (spAlike n)
  | 0 => ok_alike0 F T
  | n + 1 => by
    have DA : Def P w K mg base (n + 1) "_law_alike" ["_law_found", "_law_due"] (spAlike n) := ⟨f, fd, ok_alike F T gA kA bA n, gA, kA, bA⟩
    refine F.ok scAlike (fun vs H Q E h => ?_) (fun cdv A outer s H vs Q E hr h => ?_)
    · obtain ⟨x, y, d, rfl, _⟩ := h
      rfl
    · obtain ⟨x, y, d, rfl, h1, h2, q⟩ := h
      refine ⟨_, pss_cons (ps_if (pt_val (pe_callB call_isiT (by rfl) T.isi boot_isinstance (pa_cons (pv 1) (pa_cons (pe_tup (pa_cons (pe_bltn (v := .ty "tuple") (by rfl) T.tuple (by decide +kernel) rfl) (pa_cons (pe_bltn (v := .ty "list") (by rfl) T.list (by decide +kernel) rfl) pa_nil))) pa_nil))))
          (pss_cons (ps_if (PW.pt (pw_or (pt_not (pt_val (pe_callB call_isiT (by rfl) T.isi boot_isinstance (pa_cons (pv 0) (pa_cons (pe_tup (pa_cons (pe_bltn (v := .ty "tuple") (by rfl) T.tuple (by decide +kernel) rfl) (pa_cons (pe_bltn (v := .ty "list") (by rfl) T.list (by decide +kernel) rfl) pa_nil))) pa_nil)))))
            (pw_or1 (pt_cmpR op_ne (pe_callB call_isi (by rfl) T.isi boot_isinstance (pa_cons (pv 0) (pa_cons (pe_bltn (v := .ty "list") (by rfl) T.list (by decide +kernel) rfl) pa_nil))) (pe_callB call_isi (by rfl) T.isi boot_isinstance (pa_cons (pv 1) (pa_cons (pe_bltn (v := .ty "list") (by rfl) T.list (by decide +kernel) rfl) pa_nil))) (nomark _))))) pss_never pss_nil)
          (pss_cons (ps_if (pt_cmpR op_ne (pe_callB call_len_seq (by rfl) T.len PySem.boot_len (pa_cons (pv 0) pa_nil)) (pe_callB call_len_seq (by rfl) T.len PySem.boot_len (pa_cons (pv 1) pa_nil)) (nomark _)) pss_never pss_nil)
          (pss_one (ps_ret (pe_cmpR (op_eqD hr.units) (pe_lc (own := [("_law_k", 2)]) (g := gName 2) (tt := tNot (tB (tCall (spAlike n) [] E0 (tCons (tOp (rIx K) (tVar 0) (tVar 2)) (tCons (tOp (rIx K) (tVar 1) (tVar 2)) tNil))))) rfl scAlike.nd (pi_range1 (by rfl) T.range (pa_cons (pe_callB call_len_seq (by rfl) T.len PySem.boot_len (pa_cons (pv 1) pa_nil)) pa_nil))
            (blkOk_by (N := ["_law_found", "_law_due", "_law_k"]) (sc := defScope sAlike) (by decide +kernel)) (fun _ _ _ _ _ => pg_name (i := 2) scAlike.nd rfl (Or.inl rfl)) (fun _ _ _ _ _ => pts_one (pt_not (pt_val (pe_def DA hr (by rfl) (pa_cons (pe_ix (r := rIx K) ix_seq (pv 0) (pv 2) (fun _ _ => rfl)) (pa_cons (pe_ix (r := rIx K) ix_seq (pv 1) (pv 2) (fun _ _ => rfl)) pa_nil)))))) (fun _ _ _ _ _ => pv 2)) (pe_lst pa_nil) (nomark _)))))) pss_nil)
        (pss_cons (ps_if (PW.pt (pw_or (pt_cmpR op_isN (pv 1) pe_non (nomark _)) (pw_or1 (pt_val (pe_callB call_isi (by rfl) T.isi boot_isinstance (pa_cons (pv 1) (pa_cons (pe_bltn (v := .ty "str") (by rfl) T.str (by decide +kernel) rfl) pa_nil))))))) pss_never pss_nil)
        (pss_one (ps_ret (pe_and (pe_callB call_isi (by rfl) T.isi boot_isinstance (pa_cons (pv 0) (pa_cons (pe_bltn (v := .ty "int") (by rfl) T.int (by decide +kernel) rfl) pa_nil)))
          (pe_and (pe_cmpR op_eq (pe_callB call_isi (by rfl) T.isi boot_isinstance (pa_cons (pv 0) (pa_cons (pe_bltn (v := .ty "bool") (by rfl) T.bool (by decide +kernel) rfl) pa_nil))) (pe_callB call_isi (by rfl) T.isi boot_isinstance (pa_cons (pv 1) (pa_cons (pe_bltn (v := .ty "bool") (by rfl) T.bool (by decide +kernel) rfl) pa_nil))) (nomark _))
          (pe_one (pe_cmpR op_eq (pv 0) (pv 1) (nomark _)))))))), ?_⟩
      rcases h2 with ⟨i, rfl, rfl⟩ | ⟨b, a2, us, ds, rfl, rfl, e2, l2, each2⟩
      · -- an int
        rcases h1 with ⟨i', e, rfl⟩ | ⟨_, _, _, _, e, _⟩
        · cases e
          refine ⟨_, rfl, (by show 2 ≤ sizeLine; decide), fun p hp => ⟨_, p, _, _, _, false, rfl, upd_same, two_cls, .base (.int i), kit_none, false, rfl, ifbn rfl ?_⟩⟩
          refine ⟨_, rfl, rfl, false, rfl, ifbn rfl ⟨_, rfl, _, .ty "str", .type "int", .type "str", false, rfl, .ty _, .base (.int i), kit_ty (by decide +kernel), false, rfl, ifbn rfl ?_⟩⟩
          refine ⟨_, rfl, _, .ty "int", .type "int", .type "int", true, rfl, .ty _, .base (.int i), kit_ty (by decide +kernel), true, rfl, ifb rfl ?_⟩
          refine ⟨_, rfl, _, .ty "bool", .type "int", .type "bool", false, rfl, .ty _, .base (.int i), kit_ty (by decide +kernel), _, rfl, _, .ty "bool", .type "int", .type "bool", false, rfl, .ty _, .base (.int i), kit_ty (by decide +kernel), rfl, _, rfl, ifd rfl ?_⟩
          refine ⟨_, rfl, _, rfl, rfl, ?_⟩
          rw [decide_eq_true rfl]
          exact q _ (same_new hp)
        · cases e
      · -- a list or a tuple
        rcases h1 with ⟨i', e, rfl⟩ | ⟨b', a1, vs, ds', e, rfl, e1, l1, each1⟩
        · cases e
        · cases e
          have lv : vs.length = us.length := each1.length.trans each2.length.symm
          refine ⟨_, rfl, (by show 2 ≤ sizeLine; decide), fun p hp => ?_⟩
          have s1 := same_new (o := .tup [.ty "tuple", .ty "list"]) hp
          refine ⟨_, p, _, _, _, true, rfl, upd_same, two_cls, sq_ty (s1 _ _ e2), kit_both b, true, rfl, ifb rfl ?_⟩
          refine ⟨_, rfl, (by show 2 ≤ sizeLine; decide), fun p2 hp2 => ?_⟩
          have s2 := same_new (o := .tup [.ty "tuple", .ty "list"]) hp2
          have s12 := s1.trans s2
          have f1 := s12 _ _ e1
          have f2 := s12 _ _ e2
          refine ⟨_, p2, _, _, _, true, rfl, upd_same, two_cls, sq_ty f1, kit_both b, true, rfl, ifbn rfl ?_⟩
          refine ⟨_, rfl, _, .ty "list", _, .type "list", b, rfl, .ty _, sq_ty f1, kit_list b, _, rfl, _, .ty "list", _, .type "list", b, rfl, .ty _, sq_ty f2, kit_list b, rfl, false, ?_, ifbn rfl ?_⟩
          · rw [decide_eq_true rfl]
            rfl
          refine ⟨_, rfl, a1, vs, rfl, sq_seq f1, _, rfl, a2, us, rfl, sq_seq f2, rfl, false, ?_, ifbn rfl ?_⟩
          · rw [lv, decide_eq_true rfl]
            rfl
          refine ⟨_, rfl, a2, us, rfl, sq_seq f2, _, rfl, by omega, by omega, fun D hD => ?_⟩
          rw [show ((us.length : Int)).toNat = us.length from Int.toNat_natCast _]
          refine lc_made walk_range (List.range us.length) (List.length_range ..) (fun _ => ([] : List Unit)) (fun v _ _ => False) (fun _ _ _ _ _ h => h) hD (small1000 l2) (fun _ _ => trivial) ?_ ?_
          · intro i _ x H2 H3 P1 P0 hi s3 _ y _ k0
            obtain ⟨rfl, rfl⟩ := y
            have hi' : i < us.length := by
              have := (List.getElem?_eq_some_iff.mp hi).1
              rwa [List.length_range] at this
            have g2 : us[i]? = some us[i] := List.getElem?_eq_getElem hi'
            have g1 : vs[i]? = some (vs[i]'(by omega)) := List.getElem?_eq_getElem _
            obtain ⟨d2, z2, r2⟩ := EachIs.get (R := fun v d => AtD n v d H) each2 g2
            obtain ⟨d1, z1, r1⟩ := EachIs.get (R := fun v d => AtD n v d H) each1 g1
            rw [z2] at z1
            cases z1
            have s5 := s12.trans s3
            refine ⟨rfl, _, rfl, _, rfl, sq_ix (s3 _ _ f1) (Int.zero_add _) g1 ⟨_, rfl, _, rfl, sq_ix (s3 _ _ f2) (Int.zero_add _) g2 ?_⟩⟩
            exact ⟨_, _, d2, rfl, r1.same s5, r2.same s5, fun H4 s4 => ⟨true, rfl, ifbn rfl (k0 _ rfl s4)⟩⟩
          · intro H2 ys s3 e3 r3 _
            have ey : ys = [] := by
              have hn : (List.range us.length).flatMap (fun _ => ([] : List Unit)) = [] := by simp
              rw [hn] at r3
              cases r3
              rfl
            rw [ey] at e3
            refine ⟨Nat.zero_le _, fun e0 he0 => ?_⟩
            have s4 := same_new (o := .lst []) he0
            exact ⟨.list [], .list [], .lst (SqL.of (s4 _ _ e3)) .nil, .lst (SqL.of upd_same) .nil, PySem.W.ke_shaped_ints [], PySem.W.ke_shaped_ints [], q _ ((s12.trans s3).trans s4)⟩
end
end K8

/-! The law. -/
namespace K8
open PySem PySem.Spec PyProof.Rows L2 StX

def dLot (l : Lot) : Dt := .seq false (l.map Dt.int)
def dLots (ls : List Lot) : Dt := .seq true (ls.map dLot)
theorem ints_dt {n : Nat} {H : Hp} : ∀ l : Lot, PySem.W.EachIs (fun v d => AtD n v d H) (l.map V.int) (l.map Dt.int)
  | [] => .nil
  | i :: r => .cons (AtD.int n i H) (ints_dt r)
theorem lot_dt {n : Nat} {v : V} {l : Lot} {H : Hp} (h : IsLot v l H) (hl : l.length ≤ 1000) : AtD (n + 1) v (dLot l) H := by
  obtain ⟨a, rfl, ha⟩ := h
  exact .inr ⟨false, a, l.map V.int, l.map Dt.int, rfl, rfl, ha, by rw [List.length_map]; exact hl, ints_dt l⟩
theorem each_dt {n : Nat} {H : Hp} : ∀ {vs : List V} {ls : List Lot}, EachLot vs ls H → (∀ l, l ∈ ls → l.length ≤ 1000) → PySem.W.EachIs (fun v d => AtD (n + 1) v d H) vs (ls.map dLot)
  | _, _, .nil, _ => .nil
  | _, _, .cons h t, hl => .cons (lot_dt h (hl _ (List.mem_cons_self ..))) (each_dt t fun l hm => hl l (List.mem_cons_of_mem _ hm))
theorem lots_dt {n : Nat} {p : Addr} {ls : List Lot} {H : Hp} (h : LotsAt p ls H) (hn : ls.length ≤ 1000) (hl : ∀ l, l ∈ ls → l.length ≤ 1000) : AtD (n + 2) (.ref p) (dLots ls) H := by
  obtain ⟨vs, e, each⟩ := h
  have lv : vs.length = ls.length := each.length
  exact .inr ⟨true, p, vs, ls.map dLot, rfl, rfl, e, by omega, each_dt each hl⟩
theorem two_dt {n : Nat} {p : Addr} {x y : V} {d e : Dt} {H : Hp} (h : H p = some (.lst [x, y])) (hx : AtD n x d H) (hy : AtD n y e H) : AtD (n + 1) (.ref p) (.seq true [d, e]) H :=
  .inr ⟨true, p, [x, y], [d, e], rfl, rfl, h, by show 2 ≤ 1000; decide, .cons hx (.cons hy .nil)⟩
theorem GroundAt.but {C g c r a : Addr} {cov : List Lot} {H H' : Hp} (h : GroundAt C g c cov H) (nr : g ≠ r) (rw' : Row r a H) (b : But r H H') : GroundAt C g c cov H' := by
  obtain ⟨⟨dx, e⟩, q⟩ := h
  exact ⟨⟨dx, b _ _ nr e⟩, q.tk (rw'.tk b)⟩
theorem mem_head {ls : List Lot} (h : ls ≠ []) : headL ls ∈ ls := List.mem_of_getElem? (head_at h)
theorem mem_last {ls : List Lot} (h : ls ≠ []) : lastL ls ∈ ls := List.mem_of_getElem? (last_at h)
def spLaw (K : PySem.W.Frag) : Sp := fun vs H Q _ => ∃ (a : Addr) (ns : List Int), vs = [.ref a] ∧ SqL K H a (ns.map V.int) ∧ ns.length ≤ 63 ∧ ∀ H', Q (.bl true) H'
section
variable {P : Program} {w : World} {K : PySem.W.Frag} {mg : Str → Option Value} {base : Heap}
theorem scLaw : FnScope ["_law_script", "_law_row", "_law_covers_here", "_law_ground", "_law_many", "_law_turn", "_law_worths_here", "_law_due", "_law_lot"] ["_law_script"] (defScope sLaw) := ⟨rfl, rfl, rfl, by decide +kernel, rfl, by decide +kernel, by decide +kernel⟩
theorem ok_law {C f fI : Addr} {fd fdI : FuncData} (F : Fun K "law" "law" sLaw f fd) (T : Txt K mg C) (M : Mk K C fI) (GI : FnOk P w K mg base CX0 3 fI fdI ["self", "covers"] (spInit C)) (bI : Binds K fdI ["self", "covers"] [])
    (DC : Def P w K mg base 2 "_law_covers" ["_law_row", "_law_most"] (spCovers K)) (DW : Def P w K mg base 2 "_law_worths" ["_law_row", "_law_many"] (spWorths K)) (DX : Def P w K mg base 2 "_law_mixed_lot" ["_law_row", "_law_many"] (spMixed K))
    (DB : Def P w K mg base 3 "_law_best" ["_law_covers_here", "_law_worths_here"] spLBest) (DS : Def P w K mg base 1 "_law_sum" ["_law_worths_here", "_law_lot"] spSum) (DA : Def P w K mg base 4 "_law_alike" ["_law_found", "_law_due"] (spAlike 3))
    (EW : Def P w K mg base 4 "best_worth" ["ground", "worths"] (spBestW C)) (EA : Def P w K mg base 5 "all_best" ["ground", "worths"] (spBest C)) (EL : Def P w K mg base 5 "least_best" ["ground", "worths"] (spOne C headL)) (EG : Def P w K mg base 5 "greatest_best" ["ground", "worths"] (spOne C lastL))
    (EO : Def P w K mg base 6 "worth_of" ["ground", "worths", "lot"] (spWorthOf C)) : FnOk P w K mg base CX0 7 f fd ["_law_script"] (spLaw K) := by
  refine F.ok scLaw (fun vs H Q E h => ?_) (fun cdv A outer s H vs Q E hr h => ?_)
  · obtain ⟨a, ns, rfl, _⟩ := h
    rfl
  · obtain ⟨a, ns, rfl, hS, hlen, q⟩ := h
    refine ⟨_, pss_cons (ps_set (i := 1) scLaw.nd rfl (Or.inl rfl) (pe_lst (pa_cons (pv 0) (pa_cons pe_int (pa_cons pe_int (pa_cons pe_int pa_nil))))))
      (pss_cons (ps_set (i := 2) scLaw.nd rfl (Or.inl rfl) (pe_def DC (hr.mono (by decide)) (by rfl) (pa_cons (pv 1) (pa_cons pe_int pa_nil))))
      (pss_cons (ps_par (i := 3) (j := 4) rfl scLaw.nd rfl rfl (by decide) rfl rfl (pa_cons (pe_make M GI (hr.mono (by decide)) rfl T.mgC bI .nil pass0 (pa_cons (pv 2) pa_nil)) (pa_cons (pe_callB call_len_seq (by rfl) T.len PySem.boot_len (pa_cons (pv 2) pa_nil)) pa_nil)) (by rfl))
      (pss_cons (ps_for PassesOwn.never rfl (pi_range1 (by rfl) T.range (pa_cons pe_int pa_nil)) (pg_name (i := 5) scLaw.nd rfl (Or.inl rfl))
        (pss_cons (ps_set (i := 6) scLaw.nd rfl (Or.inl rfl) (pe_def DW (hr.mono (by decide)) (by rfl) (pa_cons (pv 1) (pa_cons (pv 4) pa_nil))))
        (pss_cons (ps_set (i := 7) scLaw.nd rfl (Or.inl rfl) (pe_def DB (hr.mono (by decide)) (by rfl) (pa_cons (pv 2) (pa_cons (pv 6) pa_nil))))
        (pss_cons (ps_if (pt_not (pt_val (pe_def DA (hr.mono (by decide)) (by rfl) (pa_cons (pe_lst (pa_cons (pe_def EW (hr.mono (by decide)) (by rfl) (pa_cons (pv 3) (pa_cons (pv 6) pa_nil))) (pa_cons (pe_def EA (hr.mono (by decide)) (by rfl) (pa_cons (pv 3) (pa_cons (pv 6) pa_nil))) pa_nil)))
          (pa_cons (pe_lst (pa_cons (pe_def DS (hr.mono (by decide)) (by rfl) (pa_cons (pv 6) (pa_cons (pe_ix ix_list (pv 7) pe_int (fun _ _ => rfl)) pa_nil))) (pa_cons (pv 7) pa_nil))) pa_nil))))) pss_never pss_nil)
        (pss_cons (ps_if (pt_not (pt_val (pe_def DA (hr.mono (by decide)) (by rfl) (pa_cons (pe_lst (pa_cons (pe_def EL (hr.mono (by decide)) (by rfl) (pa_cons (pv 3) (pa_cons (pv 6) pa_nil))) (pa_cons (pe_def EG (hr.mono (by decide)) (by rfl) (pa_cons (pv 3) (pa_cons (pv 6) pa_nil))) pa_nil)))
          (pa_cons (pe_lst (pa_cons (pe_ix ix_list (pv 7) pe_int (fun _ _ => rfl)) (pa_cons (pe_ix ix_list (pv 7) (pe_op op_sub (pe_callB call_len_seq (by rfl) T.len PySem.boot_len (pa_cons (pv 7) pa_nil)) pe_int) (fun _ _ => rfl)) pa_nil))) pa_nil))))) pss_never pss_nil)
        (pss_cons (ps_set (i := 8) scLaw.nd rfl (Or.inl rfl) (pe_def DX (hr.mono (by decide)) (by rfl) (pa_cons (pv 1) (pa_cons (pv 4) pa_nil))))
        (pss_one (ps_if (pt_not (pt_val (pe_def DA (hr.mono (by decide)) (by rfl) (pa_cons (pe_def EO hr (by rfl) (pa_cons (pv 3) (pa_cons (pv 6) (pa_cons (pv 8) pa_nil)))) (pa_cons (pe_def DS (hr.mono (by decide)) (by rfl) (pa_cons (pv 6) (pa_cons (pv 8) pa_nil))) pa_nil))))) pss_never pss_nil))))))))
      (pss_one (ps_ret pe_bl))))), ?_⟩
    refine ⟨_, rfl, (by show 4 ≤ sizeLine; decide), fun r hr0 => ?_⟩
    have s1 : Same H (upd H r (.lst [.ref a, .int 0, .int 1508, .int 0])) := same_new hr0
    have scr1 : Scr K r a ns (upd H r (.lst [.ref a, .int 0, .int 1508, .int 0])) := ⟨hlen, fun H' b => (But.same s1 hr0 b).seq hS⟩
    have row1 : Row r a (upd H r (.lst [.ref a, .int 0, .int 1508, .int 0])) := ⟨0, 1508, 0, upd_same, Int.le_refl _⟩
    refine ⟨_, rfl, r, a, ns, rfl, scr1, row1, fun H2 c cov b2 r2 hc good => ?_⟩
    refine ⟨_, rfl, fun g dx ng ndx ne => ?_⟩
    have n1 : (upd H2 dx (.own g)) g = none := by rw [upd_ne ne.symm]; exact ng
    have s3 : Same H2 (upd (upd H2 dx (.own g)) g (.ins C dx [])) := (same_new ndx).trans (same_new n1)
    refine ⟨g, dx, c, cov, rfl, upd_same, hc.same s3, good, fun H3 b3 e3 => ⟨rfl, ?_⟩⟩
    have s23 : Same H2 H3 := But.same s3 ng b3
    have r3 := r2.same s23
    have nr : g ≠ r := r2.ne ng
    have hc3 := hc.same s23
    obtain ⟨ws, ec, each, hws⟩ := hc3.len
    have scr3 := scr1.but (b2.trans (Same.but s23))
    have h8 := good.le
    refine ⟨_, rfl, c, ws, rfl, .inr (SqT.of ec), _, _, rfl, ?_⟩
    rw [hws]
    refine ⟨3, rfl, by decide, by decide, for_it walk_range (fun i σ H4 => ∃ v5 v6 v7 v8 : Option V, σ = [some (.ref a), some (.ref r), some (.ref c), some (.ref g), some (.int cov.length), v5, v6, v7, v8] ∧ But r H3 H4 ∧ Row r a H4 ∧ GroundAt C g c cov H4)
      ⟨none, none, none, none, rfl, But.refl _ _, r3, ⟨dx, e3⟩, hc3⟩ (fun _ _ _ _ _ => trivial) ?_ ?_⟩
    · rintro i x σ H9 H4 hi ⟨v5, v6, v7, v8, rfl, b4, r4, g4⟩ ⟨rfl, rfl⟩
      refine ⟨_, rfl, _, rfl, r, a, ns, cov.length, rfl, scr3.but b4, r4, h8, fun H5 wv wl b5 r5 hwl ewl hw => ?_⟩
      have g5 := g4.but nr r4 b5
      have gw : GoodW cov wl := ⟨ewl, hw⟩
      have place5 : Place C g c cov wv wl H5 := ⟨g5, good, hwl, gw⟩
      have bne := bestL_ne cov wl
      have blen := bestL_len good wl
      have ble : ∀ l, l ∈ bestL cov wl → l.length ≤ 1000 := fun l hl => by
        have := lot_len (bestL_good hl)
        omega
      have gw' : ∀ l, l ∈ bestL cov wl → GoodLot wl.length l := fun l hl => by
        rw [ewl]
        exact bestL_good hl
      refine ⟨_, rfl, _, rfl, c, cov, wv, wl, rfl, g5.cv, good, hwl, gw, fun H6 da s6 _ hL => ?_⟩
      obtain ⟨us, eu, eachu⟩ := id hL
      obtain ⟨u0, hu0, lu0⟩ := EachLot.at eachu (head_at bne)
      obtain ⟨u1, hu1, lu1⟩ := EachLot.at eachu (last_at bne)
      have lus : us.length = (bestL cov wl).length := eachu.length
      -- the best worth, all best pits
      refine ⟨_, rfl, _, rfl, g, c, cov, wv, wl, rfl, place5.same s6, fun H7 s7 => ?_⟩
      have s67 := s6.trans s7
      refine ⟨_, rfl, _, rfl, g, c, cov, wv, wl, rfl, place5.same s67, fun H8 p s8 _ hLp => ?_⟩
      refine ⟨(by show 2 ≤ sizeLine; decide), fun l1 hl1 => ?_⟩
      have s9 := same_new (o := .lst [.int (mostOf wl (progPits cov)), .ref p]) hl1
      have s79 := (s7.trans s8).trans s9
      have s59 := s6.trans s79
      refine ⟨_, rfl, _, rfl, da, us, 0, u0, rfl, rfl, SqL.of (s79 _ _ eu), at_of (j := 0) rfl hu0, ?_⟩
      refine ⟨wv, u0, wl, headL (bestL cov wl), rfl, hwl.tk (tk_same s59), lu0.tk (tk_same s79), gw' _ (mem_head bne), by omega, fun H10 s10 => ?_⟩
      refine ⟨_, rfl, (by show 2 ≤ sizeLine; decide), fun l2 hl2 => ?_⟩
      have s11 := same_new (o := .lst [.int (sumL wl (headL (bestL cov wl))), .ref da]) hl2
      have s9_11 := s10.trans s11
      have esum : sumL wl (headL (bestL cov wl)) = mostOf wl (progPits cov) := best_sum (mem_head bne)
      refine ⟨.ref l1, .ref l2, .seq true [.int (mostOf wl (progPits cov)), dLots (bestL cov wl)], rfl, two_dt (s9_11 _ _ upd_same) (AtD.int _ _ _) (lots_dt (hLp.same (s9.trans s9_11)) (by omega) ble), ?_, fun H12 s12 => ⟨true, rfl, ifbn rfl ?_⟩⟩
      · refine two_dt upd_same ?_ (lots_dt (hL.same (s79.trans s9_11)) (by omega) ble)
        rw [esum]
        exact AtD.int _ _ _
      have s6_12 := (s79.trans s9_11).trans s12
      have s5_12 := s6.trans s6_12
      -- the least and the greatest
      refine ⟨_, rfl, _, rfl, g, c, cov, wv, wl, rfl, place5.same s5_12, fun H13 z0 s13 lz0 => ?_⟩
      refine ⟨_, rfl, _, rfl, g, c, cov, wv, wl, rfl, place5.same (s5_12.trans s13), fun H14 z1 s14 lz1 => ?_⟩
      refine ⟨(by show 2 ≤ sizeLine; decide), fun l3 hl3 => ?_⟩
      have s15 := same_new (o := .lst [z0, z1]) hl3
      have s12_15 := (s13.trans s14).trans s15
      have s6_15 := s6_12.trans s12_15
      refine ⟨_, rfl, da, us, 0, u0, rfl, rfl, SqL.of (s6_15 _ _ eu), at_of (j := 0) rfl hu0, ?_⟩
      refine ⟨_, rfl, _, rfl, da, us, rfl, .inl (SqL.of (s6_15 _ _ eu)), _, _, rfl, rfl, da, us, _, u1, rfl, rfl, SqL.of (s6_15 _ _ eu), at_of (j := (bestL cov wl).length - 1) (by have := ne_len bne; omega) hu1, ?_⟩
      refine ⟨(by show 2 ≤ sizeLine; decide), fun l4 hl4 => ?_⟩
      have s16 := same_new (o := .lst [u0, u1]) hl4
      refine ⟨.ref l3, .ref l4, .seq true [dLot (headL (bestL cov wl)), dLot (lastL (bestL cov wl))], rfl, two_dt (s16 _ _ upd_same) (lot_dt (lz0.tk (tk_same ((s14.trans s15).trans s16))) (ble _ (mem_head bne))) (lot_dt (lz1.tk (tk_same (s15.trans s16))) (ble _ (mem_last bne))),
        two_dt upd_same (lot_dt (lu0.tk (tk_same (s6_15.trans s16))) (ble _ (mem_head bne))) (lot_dt (lu1.tk (tk_same (s6_15.trans s16))) (ble _ (mem_last bne))), fun H17 s17 => ⟨true, rfl, ifbn rfl ?_⟩⟩
      have s5_17 : Same H5 H17 := ((s6.trans s6_15).trans s16).trans s17
      -- a lot's worth
      have r17 := r5.same s5_17
      refine ⟨_, rfl, _, rfl, r, a, ns, cov.length, rfl, scr3.but ((b4.trans b5).trans (Same.but s5_17)), r17, h8, fun H18 lv l b18 r18 hlv gl => ?_⟩
      have g18 := (g5.same s5_17).but nr r17 b18
      have hwl18 := hwl.tk ((tk_same s5_17).trans (r17.tk b18))
      refine ⟨_, rfl, _, rfl, _, rfl, g, c, cov, wv, wl, lv, l, rfl, ⟨g18, good, hwl18, gw⟩, hlv, gl, fun H19 s19 => ?_⟩
      refine ⟨_, rfl, _, rfl, wv, lv, wl, l, rfl, hwl18.tk (tk_same s19), hlv.tk (tk_same s19), by rw [ewl]; exact gl, by omega, fun H20 s20 => ?_⟩
      refine ⟨_, _, .int (sumL wl l), rfl, AtD.int _ _ _, AtD.int _ _ _, fun H21 s21 => ⟨true, rfl, ifbn rfl ?_⟩⟩
      have s18_21 := (s19.trans s20).trans s21
      exact ⟨_, _, _, _, rfl, (((b4.trans b5).trans (Same.but s5_17)).trans b18).trans (Same.but s18_21), r18.same s18_21, g18.same s18_21⟩
    · rintro σ H4 ⟨v5, v6, v7, v8, rfl, _⟩
      exact q _
end
end K8

namespace K8
open PySem PySem.Spec PyProof.Rows L2 StX
/-- a def of the module, by what the top has written -/
theorem def_of {P : Program} {w : World} {K : PySem.W.Frag} {mg : Str → Option Value} {base h : Heap} {x : Str} {f : Addr} {fd : FuncData} {ps : List Str} {sp : Sp} {j k : Nat} (X : K.In h) (G : h.Ns mainGlobals mg) (a : PySem.W.nsIn K mainGlobals x = some (some (.ref f))) (kp : PySem.W.keepIn K (.ref f) = true)
    (b : Binds K fd ps []) (F : FnOk P w K mg base CX0 j f fd ps sp) (hj : j ≤ k) : Def P w K mg base k x ps sp := ⟨f, fd, F.mono hj, PySem.W.mg_of X G a, kp, b⟩
theorem all_mk {l : PySem.W.OpenLaw} {w : World} {K : PySem.W.Frag} {h : Heap} {mg : Str → Option Value} {fa C f_fr f_ri f_co f_ng f_bl f_il f_nl f_sz f_pi f_nw f_su f_gr f_be f_wo f_bw f_ab f_lb f_gb f_lt f_la f_lc f_ll f_li f_lp f_lm f_lw f_ls f_lx f_lz f_mi f_ml : Addr} (X : K.In h) (G : h.Ns mainGlobals mg) (hfa : mg "law" = some (.ref fa))
    {od_fr an_fr od_ri an_ri od_co an_co od_ng an_ng od_bl an_bl od_il an_il od_nl an_nl od_sz an_sz od_pi an_pi od_nw an_nw od_su an_su od_gr an_gr od_be an_be od_wo an_wo od_bw an_bw od_ab an_ab od_lb an_lb od_gb an_gb od_lt an_lt od_la an_la od_lc an_lc od_ll an_ll od_li an_li od_lp an_lp od_lm an_lm od_lw an_lw od_ls an_ls od_lx an_lx od_lz an_lz od_mi an_mi od_ml an_ml : Option Addr} {sl_fr sl_ri sl_co sl_ng sl_bl sl_il sl_nl sl_sz sl_pi sl_nw sl_su sl_gr sl_be sl_wo sl_bw sl_ab sl_lb sl_gb sl_lt sl_la sl_lc sl_ll sl_li sl_lp sl_lm sl_lw sl_ls sl_lx sl_lz sl_mi sl_ml : Array (Option Value)} {oc_fr kv_fr dc_fr pm_fr cd_fr ct_fr oc_ri kv_ri dc_ri pm_ri cd_ri ct_ri oc_co kv_co dc_co pm_co cd_co ct_co oc_ng kv_ng dc_ng pm_ng cd_ng ct_ng oc_bl kv_bl dc_bl pm_bl cd_bl ct_bl oc_il kv_il dc_il pm_il cd_il ct_il oc_nl kv_nl dc_nl pm_nl cd_nl ct_nl oc_sz kv_sz dc_sz pm_sz cd_sz ct_sz oc_pi kv_pi dc_pi pm_pi cd_pi ct_pi oc_nw kv_nw dc_nw pm_nw cd_nw ct_nw oc_su kv_su dc_su pm_su cd_su ct_su oc_gr kv_gr dc_gr pm_gr cd_gr ct_gr oc_be kv_be dc_be pm_be cd_be ct_be oc_wo kv_wo dc_wo pm_wo cd_wo ct_wo oc_bw kv_bw dc_bw pm_bw cd_bw ct_bw oc_ab kv_ab dc_ab pm_ab cd_ab ct_ab oc_lb kv_lb dc_lb pm_lb cd_lb ct_lb oc_gb kv_gb dc_gb pm_gb cd_gb ct_gb oc_lt kv_lt dc_lt pm_lt cd_lt ct_lt oc_la kv_la dc_la pm_la cd_la ct_la oc_lc kv_lc dc_lc pm_lc cd_lc ct_lc oc_ll kv_ll dc_ll pm_ll cd_ll ct_ll oc_li kv_li dc_li pm_li cd_li ct_li oc_lp kv_lp dc_lp pm_lp cd_lp ct_lp oc_lm kv_lm dc_lm pm_lm cd_lm ct_lm oc_lw kv_lw dc_lw pm_lw cd_lw ct_lw oc_ls kv_ls dc_ls pm_ls cd_ls ct_ls oc_lx kv_lx dc_lx pm_lx cd_lx ct_lx oc_lz kv_lz dc_lz pm_lz cd_lz ct_lz oc_mi kv_mi dc_mi pm_mi cd_mi ct_mi oc_ml kv_ml dc_ml pm_ml cd_ml ct_ml : Value} {tB tW : Tok}
    (aC : PySem.W.nsIn K mainGlobals "Ground" = some (some (.ref C)))
    (a_mi : PySem.W.findIn K (.ref C) "__init__" = some (some (.ref f_mi))) (i_mi : PySem.W.isFn K (.ref f_mi) = true) (l_mi : K.lookup f_mi = some ⟨oc_mi, od_mi, .func (PySem.W.fnOf "__init__" "Ground.__init__" (defArgs sInit) (defBody sInit) (defScope sInit) .none kv_mi dc_mi pm_mi an_mi cd_mi ct_mi), sl_mi⟩) (c_mi : PySem.W.codeIn K cd_mi "Ground.__init__" = true) (k_mi : PySem.W.keepIn K (.ref f_mi) = true)
    (a_ml : PySem.W.findIn K (.ref C) "__len__" = some (some (.ref f_ml))) (i_ml : PySem.W.isFn K (.ref f_ml) = true) (l_ml : K.lookup f_ml = some ⟨oc_ml, od_ml, .func (PySem.W.fnOf "__len__" "Ground.__len__" (defArgs sLen) (defBody sLen) (defScope sLen) .none kv_ml dc_ml pm_ml an_ml cd_ml ct_ml), sl_ml⟩) (c_ml : PySem.W.codeIn K cd_ml "Ground.__len__" = true) (k_ml : PySem.W.keepIn K (.ref f_ml) = true)
    (a_fr : PySem.W.nsIn K mainGlobals "is_from" = some (some (.ref f_fr))) (l_fr : K.lookup f_fr = some ⟨oc_fr, od_fr, .func (PySem.W.fnOf "is_from" "is_from" (defArgs sFrom) (defBody sFrom) (defScope sFrom) .none kv_fr dc_fr pm_fr an_fr cd_fr ct_fr), sl_fr⟩) (c_fr : PySem.W.codeIn K cd_fr "is_from" = true) (k_fr : PySem.W.keepIn K (.ref f_fr) = true)
    (a_ri : PySem.W.nsIn K mainGlobals "rises" = some (some (.ref f_ri))) (l_ri : K.lookup f_ri = some ⟨oc_ri, od_ri, .func (PySem.W.fnOf "rises" "rises" (defArgs sRises) (defBody sRises) (defScope sRises) .none kv_ri dc_ri pm_ri an_ri cd_ri ct_ri), sl_ri⟩) (c_ri : PySem.W.codeIn K cd_ri "rises" = true) (k_ri : PySem.W.keepIn K (.ref f_ri) = true)
    (a_co : PySem.W.nsIn K mainGlobals "is_cover" = some (some (.ref f_co))) (l_co : K.lookup f_co = some ⟨oc_co, od_co, .func (PySem.W.fnOf "is_cover" "is_cover" (defArgs sCover) (defBody sCover) (defScope sCover) .none kv_co dc_co pm_co an_co cd_co ct_co), sl_co⟩) (c_co : PySem.W.codeIn K cd_co "is_cover" = true) (k_co : PySem.W.keepIn K (.ref f_co) = true)
    (a_ng : PySem.W.nsIn K mainGlobals "need_ground" = some (some (.ref f_ng))) (l_ng : K.lookup f_ng = some ⟨oc_ng, od_ng, .func (PySem.W.fnOf "need_ground" "need_ground" (defArgs sNeedG) (defBody sNeedG) (defScope sNeedG) .none kv_ng dc_ng pm_ng an_ng cd_ng ct_ng), sl_ng⟩) (c_ng : PySem.W.codeIn K cd_ng "need_ground" = true) (k_ng : PySem.W.keepIn K (.ref f_ng) = true)
    (a_bl : PySem.W.nsIn K mainGlobals "is_block" = some (some (.ref f_bl))) (l_bl : K.lookup f_bl = some ⟨oc_bl, od_bl, .func (PySem.W.fnOf "is_block" "is_block" (defArgs sBlock) (defBody sBlock) (defScope sBlock) .none kv_bl dc_bl pm_bl an_bl cd_bl ct_bl), sl_bl⟩) (c_bl : PySem.W.codeIn K cd_bl "is_block" = true) (k_bl : PySem.W.keepIn K (.ref f_bl) = true)
    (a_il : PySem.W.nsIn K mainGlobals "is_lot" = some (some (.ref f_il))) (l_il : K.lookup f_il = some ⟨oc_il, od_il, .func (PySem.W.fnOf "is_lot" "is_lot" (defArgs sIsLot) (defBody sIsLot) (defScope sIsLot) .none kv_il dc_il pm_il an_il cd_il ct_il), sl_il⟩) (c_il : PySem.W.codeIn K cd_il "is_lot" = true) (k_il : PySem.W.keepIn K (.ref f_il) = true)
    (a_nl : PySem.W.nsIn K mainGlobals "need_lot" = some (some (.ref f_nl))) (l_nl : K.lookup f_nl = some ⟨oc_nl, od_nl, .func (PySem.W.fnOf "need_lot" "need_lot" (defArgs sNeedL) (defBody sNeedL) (defScope sNeedL) .none kv_nl dc_nl pm_nl an_nl cd_nl ct_nl), sl_nl⟩) (c_nl : PySem.W.codeIn K cd_nl "need_lot" = true) (k_nl : PySem.W.keepIn K (.ref f_nl) = true)
    (a_sz : PySem.W.nsIn K mainGlobals "sized" = some (some (.ref f_sz))) (l_sz : K.lookup f_sz = some ⟨oc_sz, od_sz, .func (PySem.W.fnOf "sized" "sized" (defArgs sSized) (defBody sSized) (defScope sSized) .none kv_sz dc_sz pm_sz an_sz cd_sz ct_sz), sl_sz⟩) (c_sz : PySem.W.codeIn K cd_sz "sized" = true) (k_sz : PySem.W.keepIn K (.ref f_sz) = true)
    (a_pi : PySem.W.nsIn K mainGlobals "pits_of" = some (some (.ref f_pi))) (l_pi : K.lookup f_pi = some ⟨oc_pi, od_pi, .func (PySem.W.fnOf "pits_of" "pits_of" (defArgs sPits) (defBody sPits) (defScope sPits) .none kv_pi dc_pi pm_pi an_pi cd_pi ct_pi), sl_pi⟩) (c_pi : PySem.W.codeIn K cd_pi "pits_of" = true) (k_pi : PySem.W.keepIn K (.ref f_pi) = true)
    (a_nw : PySem.W.nsIn K mainGlobals "need_worths" = some (some (.ref f_nw))) (l_nw : K.lookup f_nw = some ⟨oc_nw, od_nw, .func (PySem.W.fnOf "need_worths" "need_worths" (defArgs sNeedW) (defBody sNeedW) (defScope sNeedW) .none kv_nw dc_nw pm_nw an_nw cd_nw ct_nw), sl_nw⟩) (c_nw : PySem.W.codeIn K cd_nw "need_worths" = true) (k_nw : PySem.W.keepIn K (.ref f_nw) = true)
    (a_su : PySem.W.nsIn K mainGlobals "sum_of" = some (some (.ref f_su))) (l_su : K.lookup f_su = some ⟨oc_su, od_su, .func (PySem.W.fnOf "sum_of" "sum_of" (defArgs sSum) (defBody sSum) (defScope sSum) .none kv_su dc_su pm_su an_su cd_su ct_su), sl_su⟩) (c_su : PySem.W.codeIn K cd_su "sum_of" = true) (k_su : PySem.W.keepIn K (.ref f_su) = true)
    (a_gr : PySem.W.nsIn K mainGlobals "greatest_of" = some (some (.ref f_gr))) (l_gr : K.lookup f_gr = some ⟨oc_gr, od_gr, .func (PySem.W.fnOf "greatest_of" "greatest_of" (defArgs sGreat) (defBody sGreat) (defScope sGreat) .none kv_gr dc_gr pm_gr an_gr cd_gr ct_gr), sl_gr⟩) (c_gr : PySem.W.codeIn K cd_gr "greatest_of" = true) (k_gr : PySem.W.keepIn K (.ref f_gr) = true)
    (a_be : PySem.W.nsIn K mainGlobals "best_pits" = some (some (.ref f_be))) (l_be : K.lookup f_be = some ⟨oc_be, od_be, .func (PySem.W.fnOf "best_pits" "best_pits" (defArgs sBest) (defBody sBest) (defScope sBest) .none kv_be dc_be pm_be an_be cd_be ct_be), sl_be⟩) (c_be : PySem.W.codeIn K cd_be "best_pits" = true) (k_be : PySem.W.keepIn K (.ref f_be) = true)
    (a_wo : PySem.W.nsIn K mainGlobals "worth_of" = some (some (.ref f_wo))) (l_wo : K.lookup f_wo = some ⟨oc_wo, od_wo, .func (PySem.W.fnOf "worth_of" "worth_of" (defArgs sWorthOf) (defBody sWorthOf) (defScope sWorthOf) .none kv_wo dc_wo pm_wo an_wo cd_wo ct_wo), sl_wo⟩) (c_wo : PySem.W.codeIn K cd_wo "worth_of" = true) (k_wo : PySem.W.keepIn K (.ref f_wo) = true)
    (a_bw : PySem.W.nsIn K mainGlobals "best_worth" = some (some (.ref f_bw))) (l_bw : K.lookup f_bw = some ⟨oc_bw, od_bw, .func (PySem.W.fnOf "best_worth" "best_worth" (defArgs sBestW) (defBody sBestW) (defScope sBestW) .none kv_bw dc_bw pm_bw an_bw cd_bw ct_bw), sl_bw⟩) (c_bw : PySem.W.codeIn K cd_bw "best_worth" = true) (k_bw : PySem.W.keepIn K (.ref f_bw) = true)
    (a_ab : PySem.W.nsIn K mainGlobals "all_best" = some (some (.ref f_ab))) (l_ab : K.lookup f_ab = some ⟨oc_ab, od_ab, .func (PySem.W.fnOf "all_best" "all_best" (defArgs sAllB) (defBody sAllB) (defScope sAllB) .none kv_ab dc_ab pm_ab an_ab cd_ab ct_ab), sl_ab⟩) (c_ab : PySem.W.codeIn K cd_ab "all_best" = true) (k_ab : PySem.W.keepIn K (.ref f_ab) = true)
    (a_lb : PySem.W.nsIn K mainGlobals "least_best" = some (some (.ref f_lb))) (l_lb : K.lookup f_lb = some ⟨oc_lb, od_lb, .func (PySem.W.fnOf "least_best" "least_best" (defArgs sLeast) (defBody sLeast) (defScope sLeast) .none kv_lb dc_lb pm_lb an_lb cd_lb ct_lb), sl_lb⟩) (c_lb : PySem.W.codeIn K cd_lb "least_best" = true) (k_lb : PySem.W.keepIn K (.ref f_lb) = true)
    (a_gb : PySem.W.nsIn K mainGlobals "greatest_best" = some (some (.ref f_gb))) (l_gb : K.lookup f_gb = some ⟨oc_gb, od_gb, .func (PySem.W.fnOf "greatest_best" "greatest_best" (defArgs sMost) (defBody sMost) (defScope sMost) .none kv_gb dc_gb pm_gb an_gb cd_gb ct_gb), sl_gb⟩) (c_gb : PySem.W.codeIn K cd_gb "greatest_best" = true) (k_gb : PySem.W.keepIn K (.ref f_gb) = true)
    (a_lt : PySem.W.nsIn K mainGlobals "_law_taken" = some (some (.ref f_lt))) (l_lt : K.lookup f_lt = some ⟨oc_lt, od_lt, .func (PySem.W.fnOf "_law_taken" "_law_taken" (defArgs sTaken) (defBody sTaken) (defScope sTaken) .none kv_lt dc_lt pm_lt an_lt cd_lt ct_lt), sl_lt⟩) (c_lt : PySem.W.codeIn K cd_lt "_law_taken" = true) (k_lt : PySem.W.keepIn K (.ref f_lt) = true)
    (a_la : PySem.W.nsIn K mainGlobals "_law_alike" = some (some (.ref f_la))) (l_la : K.lookup f_la = some ⟨oc_la, od_la, .func (PySem.W.fnOf "_law_alike" "_law_alike" (defArgs sAlike) (defBody sAlike) (defScope sAlike) .none kv_la dc_la pm_la an_la cd_la ct_la), sl_la⟩) (c_la : PySem.W.codeIn K cd_la "_law_alike" = true) (k_la : PySem.W.keepIn K (.ref f_la) = true)
    (a_lc : PySem.W.nsIn K mainGlobals "_law_covers" = some (some (.ref f_lc))) (l_lc : K.lookup f_lc = some ⟨oc_lc, od_lc, .func (PySem.W.fnOf "_law_covers" "_law_covers" (defArgs sCovers) (defBody sCovers) (defScope sCovers) .none kv_lc dc_lc pm_lc an_lc cd_lc ct_lc), sl_lc⟩) (c_lc : PySem.W.codeIn K cd_lc "_law_covers" = true) (k_lc : PySem.W.keepIn K (.ref f_lc) = true)
    (a_ll : PySem.W.nsIn K mainGlobals "_law_lots" = some (some (.ref f_ll))) (l_ll : K.lookup f_ll = some ⟨oc_ll, od_ll, .func (PySem.W.fnOf "_law_lots" "_law_lots" (defArgs sLots) (defBody sLots) (defScope sLots) .none kv_ll dc_ll pm_ll an_ll cd_ll ct_ll), sl_ll⟩) (c_ll : PySem.W.codeIn K cd_ll "_law_lots" = true) (k_ll : PySem.W.keepIn K (.ref f_ll) = true)
    (a_li : PySem.W.nsIn K mainGlobals "_law_is_pit" = some (some (.ref f_li))) (l_li : K.lookup f_li = some ⟨oc_li, od_li, .func (PySem.W.fnOf "_law_is_pit" "_law_is_pit" (defArgs sIsPit) (defBody sIsPit) (defScope sIsPit) .none kv_li dc_li pm_li an_li cd_li ct_li), sl_li⟩) (c_li : PySem.W.codeIn K cd_li "_law_is_pit" = true) (k_li : PySem.W.keepIn K (.ref f_li) = true)
    (a_lp : PySem.W.nsIn K mainGlobals "_law_pits" = some (some (.ref f_lp))) (l_lp : K.lookup f_lp = some ⟨oc_lp, od_lp, .func (PySem.W.fnOf "_law_pits" "_law_pits" (defArgs sLPits) (defBody sLPits) (defScope sLPits) .none kv_lp dc_lp pm_lp an_lp cd_lp ct_lp), sl_lp⟩) (c_lp : PySem.W.codeIn K cd_lp "_law_pits" = true) (k_lp : PySem.W.keepIn K (.ref f_lp) = true)
    (a_lm : PySem.W.nsIn K mainGlobals "_law_mixed_lot" = some (some (.ref f_lm))) (l_lm : K.lookup f_lm = some ⟨oc_lm, od_lm, .func (PySem.W.fnOf "_law_mixed_lot" "_law_mixed_lot" (defArgs sMixed) (defBody sMixed) (defScope sMixed) .none kv_lm dc_lm pm_lm an_lm cd_lm ct_lm), sl_lm⟩) (c_lm : PySem.W.codeIn K cd_lm "_law_mixed_lot" = true) (k_lm : PySem.W.keepIn K (.ref f_lm) = true)
    (a_lw : PySem.W.nsIn K mainGlobals "_law_worths" = some (some (.ref f_lw))) (l_lw : K.lookup f_lw = some ⟨oc_lw, od_lw, .func (PySem.W.fnOf "_law_worths" "_law_worths" (defArgs sWorths) (defBody sWorths) (defScope sWorths) .none kv_lw dc_lw pm_lw an_lw cd_lw ct_lw), sl_lw⟩) (c_lw : PySem.W.codeIn K cd_lw "_law_worths" = true) (k_lw : PySem.W.keepIn K (.ref f_lw) = true)
    (a_ls : PySem.W.nsIn K mainGlobals "_law_sum" = some (some (.ref f_ls))) (l_ls : K.lookup f_ls = some ⟨oc_ls, od_ls, .func (PySem.W.fnOf "_law_sum" "_law_sum" (defArgs sLSum) (defBody sLSum) (defScope sLSum) .none kv_ls dc_ls pm_ls an_ls cd_ls ct_ls), sl_ls⟩) (c_ls : PySem.W.codeIn K cd_ls "_law_sum" = true) (k_ls : PySem.W.keepIn K (.ref f_ls) = true)
    (a_lx : PySem.W.nsIn K mainGlobals "_law_best" = some (some (.ref f_lx))) (l_lx : K.lookup f_lx = some ⟨oc_lx, od_lx, .func (PySem.W.fnOf "_law_best" "_law_best" (defArgs sLBest) (defBody sLBest) (defScope sLBest) .none kv_lx dc_lx pm_lx an_lx cd_lx ct_lx), sl_lx⟩) (c_lx : PySem.W.codeIn K cd_lx "_law_best" = true) (k_lx : PySem.W.keepIn K (.ref f_lx) = true)
    (a_lz : PySem.W.nsIn K mainGlobals "law" = some (some (.ref f_lz))) (l_lz : K.lookup f_lz = some ⟨oc_lz, od_lz, .func (PySem.W.fnOf "law" "law" (defArgs sLaw) (defBody sLaw) (defScope sLaw) .none kv_lz dc_lz pm_lz an_lz cd_lz ct_lz), sl_lz⟩) (c_lz : PySem.W.codeIn K cd_lz "law" = true) (k_lz : PySem.W.keepIn K (.ref f_lz) = true)
    (pg : PySem.W.plainGet K C Str.empty = true)
    (hd : PySem.W.hasDictIn K C = true)
    (po : PySem.W.plainOver K C = true)
    (sa : PySem.W.findIn K (.ref C) "__setattr__" = some (some (.builtin "object.__setattr__")))
    (mk : PySem.W.makesIn K C = true)
    (kc : PySem.W.keepIn K (.ref C) = true)
    (nT : PySem.W.findIn K (.ref C) "table" = some none)
    (ca : PySem.W.findIn K (.ref C) "__class__" = some (some (.builtin "object.__class__")))
    (cg : PySem.W.specialIn K (.builtin "object.__class__") "__get__" = some (some (.builtin "getset_descriptor.__get__")))
    (ct : PySem.W.takesIn K (.builtin "object.__class__") = some true)
    (cm : PySem.W.mroIn K C (.type "object") = some true)
    (mB : PySem.W.nsIn K mainGlobals "MOST_BLOCKS" = some (some (.int 10 tB)))
    (mW : PySem.W.nsIn K mainGlobals "MOST_WORTH" = some (some (.int 50 tW)))
    (z0 : PySem.W.nsIn K mainGlobals "isinstance" = some none)
    (z1 : PySem.W.nsIn K mainGlobals "int" = some none)
    (z2 : PySem.W.nsIn K mainGlobals "bool" = some none)
    (z3 : PySem.W.nsIn K mainGlobals "str" = some none)
    (z4 : PySem.W.nsIn K mainGlobals "tuple" = some none)
    (z5 : PySem.W.nsIn K mainGlobals "list" = some none)
    (z6 : PySem.W.nsIn K mainGlobals "all" = some none)
    (z7 : PySem.W.nsIn K mainGlobals "range" = some none)
    (z8 : PySem.W.nsIn K mainGlobals "len" = some none)
    (z9 : PySem.W.nsIn K mainGlobals "sum" = some none)
    (z10 : PySem.W.nsIn K mainGlobals "max" = some none)
    (z11 : PySem.W.nsIn K mainGlobals "sorted" = some none)
    (z12 : PySem.W.nsIn K mainGlobals "enumerate" = some none)
    : ∃ fd : FuncData, (∀ (s : Shared) (v : Value), BindsTo s fd ⟨[v], []⟩ [("_law_script", v)]) ∧ ∀ base : Heap, K.In base → base.Ns mainGlobals mg → FnOk l.prog w K mg base CX0 7 fa fd ["_law_script"] (spLaw K) := by
  have e := hfa.symm.trans (PySem.W.mg_of X G a_lz)
  cases e
  have T : Txt K mg C := ⟨⟨pg, hd, po, sa⟩, nT, PySem.W.mg_of X G aC, ca, cg, ct, cm, ⟨_, PySem.W.mg_of X G mB⟩, ⟨_, PySem.W.mg_of X G mW⟩, PySem.W.mg_none_of X G z0, PySem.W.mg_none_of X G z1, PySem.W.mg_none_of X G z2, PySem.W.mg_none_of X G z3, PySem.W.mg_none_of X G z4, PySem.W.mg_none_of X G z5, PySem.W.mg_none_of X G z6, PySem.W.mg_none_of X G z7, PySem.W.mg_none_of X G z8, PySem.W.mg_none_of X G z9, PySem.W.mg_none_of X G z10, PySem.W.mg_none_of X G z11, PySem.W.mg_none_of X G z12⟩
  have F_mi := fun_mk (st := sInit) l_mi c_mi k_mi
  have b_mi := F_mi.binds (ps := ["self", "covers"]) fun _ _ _ _ _ _ us hl => match us, hl with | [_, _], _ => rfl
  have F_ml := fun_mk (st := sLen) l_ml c_ml k_ml
  have b_ml := F_ml.binds (ps := ["self"]) fun _ _ _ _ _ _ us hl => match us, hl with | [_], _ => rfl
  have F_fr := fun_mk (st := sFrom) l_fr c_fr k_fr
  have b_fr := F_fr.binds (ps := ["value", "low", "high"]) fun _ _ _ _ _ _ us hl => match us, hl with | [_, _, _], _ => rfl
  have F_ri := fun_mk (st := sRises) l_ri c_ri k_ri
  have b_ri := F_ri.binds (ps := ["value"]) fun _ _ _ _ _ _ us hl => match us, hl with | [_], _ => rfl
  have F_co := fun_mk (st := sCover) l_co c_co k_co
  have b_co := F_co.binds (ps := ["value", "block"]) fun _ _ _ _ _ _ us hl => match us, hl with | [_, _], _ => rfl
  have F_ng := fun_mk (st := sNeedG) l_ng c_ng k_ng
  have b_ng := F_ng.binds (ps := ["ground"]) fun _ _ _ _ _ _ us hl => match us, hl with | [_], _ => rfl
  have F_bl := fun_mk (st := sBlock) l_bl c_bl k_bl
  have b_bl := F_bl.binds (ps := ["ground", "value"]) fun _ _ _ _ _ _ us hl => match us, hl with | [_, _], _ => rfl
  have F_il := fun_mk (st := sIsLot) l_il c_il k_il
  have b_il := F_il.binds (ps := ["ground", "value"]) fun _ _ _ _ _ _ us hl => match us, hl with | [_, _], _ => rfl
  have F_nl := fun_mk (st := sNeedL) l_nl c_nl k_nl
  have b_nl := F_nl.binds (ps := ["ground", "lot"]) fun _ _ _ _ _ _ us hl => match us, hl with | [_, _], _ => rfl
  have F_sz := fun_mk (st := sSized) l_sz c_sz k_sz
  have b_sz := F_sz.binds (ps := ["lot"]) fun _ _ _ _ _ _ us hl => match us, hl with | [_], _ => rfl
  have F_pi := fun_mk (st := sPits) l_pi c_pi k_pi
  have b_pi := F_pi.binds (ps := ["ground"]) fun _ _ _ _ _ _ us hl => match us, hl with | [_], _ => rfl
  have F_nw := fun_mk (st := sNeedW) l_nw c_nw k_nw
  have b_nw := F_nw.binds (ps := ["ground", "worths"]) fun _ _ _ _ _ _ us hl => match us, hl with | [_, _], _ => rfl
  have F_su := fun_mk (st := sSum) l_su c_su k_su
  have b_su := F_su.binds (ps := ["worths", "lot"]) fun _ _ _ _ _ _ us hl => match us, hl with | [_, _], _ => rfl
  have F_gr := fun_mk (st := sGreat) l_gr c_gr k_gr
  have b_gr := F_gr.binds (ps := ["worths", "some"]) fun _ _ _ _ _ _ us hl => match us, hl with | [_, _], _ => rfl
  have F_be := fun_mk (st := sBest) l_be c_be k_be
  have b_be := F_be.binds (ps := ["ground", "worths"]) fun _ _ _ _ _ _ us hl => match us, hl with | [_, _], _ => rfl
  have F_wo := fun_mk (st := sWorthOf) l_wo c_wo k_wo
  have b_wo := F_wo.binds (ps := ["ground", "worths", "lot"]) fun _ _ _ _ _ _ us hl => match us, hl with | [_, _, _], _ => rfl
  have F_bw := fun_mk (st := sBestW) l_bw c_bw k_bw
  have b_bw := F_bw.binds (ps := ["ground", "worths"]) fun _ _ _ _ _ _ us hl => match us, hl with | [_, _], _ => rfl
  have F_ab := fun_mk (st := sAllB) l_ab c_ab k_ab
  have b_ab := F_ab.binds (ps := ["ground", "worths"]) fun _ _ _ _ _ _ us hl => match us, hl with | [_, _], _ => rfl
  have F_lb := fun_mk (st := sLeast) l_lb c_lb k_lb
  have b_lb := F_lb.binds (ps := ["ground", "worths"]) fun _ _ _ _ _ _ us hl => match us, hl with | [_, _], _ => rfl
  have F_gb := fun_mk (st := sMost) l_gb c_gb k_gb
  have b_gb := F_gb.binds (ps := ["ground", "worths"]) fun _ _ _ _ _ _ us hl => match us, hl with | [_, _], _ => rfl
  have F_lt := fun_mk (st := sTaken) l_lt c_lt k_lt
  have b_lt := F_lt.binds (ps := ["_law_row", "_law_many"]) fun _ _ _ _ _ _ us hl => match us, hl with | [_, _], _ => rfl
  have F_la := fun_mk (st := sAlike) l_la c_la k_la
  have b_la := F_la.binds (ps := ["_law_found", "_law_due"]) fun _ _ _ _ _ _ us hl => match us, hl with | [_, _], _ => rfl
  have F_lc := fun_mk (st := sCovers) l_lc c_lc k_lc
  have b_lc := F_lc.binds (ps := ["_law_row", "_law_most"]) fun _ _ _ _ _ _ us hl => match us, hl with | [_, _], _ => rfl
  have F_ll := fun_mk (st := sLots) l_ll c_ll k_ll
  have b_ll := F_ll.binds (ps := ["_law_many"]) fun _ _ _ _ _ _ us hl => match us, hl with | [_], _ => rfl
  have F_li := fun_mk (st := sIsPit) l_li c_li k_li
  have b_li := F_li.binds (ps := ["_law_covers_here", "_law_lot"]) fun _ _ _ _ _ _ us hl => match us, hl with | [_, _], _ => rfl
  have F_lp := fun_mk (st := sLPits) l_lp c_lp k_lp
  have b_lp := F_lp.binds (ps := ["_law_covers_here"]) fun _ _ _ _ _ _ us hl => match us, hl with | [_], _ => rfl
  have F_lm := fun_mk (st := sMixed) l_lm c_lm k_lm
  have b_lm := F_lm.binds (ps := ["_law_row", "_law_many"]) fun _ _ _ _ _ _ us hl => match us, hl with | [_, _], _ => rfl
  have F_lw := fun_mk (st := sWorths) l_lw c_lw k_lw
  have b_lw := F_lw.binds (ps := ["_law_row", "_law_many"]) fun _ _ _ _ _ _ us hl => match us, hl with | [_, _], _ => rfl
  have F_ls := fun_mk (st := sLSum) l_ls c_ls k_ls
  have b_ls := F_ls.binds (ps := ["_law_worths_here", "_law_lot"]) fun _ _ _ _ _ _ us hl => match us, hl with | [_, _], _ => rfl
  have F_lx := fun_mk (st := sLBest) l_lx c_lx k_lx
  have b_lx := F_lx.binds (ps := ["_law_covers_here", "_law_worths_here"]) fun _ _ _ _ _ _ us hl => match us, hl with | [_, _], _ => rfl
  have F_lz := fun_mk (st := sLaw) l_lz c_lz k_lz
  have b_lz := F_lz.binds (ps := ["_law_script"]) fun _ _ _ _ _ _ us hl => match us, hl with | [_], _ => rfl
  refine ⟨PySem.W.fnOf "law" "law" (defArgs sLaw) (defBody sLaw) (defScope sLaw) .none kv_lz dc_lz pm_lz an_lz cd_lz ct_lz, fun s v => .of_eq rfl, fun base _ _ => ?_⟩
  have D_fr := def_of (P := l.prog) (w := w) (base := base) (k := 1) X G a_fr k_fr b_fr (ok_from F_fr T) (by decide)
  have D_ri := def_of (P := l.prog) (w := w) (base := base) (k := 1) X G a_ri k_ri b_ri (ok_rises F_ri T) (by decide)
  have D_co := def_of (P := l.prog) (w := w) (base := base) (k := 2) X G a_co k_co b_co (ok_cover F_co T D_fr D_ri) (by decide)
  have D_ng := def_of (P := l.prog) (w := w) (base := base) (k := 1) X G a_ng k_ng b_ng (ok_needG F_ng T) (by decide)
  have L : LenOf l.prog w K mg base C := ⟨_, _, ok_len F_ml T, a_ml, i_ml, b_ml⟩
  have D_bl := def_of (P := l.prog) (w := w) (base := base) (k := 3) X G a_bl k_bl b_bl (ok_block F_bl T D_fr L) (by decide)
  have D_il := def_of (P := l.prog) (w := w) (base := base) (k := 4) X G a_il k_il b_il (ok_isLot F_il T D_bl D_ri) (by decide)
  have D_nl := def_of (P := l.prog) (w := w) (base := base) (k := 5) X G a_nl k_nl b_nl (ok_needL F_nl D_ng D_il) (by decide)
  have D_pi := def_of (P := l.prog) (w := w) (base := base) (k := 3) X G a_pi k_pi b_pi (ok_pits F_pi T L F_sz (PySem.W.mg_of X G a_sz) b_sz) (by decide)
  have D_nw := def_of (P := l.prog) (w := w) (base := base) (k := 3) X G a_nw k_nw b_nw (ok_needW F_nw T L D_ng D_fr) (by decide)
  have D_su := def_of (P := l.prog) (w := w) (base := base) (k := 1) X G a_su k_su b_su (ok_sum F_su T) (by decide)
  have D_gr := def_of (P := l.prog) (w := w) (base := base) (k := 2) X G a_gr k_gr b_gr (ok_great F_gr T D_su) (by decide)
  have D_be := def_of (P := l.prog) (w := w) (base := base) (k := 4) X G a_be k_be b_be (ok_best F_be D_pi D_gr D_su) (by decide)
  have D_wo := def_of (P := l.prog) (w := w) (base := base) (k := 6) X G a_wo k_wo b_wo (ok_worthOf F_wo D_nw D_nl D_su) (by decide)
  have D_bw := def_of (P := l.prog) (w := w) (base := base) (k := 4) X G a_bw k_bw b_bw (ok_bestW F_bw D_nw D_pi D_gr) (by decide)
  have D_ab := def_of (P := l.prog) (w := w) (base := base) (k := 5) X G a_ab k_ab b_ab (ok_allB F_ab D_nw D_be) (by decide)
  have D_lb := def_of (P := l.prog) (w := w) (base := base) (k := 5) X G a_lb k_lb b_lb (ok_least F_lb D_nw D_be) (by decide)
  have D_gb := def_of (P := l.prog) (w := w) (base := base) (k := 5) X G a_gb k_gb b_gb (ok_most F_gb D_nw D_be) (by decide)
  have D_lt := def_of (P := l.prog) (w := w) (base := base) (k := 1) X G a_lt k_lt b_lt (ok_taken F_lt T) (by decide)
  have D_la := def_of (P := l.prog) (w := w) (base := base) (k := 4) X G a_la k_la b_la (ok_alike F_la T (PySem.W.mg_of X G a_la) k_la b_la 3) (by decide)
  have D_lc := def_of (P := l.prog) (w := w) (base := base) (k := 2) X G a_lc k_lc b_lc (ok_covers F_lc T D_lt) (by decide)
  have D_ll := def_of (P := l.prog) (w := w) (base := base) (k := 1) X G a_ll k_ll b_ll (ok_lots F_ll T) (by decide)
  have D_li := def_of (P := l.prog) (w := w) (base := base) (k := 1) X G a_li k_li b_li (ok_isPit F_li) (by decide)
  have D_lp := def_of (P := l.prog) (w := w) (base := base) (k := 2) X G a_lp k_lp b_lp (ok_lpits F_lp T D_ll D_li) (by decide)
  have D_lm := def_of (P := l.prog) (w := w) (base := base) (k := 2) X G a_lm k_lm b_lm (ok_mixed F_lm T D_lt) (by decide)
  have D_lw := def_of (P := l.prog) (w := w) (base := base) (k := 2) X G a_lw k_lw b_lw (ok_worths F_lw T D_lt) (by decide)
  have D_ls := def_of (P := l.prog) (w := w) (base := base) (k := 1) X G a_ls k_ls b_ls (ok_lsum F_ls T) (by decide)
  have D_lx := def_of (P := l.prog) (w := w) (base := base) (k := 3) X G a_lx k_lx b_lx (ok_lbest F_lx T D_lp D_ls) (by decide)
  exact ok_law F_lz T ⟨mk, a_mi, i_mi, kc⟩ (ok_init F_mi T D_co) b_mi D_lc D_lw D_lm D_lx D_ls D_la D_bw D_ab D_lb D_gb D_wo
end K8
open PySem PySem.W PyProof.Rows
set_option maxRecDepth 100000 in
set_option maxHeartbeats 0 in
theorem PySem.Challenge.cw_pitlots_k08_whole_best_pits_holds : PySem.Challenge.rw_pitlots_k08_whole_best_pits.Holds := by
  w_on; o_law; k_head; (case hw => w_witness2)
  k_fill
  refine L2.walk_of (l := PySem.Challenge.rw_pitlots_k08_whole_best_pits) (n := 63) (k := 7) (x := "_law_script") (CX := fun _ => L2.CX0) (sp := fun w => K8.spLaw _) rfl (by decide) rfl ⟨rfl, by decide, by decide⟩ (fun w h Y => PySem.W.kIn_of Y) ?F (fun _ _ a ns hl _ hS => ⟨a, ns, hS |> fun q => ⟨rfl, q, hl, fun _ => rfl⟩⟩) (fun _ _ _ _ _ h => h)
  case F =>
    intro w mg fa h KX G hmg
    refine' K8.all_mk KX G hmg ?aC ?a_mi ?i_mi ?l_mi ?c_mi ?k_mi ?a_ml ?i_ml ?l_ml ?c_ml ?k_ml ?a_fr ?l_fr ?c_fr ?k_fr ?a_ri ?l_ri ?c_ri ?k_ri ?a_co ?l_co ?c_co ?k_co ?a_ng ?l_ng ?c_ng ?k_ng ?a_bl ?l_bl ?c_bl ?k_bl ?a_il ?l_il ?c_il ?k_il ?a_nl ?l_nl ?c_nl ?k_nl ?a_sz ?l_sz ?c_sz ?k_sz ?a_pi ?l_pi ?c_pi ?k_pi ?a_nw ?l_nw ?c_nw ?k_nw ?a_su ?l_su ?c_su ?k_su ?a_gr ?l_gr ?c_gr ?k_gr ?a_be ?l_be ?c_be ?k_be ?a_wo ?l_wo ?c_wo ?k_wo ?a_bw ?l_bw ?c_bw ?k_bw ?a_ab ?l_ab ?c_ab ?k_ab ?a_lb ?l_lb ?c_lb ?k_lb ?a_gb ?l_gb ?c_gb ?k_gb ?a_lt ?l_lt ?c_lt ?k_lt ?a_la ?l_la ?c_la ?k_la ?a_lc ?l_lc ?c_lc ?k_lc ?a_ll ?l_ll ?c_ll ?k_ll ?a_li ?l_li ?c_li ?k_li ?a_lp ?l_lp ?c_lp ?k_lp ?a_lm ?l_lm ?c_lm ?k_lm ?a_lw ?l_lw ?c_lw ?k_lw ?a_ls ?l_ls ?c_ls ?k_ls ?a_lx ?l_lx ?c_lx ?k_lx ?a_lz ?l_lz ?c_lz ?k_lz ?pg ?hd ?po ?sa ?mk ?kc ?nT ?ca ?cg ?ct ?cm ?mB ?mW ?z0 ?z1 ?z2 ?z3 ?z4 ?z5 ?z6 ?z7 ?z8 ?z9 ?z10 ?z11 ?z12
    (case aC => k_is)
    (case a_mi => k_is)
    (case i_mi => k_is)
    (case l_mi => k_is)
    (case c_mi => k_is)
    (case k_mi => k_is)
    (case a_ml => k_is)
    (case i_ml => k_is)
    (case l_ml => k_is)
    (case c_ml => k_is)
    (case k_ml => k_is)
    (case a_fr => k_is)
    (case l_fr => k_is)
    (case c_fr => k_is)
    (case k_fr => k_is)
    (case a_ri => k_is)
    (case l_ri => k_is)
    (case c_ri => k_is)
    (case k_ri => k_is)
    (case a_co => k_is)
    (case l_co => k_is)
    (case c_co => k_is)
    (case k_co => k_is)
    (case a_ng => k_is)
    (case l_ng => k_is)
    (case c_ng => k_is)
    (case k_ng => k_is)
    (case a_bl => k_is)
    (case l_bl => k_is)
    (case c_bl => k_is)
    (case k_bl => k_is)
    (case a_il => k_is)
    (case l_il => k_is)
    (case c_il => k_is)
    (case k_il => k_is)
    (case a_nl => k_is)
    (case l_nl => k_is)
    (case c_nl => k_is)
    (case k_nl => k_is)
    (case a_sz => k_is)
    (case l_sz => k_is)
    (case c_sz => k_is)
    (case k_sz => k_is)
    (case a_pi => k_is)
    (case l_pi => k_is)
    (case c_pi => k_is)
    (case k_pi => k_is)
    (case a_nw => k_is)
    (case l_nw => k_is)
    (case c_nw => k_is)
    (case k_nw => k_is)
    (case a_su => k_is)
    (case l_su => k_is)
    (case c_su => k_is)
    (case k_su => k_is)
    (case a_gr => k_is)
    (case l_gr => k_is)
    (case c_gr => k_is)
    (case k_gr => k_is)
    (case a_be => k_is)
    (case l_be => k_is)
    (case c_be => k_is)
    (case k_be => k_is)
    (case a_wo => k_is)
    (case l_wo => k_is)
    (case c_wo => k_is)
    (case k_wo => k_is)
    (case a_bw => k_is)
    (case l_bw => k_is)
    (case c_bw => k_is)
    (case k_bw => k_is)
    (case a_ab => k_is)
    (case l_ab => k_is)
    (case c_ab => k_is)
    (case k_ab => k_is)
    (case a_lb => k_is)
    (case l_lb => k_is)
    (case c_lb => k_is)
    (case k_lb => k_is)
    (case a_gb => k_is)
    (case l_gb => k_is)
    (case c_gb => k_is)
    (case k_gb => k_is)
    (case a_lt => k_is)
    (case l_lt => k_is)
    (case c_lt => k_is)
    (case k_lt => k_is)
    (case a_la => k_is)
    (case l_la => k_is)
    (case c_la => k_is)
    (case k_la => k_is)
    (case a_lc => k_is)
    (case l_lc => k_is)
    (case c_lc => k_is)
    (case k_lc => k_is)
    (case a_ll => k_is)
    (case l_ll => k_is)
    (case c_ll => k_is)
    (case k_ll => k_is)
    (case a_li => k_is)
    (case l_li => k_is)
    (case c_li => k_is)
    (case k_li => k_is)
    (case a_lp => k_is)
    (case l_lp => k_is)
    (case c_lp => k_is)
    (case k_lp => k_is)
    (case a_lm => k_is)
    (case l_lm => k_is)
    (case c_lm => k_is)
    (case k_lm => k_is)
    (case a_lw => k_is)
    (case l_lw => k_is)
    (case c_lw => k_is)
    (case k_lw => k_is)
    (case a_ls => k_is)
    (case l_ls => k_is)
    (case c_ls => k_is)
    (case k_ls => k_is)
    (case a_lx => k_is)
    (case l_lx => k_is)
    (case c_lx => k_is)
    (case k_lx => k_is)
    (case a_lz => k_is)
    (case l_lz => k_is)
    (case c_lz => k_is)
    (case k_lz => k_is)
    (case pg => k_is)
    (case hd => k_is)
    (case po => k_is)
    (case sa => k_is)
    (case mk => k_is)
    (case kc => k_is)
    (case nT => k_is)
    (case ca => k_is)
    (case cg => k_is)
    (case ct => k_is)
    (case cm => k_is)
    (case mB => k_is)
    (case mW => k_is)
    (case z0 => k_is)
    (case z1 => k_is)
    (case z2 => k_is)
    (case z3 => k_is)
    (case z4 => k_is)
    (case z5 => k_is)
    (case z6 => k_is)
    (case z7 => k_is)
    (case z8 => k_is)
    (case z9 => k_is)
    (case z10 => k_is)
    (case z11 => k_is)
    (case z12 => k_is)
#print axioms PySem.Challenge.cw_pitlots_k08_whole_best_pits_holds
