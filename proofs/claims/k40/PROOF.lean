import PyProof.Rows.All
import Wide.All
import OpenK.AllK
import Wide.FinOn
import HandS.ForMost
import HandS.Codes
import HandS.IsInst
import HandS.Zip
import HandS.TupAny
import HandS.TupMul
import HandS.Style
import HandS.Flow
import HandS.Conv
import HandS.Small
import HandS.SetFor
import KE.GoesEnum
import HandS.Walk
import HandS.Ends
import HandS.Words
import HandS.WordsExc
import HandS.Defaults
import HandS.Head0
import HandS.Head1
import HandS.Head2
import HandS.HeadEnd
import HandS.HeadHook1
import HandS.HeadHook2
import HandS.HeadHook3
import PySem.Challenge.RW_leatwork_k40_code_forms
set_option Elab.async false
set_option linter.all false
set_option maxRecDepth 100000
set_option maxHeartbeats 4000000
/-! Z1: operators, subscripts, comparisons by whatever the values are; three rules of my own -/
namespace Z
open PySem PySem.Spec PyProof.Rows L2

section
variable {X : Cx}
/-! ### + -/
def uAdd (K : PySem.W.Frag) : R2 := fun x y H Q => rI0 (fun i j => .int (i + j)) x y H Q ∨ (∃ i j, x = .str i ∧ y = .str j ∧ i.length + j.length ≤ sizeLine ∧ Q (.str (i ++ j)) H) ∨ rCatA K x y H Q ∨ rCat x y H Q
theorem op_addU : OpR X (binaryOp .Add) (uAdd X.K) := op_add.or (op_add_str.or (op_catA.or op_cat))
/-! ### * -/
def rMulS : R2 := fun x y H Q => ∃ z n, x = .str z ∧ y = .int n ∧ MulOk z n ∧ Q (.str (Txt.mul z n)) H
theorem op_mulS : OpR X (binaryOp .Mult) rMulS := by
  intro pins s σ H x y v u Q I rx ry h
  obtain ⟨z, n, rfl, rfl, ok, q⟩ := h
  obtain ⟨t, rfl⟩ := rx
  obtain ⟨t', rfl⟩ := ry
  exact SB.mul ok fun t' k => ⟨.str _, H, I.tok _, ⟨_, rfl⟩, q⟩
theorem tuple_mul1 (l : Addr) (items : Array Value) (n : Nat) (dd : Option Addr) (sl : Array (Option Value)) (u : Tok) :
    Meets (Builtin.«tuple.__mul__» ⟨[.ref l, .int 1 u], []⟩) (fun _ R s => s.heap.get? l = some { cls := .type "tuple", dict := dd, data := .seq items n, slots := sl } ∧
      R (.ok (.ret (Value.ref l))) s) :=
  .of_wp fun prog w A R s h => by
    obtain ⟨hp, g, d, tk, os⟩ := s
    obtain ⟨hl, h⟩ := h
    have f1 := AutoSeq1.idx_int
    have c1 : (items.isEmpty || (1 : Int) == 1) = true := by rw [Bool.or_eq_true]; exact Or.inr rfl
    have hT : ∀ s : Shared, s.heap = hp → s.TypeIs (.ref l) "tuple" := fun s e => ⟨_, by rw [e]; exact hl, rfl⟩
    wp_walk using wpAny_loadPart' hl
    exact ⟨_, rfl, h⟩
def rRep1 (K : PySem.W.Frag) : R2 := fun x y H Q => ∃ l xs, x = .ref l ∧ y = .int 1 ∧ SqT K H l xs ∧ Q (.ref l) H
theorem op_rep1 : OpR X (binaryOp .Mult) (rRep1 X.K) := by
  intro pins s σ H x y v u Q I rx ry h
  obtain ⟨l, xs, rfl, rfl, hT, q⟩ := h
  cases rx
  obtain ⟨t, rfl⟩ := ry
  obtain ⟨its, r, ⟨⟨cls, dd, data, sl⟩, ho, hc, n, hd⟩, hs⟩ := I.tuple hT
  simp only at hc hd
  subst hc hd
  exact wpAny_binaryOp_repeat_ref (T := "tuple") (U := "int") (by decide) ⟨_, ho, rfl⟩ (fun s' => typeIs_int s' 1 t) noFill_tuple_mul F.fills_int_mul F.slot_int_rmul repeat_tuple F.slot_int_index.lookup
    (call_meets F.slot_int_rmul (typeIs_int s 1 t) F.entry_int_rmul (F.args_int_rmul_2 _ _) (int_rmul_tuple 1 t l its.toArray n dd sl)
      ⟨ho, rfl, ⟨_, ho, rfl⟩, call_meets F.slot_tuple_mul ⟨_, ho, rfl⟩ F.entry_tuple_mul (F.args_tuple_mul_2 _ _) (tuple_mul1 l its.toArray n dd sl t) ⟨ho, .ref l, H, I, rfl, q⟩⟩)
def uMul (K : PySem.W.Frag) : R2 := fun x y H Q => rI CMul (fun i j => .int (i * j)) x y H Q ∨ rRep x y H Q ∨ rRepT K x y H Q ∨ rRep1 K x y H Q ∨ rMulS x y H Q
theorem op_mulU : OpR X (binaryOp .Mult) (uMul X.K) := op_mul.or (op_rep.or (op_repT.or (op_rep1.or op_mulS)))

/-! ### ==, != -/
def uEq (K : PySem.W.Frag) : R2 := fun x y H Q => rEq x y H Q ∨ rEqD K x y H Q
theorem eqU {k : Nat} (hr : Room k X.A) : OpR X (compareOp .Eq) (uEq X.K) := op_eq.or (op_eqD hr.units)
def uNe (K : PySem.W.Frag) : R2 := fun x y H Q => rNe x y H Q ∨ rNeD K x y H Q
theorem neU {k : Nat} (hr : Room k X.A) : OpR X (compareOp .NotEq) (uNe X.K) := op_ne.or (op_neD hr.units)

/-! ### in, not in: a sign in a text, a flat thing in a list or tuple, a key in a dict, in a dict of the module -/
def rInD : R2 := fun x y H Q => ∃ a o, y = .ref a ∧ DGet H a x o ∧ Q (.bl o.isSome) H
def rNotInD : R2 := fun x y H Q => ∃ a o, y = .ref a ∧ DGet H a x o ∧ Q (.bl (!o.isSome)) H
theorem op_inD {k : Nat} (hr : Room k X.A) : OpR X (compareOp .In) rInD := by
  intro pins s σ H x y v u Q I rx ry h
  obtain ⟨a, o, rfl, g, q⟩ := h
  cases ry
  exact d_in (hu_of hr) I g rx fun s' I' => ⟨.bl _, H, I', rfl, q⟩
theorem op_notInD {k : Nat} (hr : Room k X.A) : OpR X (compareOp .NotIn) rNotInD := by
  intro pins s σ H x y v u Q I rx ry h
  obtain ⟨a, o, rfl, g, q⟩ := h
  cases ry
  exact d_notIn (hu_of hr) I g rx fun s' I' => ⟨.bl _, H, I', rfl, q⟩
def rInK (K : PySem.W.Frag) (w : World) : R2 := fun x y H Q => ∃ d es n, KDict K w d es n ∧ ∃ (z : Str) (r : Option Value), x = .str z ∧ y = .ref d ∧ PySem.W.nsIn K d z = some r ∧ Q (.bl r.isSome) H
def rNotInK (K : PySem.W.Frag) (w : World) : R2 := fun x y H Q => ∃ d es n, KDict K w d es n ∧ ∃ (z : Str) (r : Option Value), x = .str z ∧ y = .ref d ∧ PySem.W.nsIn K d z = some r ∧ Q (.bl (!r.isSome)) H
theorem op_inK : OpR X (compareOp .In) (rInK X.K X.w) := by
  intro pins s σ H x y v u Q I rx ry h
  obtain ⟨d, es, n, D, h⟩ := h
  exact op_in_kd D pins s σ H x y v u Q I rx ry h
theorem op_notInK : OpR X (compareOp .NotIn) (rNotInK X.K X.w) := by
  intro pins s σ H x y v u Q I rx ry h
  obtain ⟨d, es, n, D, h⟩ := h
  exact op_notIn_kd D pins s σ H x y v u Q I rx ry h
def uIn (K : PySem.W.Frag) (w : World) : R2 := fun x y H Q => (∃ (c : Nat) (z : Str), x = .str ⟨#[c]⟩ ∧ y = .str z ∧ Q (.bl (decide (c ∈ z.cps.toList))) H) ∨ rIn K false x y H Q ∨ rInD x y H Q ∨ rInK K w x y H Q
theorem inU {k : Nat} (hr : Room k X.A) : OpR X (compareOp .In) (uIn X.K X.w) := op_in_sign.or (op_in_seq.or ((op_inD hr).or op_inK))
def uNotIn (K : PySem.W.Frag) (w : World) : R2 := fun x y H Q => (∃ (c : Nat) (z : Str), x = .str ⟨#[c]⟩ ∧ y = .str z ∧ Q (.bl (!decide (c ∈ z.cps.toList))) H) ∨ rIn K true x y H Q ∨ rNotInD x y H Q ∨ rNotInK K w x y H Q
theorem notInU {k : Nat} (hr : Room k X.A) : OpR X (compareOp .NotIn) (uNotIn X.K X.w) := op_notIn_sign.or (op_notIn_seq.or ((op_notInD hr).or op_notInK))

/-! ### is, is not -/
def uIs : R2 := fun x y H Q => rIsB x y H Q ∨ (y = .non ∧ Q (.bl (decide (x = .non))) H)
theorem isU : OpR X (compareOp .Is) uIs := op_isBl.or op_isN
def uIsNot : R2 := fun x y H Q => rNotB x y H Q ∨ (y = .non ∧ Q (.bl (!decide (x = .non))) H)
theorem isNotU : OpR X (compareOp .IsNot) uIsNot := op_notBl.or op_notN

/-! ### o[i] -/
def rIxDt : R2 := fun x y H Q => ∃ a v, x = .ref a ∧ DGet H a y (some v) ∧ Q v H
theorem ix_dict {k : Nat} (hr : Room k X.A) : IxR X rIxDt := by
  intro value slice pins s σ H x y v u Q I rx ry h hs
  obtain ⟨a, r, rfl, g, q⟩ := h
  obtain rfl : v = Value.ref a := rx
  exact tail_any (dict_typeIs I g) slot_dict_getitem.lookup (d_getItem (hu_of hr) I g ry fun w' s' I' rw' => ⟨r, H, I', rw', q⟩) hs
def uIx (K : PySem.W.Frag) (w : World) : R2 := fun x y H Q => rIxL K x y H Q ∨ rIxT K x y H Q ∨ rIxS x y H Q ∨ rIxDt x y H Q ∨ rIxD K w x y H Q
theorem ixU {k : Nat} (hr : Room k X.A) : IxR X (uIx X.K X.w) := ix_list.or (ix_tup.or (ix_str.or ((ix_dict hr).or ix_kdict)))
def uSl (K : PySem.W.Frag) : V → Option Int → Option Int → Hp → VK → Prop := fun x lo hi H Q => rSlA K x lo hi H Q ∨ rSlL K x lo hi H Q ∨ C8.rSlX x lo hi H Q
theorem slU : SlR X (uSl X.K) := sl_tupA.or (sl_list.or C8.sl_txt)

/-! ### a built-in class as a value; a call without arguments -/
theorem pe_ty {x : Str} {n : String} {pos : Pos} (hg : Gl X x) (hm : X.mg x = none) (hv : bootBuiltins x = some (.type n)) (hn : x ≠ "__name__" := by decide) (hd : (x == ("__debug__" : Str)) = false := by decide) : PE X (.Name x pos) (tC (.ty n)) :=
  pe_bltn hg hm hv rfl hn hd

/-! ### min of three ints -/
theorem call_min3 (hc : X.calm = true) : CallR X (.builtin "min") (fun xs H Q => ∃ i j k, xs = [.int i, .int j, .int k] ∧ Q (.int (min (min i j) k)) H) := by
  intro pins s σ H xs us Q I r h
  obtain ⟨i, j, k, rfl, q⟩ := h
  cases r with
  | cons r1 r => cases r with
    | cons r2 r => cases r with
      | cons r3 r =>
        cases r
        obtain ⟨t1, rfl⟩ := r1
        obtain ⟨t2, rfl⟩ := r2
        obtain ⟨t3, rfl⟩ := r3
        refine min_three_ints (I.ok.hd hc) fun h' tk kp => ⟨_, H, I.kept kp, ?_, q⟩
        by_cases h1 : j < i
        · rw [if_pos h1]
          by_cases h2 : k < j
          · rw [if_pos h2]; exact ⟨_, by congr 1; omega⟩
          · rw [if_neg h2]; exact ⟨_, by congr 1; omega⟩
        · rw [if_neg h1]
          by_cases h2 : k < i
          · rw [if_pos h2]; exact ⟨_, by congr 1; omega⟩
          · rw [if_neg h2]; exact ⟨_, by congr 1; omega⟩
end
end Z
set_option Elab.async false
set_option linter.all false
set_option maxRecDepth 100000
set_option maxHeartbeats 4000000
/-! Z2: len(set(tuple of ints)), enumerate(tuple) -/
namespace Z
open PySem PySem.Spec PyProof.Rows L2

/-! ### len(set(t)), t a tuple of ints -/
def tLenSetU (K : PySem.W.Frag) (ta : TE) : TE := fun σ H Q => ta σ H fun x H1 => ∃ (l : Addr) (ns : List Int), x = .ref l ∧ SqT K H1 l (ns.map V.int) ∧ ns.length ≤ 4000 ∧
  ∀ ks : List Int, ks.Nodup → (∀ k, k ∈ ks ↔ k ∈ ns) → Q (.int (ks.length : Nat)) H1
theorem pe_lenSetU {X : Cx} {a : Expr} {ta : TE} {p p2 q pos : Pos} (hg : Gl X "len") (hm : X.mg "len" = none) (hg2 : Gl X "set") (hm2 : X.mg "set" = none) (ha : PE X a ta) (hc : X.calm = true := by rfl)
    (na : starEach [a] X.env = (false, eval a X.env) :: starEach [] X.env := by rfl) : PE X (.Call (.Name "len" p) [.Call (.Name "set" p2) [a] [] q] [] pos) (tLenSetU X.K ta) := by
  refine ⟨fun pins s σ H Q I h => ?_⟩
  refine Call_ (ld_blt I hg hm boot_len ?_)
  refine PyProof.Rows.callWith_builtin1 (PyProof.Rows.args_cons ?_ rfl) rfl rfl
  refine Call_ (ld_blt I hg2 hm2 boot_set ?_)
  refine PyProof.Rows.callWith_type1 (PyProof.Rows.args_cons (thn (ha.run pins s σ H _ I h) fun v s1 ⟨x, H1, I1, r1, q1⟩ => PyProof.Rows.args_nil ?_) na) na rfl
  obtain ⟨l, ns, rfl, hq, hl, q1⟩ := q1
  cases r1
  obtain ⟨its, r, pl, hz⟩ := I1.tuple hq
  have hlen : its.toArray.size = ns.length := by rw [List.size_toArray, ← r.length, List.length_map]
  refine call_set_tupI ns (I1.ok.hd hc) (pl) (by simpa using ints_vals r) (by unfold scanBound; omega) fun h' tk c hS hcn hk => ?_
  refine PyProof.Rows.args_nil ?_
  obtain ⟨o, es, ep, t, ho, hex, hd, _, hnd, hmem, hb, hf, hn, _⟩ := hS
  have I2 : Inv X pins σ H1 { s1 with heap := h', toks := tk } := I1.kept fun b o e => hk b o e
  refine call_len_set ho hex hd hf (by rw [hn]; omega) ⟨.int es.size, H1, I2.tok _, ⟨_, rfl⟩, ?_⟩
  have e : es.size = (es.toList.map keyOf).length := by simp
  rw [e]
  exact q1 _ hnd fun k => by rw [← hmem k, decide_eq_true_iff]

/-! ### for i, x in enumerate(t), t a tuple -/
def IteT (K : PySem.W.Frag) (a : Addr) : It :=
  ⟨fun i H => ∃ (xs : List V) (x : V), SqT K H a xs ∧ xs[i]? = some x, fun i H v H' => ∃ T x, v = .ref T ∧ H T = none ∧ H' = upd H T (.tup [.int (i : Nat), x]) ∧ ∀ xs, SqT K H a xs → xs[i]? = some x, fun i H => ∃ xs : List V, SqT K H a xs ∧ xs.length = i⟩
set_option maxHeartbeats 2000000 in
theorem meets_enum_T (l : Addr) (items : Array Value) :
    Meets (Builtin.«enumerate.__new__» ⟨[.type "enumerate", .ref l], []⟩) (fun _ R s => s.heap.IsTuple l items ∧
      R (.ok (.ret (.ref (s.heap.push { cls := .type "tuple_iterator", data := .fields #[.ref l, .int 0 0] }).objs.size)))
        { s with heap := (s.heap.push { cls := .type "tuple_iterator", data := .fields #[.ref l, .int 0 0] }).push { cls := .type "enumerate", data := .fields #[.none, .bool false, .ref s.heap.objs.size, rawInt 0, .none, .none] } }) :=
  .of_wp fun prog w A R s h => by
    obtain ⟨hp, g, d, tk, os⟩ := s
    obtain ⟨h1, h⟩ := h
    have hsub := sub_enumerate
    have q1 : ∀ {A' : Around} {E : Value → Shared → Prop} {Q : Value → Shared → Prop}, Q (.ref hp.objs.size) ⟨hp.push { cls := .type "tuple_iterator", data := .fields #[.ref l, .int 0 0] }, g, d, tk, os⟩ → wpAny (model prog w) A' (pyIter (.ref l)) Q E ⟨hp, g, d, tk, os⟩ :=
      fun q => wpAny_pyIter_tuple h1 q
    wp_walk using q1
    refine wpAny_stack_any fun st => wpAny_pure ?_
    split
    · rename_i c _ _ _ _ _
      cases (c == Value.type "enumerate")
      · wp_walk using q1
        exact ⟨_, rfl, h⟩
      · wp_walk using q1
        exact ⟨_, rfl, h⟩
    · wp_walk using q1
      exact ⟨_, rfl, h⟩
theorem call_enum_T {prog : Program} {w : World} {A : Around} {E : Value → Shared → Prop} {s : Shared} {l : Addr} {items : Array Value} {Q : Value → Shared → Prop} (hL : s.heap.IsTuple l items)
    (h : ∀ h', IsEnum h' (s.heap.objs.size + 1) s.heap.objs.size 0 .none → h'.IsTupleIter s.heap.objs.size l 0 →
      (∀ b o, s.heap.get? b = some o → h'.get? b = some o) → Q (.ref (s.heap.objs.size + 1)) { s with heap := h' }) :
    wpAny (model prog w) A (call (.type "enumerate") [.ref l]) Q E s := by
  refine callType_new F.called_enumerate (by decide) (F.typeCall_enumerate_1 _) (F.newCall_enumerate_1 _) (fun obj => F.args_object_init_2 obj _) F.entry_enumerate_new
    (meets_enum_T l items) ⟨hL, ?_⟩
  have hz : (s.heap.push { cls := .type "tuple_iterator", data := .fields #[.ref l, .int 0 0] }).objs.size = s.heap.objs.size + 1 := Heap.size_push ..
  show _ ∧ _
  rw [hz]
  have he : IsEnum ((s.heap.push { cls := .type "tuple_iterator", data := .fields #[.ref l, .int 0 0] }).push { cls := .type "enumerate", data := .fields #[.none, .bool false, .ref s.heap.objs.size, rawInt 0, .none, .none] }) (s.heap.objs.size + 1) s.heap.objs.size 0 .none := by
    have := Heap.get?_push_size (s.heap.push { cls := .type "tuple_iterator", data := .fields #[.ref l, .int 0 0] }) (o := { cls := .type "enumerate", data := .fields #[.none, .bool false, .ref s.heap.objs.size, rawInt 0, .none, .none] }) rfl
    rw [hz] at this; exact this
  exact ⟨⟨_, he, rfl⟩, h _ he ⟨_, Heap.get?_push_of_some _ (Heap.get?_push_size _ rfl), rfl, rfl⟩ fun b o x => Heap.get?_push_of_some _ (Heap.get?_push_of_some _ x)⟩
theorem turn_enumT {P : Program} {w : World} {K : PySem.W.Frag} {elts : List Expr} {kk : Nat} {tpos : Pos} (a e it : Addr) :
    Turn P w K (.Tuple elts kk tpos) (IteT K a) [e, it] e (fun i h => (∃ old, IsEnum h e it ((i : Nat) : Int) old) ∧ h.IsTupleIter it a i ∧ e ≠ it ∧ a ≠ it ∧ a ≠ e) where
  mem := by simp
  obj := fun i h st b hb => by
    obtain ⟨⟨old, he⟩, ⟨o, ho, hc, hd⟩, _⟩ := st
    have e' : b = e ∨ b = it := by simpa using hb
    rcases e' with z | z
    · rw [z]; exact ⟨_, he, fun v q => nomatch q⟩
    · rw [z]; exact ⟨o, ho, fun v q => by rw [hd] at q; cases q⟩
  keep := fun i h h' st k => let ⟨⟨old, he⟩, hi, hne⟩ := st; ⟨⟨old, k e (by simp) _ he⟩, hi.at fun o q => k it (by simp) o q, hne⟩
  item := by
    intro X hP hw hK hc i pins s σ H E I hf st hg
    subst hP hw hK
    obtain ⟨⟨old, he⟩, hit, hne, hai, hae⟩ := st
    obtain ⟨xs, x, hq, hx⟩ := hg
    obtain ⟨its, rv, p, hz⟩ := I.tuple hq
    obtain ⟨u, hu, ru⟩ := rv.get hx
    have hel : e < s.heap.objs.size := Heap.lt_size he
    have hil : it < s.heap.objs.size := by obtain ⟨_, q, _⟩ := hit; exact Heap.lt_size q
    have hlt : i < its.toArray.size := by
      have := (List.getElem?_eq_some_iff.mp hu).1
      simpa using this
    have D := Draws.tuple (prog := X.prog) (w := X.w) (A := X.A.in1) (I.ok.hd hc) it a hai its.toArray
    refine wpAny_pyNext_enum_itemC D he ⟨hit, p⟩ hlt hne (by simp [hne, Ne.symm hae]) fun y h' tk hy ho hst' hT hsz hk => ?_
    have ey : y = u := by
      have h1 : its.toArray[i]? = some u := by simpa using hu
      rw [h1] at hy
      exact (Option.some.inj hy).symm
    subst ey
    refine ⟨_, rfl, wpAny_letOwnedTupleGo_enum (s := { s with heap := h', toks := tk + 1 }) ho fun h'' he' sb => ?_⟩
    have hT2 : h''.get? s.heap.objs.size = some { cls := .type "tuple", data := .seq #[.int i tk, y] } := (sb.2 _ (Nat.ne_of_gt hel)).trans hT
    have new : ObjOk X.prog X.w (upd H s.heap.objs.size (.tup [.int (i : Nat), x])) h'' s.heap.objs.size (.tup [.int (i : Nat), x]) :=
      ⟨by show 2 ≤ sizeLine; decide, [.int i tk, y], .cons ⟨_, rfl⟩ (.cons ru .nil), ⟨_, hT2, rfl, _, rfl⟩⟩
    have I1 : Inv X pins σ (upd H s.heap.objs.size (.tup [.int (i : Nat), x])) { s with heap := h'', toks := tk + 1 } :=
      I.turnedNew (ch := [e, it]) (fun b ob hb q => (sb.2 b (fun z => hb (by simp [z]))).trans (hk b ob (fun z => hb (by simp [z])) (fun z => hb (by simp [z])) q)) hf (Nat.le_refl _) new
    refine ⟨.ref s.heap.objs.size, _, I1, rfl, ⟨_, x, rfl, I.hok.fresh (Nat.le_refl _), rfl, fun ys hy => by rw [I.tuple_inj hy hq]; exact hx⟩, ⟨⟨y, ?_⟩, hst'.1.at fun o q => (sb.2 it (Ne.symm hne)).trans q, hne, hai, hae⟩, fun b hb => ?_⟩
    · have e1 : ((i + 1 : Nat) : Int) = (i : Int) + 1 := by omega
      rw [e1]; exact he'
    · have hb' : b < s.heap.objs.size := by
        have e' : b = e ∨ b = it := by simpa using hb
        rcases e' with z | z
        · rw [z]; exact hel
        · rw [z]; exact hil
      rw [upd_ne (Nat.ne_of_lt hb')]
      exact (hf b hb).1
  done := by
    intro X hP hw hK hc i pins s σ H E I hf st hg
    subst hP hw hK
    obtain ⟨⟨old, he⟩, hit, hne, hai, hae⟩ := st
    obtain ⟨xs, hq, hx⟩ := hg
    obtain ⟨its, rv, p, hz⟩ := I.tuple hq
    obtain ⟨f0, f1, f2, f3, f4, f5⟩ := hf it (by simp)
    have hl := rv.length
    have D := Draws.tuple (prog := X.prog) (w := X.w) (A := X.A.in1) (I.ok.hd hc) it a hai its.toArray
    have hi : i = its.toArray.size := by simp; omega
    rw [hi] at hit
    exact wpAny_pyNext_enum_endD D he ⟨hit, p⟩ fun h' eb => ⟨rfl, I.turned (t' := s.toks) (fun b o hb q => eb b o hb q) f0 f1 f3 f4 f5⟩
  self := fun A i s Q E st h => let ⟨⟨_, he⟩, _⟩ := st; wpAny_pyIter_enum he h
def iEnumT (K : PySem.W.Frag) (ta : TA) : TI := fun σ H R => ta σ H fun vs H1 => ∃ a xs, vs = [.ref a] ∧ SqT K H1 a xs ∧ R (IteT K a) H1
theorem pi_enumT {X : Cx} {e : Expr} {ta : TA} {p pos tpos : Pos} {elts : List Expr} {kk : Nat} (hg : Gl X "enumerate") (hm : X.mg "enumerate" = none) (ha : PA X [e] ta) (hs : starEach [e] X.env = [(false, eval e X.env)] := by rfl) :
    PI X (.Tuple elts kk tpos) (.Call (.Name "enumerate" p) [e] [] pos) (iEnumT X.K ta) := by
  refine ⟨fun pins s σ H R I h => ?_⟩
  refine Call_ (ld_blt I hg hm boot_enumerate (PyProof.Rows.callWith_type1 (thn (ha.run pos pins s σ H _ I h) fun us s1 ⟨vs, H1, I1, r1, q1⟩ => ?_) hs rfl))
  obtain ⟨a, xs, ex, hq, q⟩ := q1
  subst ex
  cases r1 with
  | cons r rr =>
    cases rr
    cases r
    obtain ⟨its, rv, p', hz⟩ := I1.tuple hq
    have hal : a < s1.heap.objs.size := p'.lt
    refine call_enum_T p' fun h' he hit hk => wpAny_pyIter_enum he ?_
    have I2 : Inv X pins σ H1 { s1 with heap := h' } := I1.kept (t' := s1.toks) hk
    refine ⟨s1.heap.objs.size + 1, [s1.heap.objs.size + 1, s1.heap.objs.size], _, _, H1, rfl, I2, turn_enumT a (s1.heap.objs.size + 1) s1.heap.objs.size, ⟨⟨.none, he⟩, hit, Nat.succ_ne_self _, Nat.ne_of_lt hal, Nat.ne_of_lt (Nat.lt_succ_of_lt hal)⟩, fun b hb => ?_, q⟩
    have e' : b = s1.heap.objs.size + 1 ∨ b = s1.heap.objs.size := by simpa using hb
    have hle : s1.heap.objs.size ≤ b := by
      rcases e' with z | z
      · rw [z]; exact Nat.le_add_right _ _
      · rw [z]; exact Nat.le_refl _
    exact I1.fpOk hle (I1.hok.fresh hle)
/-- the loop over it, the tuple standing still -/
theorem for_enumT {K : PySem.W.Frag} {a : Addr} {xs : List V} {g : TG} {tb : TS} {D : Ends} {σ : L2.St} {H : Hp} (Pv : Nat → L2.St → Hp → Prop) (h0 : Pv 0 σ H) (hl : ∀ i σ H, i ≤ xs.length → Pv i σ H → SqT K H a xs)
    (hs : ∀ i x T σ H, xs[i]? = some x → Pv i σ H → H T = none → g (.ref T) σ (upd H T (.tup [.int (i : Nat), x])) fun σ2 H2 => tb { D with nx := Pv (i + 1), ct := Pv (i + 1), bk := D.nx } σ2 H2) (hd : ∀ σ H, Pv xs.length σ H → D.nx σ H) :
    ∃ W : Nat → Nat → L2.St → Hp → Prop, (∃ m, W 0 m σ H) ∧ ∀ i m σ H, W i m σ H → ((IteT K a).stop i H ∧ D.nx σ H) ∨ ((IteT K a).go i H ∧ ∃ N : L2.St → Hp → Prop, (∀ σ' H', N σ' H' → ∃ m', m' < m ∧ W (i + 1) m' σ' H') ∧
      ∀ x H', (IteT K a).yld i H x H' → g x σ H' fun σ2 H2 => tb { D with nx := N, ct := N, bk := D.nx } σ2 H2) := by
  refine ⟨fun i m σ H => m = xs.length - i ∧ i ≤ xs.length ∧ Pv i σ H, ⟨xs.length, by simp, Nat.zero_le _, h0⟩, ?_⟩
  rintro i m σ H ⟨rfl, hi, p⟩
  have q := hl i σ H hi p
  by_cases hlt : i < xs.length
  · refine .inr ⟨⟨xs, xs[i], q, by simp [hlt]⟩, Pv (i + 1), fun σ' H' p' => ⟨xs.length - (i + 1), by omega, rfl, hlt, p'⟩, fun x H' y => ?_⟩
    obtain ⟨T, x, e1, e2, e3, e4⟩ := y
    subst e1 e3
    exact hs i x T σ H (e4 xs q) p e2
  · have e : i = xs.length := by omega
    subst e
    exact .inl ⟨⟨xs, q, rfl⟩, hd σ H p⟩
end Z
set_option Elab.async false
set_option linter.all false
set_option maxRecDepth 100000
set_option maxHeartbeats 4000000
/-! Z3: a displayed dict of 18 to 32 pairs (17 are put one by one; the rest is a second dict, merged in) -/
namespace Z
open PySem PySem.Spec PyProof.Rows L2
open Sem (wp)
section
variable {prog : Program} {w : World} {K : Type} [DecidableEq K] {knd : KeyKind prog w K} {A : Around} {E : Value → Shared → Prop} {s : Shared}

theorem dictPut_pairs {d : Addr} {kvs : List (K × Value)} {k : K} {key v : Value} {Q : Unit → Shared → Prop} (hkey : knd.is k key = true) (hm : s.heap.DictOf knd d kvs)
    (hQ : ∀ h', h'.DictOf knd d (stored kvs k v) → Heap.SameBut d s.heap h' → Q () { s with heap := h' })
    (hsz : kvs.length ≤ sizeLine) :
    wpAny (model prog w) A (dictPut d (knd.hash k) key v) Q E s := by
  obtain ⟨o, es, ep, ho, hc, hd, hk, hp, hn⟩ := hm
  have hes : es.size ≤ sizeLine := by have e1 := hp.length; have e2 : es.toList.length = es.size := by simp
                                      omega
  unfold dictPut
  refine wpAny_bind (wpAny_dictFind_of hkey ho hd hk ?_)
  have hidx : (es.findIdx? fun e => knd.is k e.key) = kvs.findIdx? fun kv => decide (kv.1 = k) := by
    rw [← hp.findIdx k]; obtain ⟨l⟩ := es; simp
  cases hi : es.findIdx? fun e => knd.is k e.key with
  | some i =>
    refine wpAny_updateDict ho hd (hQ _ ⟨_, _, ep, Heap.get?_update_self _ ho (Obj.isFreed_of_dict (Obj.data_mapDict hd _)),
      hc.mapDict _, Obj.data_mapDict hd _, hk.modify _ _, ?_, ?_⟩ (Heap.SameBut.update ..))
    · rw [stored, if_pos (any_of_findIdx_some (hidx ▸ hi))]
      have hl : (es.toList.findIdx? fun e => knd.is k e.key) = some i := by rw [← hi]; obtain ⟨l⟩ := es; simp
      have := hp.modify hn hl v
      obtain ⟨l⟩ := es
      simpa using this
    · rw [stored, if_pos (any_of_findIdx_some (hidx ▸ hi)), keys_map_store]; exact hn
  | none =>
    have hnot : k ∉ kvs.map (·.1) := not_mem_of_findIdx_none (hidx ▸ hi)
    have hany : ¬ (kvs.any fun kv => decide (kv.1 = k)) = true := by
      rw [List.any_eq_true]; rintro ⟨kv, hkv, he⟩
      exact hnot (List.mem_map.mpr ⟨kv, hkv, of_decide_eq_true he⟩)
    refine wpAny_updateDictKeys (hz := hes) ho hd (hQ _ ⟨_, _, ep + 1, Heap.get?_update_self _ ho (Obj.isFreed_of_dict (Obj.data_mapDictKeys hd _)),
      hc.mapDictKeys _, Obj.data_mapDictKeys hd _, hk.push hkey _, ?_, ?_⟩ (Heap.SameBut.update ..))
    · rw [stored, if_neg hany]
      have := hp.append hkey (knd.hash k) v
      obtain ⟨l⟩ := es
      simpa using this
    · rw [stored, if_neg hany, List.map_append, List.nodup_append]
      refine ⟨hn, by simp, ?_⟩
      intro a ha b hb
      simp only [List.map_cons, List.map_nil, List.mem_singleton] at hb
      subst hb
      exact fun e => hnot (e ▸ ha)

theorem mergeMapping_dict {d o : Addr} {kvs more : List (K × Value)} {Q : Unit → Shared → Prop} (hdo : d ≠ o) (hoS : (o == sysModules) = false) (hne : kvs ≠ [])
    (hd : s.heap.DictOf knd d kvs) (ho : s.heap.DictOf knd o more)
    (hQ : ∀ h', h'.DictOf knd d (merged kvs more) → h'.DictOf knd o more → Heap.SameBut d s.heap h' → Q () { s with heap := h' })
    (hsz : kvs.length + more.length ≤ sizeLine) :
    wpAny (model prog w) A (mergeMapping d (.ref o) false) Q E s := by
  obtain ⟨od, esd, epd, hod, hcd, hdd, hkd, hpd, hnd⟩ := id hd
  obtain ⟨oo, eso, epo, hoo, hco, hdo', hko, hpo, hno⟩ := id ho
  have hlen : more.length = eso.size := by rw [← hpo.length]; simp
  have hemp : esd.isEmpty = false := by
    cases h : esd.isEmpty with
    | false => rfl
    | true =>
      have h0 : esd = #[] := Array.isEmpty_iff.mp h
      have := hpd.length; rw [h0] at this
      exact absurd (List.length_eq_zero_iff.mp (by simpa using this.symm)) hne
  unfold mergeMapping
  dsimp only
  refine wpAny_bind (wpAny_isInstance ho.typeIs isSubtype_dict_dict ?_)
  rw [if_pos rfl]
  refine wpAny_bind (wpAny_specialOf ho.typeIs F.slot_dict_iter.lookup ?_)
  rw [show (some (Value.builtin "dict.__iter__") == some (Value.builtin "dict.__iter__")) = true from beq_self_eq_true _]
  refine wpAny_bind (wpAny_pure ?_)
  dsimp only
  rw [if_neg (by rw [hoS]; exact Bool.false_ne_true)]
  refine wpAny_bind (wpAny_dictEntries hod hdd ?_)
  rw [if_neg (by rw [hemp]; exact Bool.false_ne_true)]
  refine wpAny_bind (wpAny_dictEntries hoo hdo' ?_)
  refine wpAny_bind (wpAny_dictEpoch hoo hdo' ?_)
  refine wpAny_bind ?_
  refine wpAny_forIn_list _
      (fun rest _ s' => ∃ h' i, s' = { s with heap := h' } ∧ rest = List.range' i (eso.size - i) ∧ i ≤ eso.size ∧ h'.DictOf knd d (merged kvs (more.take i)) ∧ h'.get? o = some oo ∧ Heap.SameBut d s.heap h')
      _ ?_ ?_ _ _ ⟨s.heap, 0, rfl, by simp [List.range_eq_range'], Nat.zero_le _, by simpa [merged] using hd, hoo, Heap.SameBut.refl _ _⟩
  · rintro x rest b s' ⟨h', i, rfl, hr, hi, hd', hoo', hs'⟩
    have hlt : i < eso.size := by
      rcases Nat.lt_or_ge i eso.size with h | h
      · exact h
      · rw [Nat.sub_eq_zero_of_le h] at hr; simp at hr
    obtain ⟨rfl, hrest⟩ : x = i ∧ rest = List.range' (i + 1) (eso.size - (i + 1)) := by
      have e : eso.size - i = (eso.size - (i + 1)) + 1 := by omega
      rw [e, List.range'_succ] at hr
      injection hr with h1 h2
      exact ⟨h1, h2⟩
    refine wpAny_bind (wpAny_dictEntries hoo' hdo' ?_)
    rw [Array.getElem?_eq_getElem hlt]
    obtain ⟨kv, hkv⟩ : ∃ kv, more[x]? = some kv := ⟨more[x]'(by rw [hlen]; exact hlt), List.getElem?_eq_getElem _⟩
    obtain ⟨k, v⟩ := kv
    obtain ⟨hkey, hval⟩ := hpo.get? (e := eso[x]) (by simp [hlt]) hkv
    obtain ⟨k', hkey', hhash⟩ := hko eso[x] (Array.getElem_mem hlt)
    obtain rfl : k' = k := knd.inj _ _ _ hkey' hkey
    dsimp only
    rw [if_neg Bool.false_ne_true]
    have hmx : (merged kvs (more.take x)).length ≤ sizeLine := by
      have e1 := merged_length_le kvs (more.take x)
      have e2 : (more.take x).length ≤ more.length := by rw [List.length_take]; omega
      omega
    rw [hhash, hval]
    refine wpAny_bind (wpAny_holding (dictPut_pairs (hsz := hmx) hkey hd' fun h'' hd'' hs'' => ?_))
    have hoo'' : h''.get? o = some oo := (hs''.2 o (Ne.symm hdo)).trans hoo'
    refine wpAny_bind (wpAny_dictEpoch hoo'' hdo' ?_)
    rw [if_neg (by simp)]
    exact wpAny_pure ⟨h'', x + 1, rfl, hrest, hlt, by rw [merged_take_succ kvs more x (k', v) hkv]; exact hd'', hoo'', hs'.trans hs''⟩
  · rintro b s' ⟨h', i, rfl, hr, hi, hd', hoo', hs'⟩
    have hin : i = eso.size := by
      rcases Nat.lt_or_ge i eso.size with h | h
      · have e : eso.size - i = (eso.size - (i + 1)) + 1 := by omega
        rw [e, List.range'_succ] at hr; exact nomatch hr
      · exact Nat.le_antisymm hi h
    refine wpAny_pure (hQ h' ?_ ⟨oo, eso, epo, hoo', hco, hdo', hko, hpo, hno⟩ hs')
    rw [hin, ← hlen, List.take_length] at hd'; exact hd'

/-- the long form: each pair is put as soon as it stands -/
def putEach (d : Addr) : List (Sem Value × Sem Value) → Sem Unit
  | [] => pure ()
  | (k, v) :: rest => do
    let kv ← k
    let vv ← holding [kv] v
    holding [kv, vv] (dictSet d kv vv)
    putEach d rest
theorem forIn_putEach (d : Addr) : ∀ pairs : List (Sem Value × Sem Value), (forIn pairs PUnit.unit fun (x : Sem Value × Sem Value) (_ : PUnit) => (do
      let kv ← x.1
      let vv ← holding [kv] x.2
      holding [kv, vv] (dictSet d kv vv)
      pure (ForInStep.yield PUnit.unit) : Sem (ForInStep PUnit))) = putEach d pairs
  | [] => rfl
  | p :: rest => by
    rw [List.forIn_cons]
    unfold putEach
    simp only [bind_assoc, pure_bind]
    rw [forIn_putEach d rest]
theorem subDict_long {pairs : List (Sem Value × Sem Value)} {Q : Addr → Shared → Prop} (hlen : ¬ pairs.length ≤ 15)
    (h : wpAny (model prog w) A (putEach s.heap.objs.size pairs) (fun _ s₁ => Q s.heap.objs.size s₁) E
      { s with heap := s.heap.push { cls := .type "dict", data := .dict #[] } }) :
    wpAny (model prog w) A (subDict pairs) Q E s := by
  unfold subDict
  refine wpAny_bind (wpAny_alloc ?_)
  refine wpAny_bind (wpAny_holding ?_)
  rw [if_neg hlen]
  refine wpAny_bind (wpAny_rule ?_)
  rw [forIn_putEach]
  exact wpAny_bind (wpAny_mono h (fun _ s₁ h₁ => wpAny_pure (wpAny_pure h₁)) fun _ _ e => e)
theorem forIn_gather2 (f : (Option (Sem Value) × Sem Value) → (Option Addr × List (Sem Value × Sem Value)) → Sem (ForInStep (Option Addr × List (Sem Value × Sem Value))))
    (hf : ∀ (p : Sem Value × Sem Value) (run : List (Sem Value × Sem Value)) (m : Option Addr), run.length + 1 < 17 → f (some p.1, p.2) (m, run) = pure (.yield (m, run ++ [p]))) :
    ∀ (items run rest : List (Sem Value × Sem Value)) (m : Option Addr), run.length + items.length < 17 → forIn ((items ++ rest).map fun p => (some p.1, p.2)) (m, run) f = forIn (rest.map fun p => (some p.1, p.2)) (m, run ++ items) f
  | [], run, rest, m, _ => by simp
  | p :: items, run, rest, m, h => by
    rw [List.cons_append, List.map_cons, List.forIn_cons, hf p run m (by simp at h; omega), pure_bind]
    have := forIn_gather2 f hf items (run ++ [p]) rest m (by simp at h ⊢; omega)
    simpa using this
theorem dictDisplay_long (a b : List (Sem Value × Sem Value)) (p : Sem Value × Sem Value) (ha : a.length = 16) (hb : b.length < 17) (hb0 : b ≠ []) :
    dictDisplay ((a ++ p :: b).map fun p => (some p.1, p.2)) = (do
      let d ← subDict (a ++ [p])
      let sub ← holding [.ref d] (subDict b)
      (holding [.ref d, .ref sub] (mergeMapping d (.ref sub) false)).onRaise fun x => do let _ ← holding [.ref d, x] (runValue (.builtin "proto.let_go" {}))
      pure (.ref d)) := by
  unfold dictDisplay
  dsimp only
  have hf : ∀ (p : Sem Value × Sem Value) (run : List (Sem Value × Sem Value)) (m : Option Addr), run.length + 1 < 17 → ((run ++ [(p.1, p.2)]).length == 17) = false := fun p run m h => by
    simp; omega
  rw [forIn_gather2 _ (fun p run m h => by
    dsimp only
    rw [if_neg (by rw [hf p run m h]; exact Bool.false_ne_true)]) a [] (p :: b) none (by simp; omega)]
  rw [List.map_cons, List.forIn_cons, List.nil_append]
  dsimp only
  have h17 : ((a ++ [(p.1, p.2)]).length == 17) = true := by simp; omega
  have he : (a ++ [(p.1, p.2)]).isEmpty = false := by simp
  rw [if_pos h17, if_neg (by rw [he]; exact Bool.false_ne_true)]
  simp only [bind_assoc, pure_bind]
  congr 1
  funext d
  rw [show b.map (fun p : Sem Value × Sem Value => (some p.1, p.2)) = (b ++ []).map (fun p : Sem Value × Sem Value => (some p.1, p.2)) by rw [List.append_nil]]
  rw [forIn_gather2 _ (fun p run m h => by
    dsimp only
    rw [if_neg (by rw [hf p run m h]; exact Bool.false_ne_true)]) b [] [] (some d) (by simp; omega)]
  simp [hb0]
end

/-! ### over the layer -/
/-- k1: v1, .. put one by one into the dict at p -/
def tPutEach : List (TE × TE) → Addr → L2.St → Hp → (Hp → Prop) → Prop
  | [], _, _, H, Q => Q H
  | (tk, tv) :: r, p, σ, H, Q => tk σ H fun x H1 => tv σ H1 fun y H2 => ∃ kvs key, H2 p = some (.dK kvs) ∧ x = kV key ∧ kvs.length < sizeLine ∧ tPutEach r p σ (upd H2 p (.dK (putK kvs key y))) Q
structure PPe (X : Cx) (pairs : List (Sem Value × Sem Value)) (trs : List (TE × TE)) : Prop where
  run : ∀ (p : Addr) (pins : List (Addr × Obj)) (s : Shared) (σ : L2.St) (H : Hp) (Q : Hp → Prop), Inv X pins σ H s → tPutEach trs p σ H Q →
    wpAny (model X.prog X.w) X.A (putEach p pairs) (fun _ s' => ∃ H', Inv X pins σ H' s' ∧ Q H') X.xe s
theorem ppe_nil {X : Cx} : PPe X [] [] := ⟨fun p pins s σ H Q I h => wpAny_pure ⟨H, I, h⟩⟩
theorem ppe_cons {X : Cx} {pos : Pos} {k v : Expr} {tk tv : TE} {ps : List (Sem Value × Sem Value)} {trs : List (TE × TE)} (hk : PE X k tk) (hv : PE X v tv) (hr : PPe X ps trs) :
    PPe X ((eval k X.env, (do let x ← eval v X.env; standAt pos; pure x)) :: ps) ((tk, tv) :: trs) := ⟨fun p pins s σ H Q I h => by
  refine wpAny_bind (thn (hk.run pins s σ H _ I h) fun u s1 ⟨x, H1, I1, rx, q1⟩ => ?_)
  refine wpAny_bind (wpAny_holding (wpAny_bind (thn (hv.run pins s1 σ H1 _ I1 q1) fun w2 s2 ⟨y, H2, I2, ry, q2⟩ => ?_)))
  refine wpAny_bind (wpAny_standAt (wpAny_pure ?_))
  obtain ⟨kvs, key, e, ek, hl, q3⟩ := q2
  subst ek
  obtain ⟨z, hd, vs, rel, dd⟩ := dk_of I2.hok e
  have hlen : vs.length = kvs.length := (Paired.length rel).symm
  refine wpAny_bind (wpAny_holding (wpAny_dictSet_pairs (hsz := by omega) (kV_is rx) dd fun h₁ hm₁ hs₁ => ?_))
  have I3 := d_write (h' := h₁) (t' := s2.toks + 1) (ob := .dK (putK kvs key y)) I2 (by rw [e]; exact True.intro) hs₁ (let ⟨q, _, _, hq, _⟩ := hm₁; ⟨q, hq⟩)
    (dk_new (by have := length_putK kvs key y; omega) hd (rel.put key ry) hm₁)
  exact hr.run p pins _ σ _ Q I3 q3⟩
/-- {k1: v1, ..}, 18 to 32 pairs: the first 17, the rest -/
def tDispL (tr1 tr2 : List (TE × TE)) : TE := fun σ H Q => ∀ p, H p = none → tPutEach tr1 p σ (upd H p (.dK [])) fun H1 =>
  ∀ q, H1 q = none → tPairs tr2 σ (upd H1 q (.dK [])) fun ps H2 => H2 q = some (.dK []) ∧ ∃ kvs : List (Key × V), ps = kvs.map (fun kv => (kV kv.1, kv.2)) ∧ kvs.length ≤ 15 ∧
    ∃ kv1, H2 p = some (.dK kv1) ∧ kv1 ≠ [] ∧ kv1.length ≤ 17 ∧ q ≠ p ∧ Q (.ref p) (upd (upd H2 q (.dK (mergeK [] kvs))) p (.dK (mergeK kv1 (mergeK [] kvs))))
theorem pe_dispL {X : Cx} {pos : Pos} {ks1 ks2 : List (Option Expr)} {vs1 vs2 : List Expr} {k0 v0 : Expr} {pe : List (Sem Value × Sem Value)} {tr1 tr2 : List (TE × TE)}
    (h1 : PPe X (pe ++ [(eval k0 X.env, (do let x ← eval v0 X.env; standAt pos; pure x))]) tr1) (h2 : PPs X pos ks2 vs2 tr2)
    (he : (evalEachOpt (ks1 ++ some k0 :: ks2) X.env).zip ((evalEach (vs1 ++ v0 :: vs2) X.env).map fun v => do let x ← v; standAt pos; pure x) = (pe ++ (eval k0 X.env, (do let x ← eval v0 X.env; standAt pos; pure x)) :: pairTrees ks2 vs2 X.env pos).map fun p => (some p.1, p.2))
    (hl : pe.length = 16) (hl2 : ks2.length ≤ 15) (hn2 : ks2 ≠ []) (hall : ks2.all (·.isSome) = true) (hk2 : ks2.length = vs2.length) :
    PE X (.Dict (ks1 ++ some k0 :: ks2) (vs1 ++ v0 :: vs2) pos) (tDispL tr1 tr2) := by
  refine ⟨fun pins s σ H Q I q => ?_⟩
  have hlen := pairTrees_length ks2 vs2 X.env pos hall hk2
  rw [arm_eval_Dict, he, dictDisplay_long pe (pairTrees ks2 vs2 X.env pos) _ hl (by rw [hlen]; omega) (fun z => hn2 (List.length_eq_zero_iff.mp (by rw [← hlen, z]; rfl)))]
  refine wpAny_bind (wpAny_standAt (wpAny_bind ?_))
  have hn := I.hok.fresh (Nat.le_refl s.heap.objs.size)
  have I1 := I.laid (a := s.heap.objs.size) (o := .dK []) (h' := s.heap.push { cls := .type "dict", data := .dict #[] }) (t' := s.toks) (fun _ _ q => Heap.get?_push_of_some _ q) (Nat.le_refl _) (dk_empty s.heap I.big)
  refine subDict_long (by rw [List.length_append, hl, List.length_singleton]; omega) ?_
  refine thn (h1.run _ pins _ σ _ _ I1 (q _ hn)) fun _ s1 ⟨H1, I2, q1⟩ => ?_
  refine wpAny_bind (wpAny_holding ?_)
  have hq2 := I2.hok.fresh (Nat.le_refl s1.heap.objs.size)
  have I3 := I2.laid (a := s1.heap.objs.size) (o := .dK []) (h' := s1.heap.push { cls := .type "dict", data := .dict #[] }) (t' := s1.toks) (fun _ _ q => Heap.get?_push_of_some _ q) (Nat.le_refl _) (dk_empty s1.heap I2.big)
  refine wpAny_subDict (knd := mixKind X.prog X.w) (by rw [hlen]; exact hl2) (thn (h2.run pins _ σ _ _ I3 (q1 _ hq2)) fun ws s2 ⟨ps, H2, I4, rel, e, kvs, ep, lk, kv1, e1, hne, lk1, hqp, q2⟩ => ?_)
  subst ep
  obtain ⟨rs, c, rk⟩ := carries_of (P := X.prog) (w := X.w) rel
  obtain ⟨z, hd, vs0, r0, dd⟩ := dk_of I4.hok e
  cases r0
  refine ⟨rs, c, dd, fun h' dd' hs => ?_⟩
  have hz : (mergeK [] kvs).length ≤ sizeLine := by
    have h1 := length_mergeK kvs []
    rw [List.length_nil] at h1
    rw [sizeLine_eq]; omega
  have hz0 : (mergeK [] kvs).length ≤ 15 := by
    have h1 := length_mergeK kvs []
    rw [List.length_nil] at h1
    omega
  have I5 := d_write (h' := h') (t' := s2.toks + ws.length) (ob := .dK (mergeK [] kvs)) I4 (by rw [e]; exact True.intro) hs (let ⟨q, _, _, hq, _⟩ := dd'; ⟨q, hq⟩) (dk_new hz hd (rk.merge .nil) dd')
  -- the merge
  have e1' : (upd H2 s1.heap.objs.size (.dK (mergeK [] kvs))) s.heap.objs.size = some (.dK kv1) := by rw [upd_ne (Ne.symm hqp)]; exact e1
  obtain ⟨z1, hd1, vs1', r1, dd1⟩ := dk_of I5.hok e1'
  obtain ⟨z2, hd2, vs2', r2, dd2⟩ := dk_of I5.hok (show (upd H2 s1.heap.objs.size (.dK (mergeK [] kvs))) s1.heap.objs.size = some (.dK (mergeK [] kvs)) from upd_same)
  have l1 : kv1.length = vs1'.length := Paired.length r1
  have l2 : (mergeK [] kvs).length = vs2'.length := Paired.length r2
  refine wpAny_bind (wpAny_onRaise (wpAny_holding (mergeMapping_dict (knd := mixKind X.prog X.w) (Ne.symm hqp) hd2 (fun z => hne (List.length_eq_zero_iff.mp (by rw [l1, z]; rfl))) dd1 dd2 (fun h'' hm hm2 hsb => ?_) (by rw [sizeLine_eq]; omega))))
  · refine wpAny_pure ⟨.ref s.heap.objs.size, _, d_write (h' := h'') (ob := .dK (mergeK kv1 (mergeK [] kvs))) I5 (by rw [e1']; exact True.intro) hsb (let ⟨q, _, _, hq, _⟩ := hm; ⟨q, hq⟩) (dk_new ?_ hd1 (KV.merge r2 r1) hm), rfl, q2⟩
    have h1 := length_mergeK (mergeK [] kvs) kv1
    rw [sizeLine_eq]; omega
end Z
set_option Elab.async false
set_option linter.all false
set_option maxRecDepth 100000
set_option maxHeartbeats 4000000
/-! Z4: how a reading is answered, step by step: one lemma for each word, and the tactic walk_at "rd" that takes them -/
namespace Z
open PySem PySem.Spec PyProof.Rows L2
section
variable {K : PySem.W.Frag} {w : World} {σ : L2.St} {H : Hp} {Q : VK} {D : Ends} {T : Bool → Hp → Prop} {te ta tb tc : TE} {t u : TS} {tA tB' : TT} {a b p l : Addr} {x y v : V} {i j k : Int}
theorem i_var {i : Nat} (e : σ[i]? = some (some v)) (q : Q v H) : tVar i σ H Q := ⟨v, e, q⟩
theorem i_c (q : Q v H) : tC v σ H Q := q
theorem i_op {r : R2} (q : ta σ H fun x H1 => tb σ H1 fun y H2 => r x y H2 Q) : tOp r ta tb σ H Q := q
theorem i_un {r : V → Hp → VK → Prop} (q : ta σ H fun x H1 => r x H1 Q) : tUn r ta σ H Q := q
theorem i_cons {t : TA} {Q : List V → Hp → Prop} (q : te σ H fun x H1 => t σ H1 fun xs H2 => Q (x :: xs) H2) : tCons te t σ H Q := q
theorem i_nil {Q : List V → Hp → Prop} (q : Q [] H) : tNil σ H Q := q
theorem i_cb {r : List V → Hp → VK → Prop} {t : TA} (q : t σ H fun vs H1 => r vs H1 Q) : tCB r t σ H Q := q
theorem i_call {sp : Sp} {dvs : List V} {E : XK} {t : TA} (q : t σ H fun vs H1 => sp (vs ++ dvs) H1 Q E) : tCall sp dvs E t σ H Q := q
theorem i_seq (q : t { D with nx := u D } σ H) : tSeq t u D σ H := q
theorem i_next (q : D.nx σ H) : tNext D σ H := q
theorem i_break (q : D.bk σ H) : tBreak D σ H := q
theorem i_cont (q : D.ct σ H) : tCont D σ H := q
theorem i_asg {g : TG} (q : te σ H fun x H1 => g x σ H1 D.nx) : tAsg te g D σ H := q
theorem i_gname {i : Nat} {Q : L2.St → Hp → Prop} (q : Q (σ.set i (some v)) H) : gName i v σ H Q := q
theorem i_gcons {t : TG} {u : TGs} {r : List V} {Q : L2.St → Hp → Prop} (q : t v σ H fun σ' H' => u r σ' H' Q) : gCons t u (v :: r) σ H Q := ⟨v, r, rfl, q⟩
theorem i_gnil {Q : L2.St → Hp → Prop} (q : Q σ H) : gNil [] σ H Q := ⟨rfl, q⟩
theorem i_ret (q : te σ H D.rt) : tRet te D σ H := q
theorem i_retN (q : D.rt .non H) : tRetN D σ H := q
theorem i_drop (q : te σ H fun _ H1 => D.nx σ H1) : tDrop te D σ H := q
theorem i_ifs (q : tA σ H fun b H1 => if b = true then t D σ H1 else u D σ H1) : tIfS tA t u D σ H := q
theorem i_B (q : te σ H fun x H1 => ∃ c, x = .bl c ∧ T c H1) : tB te σ H T := q
theorem i_test (q : te σ H fun x H1 => ∃ c, x = .bl c ∧ T c H1) : tTest te σ H T := q
theorem i_and (q : tA σ H fun c H1 => if c = true then tB' σ H1 T else T false H1) : tAnd tA tB' σ H T := q
theorem i_or (q : tA σ H fun c H1 => if c = true then T true H1 else tB' σ H1 T) : tOr tA tB' σ H T := q
theorem i_not (q : tA σ H fun c H1 => T (!c) H1) : tNot tA σ H T := q
theorem i_andV (q : ta σ H fun x H1 => ∃ c, x = .bl c ∧ if c = true then tb σ H1 Q else Q (.bl false) H1) : tAndV ta tb σ H Q := q
theorem i_orV (q : ta σ H fun x H1 => ∃ c, x = .bl c ∧ if c = true then Q (.bl true) H1 else tb σ H1 Q) : tOrV ta tb σ H Q := q
theorem i_notT (q : ta σ H fun x H1 => ∃ k, TruV K x H1 k ∧ Q (.bl (!k)) H1) : tNotT K ta σ H Q := q
theorem i_ifE (q : tA σ H fun c H1 => if c = true then ta σ H1 Q else tb σ H1 Q) : tIf tA ta tb σ H Q := q
theorem i_chain {r r' : R2} (q : ta σ H fun x H1 => tb σ H1 fun y H2 => r x y H2 fun z H3 => ∃ k, z = .bl k ∧ (if k = true then tc σ H3 fun w' H4 => r' y w' H4 Q else Q (.bl false) H3)) : tChain r r' ta tb tc σ H Q := q
theorem i_tup {t : TA} (q : t σ H fun xs H1 => xs.length ≤ sizeLine ∧ ∀ p, H1 p = none → Q (.ref p) (upd H1 p (.tup xs))) : tTup t σ H Q := q
theorem i_lst {t : TA} (q : t σ H fun xs H1 => xs.length ≤ sizeLine ∧ ∀ p, H1 p = none → Q (.ref p) (upd H1 p (.lst xs))) : tLst t σ H Q := q
theorem i_sl {r : V → Option Int → Option Int → Hp → VK → Prop} {tl th : TO} (q : te σ H fun x H1 => tl σ H1 fun l H2 => th σ H2 fun u H3 => r x l u H3 Q) : tSl r te tl th σ H Q := q
theorem i_nopart {Q : Option Int → Hp → Prop} (q : Q none H) : tNoPart σ H Q := q
theorem i_part {Q : Option Int → Hp → Prop} (q : te σ H fun x H1 => ∃ i, x = .int i ∧ Q (some i) H1) : tPart te σ H Q := q
theorem i_yes (q : T true H) : tYes σ H T := q
theorem i_aug {i : Nat} {ti : TIp} (e : σ[i]? = some (some x)) (q : te σ H fun y H1 => ti x y H1 fun z H2 => D.nx (σ.set i (some z)) H2) : tAug i te ti D σ H := ⟨x, e, q⟩
theorem i_par {i j : Nat} {t : TA} (q : t σ H fun vs H1 => ∃ v w, vs = [v, w] ∧ D.nx ((σ.set i (some v)).set j (some w)) H1) : tPar i j t D σ H := q
theorem i_cut (Mid : L2.St → Hp → Prop) (q : t { D with nx := Mid } σ H) (r : ∀ σ' H', Mid σ' H' → u D σ' H') : C8.tCut t u D σ H := ⟨Mid, q, r⟩
/-! ints, bools -/
theorem i_rI0 {g : Int → Int → V} (q : Q (g i j) H) : rI0 g (.int i) (.int j) H Q := ⟨i, j, rfl, rfl, q⟩
theorem i_rI {C : Int → Int → Prop} {g : Int → Int → V} (c : C i j) (q : Q (g i j) H) : rI C g (.int i) (.int j) H Q := ⟨i, j, rfl, rfl, c, q⟩
theorem i_ipI {g : Int → Int → Int} (q : Q (.int (g i j)) H) : ipI g (.int i) (.int j) H Q := ⟨i, j, rfl, rfl, q⟩
theorem i_rU {g : Int → V} (q : Q (g i) H) : rU g (.int i) H Q := ⟨i, rfl, q⟩
theorem i_addI (q : Q (.int (i + j)) H) : uAdd K (.int i) (.int j) H Q := .inl ⟨i, j, rfl, rfl, q⟩
theorem i_mulI (c : CMul i j) (q : Q (.int (i * j)) H) : uMul K (.int i) (.int j) H Q := .inl ⟨i, j, rfl, rfl, c, q⟩
theorem i_exB {c : Bool} {P : Bool → Prop} (q : P c) : ∃ c', V.bl c = V.bl c' ∧ P c' := ⟨c, rfl, q⟩
theorem i_exI {P : Int → Prop} (q : P i) : ∃ c', V.int i = V.int c' ∧ P c' := ⟨i, rfl, q⟩
theorem i_ex2 {x y : V} {P : V → V → Prop} (q : P x y) : ∃ v w, [x, y] = [v, w] ∧ P v w := ⟨x, y, rfl, q⟩
theorem i_truB {c : Bool} {P : Bool → Prop} (q : P c) : ∃ k, TruV K (.bl c) H k ∧ P k := ⟨c, rfl, q⟩
theorem i_truI {P : Bool → Prop} (q : P (i != 0)) : ∃ k, TruV K (.int i) H k ∧ P k := ⟨_, rfl, q⟩
theorem i_truL {xs : List V} {P : Bool → Prop} (h : SqL K H a xs) (q : P (!xs.isEmpty)) : ∃ k, TruV K (.ref a) H k ∧ P k := ⟨_, .inl ⟨xs, h, rfl⟩, q⟩
theorem i_truT {xs : List V} {P : Bool → Prop} (h : SqT K H a xs) (q : P (!xs.isEmpty)) : ∃ k, TruV K (.ref a) H k ∧ P k := ⟨_, .inr (.inl ⟨xs, h, rfl⟩), q⟩
theorem dec_int {i j : Int} : decide (V.int i = V.int j) = decide (i = j) := by by_cases e : i = j <;> simp [e]
theorem dec_str {i j : Str} : decide (V.str i = V.str j) = decide (i = j) := by by_cases e : i = j <;> simp [e]
theorem dec_bl {i j : Bool} : decide (V.bl i = V.bl j) = decide (i = j) := by by_cases e : i = j <;> simp [e]
theorem i_eqI (q : Q (.bl (decide (i = j))) H) : uEq K (.int i) (.int j) H Q := .inl ⟨rfl, by rw [dec_int]; exact q⟩
theorem i_neI (q : Q (.bl (!decide (i = j))) H) : uNe K (.int i) (.int j) H Q := .inl ⟨rfl, by rw [dec_int]; exact q⟩
theorem i_eqS {i j : Str} (q : Q (.bl (decide (i = j))) H) : uEq K (.str i) (.str j) H Q := .inl ⟨rfl, by rw [dec_str]; exact q⟩
theorem i_neS {i j : Str} (q : Q (.bl (!decide (i = j))) H) : uNe K (.str i) (.str j) H Q := .inl ⟨rfl, by rw [dec_str]; exact q⟩
theorem i_eqD {d e : PyData} (h1 : Dp K H x d) (h2 : Dp K H y e) (s1 : SeqAt.shaped d = true) (s2 : SeqAt.shaped e = true) (q : Q (.bl (PyData.eqv d e)) H) : uEq K x y H Q := .inr ⟨d, e, h1, h2, s1, s2, q⟩
theorem i_neD {d e : PyData} (h1 : Dp K H x d) (h2 : Dp K H y e) (s1 : SeqAt.shaped d = true) (s2 : SeqAt.shaped e = true) (q : Q (.bl (!PyData.eqv d e)) H) : uNe K x y H Q := .inr ⟨d, e, h1, h2, s1, s2, q⟩
theorem i_isB {c d : Bool} (q : Q (.bl (decide (c = d))) H) : uIs (.bl c) (.bl d) H Q := .inl ⟨c, d, rfl, rfl, q⟩
theorem i_isNotB {c d : Bool} (q : Q (.bl (!decide (c = d))) H) : uIsNot (.bl c) (.bl d) H Q := .inl ⟨c, d, rfl, rfl, q⟩
theorem i_isN (q : Q (.bl (decide (x = .non))) H) : uIs x .non H Q := .inr ⟨rfl, q⟩
theorem i_isNotN (q : Q (.bl (!decide (x = .non))) H) : uIsNot x .non H Q := .inr ⟨rfl, q⟩
/-! calls of built-ins -/
def rLen (K : PySem.W.Frag) : List V → Hp → VK → Prop := fun xs H Q => ∃ x n, xs = [x] ∧ LenV K x H n ∧ Q (.int n) H
def rInt : List V → Hp → VK → Prop := fun xs H Q => (∃ i, xs = [.int i] ∧ Q (.int i) H) ∨ ∃ k, xs = [.bl k] ∧ Q (.int (if k then 1 else 0)) H
def rAbs : List V → Hp → VK → Prop := fun xs H Q => ∃ i, xs = [.int i] ∧ Q (.int (if i < 0 then -i else i)) H
def rMax2 : List V → Hp → VK → Prop := fun xs H Q => ∃ i j, xs = [.int i, .int j] ∧ Q (.int (if j > i then j else i)) H
def rMin2 : List V → Hp → VK → Prop := fun xs H Q => ∃ i j, xs = [.int i, .int j] ∧ Q (.int (if j < i then j else i)) H
def rMin3 : List V → Hp → VK → Prop := fun xs H Q => ∃ i j k, xs = [.int i, .int j, .int k] ∧ Q (.int (min (min i j) k)) H
def rTupOf (K : PySem.W.Frag) : List V → Hp → VK → Prop := fun xs H Q => ∃ p ys, xs = [.ref p] ∧ ((SqL K H p ys ∧ ∀ l, H l = none → Q (.ref l) (upd H l (.tup ys))) ∨ (SqT K H p ys ∧ Q (.ref p) H))
def rListOf (K : PySem.W.Frag) : List V → Hp → VK → Prop := fun xs H Q => ∃ p ys, xs = [.ref p] ∧ (SqL K H p ys ∨ SqT K H p ys) ∧ ∀ l, H l = none → Q (.ref l) (upd H l (.lst ys))
section
variable {X : Cx}
theorem lenU : CallR X (.builtin "len") (rLen X.K) := call_len
theorem intU : CallR X (.type "int") rInt := call_int1
theorem absU : CallR X (.builtin "abs") rAbs := call_abs
theorem max2U (hc : X.calm = true) : CallR X (.builtin "max") rMax2 := call_max2 hc
theorem min2U (hc : X.calm = true) : CallR X (.builtin "min") rMin2 := call_min2 hc
theorem min3U (hc : X.calm = true) : CallR X (.builtin "min") rMin3 := call_min3 hc
theorem tupOfU : CallR X (.type "tuple") (rTupOf X.K) := call_tuple_of
theorem listOfU : CallR X (.type "list") (rListOf X.K) := call_list_of
end
theorem i_lenL {xs : List V} (h : SqL K H p xs) (q : Q (.int xs.length) H) : rLen K [.ref p] H Q := ⟨_, _, rfl, .inl ⟨xs, h, rfl⟩, q⟩
theorem i_lenT {xs : List V} (h : SqT K H p xs) (q : Q (.int xs.length) H) : rLen K [.ref p] H Q := ⟨_, _, rfl, .inr ⟨xs, h, rfl⟩, q⟩
theorem i_lenS {z : Str} (h : z.length ≤ sizeLine) (q : Q (.int z.length) H) : rLen K [.str z] H Q := ⟨_, _, rfl, ⟨h, rfl⟩, q⟩
theorem i_int (q : Q (.int i) H) : rInt [.int i] H Q := .inl ⟨i, rfl, q⟩
theorem i_intB {c : Bool} (q : Q (.int (if c then 1 else 0)) H) : rInt [.bl c] H Q := .inr ⟨c, rfl, q⟩
theorem i_abs (q : Q (.int (if i < 0 then -i else i)) H) : rAbs [.int i] H Q := ⟨i, rfl, q⟩
theorem i_max2 (q : Q (.int (if j > i then j else i)) H) : rMax2 [.int i, .int j] H Q := ⟨i, j, rfl, q⟩
theorem i_min2 (q : Q (.int (if j < i then j else i)) H) : rMin2 [.int i, .int j] H Q := ⟨i, j, rfl, q⟩
theorem i_min3 (q : Q (.int (min (min i j) k)) H) : rMin3 [.int i, .int j, .int k] H Q := ⟨i, j, k, rfl, q⟩
theorem i_tupOf {ys : List V} (h : SqL K H p ys) (q : ∀ l, H l = none → Q (.ref l) (upd H l (.tup ys))) : rTupOf K [.ref p] H Q := ⟨p, ys, rfl, .inl ⟨h, q⟩⟩
theorem i_listOfL {ys : List V} (h : SqL K H p ys) (q : ∀ l, H l = none → Q (.ref l) (upd H l (.lst ys))) : rListOf K [.ref p] H Q := ⟨p, ys, rfl, .inl h, q⟩
theorem i_listOfT {ys : List V} (h : SqT K H p ys) (q : ∀ l, H l = none → Q (.ref l) (upd H l (.lst ys))) : rListOf K [.ref p] H Q := ⟨p, ys, rfl, .inr h, q⟩
/-! o[i] -/
theorem i_ixL {xs : List V} (h : SqL K H p xs) (e : atI xs i = some v) (q : Q v H) : uIx K w (.ref p) (.int i) H Q := .inl ⟨p, xs, i, v, rfl, rfl, h, e, q⟩
theorem i_ixT {xs : List V} (h : SqT K H p xs) (e : atI xs i = some v) (q : Q v H) : uIx K w (.ref p) (.int i) H Q := .inr (.inl ⟨p, xs, i, v, rfl, rfl, h, e, q⟩)
theorem i_ixS {z : Str} {c : Nat} (h : z.length ≤ sizeLine) (e : atI z.cps.toList i = some c) (q : Q (.str ⟨#[c]⟩) H) : uIx K w (.str z) (.int i) H Q := .inr (.inr (.inl ⟨z, i, c, rfl, rfl, h, e, q⟩))
theorem i_ixD {r : V} (g : DGet H a y (some r)) (q : Q r H) : uIx K w (.ref a) y H Q := .inr (.inr (.inr (.inl ⟨a, r, rfl, g, q⟩)))
theorem i_ixK {r : V} {z : Str} (g : KDct K w a z r) (q : Q r H) : uIx K w (.ref a) (.str z) H Q := .inr (.inr (.inr (.inr ⟨a, z, r, rfl, rfl, g, q⟩)))
/-! in -/
theorem i_inC {c : Nat} {z : Str} (q : Q (.bl (decide (c ∈ z.cps.toList))) H) : uIn K w (.str ⟨#[c]⟩) (.str z) H Q := .inl ⟨c, z, rfl, rfl, q⟩
theorem i_notInC {c : Nat} {z : Str} (q : Q (.bl (!decide (c ∈ z.cps.toList))) H) : uNotIn K w (.str ⟨#[c]⟩) (.str z) H Q := .inl ⟨c, z, rfl, rfl, q⟩
theorem i_inL {xs : List V} (h : SqL K H p xs) (f : flatV x = true) (g : xs.all flatV = true) (q : Q (.bl (inV x xs)) H) : uIn K w x (.ref p) H Q := .inr (.inl ⟨p, xs, rfl, .inl h, f, g, q⟩)
theorem i_inT {xs : List V} (h : SqT K H p xs) (f : flatV x = true) (g : xs.all flatV = true) (q : Q (.bl (inV x xs)) H) : uIn K w x (.ref p) H Q := .inr (.inl ⟨p, xs, rfl, .inr h, f, g, q⟩)
theorem i_notInL {xs : List V} (h : SqL K H p xs) (f : flatV x = true) (g : xs.all flatV = true) (q : Q (.bl (!inV x xs)) H) : uNotIn K w x (.ref p) H Q := .inr (.inl ⟨p, xs, rfl, .inl h, f, g, q⟩)
theorem i_notInT {xs : List V} (h : SqT K H p xs) (f : flatV x = true) (g : xs.all flatV = true) (q : Q (.bl (!inV x xs)) H) : uNotIn K w x (.ref p) H Q := .inr (.inl ⟨p, xs, rfl, .inr h, f, g, q⟩)
theorem i_inD {o : Option V} (g : DGet H a x o) (q : Q (.bl o.isSome) H) : uIn K w x (.ref a) H Q := .inr (.inr (.inl ⟨a, o, rfl, g, q⟩))
theorem i_notInD {o : Option V} (g : DGet H a x o) (q : Q (.bl (!o.isSome)) H) : uNotIn K w x (.ref a) H Q := .inr (.inr (.inl ⟨a, o, rfl, g, q⟩))
theorem i_notInK {es n} {z : Str} {r : Option Value} (D : KDict K w a es n) (e : PySem.W.nsIn K a z = some r) (q : Q (.bl (!r.isSome)) H) : uNotIn K w (.str z) (.ref a) H Q := .inr (.inr (.inr ⟨a, es, n, D, z, r, rfl, rfl, e, q⟩))
/-! new tuples: where and how the heap grew does not matter -/
theorem same_new {H : Hp} {p : Addr} {o : HO} (h : H p = none) : Same H (upd H p o) := fun b u e => by rw [upd_ne (ne_of_none e h)]; exact e
theorem _root_.L2.Same.sqT {H H' : Hp} {xs : List V} (e : Same H H') (h : SqT K H a xs) : SqT K H' a xs := by
  rcases h with (h | ⟨o, h⟩) | h
  · exact .inl (.inl (e _ _ h))
  · exact .inl (.inr ⟨o, e _ _ h⟩)
  · exact .inr h
theorem i_newT {xs : List V} (h : xs.length ≤ sizeLine) (q : ∀ p H', Same H H' → SqT K H' p xs → Q (.ref p) H') : xs.length ≤ sizeLine ∧ ∀ p, H p = none → Q (.ref p) (upd H p (.tup xs)) :=
  ⟨h, fun p hp => q p _ (same_new hp) (.of upd_same)⟩
theorem i_addT {xs ys : List V} (h1 : SqT K H a xs) (h2 : SqT K H b ys) (hz : xs.length + ys.length ≤ sizeLine) (q : ∀ p H', Same H H' → SqT K H' p (xs ++ ys) → Q (.ref p) H') : uAdd K (.ref a) (.ref b) H Q := by
  refine .inr (.inr (.inl ⟨a, b, xs, ys, rfl, rfl, h1, h2, hz, fun e => ?_, fun _ e => ?_, fun _ _ p hp => q p _ (same_new hp) (.of upd_same)⟩))
  · subst e; exact q b H (Same.refl H) (by rw [List.nil_append]; exact h2)
  · subst e; exact q a H (Same.refl H) (by rw [List.append_nil]; exact h1)
theorem i_slT {xs : List V} {lo hi : Option Int} (h : SqT K H a xs) (q : ∀ p H', Same H H' → SqT K H' p (cutV xs lo hi) → Q (.ref p) H') : uSl K (.ref a) lo hi H Q := by
  refine .inl ⟨a, xs, rfl, h, fun hw => ?_, fun _ p hp => q p _ (same_new hp) (.of upd_same)⟩
  refine q a H (Same.refl H) ?_
  unfold cutV
  rw [hw.1, hw.2]
  simpa using h
theorem i_mulT {xs : List V} (h : SqT K H a xs) (hn : xs ≠ []) (h1 : 1 ≤ k) (h2 : k ≤ 1000) (hz : xs.length ≤ 1000) (q : ∀ p H', Same H H' → SqT K H' p (List.replicate k.toNat xs).flatten → Q (.ref p) H') : uMul K (.ref a) (.int k) H Q := by
  by_cases e : k = 1
  · subst e
    refine .inr (.inr (.inr (.inl ⟨a, xs, rfl, rfl, h, q a H (Same.refl H) ?_⟩)))
    have : (List.replicate (1 : Int).toNat xs).flatten = xs := by simp
    rw [this]; exact h
  · exact .inr (.inr (.inl ⟨a, k, xs, rfl, rfl, h, hn, by omega, h2, hz, fun p hp => q p _ (same_new hp) (.of upd_same)⟩))
theorem i_mulL {xs : List V} (h : H a = some (.lst xs)) (h1 : 0 ≤ k) (h2 : k ≤ 1000) (hz : xs.length ≤ 1000) (q : ∀ p, H p = none → Q (.ref p) (upd H p (.lst (List.replicate k.toNat xs).flatten))) : uMul K (.ref a) (.int k) H Q := by
  refine .inr (.inl ⟨a, k, xs, rfl, rfl, h, by omega, by omega, ?_, q⟩)
  have := Nat.mul_le_mul hz (show k.toNat ≤ 1000 by omega)
  rw [sizeLine_eq]; omega
theorem i_mulS {z : Str} (ok : MulOk z k) (q : Q (.str (Txt.mul z k)) H) : uMul K (.str z) (.int k) H Q := .inr (.inr (.inr (.inr ⟨z, k, rfl, rfl, ok, q⟩)))
theorem i_gtup {n : Nat} {g : TGs} {xs : List V} {Q : L2.St → Hp → Prop} (h : SqT K H a xs) (e : xs.length = n) (q : g xs σ H Q) : gTup K n g (.ref a) σ H Q := ⟨a, xs, rfl, h, e, q⟩
theorem i_if (c : Bool) {A B : Prop} (h1 : c = true → A) (h2 : c = false → B) : if c = true then A else B := by
  cases c
  · rw [if_neg Bool.false_ne_true]; exact h2 rfl
  · rw [if_pos rfl]; exact h1 rfl
theorem i_ifD {P : Prop} [Decidable P] {A B : Prop} (h1 : P → A) (h2 : ¬ P → B) : if decide P = true then A else B := by
  by_cases h : P
  · rw [if_pos (decide_eq_true h)]; exact h1 h
  · rw [if_neg (by simp [h])]; exact h2 h
theorem i_ifN {P : Prop} [Decidable P] {A B : Prop} (h1 : ¬ P → A) (h2 : P → B) : if (!decide P) = true then A else B := by
  by_cases h : P
  · rw [if_neg (by simp [h])]; exact h2 h
  · rw [if_pos (by simp [h])]; exact h1 h
end

/-! ### a def under a name of the module (its own, or another one that the module gave it) -/
structure DefA (K : PySem.W.Frag) (mg : Str → Option Value) (x nm : Str) (st : Stmt) : Prop where
  ex : ∃ (f : Addr) (fd : FuncData), C8.Fun K nm nm st f fd ∧ fd.defaults = .none ∧ mg x = some (.ref f) ∧ PySem.W.keepIn K (.ref f) = true
theorem cal_mk {P : Program} {w : World} {K : PySem.W.Frag} {mg : Str → Option Value} {base : Heap} {x nm : Str} {st : Stmt} {N ps : List Str} {k : Nat} {sp : Sp} (F : DefA K mg x nm st)
    (b : ∀ (kV doc pm : Value) (an : Option Addr) (cdv ct : Value) (us : List Value), us.length = ps.length → bindArgs (PySem.W.fnOf nm nm (C8.fnArgs st) (C8.fnBody st) (C8.fnScope st) .none kV doc pm an cdv ct) ⟨us, []⟩ = pure (ps.zip us))
    (S : FnScope N ps (C8.fnScope st)) (len : ∀ vs H Q E, sp vs H Q E → vs.length = ps.length)
    (hbody : ∀ (f : Addr) (cdv : Value) (A : Around) (outer : List Env) (s : Shared) (H : Hp) (vs : List V) (Q : VK) (E : XK), Room k (A.deeper (envOfC nm (C8.fnScope st) s.heap.objs.size f cdv)) → sp vs H Q E →
      ∃ t, PSs (cxOf C8.CX0 P w K mg base N nm (C8.fnScope st) f cdv A outer s H E).nox (C8.fnBody st) t ∧ t { nx := fun _ H' => Q .non H', rt := Q } (start N vs) H) : C8.Cal P w K mg base (k + 1) x sp [] := by
  obtain ⟨f, fd, Fn, df, hm, kp⟩ := F.ex
  exact ⟨f, fd, ps, [], C8.fn0 Fn S len (hbody f), hm, kp, Fn.binds df b, .nil⟩
end Z
set_option Elab.async false
set_option linter.all false
set_option maxRecDepth 100000
set_option maxHeartbeats 4000000
/-! Z5: comprehensions whose elements change nothing -/
namespace Z
open PySem PySem.Spec PyProof.Rows L2
theorem _root_.L2.Same.lst {H H' : Hp} {a : Addr} {o : HO} (e : Same H H') (h : H a = some o) : H' a = some o := e _ _ h
section
variable {K : PySem.W.Frag} {J : It} {n : Nat} {G : Hp → Prop} {Y : Nat → Hp → V → Hp → Prop} {R : Nat → V → Prop} {g : TG} {te : TE} {vs : List Nat} {σ : L2.St} {H1 : Hp} {D : Addr} {Qd : Hp → Prop}
theorem lcF (f : Nat → V) (wk : Walk J n G Y) (hG : ∀ H, Same H1 H → G H) (hY : ∀ i H x H', Y i H x H' → H' = H ∧ R i x) (hz : n ≤ sizeLine) (hD : H1 D = none)
    (hs : ∀ i x H (Qe : VK), i < n → R i x → Same H1 H → (∀ H4, Same H H4 → Qe (f i) H4) → g x (wipe σ vs) H fun σ2 H2 => wipe σ2 vs = wipe σ vs ∧ te σ2 H2 Qe)
    (hd : ∀ H, Same H1 H → H D = some (.lst ((List.range n).map f)) → Qd H) :
    ∃ W : Nat → Nat → Hp → Prop, (∃ m, W 0 m (upd H1 D (.lst []))) ∧ ∀ i m H, W i m H →
      (J.stop i H ∧ Qd H) ∨ (J.go i H ∧ ∃ Nx : Hp → Prop, (∀ H', Nx H' → ∃ m', m' < m ∧ W (i + 1) m' H') ∧ ∀ x H', J.yld i H x H' → g x (wipe σ vs) H' fun σ2 H2 => wipe σ2 vs = wipe σ vs ∧ tYes σ2 H2 fun b H3 =>
        if b = true then te σ2 H3 fun y H4 => ∃ acc, H4 D = some (.lst acc) ∧ acc.length < sizeLine ∧ Nx (upd H4 D (.lst (acc ++ [y]))) else Nx H3) := by
  refine lc_it wk (fun i H => Same H1 H ∧ H D = some (.lst ((List.range i).map f))) ⟨same_new hD, upd_same⟩ (fun i H _ h => hG H h.1) ?_ (fun H h => hd H h.1 h.2)
  intro i x H H' hi h y
  obtain ⟨rfl, r⟩ := hY i H x H' y
  refine hs i x H' _ hi r h.1 fun H4 s4 => ⟨_, s4 _ _ h.2, by rw [List.length_map, List.length_range]; omega, ?_, ?_⟩
  · intro b o e
    rw [upd_ne (ne_of_none e hD)]
    exact s4 b o (h.1 b o e)
  · rw [upd_same, List.range_succ, List.map_append]
    rfl
/-- over a tuple -/
theorem lcT {a : Addr} {xs : List V} (f : Nat → V) (hS : SqT K H1 a xs) (hz : xs.length ≤ sizeLine) (hD : H1 D = none)
    (hs : ∀ i x H (Qe : VK), xs[i]? = some x → Same H1 H → (∀ H4, Same H H4 → Qe (f i) H4) → g x (wipe σ vs) H fun σ2 H2 => wipe σ2 vs = wipe σ vs ∧ te σ2 H2 Qe)
    (hd : ∀ H, Same H1 H → H D = some (.lst ((List.range xs.length).map f)) → Qd H) :
    ∃ W : Nat → Nat → Hp → Prop, (∃ m, W 0 m (upd H1 D (.lst []))) ∧ ∀ i m H, W i m H →
      ((Itt K a).stop i H ∧ Qd H) ∨ ((Itt K a).go i H ∧ ∃ Nx : Hp → Prop, (∀ H', Nx H' → ∃ m', m' < m ∧ W (i + 1) m' H') ∧ ∀ x H', (Itt K a).yld i H x H' → g x (wipe σ vs) H' fun σ2 H2 => wipe σ2 vs = wipe σ vs ∧ tYes σ2 H2 fun b H3 =>
        if b = true then te σ2 H3 fun y H4 => ∃ acc, H4 D = some (.lst acc) ∧ acc.length < sizeLine ∧ Nx (upd H4 D (.lst (acc ++ [y]))) else Nx H3) :=
  lcF f walk_tup (fun H s => s.sqT hS) (R := fun i x => xs[i]? = some x) (fun i H x H' y => y) hz hD (fun i x H Qe _ r => hs i x H Qe r) hd
/-- over a list -/
theorem lcL {a : Addr} {xs : List V} (f : Nat → V) (hS : SqL K H1 a xs) (hz : xs.length ≤ sizeLine) (hD : H1 D = none)
    (hs : ∀ i x H (Qe : VK), xs[i]? = some x → Same H1 H → (∀ H4, Same H H4 → Qe (f i) H4) → g x (wipe σ vs) H fun σ2 H2 => wipe σ2 vs = wipe σ vs ∧ te σ2 H2 Qe)
    (hd : ∀ H, Same H1 H → H D = some (.lst ((List.range xs.length).map f)) → Qd H) :
    ∃ W : Nat → Nat → Hp → Prop, (∃ m, W 0 m (upd H1 D (.lst []))) ∧ ∀ i m H, W i m H →
      ((Itl K a).stop i H ∧ Qd H) ∨ ((Itl K a).go i H ∧ ∃ Nx : Hp → Prop, (∀ H', Nx H' → ∃ m', m' < m ∧ W (i + 1) m' H') ∧ ∀ x H', (Itl K a).yld i H x H' → g x (wipe σ vs) H' fun σ2 H2 => wipe σ2 vs = wipe σ vs ∧ tYes σ2 H2 fun b H3 =>
        if b = true then te σ2 H3 fun y H4 => ∃ acc, H4 D = some (.lst acc) ∧ acc.length < sizeLine ∧ Nx (upd H4 D (.lst (acc ++ [y]))) else Nx H3) :=
  lcF f walk_list (fun H s => s.seq hS) (R := fun i x => xs[i]? = some x) (fun i H x H' y => y) hz hD (fun i x H Qe _ r => hs i x H Qe r) hd
/-- over range -/
theorem lcR {lo : Int} {n : Nat} (f : Nat → V) (hz : n ≤ sizeLine) (hD : H1 D = none)
    (hs : ∀ i H (Qe : VK), i < n → Same H1 H → (∀ H4, Same H H4 → Qe (f i) H4) → g (.int (lo + i)) (wipe σ vs) H fun σ2 H2 => wipe σ2 vs = wipe σ vs ∧ te σ2 H2 Qe)
    (hd : ∀ H, Same H1 H → H D = some (.lst ((List.range n).map f)) → Qd H) :
    ∃ W : Nat → Nat → Hp → Prop, (∃ m, W 0 m (upd H1 D (.lst []))) ∧ ∀ i m H, W i m H →
      ((Itr lo n).stop i H ∧ Qd H) ∨ ((Itr lo n).go i H ∧ ∃ Nx : Hp → Prop, (∀ H', Nx H' → ∃ m', m' < m ∧ W (i + 1) m' H') ∧ ∀ x H', (Itr lo n).yld i H x H' → g x (wipe σ vs) H' fun σ2 H2 => wipe σ2 vs = wipe σ vs ∧ tYes σ2 H2 fun b H3 =>
        if b = true then te σ2 H3 fun y H4 => ∃ acc, H4 D = some (.lst acc) ∧ acc.length < sizeLine ∧ Nx (upd H4 D (.lst (acc ++ [y]))) else Nx H3) :=
  lcF f walk_range (fun H s => trivial) (R := fun i x => x = .int (lo + i)) (fun i H x H' y => y) hz hD (fun i x H Qe hi r => by subst r; exact hs i H Qe hi) hd
/-- over a text's signs -/
theorem lcS {z : Str} (f : Nat → V) (hz : z.cps.size ≤ sizeLine) (hD : H1 D = none)
    (hs : ∀ i c H (Qe : VK), z.cps[i]? = some c → Same H1 H → (∀ H4, Same H H4 → Qe (f i) H4) → g (.str ⟨#[c]⟩) (wipe σ vs) H fun σ2 H2 => wipe σ2 vs = wipe σ vs ∧ te σ2 H2 Qe)
    (hd : ∀ H, Same H1 H → H D = some (.lst ((List.range z.cps.size).map f)) → Qd H) :
    ∃ W : Nat → Nat → Hp → Prop, (∃ m, W 0 m (upd H1 D (.lst []))) ∧ ∀ i m H, W i m H →
      ((Its z).stop i H ∧ Qd H) ∨ ((Its z).go i H ∧ ∃ Nx : Hp → Prop, (∀ H', Nx H' → ∃ m', m' < m ∧ W (i + 1) m' H') ∧ ∀ x H', (Its z).yld i H x H' → g x (wipe σ vs) H' fun σ2 H2 => wipe σ2 vs = wipe σ vs ∧ tYes σ2 H2 fun b H3 =>
        if b = true then te σ2 H3 fun y H4 => ∃ acc, H4 D = some (.lst acc) ∧ acc.length < sizeLine ∧ Nx (upd H4 D (.lst (acc ++ [y]))) else Nx H3) :=
  lcF f walk_str (fun H s => trivial) (R := fun i x => ∃ c, z.cps[i]? = some c ∧ x = .str ⟨#[c]⟩) (fun i H x H' y => y) hz hD (fun i x H Qe hi r => by obtain ⟨c, e, rfl⟩ := r; exact hs i c H Qe e) hd
end
theorem map_range_get {α β : Type} (f : α → β) (g : Nat → β) : ∀ (xs : List α), (∀ i x, xs[i]? = some x → g i = f x) → (List.range xs.length).map g = xs.map f := by
  intro xs h
  apply List.ext_getElem?
  intro i
  rw [List.getElem?_map, List.getElem?_map]
  by_cases hi : i < xs.length
  · rw [List.getElem?_range hi, List.getElem?_eq_getElem hi]
    show some (g i) = some (f xs[i])
    rw [h i xs[i] (List.getElem?_eq_getElem hi)]
  · rw [List.getElem?_eq_none (by simpa using hi), List.getElem?_eq_none (by simpa using hi)]
    rfl
end Z
set_option Elab.async false
set_option linter.all false
set_option maxRecDepth 100000
set_option maxHeartbeats 4000000
/-! Z6: the rules whose reading speaks of the written part, with it named (so that they serve within a comprehension, too) -/
namespace Z
open PySem PySem.Spec PyProof.Rows L2
section
variable {X : Cx} (K : PySem.W.Frag) (w : World)
theorem addK (hK : X.K = K := by rfl) : OpR X (binaryOp .Add) (uAdd K) := by subst hK; exact op_addU
theorem mulK (hK : X.K = K := by rfl) : OpR X (binaryOp .Mult) (uMul K) := by subst hK; exact op_mulU
theorem eqK {k : Nat} (hr : Room k X.A) (hK : X.K = K := by rfl) : OpR X (compareOp .Eq) (uEq K) := by subst hK; exact eqU hr
theorem neK {k : Nat} (hr : Room k X.A) (hK : X.K = K := by rfl) : OpR X (compareOp .NotEq) (uNe K) := by subst hK; exact neU hr
theorem inK {k : Nat} (hr : Room k X.A) (hK : X.K = K := by rfl) (hw : X.w = w := by rfl) : OpR X (compareOp .In) (uIn K w) := by subst hK; subst hw; exact inU hr
theorem notInK {k : Nat} (hr : Room k X.A) (hK : X.K = K := by rfl) (hw : X.w = w := by rfl) : OpR X (compareOp .NotIn) (uNotIn K w) := by subst hK; subst hw; exact notInU hr
theorem ixK {k : Nat} (hr : Room k X.A) (hK : X.K = K := by rfl) (hw : X.w = w := by rfl) : IxR X (uIx K w) := by subst hK; subst hw; exact ixU hr
theorem slK (hK : X.K = K := by rfl) : SlR X (uSl K) := by subst hK; exact slU
theorem lenK (hK : X.K = K := by rfl) : CallR X (.builtin "len") (rLen K) := by subst hK; exact lenU
theorem tupOfK (hK : X.K = K := by rfl) : CallR X (.type "tuple") (rTupOf K) := by subst hK; exact tupOfU
theorem listOfK (hK : X.K = K := by rfl) : CallR X (.type "list") (rListOf K) := by subst hK; exact listOfU
theorem isiK (hK : X.K = K := by rfl) : CallR X (.builtin "isinstance") (rIsi K) := by subst hK; exact call_isi
theorem allK (hc : X.calm = true) (hK : X.K = K := by rfl) : CallR X (.builtin "all") (rAll K) := by subst hK; exact cr_all hc
theorem anyK (hc : X.calm = true) (hK : X.K = K := by rfl) : CallR X (.builtin "any") (rAny K) := by subst hK; exact cr_any hc
theorem sumK (hc : X.calm = true) (hK : X.K = K := by rfl) : CallR X (.builtin "sum") (rSum K) := by subst hK; exact cr_sum hc
theorem fldK {e : Expr} {f : Str} {ta : TE} {pos : Pos} (he : PE X e ta) (hb : attributeBase e f X.env (eval e X.env) = eval e X.env) (hK : X.K = K := by rfl) : PE X (.Attribute e f pos) (tFld K ta f) := by subst hK; exact pe_fld he hb
theorem notTK {a : Expr} {ta : TE} {pos : Pos} (ha : PE X a ta) (hK : X.K = K := by rfl) : PE X (.UnaryOp .Not a pos) (tNotT K ta) := by subst hK; exact pe_notT ha
def tTruth (K : PySem.W.Frag) (ta : TE) : TT := fun σ H Q => ta σ H fun x H' => ∃ k, TruV K x H' k ∧ Q k H'
theorem truthK {a : Expr} {ta : TE} (ha : PE X a ta) (he : ∀ whole, isTrue a X.env whole = (do let v ← whole; standAt a.pos; holding [v] (truthy v))) (hK : X.K = K := by rfl) : PT X a (tTruth K ta) := by subst hK; exact pt_truth ha he
theorem i_truth {K : PySem.W.Frag} {ta : TE} {σ : L2.St} {H : Hp} {Q : Bool → Hp → Prop} (q : ta σ H fun x H' => ∃ k, TruV K x H' k ∧ Q k H') : tTruth K ta σ H Q := q
theorem tupG {es : List Expr} {k : Nat} {t : TGs} {n : Nat} {pos : Pos} (hc : X.calm = true) (h : PGs X es t) (hK : X.K = K := by rfl)
    (hn : (assignEach es X.env).length = n := by rfl) (hst : (assignEach es X.env).findIdx? (·.1) = none := by rfl) : PG X (.Tuple es k pos) (gTup K n t) := by subst hK; exact pg_tup hc h hn hst
theorem listI {tg l : Expr} {tl : TE} (hl : PE X l tl) (hK : X.K = K := by rfl) : PI X tg l (iList K tl) := by subst hK; exact pi_list hl
theorem tupI {tg l : Expr} {tl : TE} (hl : PE X l tl) (hK : X.K = K := by rfl) : PI X tg l (iTup K tl) := by subst hK; exact pi_tup hl
theorem lenSetK {a : Expr} {ta : TE} {p p2 q pos : Pos} (hg : Gl X "len") (hm : X.mg "len" = none) (hg2 : Gl X "set") (hm2 : X.mg "set" = none) (ha : PE X a ta) (hK : X.K = K := by rfl) (hc : X.calm = true := by rfl)
    (na : starEach [a] X.env = (false, eval a X.env) :: starEach [] X.env := by rfl) : PE X (.Call (.Name "len" p) [.Call (.Name "set" p2) [a] [] q] [] pos) (tLenSetU K ta) := by subst hK; exact pe_lenSetU hg hm hg2 hm2 ha hc na
theorem enumTK {e : Expr} {ta : TA} {p pos tpos : Pos} {elts : List Expr} {kk : Nat} (hg : Gl X "enumerate") (hm : X.mg "enumerate" = none) (ha : PA X [e] ta) (hK : X.K = K := by rfl) (hs : starEach [e] X.env = [(false, eval e X.env)] := by rfl) :
    PI X (.Tuple elts kk tpos) (.Call (.Name "enumerate" p) [e] [] pos) (iEnumT K ta) := by subst hK; exact pi_enumT hg hm ha hs
theorem enumLK {e : Expr} {ta : TA} {p pos tpos : Pos} {elts : List Expr} {kk : Nat} (hg : Gl X "enumerate") (hm : X.mg "enumerate" = none) (ha : PA X [e] ta) (hK : X.K = K := by rfl) (hs : starEach [e] X.env = [(false, eval e X.env)] := by rfl) :
    PI X (.Tuple elts kk tpos) (.Call (.Name "enumerate" p) [e] [] pos) (iEnum K ta) := by subst hK; exact pi_enum hg hm ha hs
end
section
variable {K : PySem.W.Frag} {σ : L2.St} {H : Hp} {Q : VK} {D : Ends} {te : TE} {tb : TS} {wi : TI} {g : TG} {tt : TT} {vs : List Nat} {R : It → Hp → Prop} {ta : TA}
theorem i_lc (q : wi σ H fun J H1 => ∀ D, H1 D = none → ∃ W : Nat → Nat → Hp → Prop, (∃ m, W 0 m (upd H1 D (.lst []))) ∧ ∀ i m H, W i m H →
  (J.stop i H ∧ Q (.ref D) H) ∨ (J.go i H ∧ ∃ Nx : Hp → Prop, (∀ H', Nx H' → ∃ m', m' < m ∧ W (i + 1) m' H') ∧ ∀ x H', J.yld i H x H' → g x (wipe σ vs) H' fun σ2 H2 => wipe σ2 vs = wipe σ vs ∧ tt σ2 H2 fun b H3 =>
    if b = true then te σ2 H3 fun y H4 => ∃ acc, H4 D = some (.lst acc) ∧ acc.length < sizeLine ∧ Nx (upd H4 D (.lst (acc ++ [y]))) else Nx H3)) : tLc wi g tt te vs σ H Q := q
theorem i_for (q : wi σ H fun J H1 => ∃ W : Nat → Nat → L2.St → Hp → Prop, (∃ m, W 0 m σ H1) ∧ ∀ i m σ H, W i m σ H →
  (J.stop i H ∧ D.nx σ H) ∨ (J.go i H ∧ ∃ N : L2.St → Hp → Prop, (∀ σ' H', N σ' H' → ∃ m', m' < m ∧ W (i + 1) m' σ' H') ∧ ∀ x H', J.yld i H x H' → g x σ H' fun σ2 H2 => tb { D with nx := N, ct := N, bk := D.nx } σ2 H2)) : tFor wi g tb D σ H := q
theorem i_iStr (q : te σ H fun v H1 => ∃ x, v = .str x ∧ R (Its x) H1) : iStr te σ H R := q
theorem i_iTup (q : te σ H fun x H1 => ∃ a, x = .ref a ∧ (∃ xs, SqT K H1 a xs) ∧ R (Itt K a) H1) : iTup K te σ H R := q
theorem i_iList (q : te σ H fun x H1 => ∃ a, x = .ref a ∧ (∃ xs, SqL K H1 a xs) ∧ R (Itl K a) H1) : iList K te σ H R := q
theorem i_iRng1 (q : ta σ H fun vs H1 => ∃ j : Int, vs = [.int j] ∧ -(2 ^ 62) ≤ j ∧ j < 2 ^ 62 ∧ R (Itr 0 j.toNat) H1) : iRng1 ta σ H R := q
theorem i_iEnumT (q : ta σ H fun vs H1 => ∃ a xs, vs = [.ref a] ∧ SqT K H1 a xs ∧ R (IteT K a) H1) : iEnumT K ta σ H R := q
theorem i_exS {z : Str} {P : Str → Prop} (q : P z) : ∃ x, V.str z = .str x ∧ P x := ⟨z, rfl, q⟩
theorem i_exTup {a : Addr} {xs : List V} {P : Addr → Prop} (h : SqT K H a xs) (q : P a) : ∃ a', V.ref a = .ref a' ∧ (∃ xs, SqT K H a' xs) ∧ P a' := ⟨a, rfl, ⟨xs, h⟩, q⟩
theorem i_exLst {a : Addr} {xs : List V} {P : Addr → Prop} (h : SqL K H a xs) (q : P a) : ∃ a', V.ref a = .ref a' ∧ (∃ xs, SqL K H a' xs) ∧ P a' := ⟨a, rfl, ⟨xs, h⟩, q⟩
theorem i_exRng {j : Int} {P : Int → Prop} (h1 : 0 ≤ j) (h2 : j ≤ 16777216) (q : P j) : ∃ j' : Int, [V.int j] = [.int j'] ∧ -(2 ^ 62) ≤ j' ∧ j' < 2 ^ 62 ∧ P j' := ⟨j, rfl, by omega, by omega, q⟩
theorem i_all {a : Addr} {bs : List Bool} (h : SqL K H a (bs.map V.bl)) (q : Q (.bl (bs.all id)) H) : rAll K [.ref a] H Q := ⟨a, bs, rfl, h, q⟩
theorem i_any {a : Addr} {bs : List Bool} (h : SqL K H a (bs.map V.bl)) (q : Q (.bl (bs.any id)) H) : rAny K [.ref a] H Q := ⟨a, bs, rfl, h, q⟩
theorem i_sum {a : Addr} {ns : List Int} (h : SqL K H a (ns.map V.int)) (q : Q (.int ns.sum) H) : rSum K [.ref a] H Q := ⟨a, ns, rfl, h, q⟩
end
section
variable {K : PySem.W.Frag} {σ : L2.St} {H H2 : Hp} {tk tv : TE} {r : List (TE × TE)} {a p : Addr} {xs : List V} {o : HO}
theorem i_pairs {Q : List (V × V) → Hp → Prop} (q : tk σ H fun x H1 => tv σ H1 fun y H2 => tPairs r σ H2 fun ps H3 => Q ((x, y) :: ps) H3) : tPairs ((tk, tv) :: r) σ H Q := q
theorem i_pairs0 {Q : List (V × V) → Hp → Prop} (q : Q [] H) : tPairs [] σ H Q := q
theorem i_disp {trs : List (TE × TE)} {Q : VK} (q : ∀ p, H p = none → tPairs trs σ (upd H p (.dK [])) fun ps H2 => H2 p = some (.dK []) ∧ ∃ kvs : List (Key × V), ps = kvs.map (fun kv => (kV kv.1, kv.2)) ∧ kvs.length ≤ 15 ∧ Q (.ref p) (upd H2 p (.dK (mergeK [] kvs)))) : tDisp trs σ H Q := q
theorem i_lenSet {ta : TE} {Q : VK} (q : ta σ H fun x H1 => ∃ (l : Addr) (ns : List Int), x = .ref l ∧ SqT K H1 l (ns.map V.int) ∧ ns.length ≤ 4000 ∧ ∀ ks : List Int, ks.Nodup → (∀ k, k ∈ ks ↔ k ∈ ns) → Q (.int (ks.length : Nat)) H1) : tLenSetU K ta σ H Q := q
/-- a tuple stays where a thing of another kind is changed -/
theorem sqT_upd {u : HO} (h : SqT K H a xs) (hp : H p = some u) (hu : ∀ ys, u ≠ .tup ys) (hf : ∀ ob v, u ≠ .frz ob v) : SqT K (upd H p o) a xs := by
  rcases h with (h | ⟨ob, h⟩) | h
  · refine .inl (.inl ?_)
    rw [upd_ne (fun e => by subst e; rw [h] at hp; exact hu _ (Option.some.inj hp).symm)]; exact h
  · refine .inl (.inr ⟨ob, ?_⟩)
    rw [upd_ne (fun e => by subst e; rw [h] at hp; exact hf _ _ (Option.some.inj hp).symm)]; exact h
  · exact .inr h
theorem same_upd (s : Same H H2) (hp : H p = none) : Same H (upd H2 p o) := fun b u e => by
  rw [upd_ne (ne_of_none e hp)]; exact s b u e
end
section
variable {K : PySem.W.Frag} {σ : L2.St} {H H' : Hp} {to ti : TE} {t : TSet} {v : V} {st p a : Addr} {xs : List V} {k : Int} {j : Nat} {o : HO}
theorem i_gsub {Q : L2.St → Hp → Prop} (q : to σ H fun o H1 => ti σ H1 fun i H2 => t o i v H2 fun H3 => Q σ H3) : gSub to ti t v σ H Q := q
theorem i_setL {Q : Hp → Prop} (h : H p = some (.lst xs)) (e : ixN xs.length k = some j) (q : Q (upd H p (.lst (xs.set j v)))) : rSetL (.ref p) (.int k) v H Q := ⟨p, xs, k, j, rfl, rfl, h, e, q⟩
/-- all that is tracked but st is as it was -/
def Keep (st : Addr) (H H' : Hp) : Prop := ∀ b o, H b = some o → b ≠ st → H' b = some o
theorem Keep.refl (st : Addr) (H : Hp) : Keep st H H := fun _ _ h _ => h
theorem Keep.trans {H1 H2 : Hp} (a : Keep st H H1) (b : Keep st H1 H2) : Keep st H H2 := fun c o h hc => b c o (a c o h hc) hc
theorem _root_.L2.Same.keep (s : Same H H') : Keep st H H' := fun b o h _ => s b o h
theorem keep_upd : Keep st H (upd H st o) := fun b u e hb => by rw [upd_ne hb]; exact e
theorem Keep.seqL {H1 : Hp} (s : Keep st H H1) (h : SqL K H a xs) (ha : a ≠ st) : SqL K H1 a xs := by
  rcases h with (h | ⟨ob, h⟩) | h
  · exact .inl (.inl (s _ _ h ha))
  · exact .inl (.inr ⟨ob, s _ _ h ha⟩)
  · exact .inr h
theorem Keep.seqT {H1 : Hp} (s : Keep st H H1) (h : SqT K H a xs) (ha : a ≠ st) : SqT K H1 a xs := by
  rcases h with (h | ⟨ob, h⟩) | h
  · exact .inl (.inl (s _ _ h ha))
  · exact .inl (.inr ⟨ob, s _ _ h ha⟩)
  · exact .inr h
/-- the stream of a law's draws, at st; the script's copy at l -/
def Strm (H : Hp) (st l : Addr) : Prop := ∃ (ns : List Int) (b c d : Int), H st = some (.lst [.ref l, .int b, .int c, .int d]) ∧ H l = some (.lst (ns.map V.int)) ∧ l ≠ st ∧ ns.length ≤ 63 ∧ 0 ≤ b ∧ 0 ≤ c ∧ 0 ≤ d ∧ d < 2147483647
theorem Strm.go {l : Addr} (h : Strm H st l) (h1 : ∀ o, H st = some o → H' st = some o) (h2 : ∀ o, H l = some o → H' l = some o) : Strm H' st l := by
  obtain ⟨ns, b, c, d, e, hl, r⟩ := h
  exact ⟨ns, b, c, d, h1 _ e, h2 _ hl, r⟩
theorem Strm.upd {l : Addr} (h : Strm H st l) (h1 : p ≠ st) (h2 : p ≠ l) : Strm (upd H p o) st l :=
  h.go (fun u e => by rw [upd_ne (Ne.symm h1)]; exact e) (fun u e => by rw [upd_ne (Ne.symm h2)]; exact e)
theorem Strm.ne {l : Addr} (h : Strm H st l) (hp : H p = none) : p ≠ st ∧ p ≠ l := by
  obtain ⟨ns, b, c, d, e, hl, r⟩ := h
  exact ⟨(ne_of_none e hp).symm, (ne_of_none hl hp).symm⟩
theorem _root_.L2.Same.strm {l : Addr} (s : Same H H') (h : Strm H st l) : Strm H' st l := h.go (fun u e => s _ _ e) (fun u e => s _ _ e)
def sp_draw : Sp := fun vs H Q _ => ∃ (st l : Addr) (m : Int), vs = [.ref st, .int m] ∧ 0 < m ∧ m < 1073741824 ∧ Strm H st l ∧ ∀ n H', 0 ≤ n → n < m → Strm H' st l → Keep st H H' → Q (.int n) H'
def sp_stream (K : PySem.W.Frag) : Sp := fun vs H Q _ => ∃ (a : Addr) (ns : List Int), vs = [.ref a] ∧ SqL K H a (ns.map V.int) ∧ ns.length ≤ 63 ∧ ∀ st l H', Strm H' st l → Same H H' → H st = none → Q (.ref st) H'
end
end Z
set_option Elab.async false
set_option linter.all false
set_option maxRecDepth 100000
set_option maxHeartbeats 4000000
/-! Z7: a displayed dict of 18 to 32 pairs, by the text of its pairs -/
namespace Z
open PySem PySem.Spec PyProof.Rows L2
open Sem (wp)
section
variable {X : Cx} {pos : Pos}
/-- the pairs: the first n, the rest -/
def PPn (X : Cx) (pos : Pos) (n : Nat) (ks : List (Option Expr)) (vs : List Expr) (tr1 tr2 : List (TE × TE)) : Prop :=
  ∃ l1 ks2 vs2, PPe X l1 tr1 ∧ l1.length = n ∧ PPs X pos ks2 vs2 tr2 ∧ ks2.all (·.isSome) = true ∧ ks2.length = vs2.length ∧ ks2.length = tr2.length ∧
    (evalEachOpt ks X.env).zip ((evalEach vs X.env).map fun v => do let x ← v; standAt pos; pure x) = (l1 ++ pairTrees ks2 vs2 X.env pos).map fun p => (some p.1, p.2)
theorem ppn_cons {n : Nat} {k v : Expr} {tk tv : TE} {ks : List (Option Expr)} {vs : List Expr} {tr1 tr2 : List (TE × TE)} (hk : PE X k tk) (hv : PE X v tv) (h : PPn X pos n ks vs tr1 tr2) : PPn X pos (n + 1) (some k :: ks) (v :: vs) ((tk, tv) :: tr1) tr2 := by
  obtain ⟨l1, ks2, vs2, a, b, c, d, e, f, g⟩ := h
  refine ⟨_, ks2, vs2, ppe_cons (pos := pos) hk hv a, by rw [List.length_cons, b], c, d, e, f, ?_⟩
  rw [List.cons_append, List.map_cons, ← g]
  rfl
theorem ppn_zero {ks : List (Option Expr)} {vs : List Expr} {tr2 : List (TE × TE)} (h : PPs X pos ks vs tr2) (hall : ks.all (·.isSome) = true) (hk : ks.length = vs.length) (hk2 : ks.length = tr2.length)
    (he : (evalEachOpt ks X.env).zip ((evalEach vs X.env).map fun v => do let x ← v; standAt pos; pure x) = (pairTrees ks vs X.env pos).map fun p => (some p.1, p.2)) : PPn X pos 0 ks vs [] tr2 :=
  ⟨[], ks, vs, ppe_nil, rfl, h, hall, hk, hk2, he⟩
theorem pe_dispN {ks : List (Option Expr)} {vs : List Expr} {tr1 tr2 : List (TE × TE)} (h : PPn X pos 17 ks vs tr1 tr2) (hl2 : tr2.length ≤ 15) (hn2 : tr2 ≠ []) : PE X (.Dict ks vs pos) (tDispL tr1 tr2) := by
  obtain ⟨l1, ks2, vs2, h1, b, h2, hall, hk2, hkt, he⟩ := h
  obtain ⟨a, p, rfl⟩ : ∃ a p, l1 = a ++ [p] := ⟨l1.dropLast, l1.getLast (fun z => by rw [z] at b; cases b), (List.dropLast_concat_getLast _).symm⟩
  have hl : a.length = 16 := by simpa using b
  refine ⟨fun pins s σ H Q I q => ?_⟩
  have hlen := pairTrees_length ks2 vs2 X.env pos hall hk2
  rw [arm_eval_Dict, he, List.append_assoc, List.singleton_append, dictDisplay_long a (pairTrees ks2 vs2 X.env pos) _ hl (by rw [hlen]; omega) (fun z => hn2 (List.length_eq_zero_iff.mp (by rw [← hkt, ← hlen, z]; rfl)))]
  refine wpAny_bind (wpAny_standAt (wpAny_bind ?_))
  have hn := I.hok.fresh (Nat.le_refl s.heap.objs.size)
  have I1 := I.laid (a := s.heap.objs.size) (o := .dK []) (h' := s.heap.push { cls := .type "dict", data := .dict #[] }) (t' := s.toks) (fun _ _ q => Heap.get?_push_of_some _ q) (Nat.le_refl _) (dk_empty s.heap I.big)
  refine subDict_long (by rw [List.length_append, hl, List.length_singleton]; omega) ?_
  refine thn (h1.run _ pins _ σ _ _ I1 (q _ hn)) fun _ s1 ⟨H1, I2, q1⟩ => ?_
  refine wpAny_bind (wpAny_holding ?_)
  have hq2 := I2.hok.fresh (Nat.le_refl s1.heap.objs.size)
  have I3 := I2.laid (a := s1.heap.objs.size) (o := .dK []) (h' := s1.heap.push { cls := .type "dict", data := .dict #[] }) (t' := s1.toks) (fun _ _ q => Heap.get?_push_of_some _ q) (Nat.le_refl _) (dk_empty s1.heap I2.big)
  refine wpAny_subDict (knd := mixKind X.prog X.w) (by rw [hlen]; rw [hkt]; exact hl2) (thn (h2.run pins _ σ _ _ I3 (q1 _ hq2)) fun ws s2 ⟨ps, H2, I4, rel, e, kvs, ep, lk, kv1, e1, hne, lk1, hqp, q2⟩ => ?_)
  subst ep
  obtain ⟨rs, c, rk⟩ := carries_of (P := X.prog) (w := X.w) rel
  obtain ⟨z, hd, vs0, r0, dd⟩ := dk_of I4.hok e
  cases r0
  refine ⟨rs, c, dd, fun h' dd' hs => ?_⟩
  have hz : (mergeK [] kvs).length ≤ sizeLine := by
    have h1 := length_mergeK kvs []
    rw [List.length_nil] at h1
    rw [sizeLine_eq]; omega
  have hz0 : (mergeK [] kvs).length ≤ 15 := by
    have h1 := length_mergeK kvs []
    rw [List.length_nil] at h1
    omega
  have I5 := d_write (h' := h') (t' := s2.toks + ws.length) (ob := .dK (mergeK [] kvs)) I4 (by rw [e]; exact True.intro) hs (let ⟨q, _, _, hq, _⟩ := dd'; ⟨q, hq⟩) (dk_new hz hd (rk.merge .nil) dd')
  -- the merge
  have e1' : (upd H2 s1.heap.objs.size (.dK (mergeK [] kvs))) s.heap.objs.size = some (.dK kv1) := by rw [upd_ne (Ne.symm hqp)]; exact e1
  obtain ⟨z1, hd1, vs1', r1, dd1⟩ := dk_of I5.hok e1'
  obtain ⟨z2, hd2, vs2', r2, dd2⟩ := dk_of I5.hok (show (upd H2 s1.heap.objs.size (.dK (mergeK [] kvs))) s1.heap.objs.size = some (.dK (mergeK [] kvs)) from upd_same)
  have l1 : kv1.length = vs1'.length := Paired.length r1
  have l2 : (mergeK [] kvs).length = vs2'.length := Paired.length r2
  refine wpAny_bind (wpAny_onRaise (wpAny_holding (mergeMapping_dict (knd := mixKind X.prog X.w) (Ne.symm hqp) hd2 (fun z => hne (List.length_eq_zero_iff.mp (by rw [l1, z]; rfl))) dd1 dd2 (fun h'' hm hm2 hsb => ?_) (by rw [sizeLine_eq]; omega))))
  · refine wpAny_pure ⟨.ref s.heap.objs.size, _, d_write (h' := h'') (ob := .dK (mergeK kv1 (mergeK [] kvs))) I5 (by rw [e1']; exact True.intro) hsb (let ⟨q, _, _, hq, _⟩ := hm; ⟨q, hq⟩) (dk_new ?_ hd1 (KV.merge r2 r1) hm), rfl, q2⟩
    have h1 := length_mergeK (mergeK [] kvs) kv1
    rw [sizeLine_eq]; omega
end
end Z
set_option Elab.async false
set_option linter.all false
set_option maxRecDepth 100000
set_option maxHeartbeats 4000000
/-! Z8: the head's facts, with a further look -/
namespace Z
open PySem PySem.Spec PyProof.Rows L2 He
abbrev AlX : Type := AlT × Bool
def obsX (fa : List Fa) (fn : List DefD) (ts : List Tab) (ex : PySem.W.Frag → Bool) (K : PySem.W.Frag) : AlX := (obsT fa fn ts K, ex K)
def obsXG (n : Nat) (fa : List Fa) (fn : List DefD) (ts : List Tab) (ex : PySem.W.Frag → Bool) (g : Addr → Option Obj) : AlX := obsX fa fn ts ex (frG g (asD g n))
def hookX (n : Nat) (fa : List Fa) (fn : List DefD) (ts : List Tab) (ex : PySem.W.Frag → Bool) : PySem.W.Hook where
  α := AlX
  obs := fun s => obsXG n fa fn ts ex s.heap.get?
  val := fun w => (valT fn ts w, true)
  says := fun w h => ∃ K : PySem.W.Frag, K.In h ∧ SaysT fa fn ts w K ∧ ex K = true
  of := fun _ _ e => ⟨_, frG_in, congrArg (fun z : AlX => z.1) e, congrArg (fun z : AlX => z.2) e⟩
  keeps := fun _ _ _ ⟨K, hK, c⟩ k => ⟨K, PySem.W.Frag.In.keeps hK k, c⟩
theorem obsXG_eq {n : Nat} {fa : List Fa} {fn : List DefD} {ts : List Tab} {ex : PySem.W.Frag → Bool} {g : Addr → Option Obj} {s : Shared} (h : ∀ a, g a = s.heap.get? a) : obsXG n fa fn ts ex g = (hookX n fa fn ts ex).obs s := by
  have e : g = s.heap.get? := funext h
  rw [e] <;> rfl
def relsB : List V → List Value → Bool
  | [], [] => true
  | x :: xs, v :: vs => relB x v && relsB xs vs
  | _, _ => false
theorem relsB_ok : ∀ {xs : List V} {vs : List Value}, relsB xs vs = true → Vals xs vs
  | [], [], _ => .nil
  | x :: xs, v :: vs, h => by
    obtain ⟨h1, h2⟩ := ba (show (relB x v && relsB xs vs) = true from h)
    exact .cons (relB_ok h1) (relsB_ok h2)
  | [], _ :: _, h => by cases h
  | _ :: _, [], h => by cases h
/-- a tuple of the top -/
def tupB (K : PySem.W.Frag) (a : Addr) (xs : List V) : Bool := match K.lookup a with
  | some ⟨.type c, _, .seq its _, _⟩ => decide (c = "tuple") && (decide (its.size ≤ 1000) && relsB xs its.toList)
  | _ => false
theorem tupB_ok {K : PySem.W.Frag} {a : Addr} {xs : List V} (h : tupB K a xs = true) :
    ∃ (o : Obj) (its : Array Value) (n : Nat), K.lookup a = some o ∧ o.cls = .type "tuple" ∧ o.data = .seq its n ∧ its.size ≤ sizeLine ∧ Vals xs its.toList := by
  unfold tupB at h
  cases q : K.lookup a with
  | none => rw [q] at h; cases h
  | some o =>
    obtain ⟨oc, od, dt, osl⟩ := o
    rw [q] at h
    cases oc with
    | type c =>
      cases dt with
      | seq its n =>
        obtain ⟨h1, h2⟩ := ba (show (decide (c = "tuple") && (decide (its.size ≤ 1000) && relsB xs its.toList)) = true from h)
        obtain ⟨h3, h4⟩ := ba h2
        have e1 : c = "tuple" := of_decide_eq_true h1
        subst e1
        have e2 : its.size ≤ 1000 := of_decide_eq_true h3
        exact ⟨_, its, n, rfl, rfl, rfl, by rw [sizeLine_eq]; omega, relsB_ok h4⟩
      | _ => cases h
    | _ => cases dt <;> cases h
theorem defa_of {K : PySem.W.Frag} {h : Heap} {mg : Str → Option Value} (X : K.In h) (G : h.Ns mainGlobals mg) {x nm : Str} {st : Stmt} {fd : FuncData} (F : FunD K nm nm (C8.fnArgs st) (C8.fnBody st) (C8.fnScope st) [] [] (ga K x) fd) (c : (Fa.glo x).ok K = true) : DefA K mg x nm st := by
  obtain ⟨oc, od, dV, kV, doc, pm, an, cdv, ct, osl, rfl, lk, hcd, hd, hk⟩ := F.ex
  refine ⟨ga K x, _, ⟨oc, od, dV, kV, doc, pm, an, cdv, ct, osl, rfl, lk, hcd⟩, ?_, glo_ok X G c, F.kp⟩
  rcases hd with h | h
  · exact h.2
  · exact absurd rfl h.1
theorem fun_of {K : PySem.W.Frag} {nm : Str} {st : Stmt} {f : Addr} {fd : FuncData} (F : FunD K nm nm (C8.fnArgs st) (C8.fnBody st) (C8.fnScope st) [] [] f fd) : C8.Fun K nm nm st f fd := by
  obtain ⟨oc, od, dV, kV, doc, pm, an, cdv, ct, osl, rfl, lk, hcd, hd, hk⟩ := F.ex
  exact ⟨oc, od, dV, kV, doc, pm, an, cdv, ct, osl, rfl, lk, hcd⟩
theorem gint {K : PySem.W.Frag} {h : Heap} {mg : Str → Option Value} (X : K.In h) (G : h.Ns mainGlobals mg) {x : Str} {i : Int} (c : (Fa.int x i).ok K = true) : ∃ u, mg x = some u ∧ RelV (.int i) u := by
  obtain ⟨t, e⟩ := int_ok X G c
  exact ⟨_, e, t, rfl⟩
theorem gstr {K : PySem.W.Frag} {h : Heap} {mg : Str → Option Value} (X : K.In h) (G : h.Ns mainGlobals mg) {x z : Str} (c : (Fa.str x z).ok K = true) : ∃ u, mg x = some u ∧ RelV (.str z) u := by
  obtain ⟨t, e⟩ := str_ok X G c
  exact ⟨_, e, t, rfl⟩
theorem gref {K : PySem.W.Frag} {h : Heap} {mg : Str → Option Value} (X : K.In h) (G : h.Ns mainGlobals mg) {x : Str} (c : (Fa.glo x).ok K = true) : ∃ u, mg x = some u ∧ RelV (.ref (ga K x)) u := ⟨_, glo_ok X G c, rfl⟩
end Z
set_option Elab.async false
set_option linter.all false
set_option maxRecDepth 100000
/-! K40M: what the looks of leatwork.codes answer, over plain data -/
namespace K40
open PySem
def whole : PyData → Int → Int → Bool
  | .int i, lo, hi => decide (lo ≤ i) && decide (i ≤ hi)
  | _, _, _ => false
def isInt : PyData → Bool
  | .int _ => true
  | _ => false
def isNum : PyData → Bool
  | .int i => decide ((if i < 0 then -i else i) ≤ 1000000000)
  | _ => false
def small : Str := "abcdefghijklmnopqrstuvwxyz"
def digits : Str := "0123456789"
def isAtom : PyData → Bool
  | .str x => decide (1 ≤ (x.length : Int)) && decide ((x.length : Int) ≤ 12) && (match x.cps.toList with
    | [] => false
    | c :: _ => decide (c ∈ small.cps.toList)) && x.cps.toList.all (fun c => decide (c ∈ small.cps.toList) || decide (c ∈ digits.cps.toList))
  | _ => false
def areRegs (d : PyData) (count least most : Int) : Bool := match d with
  | .tuple xs => decide (least ≤ (xs.length : Int)) && decide ((xs.length : Int) ≤ most) && xs.all (fun p => whole p 0 (count - 1))
  | _ => false
def toInt : PyData → Int
  | .int i => i
  | _ => 0
/-- all different -/
def diff (d : PyData) : Bool := match d with
  | .tuple xs => decide (xs.map toInt).Nodup
  | _ => false
def signs : List Str := ["+", "-", "*", "<", "=="]
def isPart (c : Nat) (d : PyData) (at_ regs : Int) (nins many : Nat) : Bool :=
  if c = 114 then whole d 0 (regs - 1)
  else if c = 107 then whole d (at_ + 1) (nins - 1)
  else if c = 117 then whole d 0 (many - 1)
  else if c = 98 then whole d 0 8
  else if c = 99 then whole d 0 6
  else if c = 105 then isNum d
  else if c = 97 then isAtom d
  else if c = 115 then (match d with | .str x => decide (x ∈ signs) | _ => false)
  else if c = 112 then areRegs d regs 1 6 && diff d
  else if c = 108 then areRegs d regs 1 6
  else if c = 109 then areRegs d regs 0 7
  else areRegs d regs 0 regs
def forms : List (Str × Str) := [("new", "r"), ("builtin", "rb"), ("copy", "rr"), ("bind", "rr"), ("int", "ri"), ("atom", "ra"), ("tuple", "ral"), ("proc", "rucn"), ("if", "rk"), ("caseint", "rik"), ("caseatom", "rak"),
  ("casetuple", "rapk"), ("call", "rm"), ("op", "srrr"), ("thread", "un"), ("need", "run"), ("try", "kr"), ("untry", ""), ("raise", "r"), ("choose", "k"), ("jump", "k"), ("end", "")]
def endT : PyData := .tuple [.str "end"]
def isUnit : PyData → Bool
  | .tuple [g, .int r, .tuple is] => whole (.int r) 0 2000 && whole g 0 r && decide (1 ≤ (is.length : Int)) && decide ((is.length : Int) ≤ 5000) && (match is.getLast? with
    | some x => PyData.eqv x endT
    | none => false)
  | _ => false
def parts (f : List Nat) (rest : List PyData) (at_ regs : Int) (nins many : Nat) : Bool := (List.range f.length).all fun k => isPart (f.getD k 0) (rest.getD k .none) at_ regs nins many
def isInstr (d : PyData) (at_ regs : Int) (nins many : Nat) : Bool := match d with
  | .tuple (.str x :: rest) => (match forms.lookup x with
    | none => false
    | some f => decide (rest.length = f.length) && parts f.cps.toList rest at_ regs nins many)
  | _ => false
def fitsT (x : Str) (rest : List PyData) (gs : List Int) : Bool :=
  if x = "proc" then (match rest with | [_, .int u, .int c, .tuple l] => decide (c + (l.length : Int) = gs.getD u.toNat 0) | _ => false)
  else if x = "thread" then (match rest with | [.int u, .tuple l] => decide ((l.length : Int) = gs.getD u.toNat 0) | _ => false)
  else if x = "need" then (match rest with | [_, .int u, .tuple l] => decide ((l.length : Int) = gs.getD u.toNat 0) | _ => false)
  else true
def fits (d : PyData) (gs : List Int) : Bool := match d with
  | .tuple (.str x :: rest) => fitsT x rest gs
  | _ => false
def given : PyData → Int
  | .tuple (.int g :: _) => g
  | _ => 0
def insAll (us : List PyData) (r : Int) (n : Nat) : List PyData → Nat → Bool
  | [], _ => true
  | d :: ds, k => isInstr d k r n us.length && fits d (us.map given) && insAll us r n ds (k + 1)
def insOk (us : List PyData) : PyData → Bool
  | .tuple [_, .int r, .tuple is] => insAll us r is.length is 0
  | _ => false
def isCode : PyData → Bool
  | .tuple us => decide (1 ≤ (us.length : Int)) && decide ((us.length : Int) ≤ 250) && us.all isUnit && us.all (insOk us)
  | _ => false
end K40
set_option Elab.async false
set_option linter.all false
set_option maxRecDepth 100000
set_option maxHeartbeats 4000000
/-! K40H: the text by places, what the walk asks of the module -/
namespace K40
open PySem PySem.Spec PyProof.Rows L2 Z
def topS (i : Nat) : Stmt := PySem.Challenge.pw_leatwork_k40_code_forms.main.body.getD i (.Pass ⟨0, 0, 0, 0⟩)
abbrev s_is_whole_graphs : Stmt := topS 5
abbrev n_is_whole_graphs : List Str := ["value"]
theorem sc_is_whole_graphs : FnScope n_is_whole_graphs ["value"] (C8.fnScope s_is_whole_graphs) := C8.fnScope_by (by decide +kernel)
-- 0 value
abbrev s_is_atom : Stmt := topS 7
abbrev n_is_atom : List Str := ["value", "sign"]
theorem sc_is_atom : FnScope n_is_atom ["value"] (C8.fnScope s_is_atom) := C8.fnScope_by (by decide +kernel)
-- 0 value, 1 sign
abbrev s_is_number : Stmt := topS 10
abbrev n_is_number : List Str := ["value"]
theorem sc_is_number : FnScope n_is_number ["value"] (C8.fnScope s_is_number) := C8.fnScope_by (by decide +kernel)
-- 0 value
abbrev s_is_whole_codes : Stmt := topS 16
abbrev n_is_whole_codes : List Str := ["value", "least", "most"]
theorem sc_is_whole_codes : FnScope n_is_whole_codes ["value", "least", "most"] (C8.fnScope s_is_whole_codes) := C8.fnScope_by (by decide +kernel)
-- 0 value, 1 least, 2 most
abbrev s_are_registers : Stmt := topS 18
abbrev n_are_registers : List Str := ["value", "count", "least", "most", "place"]
theorem sc_are_registers : FnScope n_are_registers ["value", "count", "least", "most"] (C8.fnScope s_are_registers) := C8.fnScope_by (by decide +kernel)
-- 0 value, 1 count*, 2 least, 3 most, 4 place
abbrev s_is_part : Stmt := topS 19
abbrev n_is_part : List Str := ["kind", "value", "at", "unit", "many", "_", "registers", "instructions", "least", "most"]
theorem sc_is_part : FnScope n_is_part ["kind", "value", "at", "unit", "many"] (C8.fnScope s_is_part) := C8.fnScope_by (by decide +kernel)
-- 0 kind, 1 value, 2 at, 3 unit, 4 many, 5 _, 6 registers, 7 instructions, 8 least, 9 most
abbrev s_fits_unit : Stmt := topS 20
abbrev n_fits_unit : List Str := ["instruction", "code", "word"]
theorem sc_fits_unit : FnScope n_fits_unit ["instruction", "code"] (C8.fnScope s_fits_unit) := C8.fnScope_by (by decide +kernel)
-- 0 instruction, 1 code, 2 word
abbrev s_is_instruction : Stmt := topS 21
abbrev n_is_instruction : List Str := ["value", "at", "unit", "code", "form", "k"]
theorem sc_is_instruction : FnScope n_is_instruction ["value", "at", "unit", "code"] (C8.fnScope s_is_instruction) := C8.fnScope_by (by decide +kernel)
-- 0 value*, 1 at*, 2 unit*, 3 code*, 4 form*, 5 k
abbrev s_is_unit : Stmt := topS 22
abbrev n_is_unit : List Str := ["value"]
theorem sc_is_unit : FnScope n_is_unit ["value"] (C8.fnScope s_is_unit) := C8.fnScope_by (by decide +kernel)
-- 0 value
abbrev s_is_code : Stmt := topS 23
abbrev n_is_code : List Str := ["value", "unit", "at", "instruction"]
theorem sc_is_code : FnScope n_is_code ["value"] (C8.fnScope s_is_code) := C8.fnScope_by (by decide +kernel)
-- 0 value, 1 unit, 2 at, 3 instruction
abbrev s_law_stream : Stmt := topS 25
abbrev n_law_stream : List Str := ["_law_script", "_law_mixed", "_law_cell"]
theorem sc_law_stream : FnScope n_law_stream ["_law_script"] (C8.fnScope s_law_stream) := C8.fnScope_by (by decide +kernel)
-- 0 _law_script, 1 _law_mixed, 2 _law_cell
abbrev s_law_draw : Stmt := topS 26
abbrev n_law_draw : List Str := ["_law_stream_here", "_law_many", "_law_value"]
theorem sc_law_draw : FnScope n_law_draw ["_law_stream_here", "_law_many"] (C8.fnScope s_law_draw) := C8.fnScope_by (by decide +kernel)
-- 0 _law_stream_here, 1 _law_many, 2 _law_value
abbrev s_law_registers : Stmt := topS 27
abbrev n_law_registers : List Str := ["_law_stream_here", "_law_count", "_law_many", "_law_k"]
theorem sc_law_registers : FnScope n_law_registers ["_law_stream_here", "_law_count", "_law_many"] (C8.fnScope s_law_registers) := C8.fnScope_by (by decide +kernel)
-- 0 _law_stream_here*, 1 _law_count*, 2 _law_many, 3 _law_k
abbrev s_law_instruction : Stmt := topS 28
abbrev n_law_instruction : List Str := ["_law_stream_here", "_law_word", "_law_count", "_law_at", "_law_units", "_law_r", "_law_s", "_law_t", "_law_k", "_law_u", "_law_given", "_law_number", "_law_some", "_law_different", "_law_own", "_law_rows"]
theorem sc_law_instruction : FnScope n_law_instruction ["_law_stream_here", "_law_word", "_law_count", "_law_at", "_law_units"] (C8.fnScope s_law_instruction) := C8.fnScope_by (by decide +kernel)
-- 0 _law_stream_here, 1 _law_word, 2 _law_count, 3 _law_at, 4 _law_units, 5 _law_r, 6 _law_s, 7 _law_t, 8 _law_k, 9 _law_u, 10 _law_given, 11 _law_number, 12 _law_some, 13 _law_different, 14 _law_own, 15 _law_rows
abbrev s_law_code : Stmt := topS 29
abbrev n_law_code : List Str := ["_law_stream_here", "_law_words", "_law_units", "_law_found", "_law_given", "_law_count", "_law_many", "_law_rows", "_law_at", "_law_k"]
theorem sc_law_code : FnScope n_law_code ["_law_stream_here"] (C8.fnScope s_law_code) := C8.fnScope_by (by decide +kernel)
-- 0 _law_stream_here*, 1 _law_words, 2 _law_units, 3 _law_found, 4 _law_given, 5 _law_count, 6 _law_many, 7 _law_rows, 8 _law_at, 9 _law_k
abbrev s_law_put : Stmt := topS 30
abbrev n_law_put : List Str := ["_law_code_here", "_law_u", "_law_at", "_law_row", "_law_given", "_law_count", "_law_rows"]
theorem sc_law_put : FnScope n_law_put ["_law_code_here", "_law_u", "_law_at", "_law_row"] (C8.fnScope s_law_put) := C8.fnScope_by (by decide +kernel)
-- 0 _law_code_here, 1 _law_u, 2 _law_at, 3 _law_row, 4 _law_given, 5 _law_count, 6 _law_rows
abbrev s_law_bad_rows : Stmt := topS 31
abbrev n_law_bad_rows : List Str := ["_law_at", "_law_count", "_law_many", "_law_units", "_law_far"]
theorem sc_law_bad_rows : FnScope n_law_bad_rows ["_law_at", "_law_count", "_law_many", "_law_units"] (C8.fnScope s_law_bad_rows) := C8.fnScope_by (by decide +kernel)
-- 0 _law_at, 1 _law_count, 2 _law_many, 3 _law_units, 4 _law_far
abbrev s_law_hurt : Stmt := topS 32
abbrev n_law_hurt : List Str := ["_law_stream_here", "_law_code_here", "_law_u", "_law_given", "_law_count", "_law_rows", "_law_pick", "_law_at", "_law_bad", "_law_unit"]
theorem sc_law_hurt : FnScope n_law_hurt ["_law_stream_here", "_law_code_here"] (C8.fnScope s_law_hurt) := C8.fnScope_by (by decide +kernel)
-- 0 _law_stream_here, 1 _law_code_here, 2 _law_u, 3 _law_given, 4 _law_count, 5 _law_rows, 6 _law_pick, 7 _law_at, 8 _law_bad, 9 _law_unit
abbrev s_law : Stmt := topS 33
abbrev n_law : List Str := ["_law_script", "_law_stream_here", "_law_code_here"]
theorem sc_law : FnScope n_law ["_law_script"] (C8.fnScope s_law) := C8.fnScope_by (by decide +kernel)
-- 0 _law_script, 1 _law_stream_here, 2 _law_code_here
/-- a tuple of the module -/
def KTup (K : PySem.W.Frag) (a : Addr) (xs : List V) : Prop :=
  ∃ (o : Obj) (its : Array Value) (n : Nat), K.lookup a = some o ∧ o.cls = .type "tuple" ∧ o.data = .seq its n ∧ its.size ≤ sizeLine ∧ Vals xs its.toList
/-- a dict of texts of the module: what it holds, what it does not -/
def KForms (K : PySem.W.Frag) (w : World) (a : Addr) (has : List (Str × Str)) (hasnt : List Str) : Prop :=
  ∃ es n, KDict K w a es n ∧ (∀ p ∈ has, ∃ u, PySem.W.nsIn K a p.1 = some (some u) ∧ RelV (.str p.2) u) ∧ ∀ x ∈ hasnt, PySem.W.nsIn K a x = some none
/-- what the walk asks of the module -/
structure Txt (K : PySem.W.Frag) (w : World) (mg : Str → Option Value) (aSIGNS aFORMS : Addr) : Prop where
  z_isinstance : mg "isinstance" = none
  z_int : mg "int" = none
  z_bool : mg "bool" = none
  z_all : mg "all" = none
  z_str : mg "str" = none
  z_len : mg "len" = none
  z_abs : mg "abs" = none
  z_tuple : mg "tuple" = none
  z_set : mg "set" = none
  z_range : mg "range" = none
  z_enumerate : mg "enumerate" = none
  z_list : mg "list" = none
  z_min : mg "min" = none
  z_max : mg "max" = none
  g_SMALL : ∃ u, mg "SMALL" = some u ∧ RelV (.str small) u
  g_MOST_ATOM : ∃ u, mg "MOST_ATOM" = some u ∧ RelV (.int 12) u
  g_DIGITS : ∃ u, mg "DIGITS" = some u ∧ RelV (.str digits) u
  g_MOST_NUMBER : ∃ u, mg "MOST_NUMBER" = some u ∧ RelV (.int 1000000000) u
  g_SIGNS : ∃ u, mg "SIGNS" = some u ∧ RelV (.ref aSIGNS) u
  g_FORMS : ∃ u, mg "FORMS" = some u ∧ RelV (.ref aFORMS) u
  g_MOST_CODE : ∃ u, mg "MOST_CODE" = some u ∧ RelV (.int 5000) u
  g_MOST_REGISTERS : ∃ u, mg "MOST_REGISTERS" = some u ∧ RelV (.int 2000) u
  g_MOST_UNITS : ∃ u, mg "MOST_UNITS" = some u ∧ RelV (.int 250) u
  d_is_whole_graphs : DefA K mg "is_whole_graphs" "is_whole" s_is_whole_graphs
  d_is_atom : DefA K mg "is_atom" "is_atom" s_is_atom
  d_is_number : DefA K mg "is_number" "is_number" s_is_number
  d_is_whole_codes : DefA K mg "is_whole_codes" "is_whole" s_is_whole_codes
  d_are_registers : DefA K mg "are_registers" "are_registers" s_are_registers
  d_is_part : DefA K mg "is_part" "is_part" s_is_part
  d_fits_unit : DefA K mg "fits_unit" "fits_unit" s_fits_unit
  d_is_instruction : DefA K mg "is_instruction" "is_instruction" s_is_instruction
  d_is_unit : DefA K mg "is_unit" "is_unit" s_is_unit
  d_is_code : DefA K mg "is_code" "is_code" s_is_code
  d_law_stream : DefA K mg "_law_stream" "_law_stream" s_law_stream
  d_law_draw : DefA K mg "_law_draw" "_law_draw" s_law_draw
  d_law_registers : DefA K mg "_law_registers" "_law_registers" s_law_registers
  d_law_instruction : DefA K mg "_law_instruction" "_law_instruction" s_law_instruction
  d_law_code : DefA K mg "_law_code" "_law_code" s_law_code
  d_law_put : DefA K mg "_law_put" "_law_put" s_law_put
  d_law_bad_rows : DefA K mg "_law_bad_rows" "_law_bad_rows" s_law_bad_rows
  d_law_hurt : DefA K mg "_law_hurt" "_law_hurt" s_law_hurt
  d_law : DefA K mg "law" "law" s_law
  k_SIGNS : KTup K aSIGNS (signs.map V.str)
  k_FORMS : KForms K w aFORMS forms ["stop"]
end K40
set_option Elab.async false
set_option linter.all false
set_option maxRecDepth 100000
set_option maxHeartbeats 4000000
local macro_rules | `(tactic| walk_at "rd") => `(tactic| repeat (first
  | with_reducible refine Z.i_var (by with_unfolding_all rfl) ?_
  | with_reducible refine Z.i_c ?_ | with_reducible refine Z.i_op ?_ | with_reducible refine Z.i_cons ?_ | with_reducible refine Z.i_nil ?_ | with_reducible refine Z.i_cb ?_ | with_reducible refine Z.i_call ?_
  | with_reducible refine Z.i_seq ?_ | with_reducible refine Z.i_asg ?_ | with_reducible refine Z.i_gname ?_ | with_reducible refine Z.i_gcons ?_ | with_reducible refine Z.i_gnil ?_
  | with_reducible refine Z.i_next ?_ | with_reducible refine Z.i_ret ?_ | with_reducible refine Z.i_retN ?_ | with_reducible refine Z.i_drop ?_ | with_reducible refine Z.i_ifs ?_ | with_reducible refine Z.i_B ?_ | with_reducible refine Z.i_test ?_
  | with_reducible refine Z.i_and ?_ | with_reducible refine Z.i_or ?_ | with_reducible refine Z.i_not ?_ | with_reducible refine Z.i_andV ?_ | with_reducible refine Z.i_orV ?_ | with_reducible refine Z.i_notT ?_ | with_reducible refine Z.i_ifE ?_ | with_reducible refine Z.i_chain ?_
  | with_reducible refine Z.i_tup ?_ | with_reducible refine Z.i_lst ?_ | with_reducible refine Z.i_sl ?_ | with_reducible refine Z.i_nopart ?_ | with_reducible refine Z.i_part ?_ | with_reducible refine Z.i_yes ?_ | with_reducible refine Z.i_un ?_
  | with_reducible refine Z.i_exB ?_ | with_reducible refine Z.i_exI ?_ | with_reducible refine Z.i_ex2 ?_ | with_reducible refine Z.i_truB ?_ | with_reducible refine Z.i_truI ?_
  | with_reducible refine Z.i_rI0 ?_ | with_reducible refine Z.i_ipI ?_ | with_reducible refine Z.i_rU ?_ | with_reducible refine Z.i_addI ?_ | with_reducible refine Z.i_eqI ?_ | with_reducible refine Z.i_neI ?_ | with_reducible refine Z.i_eqS ?_ | with_reducible refine Z.i_neS ?_
  | with_reducible refine Z.i_lc ?_ | with_reducible refine Z.i_for ?_ | with_reducible refine Z.i_iStr ?_ | with_reducible refine Z.i_iTup ?_ | with_reducible refine Z.i_iList ?_ | with_reducible refine Z.i_iRng1 ?_ | with_reducible refine Z.i_iEnumT ?_ | with_reducible refine Z.i_exS ?_ | with_reducible refine Z.i_pairs ?_ | with_reducible refine Z.i_pairs0 ?_ | with_reducible refine Z.i_disp ?_ | with_reducible refine Z.i_lenSet ?_ | with_reducible refine Z.i_gsub ?_ | with_reducible refine Z.i_truth ?_ | with_reducible refine Z.i_isB ?_ | with_reducible refine Z.i_isNotB ?_ | with_reducible refine Z.i_isN ?_ | with_reducible refine Z.i_isNotN ?_
  | with_reducible refine Z.i_int ?_ | with_reducible refine Z.i_intB ?_ | with_reducible refine Z.i_abs ?_ | with_reducible refine Z.i_max2 ?_ | with_reducible refine Z.i_min2 ?_ | with_reducible refine Z.i_min3 ?_
  | with_reducible refine Z.i_inC ?_ | with_reducible refine Z.i_notInC ?_
  | with_reducible refine iteT ?_ | with_reducible refine iteF ?_))
local macro_rules | `(tactic| walk_at "sz") => `(tactic| (rw [PySem.sizeLine_eq]; exact Nat.le_of_ble_eq_true rfl))

namespace K40
open PySem PySem.Spec PyProof.Rows L2 Z
/-- the type's name of a datum -/
def tyn : PyData → String
  | .none => "NoneType"
  | .bool _ => "bool"
  | .int _ => "int"
  | .str _ => "str"
  | .list _ => "list"
  | .tuple _ => "tuple"
  | .dict _ => "dict"
section
variable {P : Program} {w : World} {K : PySem.W.Frag} {mg : Str → Option Value} {base : Heap} {aSIGNS aFORMS : Addr}
theorem tyX_of {H : Hp} {v : V} {d : PyData} (h : Dp K H v d) : TyX K H v (.type (tyn d)) := by
  cases h with
  | non => exact .base .non
  | bl b => exact .base (.bl b)
  | int i => exact .base (.int i)
  | str x => exact .base (.str x)
  | lst hs _ =>
    rcases hs with (hs | ⟨o, hs⟩) | ⟨o, its, n, hk, hc, _⟩
    · exact .base (.lst hs)
    · exact .base (.frz hs)
    · exact .kList hk hc
  | tup hs _ =>
    rcases hs with (hs | ⟨o, hs⟩) | ⟨o, its, n, hk, hc, _⟩
    · exact .base (.tup hs)
    · exact .fTuple hs
    · exact .kTuple hk hc
def isA (n : String) (d : PyData) : Bool := (kitB (tyn d) n).getD false
theorem i_isi {H : Hp} {Q : VK} {v : V} {d : PyData} {n : String} (h : Dp K H v d) (e : (kitB (tyn d) n).isSome = true) (q : Q (.bl (isA n d)) H) : rIsi K [v, .ty n] H Q := by
  obtain ⟨b, hb⟩ := Option.isSome_iff_exists.mp e
  refine ⟨v, .ty n, _, _, isA n d, rfl, .ty n, tyX_of h, ?_, q⟩
  show PySem.W.kitOne K (.type (tyn d)) (.type n) = some (isA n d)
  rw [kit_ty hb]
  unfold isA
  rw [hb]
  rfl
theorem isA_int (d : PyData) : (kitB (tyn d) "int").isSome = true ∧ isA "int" d = (match d with | .int _ => true | .bool _ => true | _ => false) := by
  cases d with
  | none  => exact ⟨(show (kitB "NoneType" "int").isSome = true by decide +kernel), (show (kitB "NoneType" "int").getD false = false by decide +kernel)⟩
  | bool b => exact ⟨(show (kitB "bool" "int").isSome = true by decide +kernel), (show (kitB "bool" "int").getD false = true by decide +kernel)⟩
  | int i => exact ⟨(show (kitB "int" "int").isSome = true by decide +kernel), (show (kitB "int" "int").getD false = true by decide +kernel)⟩
  | str x => exact ⟨(show (kitB "str" "int").isSome = true by decide +kernel), (show (kitB "str" "int").getD false = false by decide +kernel)⟩
  | list xs => exact ⟨(show (kitB "list" "int").isSome = true by decide +kernel), (show (kitB "list" "int").getD false = false by decide +kernel)⟩
  | tuple xs => exact ⟨(show (kitB "tuple" "int").isSome = true by decide +kernel), (show (kitB "tuple" "int").getD false = false by decide +kernel)⟩
  | dict kvs => exact ⟨(show (kitB "dict" "int").isSome = true by decide +kernel), (show (kitB "dict" "int").getD false = false by decide +kernel)⟩
theorem isA_bool (d : PyData) : (kitB (tyn d) "bool").isSome = true ∧ isA "bool" d = (match d with | .bool _ => true | _ => false) := by
  cases d with
  | none  => exact ⟨(show (kitB "NoneType" "bool").isSome = true by decide +kernel), (show (kitB "NoneType" "bool").getD false = false by decide +kernel)⟩
  | bool b => exact ⟨(show (kitB "bool" "bool").isSome = true by decide +kernel), (show (kitB "bool" "bool").getD false = true by decide +kernel)⟩
  | int i => exact ⟨(show (kitB "int" "bool").isSome = true by decide +kernel), (show (kitB "int" "bool").getD false = false by decide +kernel)⟩
  | str x => exact ⟨(show (kitB "str" "bool").isSome = true by decide +kernel), (show (kitB "str" "bool").getD false = false by decide +kernel)⟩
  | list xs => exact ⟨(show (kitB "list" "bool").isSome = true by decide +kernel), (show (kitB "list" "bool").getD false = false by decide +kernel)⟩
  | tuple xs => exact ⟨(show (kitB "tuple" "bool").isSome = true by decide +kernel), (show (kitB "tuple" "bool").getD false = false by decide +kernel)⟩
  | dict kvs => exact ⟨(show (kitB "dict" "bool").isSome = true by decide +kernel), (show (kitB "dict" "bool").getD false = false by decide +kernel)⟩
theorem isA_str (d : PyData) : (kitB (tyn d) "str").isSome = true ∧ isA "str" d = (match d with | .str _ => true | _ => false) := by
  cases d with
  | none  => exact ⟨(show (kitB "NoneType" "str").isSome = true by decide +kernel), (show (kitB "NoneType" "str").getD false = false by decide +kernel)⟩
  | bool b => exact ⟨(show (kitB "bool" "str").isSome = true by decide +kernel), (show (kitB "bool" "str").getD false = false by decide +kernel)⟩
  | int i => exact ⟨(show (kitB "int" "str").isSome = true by decide +kernel), (show (kitB "int" "str").getD false = false by decide +kernel)⟩
  | str x => exact ⟨(show (kitB "str" "str").isSome = true by decide +kernel), (show (kitB "str" "str").getD false = true by decide +kernel)⟩
  | list xs => exact ⟨(show (kitB "list" "str").isSome = true by decide +kernel), (show (kitB "list" "str").getD false = false by decide +kernel)⟩
  | tuple xs => exact ⟨(show (kitB "tuple" "str").isSome = true by decide +kernel), (show (kitB "tuple" "str").getD false = false by decide +kernel)⟩
  | dict kvs => exact ⟨(show (kitB "dict" "str").isSome = true by decide +kernel), (show (kitB "dict" "str").getD false = false by decide +kernel)⟩
theorem isA_tuple (d : PyData) : (kitB (tyn d) "tuple").isSome = true ∧ isA "tuple" d = (match d with | .tuple _ => true | _ => false) := by
  cases d with
  | none  => exact ⟨(show (kitB "NoneType" "tuple").isSome = true by decide +kernel), (show (kitB "NoneType" "tuple").getD false = false by decide +kernel)⟩
  | bool b => exact ⟨(show (kitB "bool" "tuple").isSome = true by decide +kernel), (show (kitB "bool" "tuple").getD false = false by decide +kernel)⟩
  | int i => exact ⟨(show (kitB "int" "tuple").isSome = true by decide +kernel), (show (kitB "int" "tuple").getD false = false by decide +kernel)⟩
  | str x => exact ⟨(show (kitB "str" "tuple").isSome = true by decide +kernel), (show (kitB "str" "tuple").getD false = false by decide +kernel)⟩
  | list xs => exact ⟨(show (kitB "list" "tuple").isSome = true by decide +kernel), (show (kitB "list" "tuple").getD false = false by decide +kernel)⟩
  | tuple xs => exact ⟨(show (kitB "tuple" "tuple").isSome = true by decide +kernel), (show (kitB "tuple" "tuple").getD false = true by decide +kernel)⟩
  | dict kvs => exact ⟨(show (kitB "dict" "tuple").isSome = true by decide +kernel), (show (kitB "dict" "tuple").getD false = false by decide +kernel)⟩

/-! ### is_whole of graphs -/
def sp_is_whole_graphs (K : PySem.W.Frag) : Sp := fun vs H Q _ => ∃ v d, vs = [v] ∧ Dp K H v d ∧ Q (.bl (isInt d)) H
theorem cal_is_whole_graphs (T : Txt K w mg aSIGNS aFORMS) : C8.Cal P w K mg base 1 "is_whole_graphs" (sp_is_whole_graphs K) [] := by
  refine cal_mk T.d_is_whole_graphs (fun _ _ _ _ _ _ us hl => match us, hl with | [_], _ => rfl) sc_is_whole_graphs (fun vs H Q E h => ?_) (fun f cdv A outer s H vs Q E hr h => ?_)
  · obtain ⟨v, d, rfl, _⟩ := h; rfl
  · obtain ⟨v, d, rfl, hd, q⟩ := h
    refine ⟨_, (pss_one (ps_ret (pe_and (pe_callB (isiK K) (by rfl) T.z_isinstance (by decide +kernel) (pa_cons (pv 0) (pa_cons (pe_ty (by rfl) T.z_int rfl) pa_nil))) (pe_one (notTK K (pe_callB (isiK K) (by rfl) T.z_isinstance (by decide +kernel) (pa_cons (pv 0) (pa_cons (pe_ty (by rfl) T.z_bool rfl) pa_nil)))))))), ?_⟩
    walk_at "rd"
    refine i_isi hd (isA_int d).1 ?_
    rw [(isA_int d).2]
    walk_at "rd"
    cases d
    case int i =>
      refine iteT ?_
      walk_at "rd"
      refine i_isi hd (isA_bool _).1 ?_
      rw [(isA_bool _).2]
      walk_at "rd"
      exact q
    case bool b =>
      refine iteT ?_
      walk_at "rd"
      refine i_isi hd (isA_bool _).1 ?_
      rw [(isA_bool _).2]
      walk_at "rd"
      exact q
    all_goals exact iteF q

/-! ### is_whole of codes -/
def sp_is_whole_codes (K : PySem.W.Frag) : Sp := fun vs H Q _ => ∃ v d lo hi, vs = [v, .int lo, .int hi] ∧ Dp K H v d ∧ Q (.bl (whole d lo hi)) H
theorem cal_is_whole_codes (T : Txt K w mg aSIGNS aFORMS) : C8.Cal P w K mg base 1 "is_whole_codes" (sp_is_whole_codes K) [] := by
  refine cal_mk T.d_is_whole_codes (fun _ _ _ _ _ _ us hl => match us, hl with | [_, _, _], _ => rfl) sc_is_whole_codes (fun vs H Q E h => ?_) (fun f cdv A outer s H vs Q E hr h => ?_)
  · obtain ⟨v, d, lo, hi, rfl, _⟩ := h; rfl
  · obtain ⟨v, d, lo, hi, rfl, hd, q⟩ := h
    refine ⟨_, (pss_one (ps_ret (pe_and (pe_callB (isiK K) (by rfl) T.z_isinstance (by decide +kernel) (pa_cons (pv 0) (pa_cons (pe_ty (by rfl) T.z_int rfl) pa_nil))) (pe_and (notTK K (pe_callB (isiK K) (by rfl) T.z_isinstance (by decide +kernel) (pa_cons (pv 0) (pa_cons (pe_ty (by rfl) T.z_bool rfl) pa_nil)))) (pe_one (pe_chain op_le op_le (pv 1) (pv 0) (pv 2))))))), ?_⟩
    walk_at "rd"
    refine i_isi hd (isA_int d).1 ?_
    rw [(isA_int d).2]
    walk_at "rd"
    cases d
    case int i =>
      cases hd
      refine iteT ?_
      walk_at "rd"
      refine i_isi (.int i) (isA_bool _).1 ?_
      rw [(isA_bool _).2]
      walk_at "rd"
      refine iteT ?_
      walk_at "rd"
      refine i_ifD (fun h1 => ?_) (fun h1 => ?_)
      · walk_at "rd"
        have e : whole (.int i) lo hi = decide (i ≤ hi) := by simp [whole, h1]
        rw [e] at q
        exact q
      · have e : whole (.int i) lo hi = false := by simp [whole, h1]
        rw [e] at q
        exact q
    case bool b =>
      refine iteT ?_
      walk_at "rd"
      refine i_isi hd (isA_bool _).1 ?_
      rw [(isA_bool _).2]
      walk_at "rd"
      exact iteF q
    all_goals exact iteF q

/-! ### is_number -/
def sp_is_number (K : PySem.W.Frag) : Sp := fun vs H Q _ => ∃ v d, vs = [v] ∧ Dp K H v d ∧ Q (.bl (isNum d)) H
theorem cal_is_number (T : Txt K w mg aSIGNS aFORMS) : C8.Cal P w K mg base 2 "is_number" (sp_is_number K) [] := by
  refine cal_mk T.d_is_number (fun _ _ _ _ _ _ us hl => match us, hl with | [_], _ => rfl) sc_is_number (fun vs H Q E h => ?_) (fun f cdv A outer s H vs Q E hr h => ?_)
  · obtain ⟨v, d, rfl, _⟩ := h; rfl
  · obtain ⟨v, d, rfl, hd, q⟩ := h
    refine ⟨_, (pss_one (ps_ret (pe_and (C8.pe_c (cal_is_whole_graphs T) hr (by decide) (by rfl) (pa_cons (pv 0) pa_nil)) (pe_one (pe_cmpR op_le (pe_callB absU (by rfl) T.z_abs (by decide +kernel) (pa_cons (pv 0) pa_nil)) (C8.pe_gc (by rfl) T.g_MOST_NUMBER) (nomark _)))))), ?_⟩
    walk_at "rd"
    refine ⟨v, d, rfl, hd, ?_⟩
    walk_at "rd"
    cases d
    case int i =>
      cases hd
      refine iteT ?_
      walk_at "rd"
      exact q
    all_goals exact iteF q

/-! ### is_atom -/
theorem atI_zero {α : Type} {c : α} {r : List α} : atI (c :: r) 0 = some c := by unfold atI ixN; simp
def sp_is_atom (K : PySem.W.Frag) : Sp := fun vs H Q _ => ∃ v d, vs = [v] ∧ Dp K H v d ∧ (∀ x, d = .str x → x.length ≤ 1000) ∧ ∀ H', Same H H' → Q (.bl (isAtom d)) H'
theorem cal_is_atom (T : Txt K w mg aSIGNS aFORMS) : C8.Cal P w K mg base 1 "is_atom" (sp_is_atom K) [] := by
  refine cal_mk T.d_is_atom (fun _ _ _ _ _ _ us hl => match us, hl with | [_], _ => rfl) sc_is_atom (fun vs H Q E h => ?_) (fun f cdv A outer s H vs Q E hr h => ?_)
  · obtain ⟨v, d, rfl, _⟩ := h; rfl
  · obtain ⟨v, d, rfl, hd, hx, q⟩ := h
    refine ⟨_, (pss_cons (ps_if (PW.pt (pw_or (pt_not (pt_val (pe_callB (isiK K) (by rfl) T.z_isinstance (by decide +kernel) (pa_cons (pv 0) (pa_cons (pe_ty (by rfl) T.z_str rfl) pa_nil))))) (pw_or (pt_not (pt_chain op_le op_le pe_int (pe_callB (lenK K) (by rfl) T.z_len (by decide +kernel) (pa_cons (pv 0) pa_nil)) (C8.pe_gc (by rfl) T.g_MOST_ATOM))) (pw_or1 (pt_cmpR (notInK K w hr) (pe_ix (ixK K w hr) (pv 0) pe_int (fun _ _ => rfl)) (C8.pe_gc (by rfl) T.g_SMALL) (by rfl)))))) (pss_one (ps_ret pe_bl)) pss_nil)
  (pss_one (ps_ret (pe_callB (allK K (by rfl)) (by rfl) T.z_all (by decide +kernel) (pa_cons (pe_lc (own := [("sign", 1)]) (by rfl) sc_is_atom.nd (pi_str (pv 0)) (blkOk_by (own := [("sign", 1)]) (N := n_is_atom) (sc := C8.fnScope s_is_atom) (by decide +kernel)) (fun _ _ _ _ _ => (pg_name (i := 1) sc_is_atom.nd rfl (Or.inl rfl))) (fun _ _ _ _ _ => pts_nil) (fun _ _ _ _ _ => (pe_or (pe_cmpR (inK K w hr) (pv 1) (C8.pe_gc (by rfl) T.g_SMALL) (by rfl)) (pe_one (pe_cmpR (inK K w hr) (pv 1) (C8.pe_gc (by rfl) T.g_DIGITS) (by rfl)))))) pa_nil))))), ?_⟩
    walk_at "rd"
    refine i_isi hd (isA_str d).1 ?_
    rw [(isA_str d).2]
    walk_at "rd"
    cases d
    case str x =>
      cases hd
      have hl := hx x rfl
      refine iteF ?_
      walk_at "rd"
      refine i_lenS (Nat.le_trans hl (by decide)) ?_
      walk_at "rd"
      refine i_ifD (fun h1 => ?_) (fun h1 => ?_)
      · walk_at "rd"
        refine i_ifN (fun h2 => ?_) (fun h2 => ?_)
        · walk_at "rd"
          have e : isAtom (.str x) = false := by simp [isAtom, h2]
          rw [e] at q
          exact q H (Same.refl H)
        · walk_at "rd"
          obtain ⟨c, r, hc⟩ : ∃ c r, x.cps.toList = c :: r := by
            cases hc : x.cps.toList with
            | nil =>
              have : x.length = 0 := by unfold Str.length; rw [← Array.length_toList, hc]; rfl
              omega
            | cons c r => exact ⟨c, r, rfl⟩
          refine i_ixS (Nat.le_trans hl (by decide)) (by rw [hc]; exact atI_zero) ?_
          walk_at "rd"
          refine i_ifN (fun h3 => ?_) (fun h3 => ?_)
          · walk_at "rd"
            have e : isAtom (.str x) = false := by simp [isAtom, hc, h3]
            rw [e] at q
            exact q H (Same.refl H)
          · walk_at "rd"
            intro D hD
            refine lcS (fun i => .bl (decide ((x.cps.toList.getD i 0) ∈ small.cps.toList) || decide ((x.cps.toList.getD i 0) ∈ digits.cps.toList))) (Nat.le_trans hl (by decide)) hD (fun i c' H2 Qe hi s2 k => ?_) (fun H2 s2 hL => ?_)
            · walk_at "rd"
              refine ⟨rfl, ?_⟩
              have ec : x.cps.toList.getD i 0 = c' := by rw [List.getD_eq_getElem?_getD]; simp [hi]
              have k0 := k H2 (Same.refl H2)
              rw [ec] at k0
              walk_at "rd"
              refine i_ifD (fun h4 => ?_) (fun h4 => ?_)
              · simpa [h4] using k0
              · walk_at "rd"
                simpa [h4] using k0
            · walk_at "rd"
              refine i_all (bs := x.cps.toList.map (fun c => decide (c ∈ small.cps.toList) || decide (c ∈ digits.cps.toList))) (.of ?_) ?_
              · rw [hL]
                have e0 : x.cps.size = x.cps.toList.length := by simp
                rw [e0, List.map_map]
                exact congrArg (fun l => some (HO.lst l)) (map_range_get (f := fun c => V.bl (decide (c ∈ small.cps.toList) || decide (c ∈ digits.cps.toList))) _ _ fun i c' hi => by rw [List.getD_eq_getElem?_getD, hi]; rfl)
              · have e : isAtom (.str x) = (x.cps.toList.map (fun c => decide (c ∈ small.cps.toList) || decide (c ∈ digits.cps.toList))).all id := by
                  rw [List.all_map]
                  simp only [isAtom, hc, h1, h2, h3, decide_true, Bool.true_and]
                  rfl
                rw [← e]
                exact q H2 s2
      · walk_at "rd"
        have e : isAtom (.str x) = false := by simp [isAtom, h1]
        rw [e] at q
        exact q H (Same.refl H)
    all_goals
      refine iteT ?_
      walk_at "rd"
      exact q H (Same.refl H)
end
end K40
set_option Elab.async false
set_option linter.all false
set_option maxRecDepth 100000
set_option maxHeartbeats 4000000

namespace K40
open PySem PySem.Spec PyProof.Rows L2 Z
section
variable {P : Program} {w : World} {K : PySem.W.Frag} {mg : Str → Option Value} {base : Heap} {aSIGNS aFORMS : Addr}
mutual
theorem dp_same {H H' : Hp} (s : Same H H') : ∀ (d : PyData) (v : V), Dp K H v d → Dp K H' v d
  | .none, _, h => by cases h; exact .non
  | .bool b, _, h => by cases h; exact .bl b
  | .int i, _, h => by cases h; exact .int i
  | .str x, _, h => by cases h; exact .str x
  | .list ds, _, h => by
    cases h with
    | lst hs ha => exact .lst (s.seq hs) (dps_same s ds _ ha)
  | .tuple ds, _, h => by
    cases h with
    | tup hs ha => exact .tup (s.sqT hs) (dps_same s ds _ ha)
  | .dict kvs, _, h => by cases h
theorem dps_same {H H' : Hp} (s : Same H H') : ∀ (ds : List PyData) (vs : List V), DpAll K H vs ds → DpAll K H' vs ds
  | [], _, h => by cases h; exact .nil
  | d :: ds, _, h => by
    cases h with
    | cons h t => exact .cons (dp_same s d _ h) (dps_same s ds _ t)
end
theorem dps_len {H : Hp} : ∀ {vs : List V} {ds : List PyData}, DpAll K H vs ds → vs.length = ds.length
  | _, _, .nil => rfl
  | _, _, .cons _ t => by rw [List.length_cons, List.length_cons, dps_len t]
theorem dps_get {H : Hp} : ∀ {vs : List V} {ds : List PyData} {i : Nat} {v : V}, DpAll K H vs ds → vs[i]? = some v → ∃ d, ds[i]? = some d ∧ Dp K H v d
  | _, _, _, _, .nil, e => by simp at e
  | _, _, 0, v, .cons h _, e => by simp at e; subst e; exact ⟨_, rfl, h⟩
  | _, _, i + 1, v, .cons _ t, e => by
    obtain ⟨d, h1, h2⟩ := dps_get (i := i) (v := v) t (by simpa using e)
    exact ⟨d, by simpa using h1, h2⟩
theorem dps_get' {H : Hp} : ∀ {vs : List V} {ds : List PyData} {i : Nat} {d : PyData}, DpAll K H vs ds → ds[i]? = some d → ∃ v, vs[i]? = some v ∧ Dp K H v d
  | _, _, _, _, .nil, e => by simp at e
  | _, _, 0, d, .cons h _, e => by simp at e; subst e; exact ⟨_, rfl, h⟩
  | _, _, i + 1, d, .cons _ t, e => by
    obtain ⟨v, h1, h2⟩ := dps_get' (i := i) (d := d) t (by simpa using e)
    exact ⟨v, by simpa using h1, h2⟩
/-- data of bounded size and depth -/
inductive OkD : Nat → PyData → Prop
  | non {n : Nat} : OkD n .none
  | bl {n : Nat} (b : Bool) : OkD n (.bool b)
  | int {n : Nat} (i : Int) : OkD n (.int i)
  | str {n : Nat} {x : Str} : PyData.strOk x = true → x.length ≤ 1000 → OkD n (.str x)
  | tup {n : Nat} {xs : List PyData} : xs.length ≤ 1000 → (∀ x ∈ xs, OkD n x) → OkD (n + 1) (.tuple xs)
  | lst {n : Nat} {xs : List PyData} : xs.length ≤ 1000 → (∀ x ∈ xs, OkD n x) → OkD (n + 1) (.list xs)
theorem layAll : ∀ {xs : List PyData}, (∀ x ∈ xs, x.canLay0 = true) → PyData.canLayAll0 xs = true
  | [], _ => by simp [PyData.canLayAll0]
  | x :: xs, h => by simp [PyData.canLayAll0, h x (by simp), layAll (xs := xs) fun y hy => h y (by simp [hy])]
theorem depAll {n : Nat} : ∀ {xs : List PyData}, (∀ x ∈ xs, x.depth ≤ n) → PyData.depthAll xs ≤ n
  | [], _ => by simp [PyData.depthAll]
  | x :: xs, h => by
    have h1 := h x (by simp)
    have h2 := depAll (xs := xs) fun y hy => h y (by simp [hy])
    simp only [PyData.depthAll]
    omega
theorem OkD.lay {n : Nat} {d : PyData} (h : OkD n d) : d.canLay0 = true ∧ d.depth ≤ n := by
  induction h with
  | non => exact ⟨by simp [PyData.canLay0], by simp [PyData.depth]⟩
  | bl b => exact ⟨by simp [PyData.canLay0], by simp [PyData.depth]⟩
  | int i => exact ⟨by simp [PyData.canLay0], by simp [PyData.depth]⟩
  | str h _ => exact ⟨by simpa [PyData.canLay0] using h, by simp [PyData.depth]⟩
  | tup _ _ ih =>
    refine ⟨by simp only [PyData.canLay0]; exact layAll fun x hx => (ih x hx).1, ?_⟩
    have := depAll fun x hx => (ih x hx).2
    simp only [PyData.depth]
    omega
  | lst _ _ ih =>
    refine ⟨by simp only [PyData.canLay0]; exact layAll fun x hx => (ih x hx).1, ?_⟩
    have := depAll fun x hx => (ih x hx).2
    simp only [PyData.depth]
    omega
theorem OkD.shaped {n : Nat} {d : PyData} (h : OkD n d) (hn : n ≤ 64) : SeqAt.shaped d = true := by
  unfold SeqAt.shaped
  rw [h.lay.1, Bool.true_and]
  exact decide_eq_true (Nat.le_trans h.lay.2 hn)
theorem map_all {H : Hp} {vs : List V} {ds : List PyData} (p : PyData → Bool) (h : DpAll K H vs ds) : (List.range vs.length).map (fun i => V.bl (p (ds.getD i .none))) = (ds.map p).map V.bl := by
  rw [dps_len h, List.map_map]
  exact map_range_get (f := V.bl ∘ p) _ _ fun i d hi => by rw [List.getD_eq_getElem?_getD, hi]; rfl
theorem all_map {α : Type} (p : α → Bool) (l : List α) : (l.map p).all id = l.all p := by rw [List.all_map]; rfl

/-! ### are_registers -/
def sp_are_registers (K : PySem.W.Frag) : Sp := fun vs H Q _ => ∃ v d count least most n, vs = [v, .int count, .int least, .int most] ∧ Dp K H v d ∧ OkD n d ∧ ∀ H', Same H H' → Q (.bl (areRegs d count least most)) H'
theorem cal_are_registers (T : Txt K w mg aSIGNS aFORMS) : C8.Cal P w K mg base 2 "are_registers" (sp_are_registers K) [] := by
  refine cal_mk T.d_are_registers (fun _ _ _ _ _ _ us hl => match us, hl with | [_, _, _, _], _ => rfl) sc_are_registers (fun vs H Q E h => ?_) (fun f cdv A outer s H vs Q E hr h => ?_)
  · obtain ⟨v, d, c, l, m, n, rfl, _⟩ := h; rfl
  · obtain ⟨v, d, count, least, most, n, rfl, hd, ok, q⟩ := h
    refine ⟨_, (pss_cons (ps_if (PW.pt (pw_or (pt_not (pt_val (pe_callB (isiK K) (by rfl) T.z_isinstance (by decide +kernel) (pa_cons (pv 0) (pa_cons (pe_ty (by rfl) T.z_tuple rfl) pa_nil))))) (pw_or1 (pt_not (pt_chain op_le op_le (pv 2) (pe_callB (lenK K) (by rfl) T.z_len (by decide +kernel) (pa_cons (pv 0) pa_nil)) (pv 3)))))) (pss_one (ps_ret pe_bl)) pss_nil)
  (pss_one (ps_ret (pe_callB (allK K (by rfl)) (by rfl) T.z_all (by decide +kernel) (pa_cons (pe_lc (own := [("place", 4)]) (by rfl) sc_are_registers.nd (tupI K (pv 0)) (blkOk_by (own := [("place", 4)]) (N := n_are_registers) (sc := C8.fnScope s_are_registers) (by decide +kernel)) (fun _ _ _ _ _ => (pg_name (i := 4) sc_are_registers.nd rfl (Or.inl rfl))) (fun _ _ _ _ _ => pts_nil) (fun _ _ _ _ _ => (C8.pe_c (cal_is_whole_codes T) hr (by decide) (by rfl) (pa_cons (pv 4) (pa_cons pe_int (pa_cons (pe_op op_sub (pv 1) pe_int) pa_nil)))))) pa_nil))))), ?_⟩
    walk_at "rd"
    refine i_isi hd (isA_tuple d).1 ?_
    rw [(isA_tuple d).2]
    walk_at "rd"
    cases d
    case tuple ds =>
      cases hd with
      | @tup a xs _ hs ha =>
      have hl : ds.length ≤ 1000 := by cases ok with | tup h _ => exact h
      have hlen := dps_len ha
      refine iteF ?_
      walk_at "rd"
      refine i_lenT hs ?_
      walk_at "rd"
      have stop : ∀ (b : Bool), areRegs (.tuple ds) count least most = b → Q (.bl b) H := fun b e => by rw [← e]; exact q H (Same.refl H)
      refine i_ifD (fun h1 => ?_) (fun h1 => ?_)
      · walk_at "rd"
        refine i_ifN (fun h2 => ?_) (fun h2 => ?_)
        · walk_at "rd"
          exact stop false (by rw [hlen] at h1 h2; simp [areRegs, h1, h2])
        · walk_at "rd"
          refine i_exTup hs ?_
          intro D hD
          refine lcT (fun i => .bl (whole (ds.getD i .none) 0 (count - 1))) hs (by rw [hlen]; exact Nat.le_trans hl (by decide)) hD (fun i x H2 Qe hi s2 k => ?_) (fun H2 s2 hL => ?_)
          · walk_at "rd"
            refine ⟨rfl, ?_⟩
            walk_at "rd"
            obtain ⟨d', h3, h4⟩ := dps_get ha hi
            refine ⟨x, d', 0, count - 1, rfl, dp_same s2 _ _ h4, ?_⟩
            have k0 := k H2 (Same.refl H2)
            rw [List.getD_eq_getElem?_getD, h3] at k0
            exact k0
          · walk_at "rd"
            refine i_all (bs := ds.map fun p => whole p 0 (count - 1)) (.of ?_) ?_
            · rw [hL, map_all (fun p => whole p 0 (count - 1)) ha]
            · have e : areRegs (.tuple ds) count least most = (ds.map fun p => whole p 0 (count - 1)).all id := by
                rw [all_map]
                rw [hlen] at h1 h2
                simp [areRegs, h1, h2]
              rw [← e]
              exact q H2 s2
      · walk_at "rd"
        exact stop false (by rw [hlen] at h1; simp [areRegs, h1])
    all_goals
      refine iteT ?_
      walk_at "rd"
      exact q H (Same.refl H)
end
end K40
set_option Elab.async false
set_option linter.all false
set_option maxRecDepth 100000
set_option maxHeartbeats 4000000

namespace K40
open PySem PySem.Spec PyProof.Rows L2 Z
section
variable {P : Program} {w : World} {K : PySem.W.Frag} {mg : Str → Option Value} {base : Heap} {aSIGNS aFORMS : Addr}
/-! ### is_part -/
/-- the letters of forms -/
def letters : List Nat := [114, 107, 117, 98, 99, 105, 97, 115, 112, 108, 109, 110]
theorem one_eq (c d : Nat) (s : Str) (hs : s = ⟨#[d]⟩) : decide ((⟨#[c]⟩ : Str) = s) = decide (c = d) := by
  subst hs
  by_cases e : c = d
  · subst e; simp
  · have : ¬ (⟨#[c]⟩ : Str) = ⟨#[d]⟩ := fun h => e (by injection h with h; simpa using h)
    rw [decide_eq_false this, decide_eq_false e]
theorem sub_len : ∀ {ks ns : List Int}, ks.Nodup → (∀ k ∈ ks, k ∈ ns) → ks.length ≤ ns.length
  | [], _, _, _ => Nat.zero_le _
  | k :: ks, ns, hk, hm => by
    obtain ⟨h1, h2⟩ := List.nodup_cons.mp hk
    have hkn : k ∈ ns := hm k (by simp)
    have := sub_len (ks := ks) (ns := ns.erase k) h2 fun j hj => by
      have hne : j ≠ k := fun e => h1 (e ▸ hj)
      exact (List.mem_erase_of_ne hne).mpr (hm j (by simp [hj]))
    rw [List.length_erase_of_mem hkn] at this
    have := List.length_pos_of_mem hkn
    rw [List.length_cons]
    omega
theorem dup_of : ∀ {ns : List Int}, ¬ ns.Nodup → ∃ a ∈ ns, a ∈ ns.erase a
  | [], h => absurd List.nodup_nil h
  | x :: xs, h => by
    by_cases hx : x ∈ xs
    · exact ⟨x, by simp, by rw [List.erase_cons_head]; exact hx⟩
    · have hxs : ¬ xs.Nodup := fun n => h (List.nodup_cons.mpr ⟨hx, n⟩)
      obtain ⟨a, ha, hb⟩ := dup_of hxs
      have hne : ¬ x = a := fun e => hx (e ▸ ha)
      exact ⟨a, by simp [ha], by rw [List.erase_cons_tail (by simpa using hne)]; simp [hb]⟩
/-- different ints, and as many as there are -/
theorem set_len {ks ns : List Int} (hk : ks.Nodup) (hm : ∀ k, k ∈ ks ↔ k ∈ ns) : decide ((ks.length : Int) = (ns.length : Int)) = decide ns.Nodup := by
  have le : ks.length ≤ ns.length := sub_len hk fun k h => (hm k).mp h
  by_cases hn : ns.Nodup
  · have ge : ns.length ≤ ks.length := sub_len hn fun k h => (hm k).mpr h
    rw [decide_eq_true hn, decide_eq_true (by omega)]
  · rw [decide_eq_false hn]
    refine decide_eq_false fun e => ?_
    obtain ⟨a, ha, hb⟩ := dup_of hn
    have : ks.length ≤ (ns.erase a).length := sub_len hk fun k h => by
      by_cases hka : k = a
      · rw [hka]; exact hb
      · exact (List.mem_erase_of_ne hka).mpr ((hm k).mp h)
    rw [List.length_erase_of_mem ha] at this
    have := List.length_pos_of_mem ha
    omega
/-- a tuple that are_registers takes holds ints -/
theorem ints_of {c : Int} : ∀ {ds : List PyData}, ds.all (fun p => whole p 0 c) = true → ds = (ds.map toInt).map PyData.int
  | [], _ => rfl
  | d :: ds, h => by
    rw [List.all_cons, Bool.and_eq_true] at h
    have e := ints_of (ds := ds) h.2
    cases d
    case int i =>
      show _ = PyData.int i :: (ds.map toInt).map PyData.int
      rw [← e]
    all_goals exact absurd h.1 (by simp [whole])
theorem vals_of {H : Hp} : ∀ {ns : List Int} {vs : List V}, DpAll K H vs (ns.map PyData.int) → vs = ns.map V.int
  | [], _, h => by cases h; rfl
  | n :: ns, _, h => by
    cases h with
    | cons h t => cases h; rw [vals_of t]; rfl
theorem dget_of {H : Hp} {a : Addr} {kvs : List (Key × V)} {k : Key} {v : V} (e : H a = some (.dK kvs)) (h : valV kvs k = some v) : DGet H a (kV k) (some v) := h ▸ DGet.k e
theorem inV_strs (x : Str) : ∀ l : List Str, inV (.str x) (l.map V.str) = decide (x ∈ l)
  | [] => by simp [inV]
  | y :: l => by
    have ih := inV_strs x l
    unfold inV at ih ⊢
    rw [List.map_cons, List.any_cons, ih]
    by_cases e : y = x
    · subst e; simp [eqV]
    · have e' : ¬ x = y := fun z => e z.symm
      have : eqV (.str y) (.str x) = false := by simp [eqV, e]
      rw [this]
      simp [e']
theorem three (a b c : V) : valV (mergeK [] [(Sum.inr "l", a), (Sum.inr "m", b), (Sum.inr "n", c)]) (Sum.inr ⟨#[108]⟩ : Key) = some a ∧ valV (mergeK [] [(Sum.inr "l", a), (Sum.inr "m", b), (Sum.inr "n", c)]) (Sum.inr ⟨#[109]⟩ : Key) = some b ∧
    valV (mergeK [] [(Sum.inr "l", a), (Sum.inr "m", b), (Sum.inr "n", c)]) (Sum.inr ⟨#[110]⟩ : Key) = some c := by
  refine ⟨?_, ?_, ?_⟩ <;> kernel_rfl
def sp_is_part (K : PySem.W.Frag) : Sp := fun vs H Q _ => ∃ (c : Nat) (v : V) (d : PyData) (n : Nat) (at_ regs : Int) (pu pi : Addr) (g : V) (ins : List V) (many : Nat),
  vs = [.str ⟨#[c]⟩, v, .int at_, .ref pu, .int (many : Nat)] ∧ c ∈ letters ∧ Dp K H v d ∧ OkD n d ∧ SqT K H pu [g, .int regs, .ref pi] ∧ SqT K H pi ins ∧ ∀ H', Same H H' → Q (.bl (isPart c d at_ regs ins.length many)) H'
theorem cal_is_part (T : Txt K w mg aSIGNS aFORMS) : C8.Cal P w K mg base 3 "is_part" (sp_is_part K) [] := by
  refine cal_mk T.d_is_part (fun _ _ _ _ _ _ us hl => match us, hl with | [_, _, _, _, _], _ => rfl) sc_is_part (fun vs H Q E h => ?_) (fun f cdv A outer s H vs Q E hr h => ?_)
  · obtain ⟨c, v, d, n, at_, regs, pu, pi, g, ins, many, rfl, _⟩ := h; rfl
  · obtain ⟨c, v, d, n, at_, regs, pu, pi, g, ins, many, rfl, hc, hd, ok, hu, hi, q⟩ := h
    refine ⟨_, (pss_cons (ps_asg (pv 3) (tupG K (by rfl) (pgs_cons (pg_name (i := 5) sc_is_part.nd rfl (Or.inl rfl)) (pgs_cons (pg_name (i := 6) sc_is_part.nd rfl (Or.inl rfl)) (pgs_cons (pg_name (i := 7) sc_is_part.nd rfl (Or.inl rfl)) pgs_nil)))))
  (pss_cons (ps_if (pt_cmpR (eqK K hr) (pv 0) pe_str (nomark _)) (pss_one (ps_ret (C8.pe_c (cal_is_whole_codes T) hr (by decide) (by rfl) (pa_cons (pv 1) (pa_cons pe_int (pa_cons (pe_op op_sub (pv 6) pe_int) pa_nil)))))) pss_nil)
  (pss_cons (ps_if (pt_cmpR (eqK K hr) (pv 0) pe_str (nomark _)) (pss_one (ps_ret (C8.pe_c (cal_is_whole_codes T) hr (by decide) (by rfl) (pa_cons (pv 1) (pa_cons (pe_op (addK K) (pv 2) pe_int) (pa_cons (pe_op op_sub (pe_callB (lenK K) (by rfl) T.z_len (by decide +kernel) (pa_cons (pv 7) pa_nil)) pe_int) pa_nil)))))) pss_nil)
  (pss_cons (ps_if (pt_cmpR (eqK K hr) (pv 0) pe_str (nomark _)) (pss_one (ps_ret (C8.pe_c (cal_is_whole_codes T) hr (by decide) (by rfl) (pa_cons (pv 1) (pa_cons pe_int (pa_cons (pe_op op_sub (pv 4) pe_int) pa_nil)))))) pss_nil)
  (pss_cons (ps_if (pt_cmpR (inK K w hr) (pv 0) pe_str (by rfl)) (pss_one (ps_ret (C8.pe_c (cal_is_whole_codes T) hr (by decide) (by rfl) (pa_cons (pv 1) (pa_cons pe_int (pa_cons (pe_ix (ixK K w hr) (pe_disp (pps_cons pe_str pe_int (pps_cons pe_str pe_int pps_nil)) (by rfl) (by rfl) (fun z => by cases z) (by decide)) (pv 0) (fun _ _ => rfl)) pa_nil)))))) pss_nil)
  (pss_cons (ps_if (pt_cmpR (eqK K hr) (pv 0) pe_str (nomark _)) (pss_one (ps_ret (C8.pe_c (cal_is_number T) hr (by decide) (by rfl) (pa_cons (pv 1) pa_nil)))) pss_nil)
  (pss_cons (ps_if (pt_cmpR (eqK K hr) (pv 0) pe_str (nomark _)) (pss_one (ps_ret (C8.pe_c (cal_is_atom T) hr (by decide) (by rfl) (pa_cons (pv 1) pa_nil)))) pss_nil)
  (pss_cons (ps_if (pt_cmpR (eqK K hr) (pv 0) pe_str (nomark _)) (pss_one (ps_ret (pe_and (pe_callB (isiK K) (by rfl) T.z_isinstance (by decide +kernel) (pa_cons (pv 1) (pa_cons (pe_ty (by rfl) T.z_str rfl) pa_nil))) (pe_one (pe_cmpR (inK K w hr) (pv 1) (C8.pe_gc (by rfl) T.g_SIGNS) (by rfl)))))) pss_nil)
  (pss_cons (ps_if (pt_cmpR (eqK K hr) (pv 0) pe_str (nomark _)) (pss_one (ps_ret (pe_and (C8.pe_c (cal_are_registers T) hr (by decide) (by rfl) (pa_cons (pv 1) (pa_cons (pv 6) (pa_cons pe_int (pa_cons pe_int pa_nil))))) (pe_one (pe_cmpR (eqK K hr) (lenSetK K (by rfl) T.z_len (by rfl) T.z_set (pv 1)) (pe_callB (lenK K) (by rfl) T.z_len (by decide +kernel) (pa_cons (pv 1) pa_nil)) (nomark _)))))) pss_nil)
  (pss_cons (ps_asg (pe_ix (ixK K w hr) (pe_disp (pps_cons pe_str (pe_tup (pa_cons pe_int (pa_cons pe_int pa_nil))) (pps_cons pe_str (pe_tup (pa_cons pe_int (pa_cons pe_int pa_nil))) (pps_cons pe_str (pe_tup (pa_cons pe_int (pa_cons (pv 6) pa_nil))) pps_nil))) (by rfl) (by rfl) (fun z => by cases z) (by decide)) (pv 0) (fun _ _ => rfl)) (tupG K (by rfl) (pgs_cons (pg_name (i := 8) sc_is_part.nd rfl (Or.inl rfl)) (pgs_cons (pg_name (i := 9) sc_is_part.nd rfl (Or.inl rfl)) pgs_nil))))
  (pss_one (ps_ret (C8.pe_c (cal_are_registers T) hr (by decide) (by rfl) (pa_cons (pv 1) (pa_cons (pv 6) (pa_cons (pv 8) (pa_cons (pv 9) pa_nil))))))))))))))))), ?_⟩
    have q0 : ∀ b : Bool, isPart c d at_ regs ins.length many = b → Q (.bl b) H := fun b e => by rw [← e]; exact q H (Same.refl H)
    walk_at "rd"
    refine i_gtup hu rfl ?_
    walk_at "rd"
    rw [one_eq c 114 _ (by decide +kernel)]
    refine i_ifD (fun h1 => ?_) (fun h1 => ?_)
    · walk_at "rd"
      exact ⟨v, d, 0, regs - 1, rfl, hd, q0 _ (by simp [isPart, h1])⟩
    walk_at "rd"
    rw [one_eq c 107 _ (by decide +kernel)]
    refine i_ifD (fun h2 => ?_) (fun h2 => ?_)
    · walk_at "rd"
      refine i_lenT hi ?_
      walk_at "rd"
      exact ⟨v, d, _, _, rfl, hd, q0 _ (by simp [isPart, h1, h2])⟩
    walk_at "rd"
    rw [one_eq c 117 _ (by decide +kernel)]
    refine i_ifD (fun h3 => ?_) (fun h3 => ?_)
    · walk_at "rd"
      exact ⟨v, d, _, _, rfl, hd, q0 _ (by simp [isPart, h1, h2, h3])⟩
    walk_at "rd"
    rw [show ("bc" : Str).cps.toList = [98, 99] by decide +kernel]
    refine i_ifD (fun h4 => ?_) (fun h4 => ?_)
    · walk_at "rd"
      intro p hp
      walk_at "rd"
      refine ⟨upd_same, [(Sum.inr "b", .int 8), (Sum.inr "c", .int 6)], rfl, by decide, ?_⟩
      walk_at "rd"
      have sm : Same H (upd (upd H p (.dK [])) p (.dK (mergeK [] [(Sum.inr "b", .int 8), (Sum.inr "c", .int 6)]))) := same_upd (same_new hp) hp
      have e4 : c = 98 ∨ c = 99 := by simpa using h4
      rcases e4 with rfl | rfl
      · refine i_ixD (dget_of (k := Sum.inr ⟨#[98]⟩) (v := .int 8) upd_same (by decide +kernel)) ?_
        walk_at "rd"
        exact ⟨v, d, _, _, rfl, dp_same sm _ _ hd, q _ sm⟩
      · refine i_ixD (dget_of (k := Sum.inr ⟨#[99]⟩) (v := .int 6) upd_same (by decide +kernel)) ?_
        walk_at "rd"
        exact ⟨v, d, _, _, rfl, dp_same sm _ _ hd, q _ sm⟩
    have h4' : ¬ c = 98 ∧ ¬ c = 99 := by simpa using h4
    walk_at "rd"
    rw [one_eq c 105 _ (by decide +kernel)]
    refine i_ifD (fun h5 => ?_) (fun h5 => ?_)
    · walk_at "rd"
      exact ⟨v, d, rfl, hd, q0 _ (by simp [isPart, h5])⟩
    walk_at "rd"
    rw [one_eq c 97 _ (by decide +kernel)]
    refine i_ifD (fun h6 => ?_) (fun h6 => ?_)
    · walk_at "rd"
      refine ⟨v, d, rfl, hd, fun x e => ?_, fun H' s' => ?_⟩
      · subst e; cases ok with | str _ h => exact h
      · have e : isPart c d at_ regs ins.length many = isAtom d := by simp [isPart, h6]
        rw [← e]
        exact q H' s'
    walk_at "rd"
    rw [one_eq c 115 _ (by decide +kernel)]
    refine i_ifD (fun h7 => ?_) (fun h7 => ?_)
    · walk_at "rd"
      refine i_isi hd (isA_str d).1 ?_
      rw [(isA_str d).2]
      walk_at "rd"
      cases d
      case str x =>
        cases hd
        refine iteT ?_
        walk_at "rd"
        refine i_inT (.inr T.k_SIGNS) rfl (by decide +kernel) ?_
        have e : isPart c (.str x) at_ regs ins.length many = inV (.str x) (signs.map V.str) := by
          rw [inV_strs]
          simp [isPart, h7]
        exact q0 _ e
      all_goals exact iteF (q0 _ (by simp [isPart, h7]))
    walk_at "rd"
    rw [one_eq c 112 _ (by decide +kernel)]
    refine i_ifD (fun h8 => ?_) (fun h8 => ?_)
    · walk_at "rd"
      refine ⟨v, d, regs, 1, 6, n, rfl, hd, ok, fun H' s' => ?_⟩
      walk_at "rd"
      have e : isPart c d at_ regs ins.length many = (areRegs d regs 1 6 && diff d) := by simp [isPart, h8]
      refine i_if _ (fun h9 => ?_) (fun h9 => ?_)
      · walk_at "rd"
        cases d
        case tuple ds =>
          have hd' := dp_same s' _ _ hd
          cases hd' with
          | @tup a xs _ hs ha =>
          have h10 : ds.all (fun p => whole p 0 (regs - 1)) = true := by
            simp only [areRegs, Bool.and_eq_true] at h9
            exact h9.2
          have e1 := ints_of h10
          have hl : ds.length ≤ 1000 := by cases ok with | tup h _ => exact h
          have e2 : xs = (ds.map toInt).map V.int := by rw [e1] at ha; exact vals_of ha
          rw [e2] at hs
          refine ⟨a, ds.map toInt, rfl, hs, by rw [List.length_map]; omega, fun ks hk hm => ?_⟩
          walk_at "rd"
          refine i_lenT hs ?_
          walk_at "rd"
          have e3 : decide ((ks.length : Int) = (((ds.map toInt).map V.int).length : Nat)) = isPart c (.tuple ds) at_ regs ins.length many := by
            rw [e, h9, Bool.true_and, List.length_map]
            exact set_len hk hm
          rw [e3]
          exact q H' s'
        all_goals exact absurd h9 (by simp [areRegs])
      · have e3 : isPart c d at_ regs ins.length many = false := by rw [e, h9]; rfl
        rw [← e3]
        exact q H' s'
    walk_at "rd"
    intro p hp
    walk_at "rd"
    refine ⟨by walk_at "sz", fun t1 g1 => ?_⟩
    walk_at "rd"
    refine ⟨by walk_at "sz", fun t2 g2 => ?_⟩
    walk_at "rd"
    refine ⟨by walk_at "sz", fun t3 g3 => ?_⟩
    walk_at "rd"
    have s1 := same_new (o := .tup [.int 1, .int 6]) g1
    have s2 := same_new (o := .tup [.int 0, .int 7]) g2
    have s3 := same_new (o := .tup [.int 0, .int regs]) g3
    have k1 : SqT K (upd (upd H p (.dK [])) t1 (.tup [.int 1, .int 6])) t1 [.int 1, .int 6] := .of upd_same
    have k2 : SqT K (upd (upd (upd H p (.dK [])) t1 (.tup [.int 1, .int 6])) t2 (.tup [.int 0, .int 7])) t2 [.int 0, .int 7] := .of upd_same
    have k3 : SqT K (upd (upd (upd (upd H p (.dK [])) t1 (.tup [.int 1, .int 6])) t2 (.tup [.int 0, .int 7])) t3 (.tup [.int 0, .int regs])) t3 [.int 0, .int regs] := .of upd_same
    generalize upd (upd (upd (upd H p (.dK [])) t1 (.tup [.int 1, .int 6])) t2 (.tup [.int 0, .int 7])) t3 (.tup [.int 0, .int regs]) = H3 at s3 k3 ⊢
    generalize upd (upd (upd H p (.dK [])) t1 (.tup [.int 1, .int 6])) t2 (.tup [.int 0, .int 7]) = H2 at s2 s3 k2 g3
    generalize upd (upd H p (.dK [])) t1 (.tup [.int 1, .int 6]) = H1 at s1 s2 k1 g2
    have s13 : Same (upd H p (.dK [])) H3 := (s1.trans s2).trans s3
    have hp3 : H3 p = some (.dK []) := s13 _ _ upd_same
    refine ⟨hp3, [(Sum.inr "l", .ref t1), (Sum.inr "m", .ref t2), (Sum.inr "n", .ref t3)], rfl, Nat.le_of_ble_eq_true rfl, ?_⟩
    walk_at "rd"
    have sm : Same H (upd H3 p (.dK (mergeK [] [(Sum.inr "l", .ref t1), (Sum.inr "m", .ref t2), (Sum.inr "n", .ref t3)]))) := same_upd ((same_new hp).trans s13) hp
    have nt : ∀ ys, HO.dK [] ≠ .tup ys := fun _ z => nomatch z
    have nf : ∀ ob v, HO.dK [] ≠ .frz ob v := fun _ _ z => nomatch z
    obtain ⟨v1, v2, v3⟩ := three (.ref t1) (.ref t2) (.ref t3)
    have hc3 : c = 108 ∨ c = 109 ∨ c = 110 := by
      simp only [letters, List.mem_cons, List.not_mem_nil, or_false] at hc
      omega
    rcases hc3 with rfl | rfl | rfl
    · refine i_ixD (dget_of (k := Sum.inr ⟨#[108]⟩) upd_same v1) ?_
      refine i_gtup (sqT_upd (s3.sqT (s2.sqT k1)) hp3 nt nf) rfl ?_
      walk_at "rd"
      refine ⟨v, d, regs, 1, 6, n, rfl, dp_same sm _ _ hd, ok, fun H' s' => ?_⟩
      exact q H' (sm.trans s')
    · refine i_ixD (dget_of (k := Sum.inr ⟨#[109]⟩) upd_same v2) ?_
      refine i_gtup (sqT_upd (s3.sqT k2) hp3 nt nf) rfl ?_
      walk_at "rd"
      refine ⟨v, d, regs, 0, 7, n, rfl, dp_same sm _ _ hd, ok, fun H' s' => ?_⟩
      exact q H' (sm.trans s')
    · refine i_ixD (dget_of (k := Sum.inr ⟨#[110]⟩) upd_same v3) ?_
      refine i_gtup (sqT_upd k3 hp3 nt nf) rfl ?_
      walk_at "rd"
      refine ⟨v, d, regs, 0, regs, n, rfl, dp_same sm _ _ hd, ok, fun H' s' => ?_⟩
      exact q H' (sm.trans s')
end
end K40
set_option Elab.async false
set_option linter.all false
set_option maxRecDepth 100000
set_option maxHeartbeats 4000000

namespace K40
open PySem PySem.Spec PyProof.Rows L2 Z
section
variable {P : Program} {w : World} {K : PySem.W.Frag} {mg : Str → Option Value} {base : Heap} {aSIGNS aFORMS : Addr}
theorem at0 {α : Type} {a : α} {r : List α} : atI (a :: r) 0 = some a := atI_nat (j := 0) rfl
theorem at1 {α : Type} {a b : α} {r : List α} : atI (a :: b :: r) 1 = some b := atI_nat (j := 1) rfl
theorem at2 {α : Type} {a b c : α} {r : List α} : atI (a :: b :: c :: r) 2 = some c := atI_nat (j := 2) rfl
theorem at3 {α : Type} {a b c d : α} {r : List α} : atI (a :: b :: c :: d :: r) 3 = some d := atI_nat (j := 3) rfl
theorem at4 {α : Type} {a b c d e : α} {r : List α} : atI (a :: b :: c :: d :: e :: r) 4 = some e := atI_nat (j := 4) rfl
theorem at_last {α : Type} {xs : List α} {v : α} (h : xs.getLast? = some v) : atI xs (-1) = some v := by
  rcases List.eq_nil_or_concat xs with e | ⟨l, b, e⟩
  · subst e; simp at h
  · subst e
    simp at h
    subst h
    simpa using atI_last l b
theorem isUnit_len {ds : List PyData} (h : ds.length ≠ 3) : isUnit (.tuple ds) = false := by
  rcases ds with _ | ⟨d1, _ | ⟨d2, _ | ⟨d3, _ | ⟨d4, r⟩⟩⟩⟩
  · rfl
  · rfl
  · cases d2 <;> rfl
  · exact absurd rfl h
  · cases d2 <;> first | rfl | (cases d3 <;> rfl)
/-! ### is_unit -/
def sp_is_unit (K : PySem.W.Frag) : Sp := fun vs H Q _ => ∃ v d n, vs = [v] ∧ Dp K H v d ∧ OkD n d ∧ n ≤ 64 ∧ ∀ H', Same H H' → Q (.bl (isUnit d)) H'
theorem cal_is_unit (T : Txt K w mg aSIGNS aFORMS) : C8.Cal P w K mg base 2 "is_unit" (sp_is_unit K) [] := by
  refine cal_mk T.d_is_unit (fun _ _ _ _ _ _ us hl => match us, hl with | [_], _ => rfl) sc_is_unit (fun vs H Q E h => ?_) (fun f cdv A outer s H vs Q E hr h => ?_)
  · obtain ⟨v, d, n, rfl, _⟩ := h; rfl
  · obtain ⟨v, d, n, rfl, hd, ok, hn, q⟩ := h
    refine ⟨_, (pss_cons (ps_if (PW.pt (pw_or (pt_not (pt_val (pe_callB (isiK K) (by rfl) T.z_isinstance (by decide +kernel) (pa_cons (pv 0) (pa_cons (pe_ty (by rfl) T.z_tuple rfl) pa_nil))))) (pw_or (pt_cmpR (neK K hr) (pe_callB (lenK K) (by rfl) T.z_len (by decide +kernel) (pa_cons (pv 0) pa_nil)) pe_int (nomark _)) (pw_or1 (pt_not (pt_val (pe_callB (isiK K) (by rfl) T.z_isinstance (by decide +kernel) (pa_cons (pe_ix (ixK K w hr) (pv 0) pe_int (fun _ _ => rfl)) (pa_cons (pe_ty (by rfl) T.z_tuple rfl) pa_nil))))))))) (pss_one (ps_ret pe_bl)) pss_nil)
  (pss_cons (ps_if (PW.pt (pw_or (pt_not (pt_val (C8.pe_c (cal_is_whole_codes T) hr (by decide) (by rfl) (pa_cons (pe_ix (ixK K w hr) (pv 0) pe_int (fun _ _ => rfl)) (pa_cons pe_int (pa_cons (C8.pe_gc (by rfl) T.g_MOST_REGISTERS) pa_nil)))))) (pw_or1 (pt_not (pt_val (C8.pe_c (cal_is_whole_codes T) hr (by decide) (by rfl) (pa_cons (pe_ix (ixK K w hr) (pv 0) pe_int (fun _ _ => rfl)) (pa_cons pe_int (pa_cons (pe_ix (ixK K w hr) (pv 0) pe_int (fun _ _ => rfl)) pa_nil))))))))) (pss_one (ps_ret pe_bl)) pss_nil)
  (pss_one (ps_ret (pe_and (pe_chain op_le op_le pe_int (pe_callB (lenK K) (by rfl) T.z_len (by decide +kernel) (pa_cons (pe_ix (ixK K w hr) (pv 0) pe_int (fun _ _ => rfl)) pa_nil)) (C8.pe_gc (by rfl) T.g_MOST_CODE)) (pe_one (pe_cmpR (eqK K hr) (pe_ix (ixK K w hr) (pe_ix (ixK K w hr) (pv 0) pe_int (fun _ _ => rfl)) (pe_un un_neg pe_int) (fun _ _ => rfl)) (pe_tup (pa_cons pe_str pa_nil)) (nomark _)))))))), ?_⟩
    have q0 : ∀ b : Bool, isUnit d = b → Q (.bl b) H := fun b e => by rw [← e]; exact q H (Same.refl H)
    walk_at "rd"
    refine i_isi hd (isA_tuple d).1 ?_
    rw [(isA_tuple d).2]
    walk_at "rd"
    cases d
    case tuple ds =>
      cases hd with
      | @tup a xs _ hs ha =>
      have hlen := dps_len ha
      refine iteF ?_
      walk_at "rd"
      refine i_lenT hs ?_
      walk_at "rd"
      refine i_ifN (fun h1 => ?_) (fun h1 => ?_)
      · walk_at "rd"
        exact q0 false (isUnit_len fun e => h1 (by rw [hlen, e]; rfl))
      · walk_at "rd"
        rw [hlen] at h1
        obtain ⟨g, rd, is, rfl⟩ : ∃ a b c, ds = [a, b, c] := by
          rcases ds with _ | ⟨d1, _ | ⟨d2, _ | ⟨d3, _ | ⟨d4, r⟩⟩⟩⟩
          · simp at h1
          · simp at h1
          · simp at h1
          · exact ⟨_, _, _, rfl⟩
          · simp at h1; omega
        cases ha with
        | @cons v1 _ _ _ a1 ha => cases ha with
          | @cons v2 _ _ _ a2 ha => cases ha with
            | @cons v3 _ _ _ a3 ha =>
            cases ha
            have okm : ∀ x ∈ [g, rd, is], ∃ m, m ≤ 64 ∧ OkD m x := fun x hx => by
              cases ok with
              | @tup m _ _ h => exact ⟨m, by omega, h x hx⟩
            refine i_ixT hs at2 ?_
            walk_at "rd"
            refine i_isi a3 (isA_tuple is).1 ?_
            rw [(isA_tuple is).2]
            walk_at "rd"
            cases is
            case tuple is =>
              refine iteF ?_
              walk_at "rd"
              refine i_ixT hs at1 ?_
              walk_at "rd"
              refine ⟨v2, rd, 0, 2000, rfl, a2, ?_⟩
              walk_at "rd"
              cases h2 : whole rd 0 2000 with
              | false =>
                refine iteT ?_
                walk_at "rd"
                refine q0 false ?_
                cases rd <;> first | rfl | simp [isUnit, h2]
              | true =>
                refine iteF ?_
                walk_at "rd"
                obtain ⟨r, rfl⟩ : ∃ r, rd = .int r := by
                  cases rd <;> first | exact ⟨_, rfl⟩ | exact absurd h2 (by simp [whole])
                cases a2
                refine i_ixT hs at0 ?_
                walk_at "rd"
                refine i_ixT hs at1 ?_
                walk_at "rd"
                refine ⟨v1, g, 0, r, rfl, a1, ?_⟩
                walk_at "rd"
                cases h3 : whole g 0 r with
                | false =>
                  refine iteT ?_
                  walk_at "rd"
                  exact q0 false (by simp [isUnit, h3])
                | true =>
                  refine iteF ?_
                  walk_at "rd"
                  cases a3 with
                  | @tup b ys _ hs3 ha3 =>
                  have hl3 := dps_len ha3
                  refine i_ixT hs at2 ?_
                  walk_at "rd"
                  refine i_lenT hs3 ?_
                  walk_at "rd"
                  refine i_ifD (fun h4 => ?_) (fun h4 => ?_)
                  · walk_at "rd"
                    refine i_ifD (fun h5 => ?_) (fun h5 => ?_)
                    · walk_at "rd"
                      refine i_ixT hs at2 ?_
                      walk_at "rd"
                      obtain ⟨x, hx⟩ : ∃ x, is.getLast? = some x := by
                        cases hx : is.getLast? with
                        | none => rw [List.getLast?_eq_none_iff] at hx; subst hx; simp at hl3; rw [hl3] at h4; simp at h4
                        | some x => exact ⟨x, rfl⟩
                      have hxi : is[is.length - 1]? = some x := by rw [← List.getLast?_eq_getElem?]; exact hx
                      obtain ⟨v4, hv4, a4⟩ := dps_get' ha3 hxi
                      have hv4' : ys.getLast? = some v4 := by rw [List.getLast?_eq_getElem?, hl3]; exact hv4
                      refine i_ixT hs3 (at_last hv4') ?_
                      walk_at "rd"
                      refine ⟨by walk_at "sz", fun t1 g1 => ?_⟩
                      have s1 := same_new (o := .tup [.str "end"]) g1
                      obtain ⟨m, hm, okx⟩ : ∃ m, m ≤ 64 ∧ OkD m x := by
                        obtain ⟨m, hm, h⟩ := okm (.tuple is) (by simp)
                        cases h with
                        | @tup m' _ _ h => exact ⟨m', by omega, h x (List.mem_of_getLast? hx)⟩
                      refine i_eqD (dp_same s1 _ _ a4) (.tup (.of upd_same) (.cons (.str _) .nil)) (okx.shaped hm) (by decide +kernel) ?_
                      have e : PyData.eqv x (.tuple [.str "end"]) = isUnit (.tuple [g, .int r, .tuple is]) := by
                        rw [hl3] at h4 h5
                        simp [isUnit, h2, h3, h4, h5, hx, endT]
                      rw [e]
                      exact q _ s1
                    · exact q0 false (by rw [hl3] at h5; simp [isUnit, h5])
                  · walk_at "rd"
                    exact q0 false (by rw [hl3] at h4; simp [isUnit, h4])
            all_goals
              refine iteT ?_
              walk_at "rd"
              exact q0 false (by cases rd <;> rfl)
    all_goals
      refine iteT ?_
      walk_at "rd"
      exact q0 false rfl
end
end K40
set_option Elab.async false
set_option linter.all false
set_option maxRecDepth 100000
set_option maxHeartbeats 4000000

namespace K40
open PySem PySem.Spec PyProof.Rows L2 Z
section
variable {P : Program} {w : World} {K : PySem.W.Frag} {mg : Str → Option Value} {base : Heap} {aSIGNS aFORMS : Addr}
theorem lookup_mem {α β : Type} [BEq α] [LawfulBEq α] {x : α} {f : β} : ∀ {l : List (α × β)}, l.lookup x = some f → (x, f) ∈ l
  | [], h => by simp at h
  | (y, g) :: l, h => by
    rw [List.lookup_cons] at h
    by_cases e : x = y
    · subst e; simp at h; subst h; simp
    · have e' : (x == y) = false := beq_eq_false_iff_ne.mpr e
      rw [e'] at h
      exact List.mem_cons_of_mem _ (lookup_mem h)
theorem forms_letters : ∀ p ∈ forms, ∀ c ∈ p.2.cps.toList, c ∈ letters := by decide +kernel
theorem forms_small : ∀ p ∈ forms, p.2.length ≤ 5 ∧ p.1 ≠ "stop" := by decide +kernel
theorem stop_none : forms.lookup ("stop" : Str) = none := by decide +kernel
/-- the word of an instruction is one of the forms', or «stop» -/
def Word (d : PyData) : Prop := ∀ x rest, d = .tuple (.str x :: rest) → x = "stop" ∨ ∃ f, forms.lookup x = some f
theorem atI_succ {α : Type} {a v : α} {r : List α} {k : Nat} (h : r[k]? = some v) : atI (a :: r) ((0 : Int) + (k : Nat) + 1) = some v := by
  have e : (0 : Int) + (k : Nat) + 1 = ((k + 1 : Nat) : Int) := by omega
  rw [e]
  exact atI_nat (by simpa using h)
theorem atI_zadd {α : Type} {v : α} {r : List α} {k : Nat} (h : r[k]? = some v) : atI r ((0 : Int) + (k : Nat)) = some v := by
  have e : (0 : Int) + (k : Nat) = ((k : Nat) : Int) := by omega
  rw [e]
  exact atI_nat h
/-! ### is_instruction -/
def sp_is_instruction (K : PySem.W.Frag) : Sp := fun vs H Q _ => ∃ (v : V) (d : PyData) (n : Nat) (at_ regs : Int) (pu pi pc : Addr) (g : V) (ins us : List V),
  vs = [v, .int at_, .ref pu, .ref pc] ∧ Dp K H v d ∧ OkD n d ∧ Word d ∧ SqT K H pu [g, .int regs, .ref pi] ∧ SqT K H pi ins ∧ SqT K H pc us ∧ ∀ H', Same H H' → Q (.bl (isInstr d at_ regs ins.length us.length)) H'
theorem cal_is_instruction (T : Txt K w mg aSIGNS aFORMS) : C8.Cal P w K mg base 4 "is_instruction" (sp_is_instruction K) [] := by
  refine cal_mk T.d_is_instruction (fun _ _ _ _ _ _ us hl => match us, hl with | [_, _, _, _], _ => rfl) sc_is_instruction (fun vs H Q E h => ?_) (fun f cdv A outer s H vs Q E hr h => ?_)
  · obtain ⟨v, d, n, at_, regs, pu, pi, pc, g, ins, us, rfl, _⟩ := h; rfl
  · obtain ⟨v, d, n, at_, regs, pu, pi, pc, g, ins, us, rfl, hd, ok, hw, hu, hi, hc, q⟩ := h
    obtain ⟨es, en, KD, has, hasnt⟩ := T.k_FORMS
    refine ⟨_, (pss_cons (ps_if (PW.pt (pw_or (pt_not (pt_val (pe_callB (isiK K) (by rfl) T.z_isinstance (by decide +kernel) (pa_cons (pv 0) (pa_cons (pe_ty (by rfl) T.z_tuple rfl) pa_nil))))) (pw_or (pt_not (truthK K (pv 0) (by intro _; rfl))) (pw_or (pt_not (pt_val (pe_callB (isiK K) (by rfl) T.z_isinstance (by decide +kernel) (pa_cons (pe_ix (ixK K w hr) (pv 0) pe_int (fun _ _ => rfl)) (pa_cons (pe_ty (by rfl) T.z_str rfl) pa_nil))))) (pw_or1 (pt_cmpR (notInK K w hr) (pe_ix (ixK K w hr) (pv 0) pe_int (fun _ _ => rfl)) (C8.pe_gc (by rfl) T.g_FORMS) (by rfl))))))) (pss_one (ps_ret pe_bl)) pss_nil)
  (pss_cons (ps_set (i := 4) sc_is_instruction.nd rfl (Or.inr rfl) (pe_ix (ixK K w hr) (C8.pe_gc (by rfl) T.g_FORMS) (pe_ix (ixK K w hr) (pv 0) pe_int (fun _ _ => rfl)) (fun _ _ => rfl)))
  (pss_cons (ps_if (pt_cmpR (neK K hr) (pe_callB (lenK K) (by rfl) T.z_len (by decide +kernel) (pa_cons (pv 0) pa_nil)) (pe_op (addK K) (pe_callB (lenK K) (by rfl) T.z_len (by decide +kernel) (pa_cons (pv 4) pa_nil)) pe_int) (nomark _)) (pss_one (ps_ret pe_bl)) pss_nil)
  (pss_one (ps_ret (pe_callB (allK K (by rfl)) (by rfl) T.z_all (by decide +kernel) (pa_cons (pe_lc (own := [("k", 5)]) (by rfl) sc_is_instruction.nd (pi_range1 (by rfl) T.z_range (pa_cons (pe_callB (lenK K) (by rfl) T.z_len (by decide +kernel) (pa_cons (pv 4) pa_nil)) pa_nil)) (blkOk_by (own := [("k", 5)]) (N := n_is_instruction) (sc := C8.fnScope s_is_instruction) (by decide +kernel)) (fun _ _ _ _ _ => (pg_name (i := 5) sc_is_instruction.nd rfl (Or.inl rfl))) (fun _ _ _ _ _ => pts_nil) (fun _ _ _ _ _ => (C8.pe_c (cal_is_part T) hr (by decide) (by rfl) (pa_cons (pe_ix (ixK K w hr) (pv 4) (pv 5) (fun _ _ => rfl)) (pa_cons (pe_ix (ixK K w hr) (pv 0) (pe_op (addK K) (pv 5) pe_int) (fun _ _ => rfl)) (pa_cons (pv 1) (pa_cons (pv 2) (pa_cons (pe_callB (lenK K) (by rfl) T.z_len (by decide +kernel) (pa_cons (pv 3) pa_nil)) pa_nil)))))))) pa_nil))))))), ?_⟩
    have q0 : ∀ b : Bool, isInstr d at_ regs ins.length us.length = b → Q (.bl b) H := fun b e => by rw [← e]; exact q H (Same.refl H)
    walk_at "rd"
    refine i_isi hd (isA_tuple d).1 ?_
    rw [(isA_tuple d).2]
    walk_at "rd"
    cases d
    case tuple ds =>
      cases hd with
      | @tup a xs _ hs ha =>
      have hlen := dps_len ha
      refine iteF ?_
      walk_at "rd"
      refine i_truT hs ?_
      walk_at "rd"
      cases ha with
      | nil =>
        refine iteT ?_
        walk_at "rd"
        exact q0 false rfl
      | @cons v0 vr d0 dr h0 hr' =>
      refine iteF ?_
      walk_at "rd"
      refine i_ixT hs at0 ?_
      walk_at "rd"
      refine i_isi h0 (isA_str d0).1 ?_
      rw [(isA_str d0).2]
      walk_at "rd"
      cases d0
      case str x =>
        cases h0
        refine iteF ?_
        walk_at "rd"
        refine i_ixT hs at0 ?_
        walk_at "rd"
        rcases hw x dr rfl with rfl | ⟨fm, hf⟩
        · refine i_notInK KD (hasnt _ (by simp)) ?_
          walk_at "rd"
          refine iteT ?_
          walk_at "rd"
          exact q0 false (by simp [isInstr, stop_none])
        · have hm := lookup_mem hf
          obtain ⟨u, hu1, hu2⟩ := has _ hm
          have hf5 : fm.length ≤ 5 := (forms_small _ hm).1
          have hlet := forms_letters _ hm
          refine i_notInK KD hu1 ?_
          walk_at "rd"
          refine iteF ?_
          walk_at "rd"
          refine i_ixT hs at0 ?_
          walk_at "rd"
          refine i_ixK (r := .str fm) ⟨es, en, u, KD.at_, KD.lit, hu1, hu2⟩ ?_
          walk_at "rd"
          refine i_lenT hs ?_
          walk_at "rd"
          refine i_lenS (Nat.le_trans hf5 (by decide)) ?_
          walk_at "rd"
          refine i_ifN (fun h1 => ?_) (fun h1 => ?_)
          · walk_at "rd"
            refine q0 false ?_
            have : ¬ dr.length = fm.length := fun e => h1 (by simp only [List.length_cons] at hlen ⊢; omega)
            simp [isInstr, hf, this]
          · walk_at "rd"
            have hdl : dr.length = fm.length := by simp only [List.length_cons] at hlen h1; omega
            refine i_lenS (Nat.le_trans hf5 (by decide)) ?_
            walk_at "rd"
            refine i_exRng (by omega) (by omega) ?_
            intro D hD
            have fl : fm.cps.toList.length = fm.length := by simp [Str.length]
            refine lcR (fun i => .bl (isPart (fm.cps.toList.getD i 0) (dr.getD i .none) at_ regs ins.length us.length)) (by rw [sizeLine_eq]; omega) hD (fun i H2 Qe hi2 s2 k => ?_) (fun H2 s2 hL => ?_)
            · walk_at "rd"
              refine ⟨rfl, ?_⟩
              walk_at "rd"
              have hi3 : i < fm.cps.toList.length := by rw [fl]; omega
              refine i_ixS (c := fm.cps.toList[i]) (Nat.le_trans hf5 (by decide)) (atI_zadd (List.getElem?_eq_getElem hi3)) ?_
              walk_at "rd"
              obtain ⟨v2, hv2, hd2⟩ := dps_get' hr' (List.getElem?_eq_getElem (show i < dr.length by rw [hdl]; omega))
              refine i_ixT (s2.sqT hs) (atI_succ hv2) ?_
              walk_at "rd"
              refine i_lenT (s2.sqT hc) ?_
              walk_at "rd"
              have okr : ∃ m, OkD m dr[i] := by
                cases ok with
                | @tup m _ _ h => exact ⟨m, h _ (by simp)⟩
              obtain ⟨m, okm⟩ := okr
              refine ⟨fm.cps.toList[i], v2, dr[i], m, at_, regs, pu, pi, g, ins, us.length, rfl, hlet _ (List.getElem_mem hi3), dp_same s2 _ _ hd2, okm, s2.sqT hu, s2.sqT hi, fun H4 s4 => ?_⟩
              have k0 := k H4 s4
              rw [List.getD_eq_getElem?_getD, List.getElem?_eq_getElem hi3, List.getD_eq_getElem?_getD, List.getElem?_eq_getElem (show i < dr.length by rw [hdl]; omega)] at k0
              exact k0
            · walk_at "rd"
              refine i_all (bs := (List.range fm.cps.toList.length).map fun k => isPart (fm.cps.toList.getD k 0) (dr.getD k .none) at_ regs ins.length us.length) (.of ?_) ?_
              · rw [hL, List.map_map, fl, Int.toNat_natCast]; rfl
              · rw [all_map]
                have e : isInstr (.tuple (.str x :: dr)) at_ regs ins.length us.length = (List.range fm.cps.toList.length).all (fun k => isPart (fm.cps.toList.getD k 0) (dr.getD k .none) at_ regs ins.length us.length) := by
                  simp [isInstr, hf, hdl, parts]
                rw [← e]
                exact q H2 s2
      all_goals
        refine iteT ?_
        walk_at "rd"
        exact q0 false rfl
    all_goals
      refine iteT ?_
      walk_at "rd"
      exact q0 false rfl
end
end K40
set_option Elab.async false
set_option linter.all false
set_option maxRecDepth 100000
set_option maxHeartbeats 4000000

namespace K40
open PySem PySem.Spec PyProof.Rows L2 Z
section
variable {P : Program} {w : World} {K : PySem.W.Frag} {mg : Str → Option Value} {base : Heap} {aSIGNS aFORMS : Addr}
theorem parts_get {f : List Nat} {rest : List PyData} {a r : Int} {n m : Nat} (h : parts f rest a r n m = true) (k : Nat) (hk : k < f.length) : isPart (f.getD k 0) (rest.getD k .none) a r n m = true := by
  unfold parts at h
  rw [List.all_eq_true] at h
  exact h k (List.mem_range.mpr hk)
theorem isInstr_of {x : Str} {f : Str} {rest : List PyData} {a r : Int} {n m : Nat} (hf : forms.lookup x = some f) (h : isInstr (.tuple (.str x :: rest)) a r n m = true) : rest.length = f.cps.toList.length ∧ parts f.cps.toList rest a r n m = true := by
  simp only [isInstr, hf, Bool.and_eq_true, decide_eq_true_eq] at h
  exact ⟨by rw [h.1]; simp [Str.length], h.2⟩
theorem whole_int {d : PyData} {lo hi : Int} (h : whole d lo hi = true) : ∃ i, d = .int i ∧ lo ≤ i ∧ i ≤ hi := by
  cases d
  case int i => simp only [whole, Bool.and_eq_true, decide_eq_true_eq] at h; exact ⟨i, rfl, h.1, h.2⟩
  all_goals exact absurd h (by simp [whole])
theorem regs_tup {d : PyData} {c l m : Int} (h : areRegs d c l m = true) : ∃ xs, d = .tuple xs := by
  cases d
  case tuple xs => exact ⟨xs, rfl⟩
  all_goals exact absurd h (by simp [areRegs])
theorem f_proc : forms.lookup ("proc" : Str) = some "rucn" ∧ ("rucn" : Str).cps.toList = [114, 117, 99, 110] := by decide +kernel
theorem f_thread : forms.lookup ("thread" : Str) = some "un" ∧ ("un" : Str).cps.toList = [117, 110] := by decide +kernel
theorem f_need : forms.lookup ("need" : Str) = some "run" ∧ ("run" : Str).cps.toList = [114, 117, 110] := by decide +kernel
theorem words_apart : ¬ ("thread" : Str) = "proc" ∧ ¬ ("need" : Str) = "proc" ∧ ¬ ("need" : Str) = "thread" := by decide +kernel
theorem unit_given {u : PyData} (h : isUnit u = true) : ∃ g r is, u = .tuple [.int g, .int r, .tuple is] ∧ given u = g := by
  cases u
  case tuple ds =>
    rcases ds with _ | ⟨d1, _ | ⟨d2, _ | ⟨d3, _ | ⟨d4, l⟩⟩⟩⟩
    · exact absurd h (by simp [isUnit])
    · exact absurd h (by rw [isUnit_len (by simp)]; simp)
    · exact absurd h (by rw [isUnit_len (by simp)]; simp)
    · cases d2
      case int r =>
        cases d3
        case tuple is =>
          simp only [isUnit, Bool.and_eq_true] at h
          obtain ⟨g, rfl, _⟩ := whole_int h.1.1.1.2
          exact ⟨g, r, is, rfl, rfl⟩
        all_goals exact absurd h (by simp [isUnit])
      all_goals exact absurd h (by simp [isUnit])
    · exact absurd h (by rw [isUnit_len (by simp)]; simp)
  all_goals exact absurd h (by simp [isUnit])
/-- code[u][0] -/
theorem given_at {H : Hp} {uvs : List V} {us : List PyData} (ha : DpAll K H uvs us) (hu : us.all isUnit = true) {u : Int} (h0 : 0 ≤ u) (h1 : u ≤ (us.length : Int) - 1) :
    ∃ p vr, atI uvs u = some (.ref p) ∧ SqT K H p (V.int ((us.map given).getD u.toNat 0) :: vr) := by
  have hlt : u.toNat < us.length := by omega
  obtain ⟨v, hv, hd⟩ := dps_get' ha (List.getElem?_eq_getElem hlt)
  have hm := List.all_eq_true.mp hu _ (List.getElem_mem hlt)
  obtain ⟨g, r, is, e, eg⟩ := unit_given hm
  rw [e] at hd
  cases hd with
  | @tup p xs _ hs hx =>
  cases hx with
  | @cons v1 vr _ _ a1 _ =>
  cases a1
  refine ⟨p, vr, ?_, ?_⟩
  · have e1 : u = ((u.toNat : Nat) : Int) := by omega
    rw [e1]; exact atI_nat hv
  · have e2 : (us.map given).getD u.toNat 0 = g := by
      rw [List.getD_eq_getElem?_getD, List.getElem?_map, List.getElem?_eq_getElem hlt]
      show given us[u.toNat] = g
      exact eg
    rw [e2]; exact hs
/-! ### fits_unit -/
def sp_fits_unit (K : PySem.W.Frag) : Sp := fun vs H Q _ => ∃ (v : V) (x : Str) (rest : List PyData) (at_ regs : Int) (nins : Nat) (pc : Addr) (uvs : List V) (us : List PyData),
  vs = [v, .ref pc] ∧ Dp K H v (.tuple (.str x :: rest)) ∧ isInstr (.tuple (.str x :: rest)) at_ regs nins us.length = true ∧ SqT K H pc uvs ∧ DpAll K H uvs us ∧ us.all isUnit = true ∧ Q (.bl (fitsT x rest (us.map given))) H
theorem cal_fits_unit (T : Txt K w mg aSIGNS aFORMS) : C8.Cal P w K mg base 1 "fits_unit" (sp_fits_unit K) [] := by
  refine cal_mk T.d_fits_unit (fun _ _ _ _ _ _ us hl => match us, hl with | [_, _], _ => rfl) sc_fits_unit (fun vs H Q E h => ?_) (fun f cdv A outer s H vs Q E hr h => ?_)
  · obtain ⟨v, x, rest, at_, regs, nins, pc, uvs, us, rfl, _⟩ := h; rfl
  · obtain ⟨v, x, rest, at_, regs, nins, pc, uvs, us, rfl, hd, hi, hc, hu, hus, q⟩ := h
    refine ⟨_, (pss_cons (ps_set (i := 2) sc_fits_unit.nd rfl (Or.inl rfl) (pe_ix (ixK K w hr) (pv 0) pe_int (fun _ _ => rfl)))
  (pss_cons (ps_if (pt_cmpR (eqK K hr) (pv 2) pe_str (nomark _)) (pss_one (ps_ret (pe_cmpR (eqK K hr) (pe_op (addK K) (pe_ix (ixK K w hr) (pv 0) pe_int (fun _ _ => rfl)) (pe_callB (lenK K) (by rfl) T.z_len (by decide +kernel) (pa_cons (pe_ix (ixK K w hr) (pv 0) pe_int (fun _ _ => rfl)) pa_nil))) (pe_ix (ixK K w hr) (pe_ix (ixK K w hr) (pv 1) (pe_ix (ixK K w hr) (pv 0) pe_int (fun _ _ => rfl)) (fun _ _ => rfl)) pe_int (fun _ _ => rfl)) (nomark _)))) pss_nil)
  (pss_cons (ps_if (pt_cmpR (eqK K hr) (pv 2) pe_str (nomark _)) (pss_one (ps_ret (pe_cmpR (eqK K hr) (pe_callB (lenK K) (by rfl) T.z_len (by decide +kernel) (pa_cons (pe_ix (ixK K w hr) (pv 0) pe_int (fun _ _ => rfl)) pa_nil)) (pe_ix (ixK K w hr) (pe_ix (ixK K w hr) (pv 1) (pe_ix (ixK K w hr) (pv 0) pe_int (fun _ _ => rfl)) (fun _ _ => rfl)) pe_int (fun _ _ => rfl)) (nomark _)))) pss_nil)
  (pss_cons (ps_if (pt_cmpR (eqK K hr) (pv 2) pe_str (nomark _)) (pss_one (ps_ret (pe_cmpR (eqK K hr) (pe_callB (lenK K) (by rfl) T.z_len (by decide +kernel) (pa_cons (pe_ix (ixK K w hr) (pv 0) pe_int (fun _ _ => rfl)) pa_nil)) (pe_ix (ixK K w hr) (pe_ix (ixK K w hr) (pv 1) (pe_ix (ixK K w hr) (pv 0) pe_int (fun _ _ => rfl)) (fun _ _ => rfl)) pe_int (fun _ _ => rfl)) (nomark _)))) pss_nil)
  (pss_one (ps_ret pe_bl)))))), ?_⟩
    cases hd with
    | @tup a xs _ hs ha =>
    cases ha with
    | @cons v0 vr _ _ a0 ha =>
    cases a0
    walk_at "rd"
    refine i_ixT hs at0 ?_
    walk_at "rd"
    refine i_ifD (fun h1 => ?_) (fun h1 => ?_)
    · subst h1
      obtain ⟨hl, hp⟩ := isInstr_of f_proc.1 hi
      rw [f_proc.2] at hl hp
      obtain ⟨d1, d2, d3, d4, rfl⟩ : ∃ a b c d, rest = [a, b, c, d] := by
        rcases rest with _ | ⟨d1, _ | ⟨d2, _ | ⟨d3, _ | ⟨d4, _ | ⟨d5, l⟩⟩⟩⟩⟩ <;> first | exact ⟨_, _, _, _, rfl⟩ | (simp at hl)
      obtain ⟨u, e2, u0, u1⟩ := whole_int (d := d2) (lo := 0) (hi := (us.length : Int) - 1) (by simpa [isPart] using parts_get hp 1 (by decide))
      obtain ⟨c, e3, _, _⟩ := whole_int (d := d3) (lo := 0) (hi := 6) (by simpa [isPart] using parts_get hp 2 (by decide))
      obtain ⟨l, e4⟩ := regs_tup (d := d4) (c := regs) (l := 0) (m := regs) (by simpa [isPart] using parts_get hp 3 (by decide))
      subst e2 e3 e4
      cases ha with
      | @cons v1 _ _ _ a1 ha => cases ha with
        | @cons v2 _ _ _ a2 ha => cases ha with
          | @cons v3 _ _ _ a3 ha => cases ha with
            | @cons v4 _ _ _ a4 ha =>
            cases ha
            cases a2
            cases a3
            cases a4 with
            | @tup p4 x4 _ hs4 ha4 =>
            obtain ⟨p, vq, hp1, hp2⟩ := given_at hu hus u0 u1
            walk_at "rd"
            refine i_ixT hs at3 ?_
            walk_at "rd"
            refine i_ixT hs at4 ?_
            walk_at "rd"
            refine i_lenT hs4 ?_
            walk_at "rd"
            refine i_ixT hs at2 ?_
            walk_at "rd"
            refine i_ixT hc hp1 ?_
            walk_at "rd"
            refine i_ixT hp2 at0 ?_
            walk_at "rd"
            rw [dps_len ha4]
            simpa [fitsT] using q
    walk_at "rd"
    refine i_ifD (fun h2 => ?_) (fun h2 => ?_)
    · subst h2
      obtain ⟨hl, hp⟩ := isInstr_of f_thread.1 hi
      rw [f_thread.2] at hl hp
      obtain ⟨d1, d2, rfl⟩ : ∃ a b, rest = [a, b] := by
        rcases rest with _ | ⟨d1, _ | ⟨d2, _ | ⟨d3, l⟩⟩⟩ <;> first | exact ⟨_, _, rfl⟩ | (simp at hl)
      obtain ⟨u, e2, u0, u1⟩ := whole_int (d := d1) (lo := 0) (hi := (us.length : Int) - 1) (by simpa [isPart] using parts_get hp 0 (by decide))
      obtain ⟨l, e4⟩ := regs_tup (d := d2) (c := regs) (l := 0) (m := regs) (by simpa [isPart] using parts_get hp 1 (by decide))
      subst e2 e4
      cases ha with
      | @cons v1 _ _ _ a1 ha => cases ha with
        | @cons v2 _ _ _ a2 ha =>
        cases ha
        cases a1
        cases a2 with
        | @tup p4 x4 _ hs4 ha4 =>
        obtain ⟨p, vq, hp1, hp2⟩ := given_at hu hus u0 u1
        walk_at "rd"
        refine i_ixT hs at2 ?_
        walk_at "rd"
        refine i_lenT hs4 ?_
        walk_at "rd"
        refine i_ixT hs at1 ?_
        walk_at "rd"
        refine i_ixT hc hp1 ?_
        walk_at "rd"
        refine i_ixT hp2 at0 ?_
        walk_at "rd"
        rw [dps_len ha4]
        simpa [fitsT, words_apart.1] using q
    walk_at "rd"
    refine i_ifD (fun h3 => ?_) (fun h3 => ?_)
    · subst h3
      obtain ⟨hl, hp⟩ := isInstr_of f_need.1 hi
      rw [f_need.2] at hl hp
      obtain ⟨d1, d2, d3, rfl⟩ : ∃ a b c, rest = [a, b, c] := by
        rcases rest with _ | ⟨d1, _ | ⟨d2, _ | ⟨d3, _ | ⟨d4, l⟩⟩⟩⟩ <;> first | exact ⟨_, _, _, rfl⟩ | (simp at hl)
      obtain ⟨u, e2, u0, u1⟩ := whole_int (d := d2) (lo := 0) (hi := (us.length : Int) - 1) (by simpa [isPart] using parts_get hp 1 (by decide))
      obtain ⟨l, e4⟩ := regs_tup (d := d3) (c := regs) (l := 0) (m := regs) (by simpa [isPart] using parts_get hp 2 (by decide))
      subst e2 e4
      cases ha with
      | @cons v1 _ _ _ a1 ha => cases ha with
        | @cons v2 _ _ _ a2 ha => cases ha with
          | @cons v3 _ _ _ a3 ha =>
          cases ha
          cases a2
          cases a3 with
          | @tup p4 x4 _ hs4 ha4 =>
          obtain ⟨p, vq, hp1, hp2⟩ := given_at hu hus u0 u1
          walk_at "rd"
          refine i_ixT hs at3 ?_
          walk_at "rd"
          refine i_lenT hs4 ?_
          walk_at "rd"
          refine i_ixT hs at2 ?_
          walk_at "rd"
          refine i_ixT hc hp1 ?_
          walk_at "rd"
          refine i_ixT hp2 at0 ?_
          walk_at "rd"
          rw [dps_len ha4]
          simpa [fitsT, words_apart.2.1, words_apart.2.2] using q
    walk_at "rd"
    simpa [fitsT, h1, h2, h3] using q
/-! ### is_code -/
theorem insAll_app {us : List PyData} {r : Int} {n : Nat} : ∀ (l m : List PyData) (k : Nat), insAll us r n (l ++ m) k = (insAll us r n l k && insAll us r n m (k + l.length))
  | [], m, k => by simp [insAll]
  | d :: l, m, k => by
    rw [List.cons_append, insAll, insAll_app l m (k + 1), insAll, List.length_cons, show k + 1 + l.length = k + (l.length + 1) by omega]
    simp only [Bool.and_assoc]
theorem take_get {α : Type} {l : List α} {i : Nat} {x : α} (h : l[i]? = some x) : l.take (i + 1) = l.take i ++ [x] := by
  rw [List.take_add_one, h]; rfl
def Words (us : List PyData) : Prop := ∀ u ∈ us, ∀ g r is, u = .tuple [g, r, .tuple is] → ∀ d ∈ is, Word d
def sp_is_code (K : PySem.W.Frag) : Sp := fun vs H Q _ => ∃ v d n, vs = [v] ∧ Dp K H v d ∧ OkD n d ∧ n ≤ 64 ∧ (∀ us, d = .tuple us → Words us) ∧ ∀ H', Same H H' → Q (.bl (isCode d)) H'
theorem cal_is_code (T : Txt K w mg aSIGNS aFORMS) : C8.Cal P w K mg base 5 "is_code" (sp_is_code K) [] := by
  refine cal_mk T.d_is_code (fun _ _ _ _ _ _ us hl => match us, hl with | [_], _ => rfl) sc_is_code (fun vs H Q E h => ?_) (fun f cdv A outer s H vs Q E hr h => ?_)
  · obtain ⟨v, d, n, rfl, _⟩ := h; rfl
  · obtain ⟨v, d, n, rfl, hd, ok, hn, hw, q⟩ := h
    refine ⟨_, (pss_cons (ps_if (PW.pt (pw_or (pt_not (pt_val (pe_callB (isiK K) (by rfl) T.z_isinstance (by decide +kernel) (pa_cons (pv 0) (pa_cons (pe_ty (by rfl) T.z_tuple rfl) pa_nil))))) (pw_or1 (pt_not (pt_chain op_le op_le pe_int (pe_callB (lenK K) (by rfl) T.z_len (by decide +kernel) (pa_cons (pv 0) pa_nil)) (C8.pe_gc (by rfl) T.g_MOST_UNITS)))))) (pss_one (ps_ret pe_bl)) pss_nil)
  (pss_cons (ps_if (pt_not (pt_val (pe_callB (allK K (by rfl)) (by rfl) T.z_all (by decide +kernel) (pa_cons (pe_lc (own := [("unit", 1)]) (by rfl) sc_is_code.nd (tupI K (pv 0)) (blkOk_by (own := [("unit", 1)]) (N := n_is_code) (sc := C8.fnScope s_is_code) (by decide +kernel)) (fun _ _ _ _ _ => (pg_name (i := 1) sc_is_code.nd rfl (Or.inl rfl))) (fun _ _ _ _ _ => pts_nil) (fun _ _ _ _ _ => (C8.pe_c (cal_is_unit T) hr (by decide) (by rfl) (pa_cons (pv 1) pa_nil)))) pa_nil)))) (pss_one (ps_ret pe_bl)) pss_nil)
  (pss_cons (ps_for PassesOwn.never rfl (tupI K (pv 0)) (pg_name (i := 1) sc_is_code.nd rfl (Or.inl rfl)) (pss_one (ps_for PassesOwn.never rfl (enumTK K (by rfl) T.z_enumerate (pa_cons (pe_ix (ixK K w hr) (pv 1) pe_int (fun _ _ => rfl)) pa_nil)) (tupG K (by rfl) (pgs_cons (pg_name (i := 2) sc_is_code.nd rfl (Or.inl rfl)) (pgs_cons (pg_name (i := 3) sc_is_code.nd rfl (Or.inl rfl)) pgs_nil))) (pss_one (ps_if (PW.pt (pw_or (pt_not (pt_val (C8.pe_c (cal_is_instruction T) hr (by decide) (by rfl) (pa_cons (pv 3) (pa_cons (pv 2) (pa_cons (pv 1) (pa_cons (pv 0) pa_nil))))))) (pw_or1 (pt_not (pt_val (C8.pe_c (cal_fits_unit T) hr (by decide) (by rfl) (pa_cons (pv 3) (pa_cons (pv 0) pa_nil)))))))) (pss_one (ps_ret pe_bl)) pss_nil)))))
  (pss_one (ps_ret pe_bl))))), ?_⟩
    have q0 : ∀ b : Bool, isCode d = b → Q (.bl b) H := fun b e => by rw [← e]; exact q H (Same.refl H)
    walk_at "rd"
    refine i_isi hd (isA_tuple d).1 ?_
    rw [(isA_tuple d).2]
    walk_at "rd"
    cases d
    case tuple us =>
      cases hd with
      | @tup a xs _ hs ha =>
      have hlen := dps_len ha
      have hl : us.length ≤ 1000 := by cases ok with | tup h _ => exact h
      have okm : ∀ x ∈ us, ∃ m, m ≤ 64 ∧ OkD m x := fun x hx => by
        cases ok with
        | @tup m _ _ h => exact ⟨m, by omega, h x hx⟩
      refine iteF ?_
      walk_at "rd"
      refine i_lenT hs ?_
      walk_at "rd"
      rw [hlen]
      refine i_ifD (fun h1 => ?_) (fun h1 => ?_)
      · walk_at "rd"
        refine i_ifN (fun h2 => ?_) (fun h2 => ?_)
        · walk_at "rd"
          exact q0 false (by simp [isCode, h2])
        walk_at "rd"
        refine i_exTup hs ?_
        intro D hD
        refine lcT (fun i => .bl (isUnit (us.getD i .none))) hs (by rw [sizeLine_eq, hlen]; omega) hD (fun i x H2 Qe hi s2 k => ?_) (fun H2 s2 hL => ?_)
        · walk_at "rd"
          refine ⟨rfl, ?_⟩
          walk_at "rd"
          obtain ⟨d', h3, h4⟩ := dps_get ha hi
          obtain ⟨m, hm, okd⟩ := okm d' (List.mem_of_getElem? h3)
          refine ⟨x, d', m, rfl, dp_same s2 _ _ h4, okd, hm, fun H4 s4 => ?_⟩
          have k0 := k H4 s4
          rw [List.getD_eq_getElem?_getD, h3] at k0
          exact k0
        walk_at "rd"
        refine i_all (bs := us.map isUnit) (.of (by rw [hL, map_all isUnit ha])) ?_
        rw [all_map]
        walk_at "rd"
        cases hU : us.all isUnit with
        | false =>
          refine iteT ?_
          walk_at "rd"
          have e : isCode (.tuple us) = false := by simp [isCode, hU]
          rw [← e]
          exact q H2 s2
        | true =>
        refine iteF ?_
        walk_at "rd"
        refine i_exTup (s2.sqT hs) ?_
        have fin : ∀ (b : Bool) (H' : Hp), Same H H' → us.all (insOk us) = b → Q (.bl b) H' := fun b H' s' e => by
          have e2 : isCode (.tuple us) = b := by simp [isCode, hU, h1, h2, e]
          rw [← e2]
          exact q H' s'
        refine for_tup (K := K) (a := a) (xs := xs) (fun i σ H' => Same H H' ∧ (us.take i).all (insOk us) = true ∧ ∃ b c e, σ = [some (.ref a), b, c, e])
          ⟨s2, rfl, _, _, _, rfl⟩ (fun i σ H' _ h => h.1.sqT hs) ?_ ?_
        · rintro i x σ H3 hi ⟨s3, hall, b, c, e, rfl⟩
          obtain ⟨u, hu, hdu⟩ := dps_get ha hi
          have hmu := List.mem_of_getElem? hu
          obtain ⟨g, r, is, rfl, _⟩ := unit_given (List.all_eq_true.mp hU u hmu)
          cases hdu with
          | @tup pu xu _ hsu hau => cases hau with
            | @cons v1 _ _ _ a1 hau => cases hau with
              | @cons v2 _ _ _ a2 hau => cases hau with
                | @cons v3 _ _ _ a3 hau =>
                cases hau
                cases a1
                cases a2
                cases a3 with
                | @tup pi xi _ hsi hai =>
                have hli := dps_len hai
                have oki : ∀ d ∈ is, ∃ m, OkD m d := fun d hd => by
                  obtain ⟨m, hm, h⟩ := okm _ hmu
                  cases h with
                  | @tup m' _ _ h =>
                  have h' := h (.tuple is) (by simp)
                  cases h' with
                  | @tup m'' _ _ h => exact ⟨_, h d hd⟩
                walk_at "rd"
                refine i_ixT (s3.sqT hsu) at2 ?_
                walk_at "rd"
                refine ⟨pi, xi, rfl, s3.sqT hsi, ?_⟩
                refine for_enumT (K := K) (a := pi) (xs := xi) (fun j σ H' => Same H H' ∧ insAll us r is.length (is.take j) 0 = true ∧ ∃ c e, σ = [some (.ref a), some (.ref pu), c, e])
                  ⟨s3, rfl, _, _, rfl⟩ (fun j σ H' _ h => h.1.sqT hsi) ?_ ?_
                · rintro j y t σ H4 hj ⟨s4, hins, c, e, rfl⟩ ht
                  obtain ⟨dj, hdj, hdd⟩ := dps_get hai hj
                  have hmj := List.mem_of_getElem? hdj
                  obtain ⟨m, okj⟩ := oki dj hmj
                  have s5 : Same H (upd H4 t (.tup [.int (j : Nat), y])) := s4.trans (same_new ht)
                  generalize hH5 : upd H4 t (HO.tup [V.int (j : Nat), y]) = H5 at s5 ⊢
                  have ht5 : SqT K H5 t [.int (j : Nat), y] := .of (by rw [← hH5]; exact upd_same)
                  refine i_gtup ht5 rfl ?_
                  walk_at "rd"
                  refine ⟨y, dj, m, j, r, pu, pi, a, .int g, xi, xs, rfl, dp_same s5 _ _ hdd, okj, hw us rfl _ hmu _ _ _ rfl dj hmj, s5.sqT hsu, s5.sqT hsi, s5.sqT hs, fun H6 s6 => ?_⟩
                  have s06 := s5.trans s6
                  walk_at "rd"
                  rw [hli, hlen]
                  have bad : ∀ (H' : Hp), Same H H' → (isInstr dj j r is.length us.length && fits dj (us.map given)) = false → Q (.bl false) H' := fun H' s' e => by
                    refine fin false H' s' ?_
                    refine Bool.eq_false_iff.mpr fun z => ?_
                    have z1 := List.all_eq_true.mp z _ hmu
                    have z2 : insAll us r is.length is 0 = true := z1
                    have z3 : is = is.take j ++ (dj :: is.drop (j + 1)) := by
                      have := List.getElem?_eq_some_iff.mp hdj
                      obtain ⟨hjl, e1⟩ := this
                      rw [← e1, List.getElem_cons_drop, List.take_append_drop]
                    rw [z3, insAll_app, Bool.and_eq_true, insAll, Bool.and_eq_true] at z2
                    have hjl : (is.take j).length = j := by
                      have := (List.getElem?_eq_some_iff.mp hdj).1
                      rw [List.length_take]; omega
                    rw [hjl] at z2
                    have z4 := z2.2.1
                    rw [← z3] at z4
                    rw [Nat.zero_add] at z4
                    rw [z4] at e
                    cases e
                  cases hI : isInstr dj j r is.length us.length with
                  | false =>
                    refine iteT ?_
                    walk_at "rd"
                    exact bad H6 s06 (by rw [hI]; rfl)
                  | true =>
                  refine iteF ?_
                  walk_at "rd"
                  obtain ⟨x, rest, rfl⟩ : ∃ x rest, dj = .tuple (.str x :: rest) := by
                    cases dj
                    case tuple l =>
                      cases l with
                      | nil => exact absurd hI (by simp [isInstr])
                      | cons d0 l =>
                        cases d0
                        case str x => exact ⟨x, l, rfl⟩
                        all_goals exact absurd hI (by simp [isInstr])
                    all_goals exact absurd hI (by simp [isInstr])
                  refine ⟨y, x, rest, j, r, is.length, a, xs, us, rfl, dp_same s06 _ _ hdd, hI, s06.sqT hs, dps_same s06 _ _ ha, hU, ?_⟩
                  walk_at "rd"
                  cases hF : fitsT x rest (us.map given) with
                  | false =>
                    refine iteT ?_
                    walk_at "rd"
                    exact bad H6 s06 (by rw [hI, Bool.true_and]; exact hF)
                  | true =>
                  refine iteF ?_
                  walk_at "rd"
                  refine ⟨s06, ?_, _, _, rfl⟩
                  rw [take_get hdj, insAll_app, hins, Bool.true_and]
                  have hjl : (is.take j).length = j := by
                    have := (List.getElem?_eq_some_iff.mp hdj).1
                    rw [List.length_take]; omega
                  rw [hjl, Nat.zero_add]
                  simp only [insAll, hI, Bool.true_and, Bool.and_true]
                  exact hF
                · rintro σ H4 ⟨s4, hins, c, e, rfl⟩
                  refine ⟨s4, ?_, _, _, _, rfl⟩
                  rw [hli, List.take_length] at hins
                  rw [take_get hu, List.all_append, hall, Bool.true_and]
                  simpa [insOk] using hins
        · rintro σ H3 ⟨s3, hall, b, c, e, rfl⟩
          walk_at "rd"
          rw [hlen, List.take_length] at hall
          exact fin true H3 s3 hall
      · walk_at "rd"
        exact q0 false (by simp [isCode, h1])
    all_goals
      refine iteT ?_
      walk_at "rd"
      exact q0 false rfl
end
end K40
set_option Elab.async false
set_option linter.all false
set_option maxRecDepth 100000
set_option maxHeartbeats 4000000

namespace K40
open PySem PySem.Spec PyProof.Rows L2 Z
section
variable {P : Program} {w : World} {K : PySem.W.Frag} {mg : Str → Option Value} {base : Heap} {aSIGNS aFORMS : Addr}
/-! ### the stream of draws -/
theorem get_ints {ns : List Int} {j : Nat} {y : V} (h : (ns.map V.int)[j]? = some y) : ∃ z, ns[j]? = some z ∧ y = V.int z := by
  rw [List.getElem?_map] at h
  cases e : ns[j]? with
  | none => rw [e] at h; cases h
  | some z => rw [e] at h; exact ⟨z, rfl, (Option.some.inj h).symm⟩
theorem cal_law_stream (T : Txt K w mg aSIGNS aFORMS) : C8.Cal P w K mg base 1 "_law_stream" (sp_stream K) [] := by
  refine cal_mk T.d_law_stream (fun _ _ _ _ _ _ us hl => match us, hl with | [_], _ => rfl) sc_law_stream (fun vs H Q E h => ?_) (fun f cdv A outer s H vs Q E hr h => ?_)
  · obtain ⟨a, ns, rfl, _⟩ := h; rfl
  · obtain ⟨a, ns, rfl, hs, hl, q⟩ := h
    refine ⟨_, (pss_cons (ps_set (i := 1) sc_law_stream.nd rfl (Or.inl rfl) pe_int)
  (pss_cons (ps_for PassesOwn.never rfl (listI K (pv 0)) (pg_name (i := 2) sc_law_stream.nd rfl (Or.inl rfl)) (pss_one (ps_set (i := 1) sc_law_stream.nd rfl (Or.inl rfl) (pe_op op_mod (pe_callTy intU (by rfl) T.z_int (by decide +kernel) (pa_cons (pe_op (addK K) (pe_op (addK K) (pe_op (mulK K) (pv 1) pe_int) (pe_op op_mod (pe_callTy intU (by rfl) T.z_int (by decide +kernel) (pa_cons (pv 2) pa_nil)) pe_int)) pe_int) pa_nil)) pe_int))))
  (pss_one (ps_ret (pe_lst (pa_cons (pe_callTy (listOfK K) (by rfl) T.z_list (by decide +kernel) (pa_cons (pv 0) pa_nil)) (pa_cons pe_int (pa_cons pe_int (pa_cons (pv 1) pa_nil))))))))), ?_⟩
    walk_at "rd"
    refine i_exLst hs ?_
    refine for_list (K := K) (a := a) (xs := ns.map V.int) (fun i σ H' => H' = H ∧ ∃ d e, σ = [some (.ref a), some (.int d), e] ∧ 0 ≤ d ∧ d < 2147483647) ⟨rfl, _, _, rfl, by decide, by decide⟩ (fun i σ H' _ h => by rw [h.1]; exact hs) ?_ ?_
    · rintro i y σ H' hi ⟨rfl, d, e, rfl, h0, h1⟩
      obtain ⟨z, hz, rfl⟩ := get_ints hi
      walk_at "rd"
      refine i_mulI (.inl (by constructor <;> omega)) ?_
      walk_at "rd"
      refine i_rI (by decide) ?_
      walk_at "rd"
      refine i_rI (by decide) ?_
      walk_at "rd"
      exact ⟨rfl, _, _, rfl, Int.emod_nonneg _ (by decide), Int.emod_lt_of_pos _ (by decide)⟩
    · rintro σ H' ⟨rfl, d, e, rfl, h0, h1⟩
      walk_at "rd"
      refine i_listOfL hs (fun l hl0 => ?_)
      walk_at "rd"
      refine ⟨by walk_at "sz", fun st hst => ?_⟩
      have hne : l ≠ st := fun z => by rw [z] at hst; rw [upd_same] at hst; cases hst
      refine q st l _ ⟨ns, 0, 0, d, upd_same, by rw [upd_ne hne]; exact upd_same, hne, hl, by decide, by decide, h0, h1⟩ ((same_new hl0).trans (same_new hst)) ?_
      exact (same_new hl0).free hst
theorem cal_law_draw (T : Txt K w mg aSIGNS aFORMS) : C8.Cal P w K mg base 1 "_law_draw" sp_draw [] := by
  refine cal_mk T.d_law_draw (fun _ _ _ _ _ _ us hl => match us, hl with | [_, _], _ => rfl) sc_law_draw (fun vs H Q E h => ?_) (fun f cdv A outer s H vs Q E hr h => ?_)
  · obtain ⟨a, l, m, rfl, _⟩ := h; rfl
  · obtain ⟨st, l, m, rfl, h0, h1, ⟨ns, b, c, d, hst, hsl, hne, hns, hb, hc, hd, hd2⟩, q⟩ := h
    refine ⟨_, (C8.pss_cut (ps_if (PW.pt (pw_and (pt_cmpR (eqK K hr) (pe_ix (ixK K w hr) (pv 0) pe_int (fun _ _ => rfl)) pe_int (nomark _)) (pw_and1 (pt_cmpR op_lt (pe_ix (ixK K w hr) (pv 0) pe_int (fun _ _ => rfl)) (pe_callB (lenK K) (by rfl) T.z_len (by decide +kernel) (pa_cons (pe_ix (ixK K w hr) (pv 0) pe_int (fun _ _ => rfl)) pa_nil)) (nomark _))))) (pss_cons (ps_asg (pe_callB absU (by rfl) T.z_abs (by decide +kernel) (pa_cons (pe_callTy intU (by rfl) T.z_int (by decide +kernel) (pa_cons (pe_ix (ixK K w hr) (pe_ix (ixK K w hr) (pv 0) pe_int (fun _ _ => rfl)) (pe_ix (ixK K w hr) (pv 0) pe_int (fun _ _ => rfl)) (fun _ _ => rfl)) pa_nil)) pa_nil)) (pg_sub (pv 0) pe_int set_list))
  (pss_one (ps_asg (pe_op (addK K) (pe_ix (ixK K w hr) (pv 0) pe_int (fun _ _ => rfl)) pe_int) (pg_sub (pv 0) pe_int set_list)))) pss_nil)
  (pss_cons (ps_if (pt_cmpR (eqK K hr) (pe_ix (ixK K w hr) (pv 0) pe_int (fun _ _ => rfl)) pe_int (nomark _)) (pss_cons (ps_asg (pe_op op_mod (pe_callTy intU (by rfl) T.z_int (by decide +kernel) (pa_cons (pe_op (addK K) (pe_op (mulK K) (pe_ix (ixK K w hr) (pv 0) pe_int (fun _ _ => rfl)) pe_int) pe_int) pa_nil)) pe_int) (pg_sub (pv 0) pe_int set_list))
  (pss_one (ps_ret (pe_op op_mod (pe_callTy intU (by rfl) T.z_int (by decide +kernel) (pa_cons (pe_op op_fdiv (pe_ix (ixK K w hr) (pv 0) pe_int (fun _ _ => rfl)) pe_int) pa_nil)) (pv 1))))) pss_nil)
  (pss_cons (ps_set (i := 2) sc_law_draw.nd rfl (Or.inl rfl) (pe_op op_mod (pe_callTy intU (by rfl) T.z_int (by decide +kernel) (pa_cons (pe_ix (ixK K w hr) (pv 0) pe_int (fun _ _ => rfl)) pa_nil)) (pv 1)))
  (pss_cons (ps_asg (pe_op op_fdiv (pe_ix (ixK K w hr) (pv 0) pe_int (fun _ _ => rfl)) (pv 1)) (pg_sub (pv 0) pe_int set_list))
  (pss_one (ps_ret (pv 2))))))), ?_⟩
    have a0 : ∀ x y z u : V, atI [x, y, z, u] 0 = some x := fun _ _ _ _ => atI_nat (j := 0) rfl
    have a1 : ∀ x y z u : V, atI [x, y, z, u] 1 = some y := fun _ _ _ _ => atI_nat (j := 1) rfl
    have a2 : ∀ x y z u : V, atI [x, y, z, u] 2 = some z := fun _ _ _ _ => atI_nat (j := 2) rfl
    have a3 : ∀ x y z u : V, atI [x, y, z, u] 3 = some u := fun _ _ _ _ => atI_nat (j := 3) rfl
    refine i_cut (fun σ' H' => σ' = [some (.ref st), some (.int m), none] ∧ Keep st H H' ∧ ∃ b c, H' st = some (.lst [.ref l, .int b, .int c, .int d]) ∧ 0 ≤ b ∧ 0 ≤ c) ?_ ?_
    · walk_at "rd"
      refine i_ixL (.of hst) (a1 _ _ _ _) ?_
      walk_at "rd"
      refine i_ifD (fun e1 => ?_) (fun e1 => ?_)
      · walk_at "rd"
        refine i_ixL (.of hst) (a2 _ _ _ _) ?_
        walk_at "rd"
        refine i_ixL (.of hst) (a0 _ _ _ _) ?_
        walk_at "rd"
        refine i_lenL (K := K) (.of hsl) ?_
        walk_at "rd"
        refine i_ifD (fun e2 => ?_) (fun e2 => ?_)
        · rw [List.length_map] at e2
          have hlt : c.toNat < ns.length := by omega
          walk_at "rd"
          refine i_ixL (.of hst) (a0 _ _ _ _) ?_
          walk_at "rd"
          refine i_ixL (.of hst) (a2 _ _ _ _) ?_
          walk_at "rd"
          refine i_ixL (v := .int ns[c.toNat]) (.of hsl) (at_of (j := c.toNat) (by omega) (by rw [List.getElem?_map, List.getElem?_eq_getElem hlt]; rfl)) ?_
          walk_at "rd"
          refine i_setL hst (j := 1) rfl ?_
          walk_at "rd"
          refine i_ixL (.of upd_same) (a2 _ _ _ _) ?_
          walk_at "rd"
          refine i_setL upd_same (j := 2) rfl ?_
          refine ⟨rfl, keep_upd.trans keep_upd, _, _, upd_same, ?_, by omega⟩
          split <;> omega
        · walk_at "rd"
          exact ⟨rfl, Keep.refl _ _, _, _, hst, hb, hc⟩
      · walk_at "rd"
        exact ⟨rfl, Keep.refl _ _, _, _, hst, hb, hc⟩
    · rintro σ' H' ⟨rfl, kp, b, c, hst', hb, hc⟩
      have hsl' := kp _ _ hsl hne
      walk_at "rd"
      refine i_ixL (.of hst') (a1 _ _ _ _) ?_
      walk_at "rd"
      refine i_ifD (fun e1 => ?_) (fun e1 => ?_)
      · walk_at "rd"
        refine i_ixL (.of hst') (a3 _ _ _ _) ?_
        walk_at "rd"
        refine i_mulI (.inl (by constructor <;> omega)) ?_
        walk_at "rd"
        refine i_rI (by decide) ?_
        walk_at "rd"
        refine i_setL hst' (j := 3) rfl ?_
        walk_at "rd"
        refine i_ixL (.of upd_same) (a3 _ _ _ _) ?_
        walk_at "rd"
        refine i_rI ⟨by decide, by decide⟩ ?_
        walk_at "rd"
        refine i_rI h0 ?_
        refine q _ _ (Int.emod_nonneg _ (by omega)) (Int.emod_lt_of_pos _ h0) ⟨ns, b, c, _, upd_same, keep_upd _ _ hsl' hne, hne, hns, hb, hc, Int.emod_nonneg _ (by decide), Int.emod_lt_of_pos _ (by decide)⟩ (kp.trans keep_upd)
      · walk_at "rd"
        refine i_ixL (.of hst') (a1 _ _ _ _) ?_
        walk_at "rd"
        refine i_rI h0 ?_
        walk_at "rd"
        refine i_ixL (.of hst') (a1 _ _ _ _) ?_
        walk_at "rd"
        refine i_rI ⟨h0, h1⟩ ?_
        walk_at "rd"
        refine i_setL hst' (j := 1) rfl ?_
        walk_at "rd"
        refine q _ _ (Int.emod_nonneg _ (by omega)) (Int.emod_lt_of_pos _ h0) ⟨ns, _, c, d, upd_same, keep_upd _ _ hsl' hne, hne, hns, Int.ediv_nonneg hb (by omega), hc, hd, hd2⟩ (kp.trans keep_upd)

end
end K40
set_option Elab.async false
set_option linter.all false
set_option maxRecDepth 100000
set_option maxHeartbeats 4000000
namespace K40
open PySem PySem.Spec PyProof.Rows L2 Z
/-- what stands behind the word in an instruction that is right at place a of a unit with c registers, in code whose units have gs given -/
structure GoodRest (w : Str) (rest : List PyData) (a c : Int) (gs : List Int) : Prop where
  ok : ∀ x ∈ rest, OkD 1 x
  len : rest.length ≤ 10
  ins : ∀ nins : Nat, a + 3 ≤ (nins : Int) → isInstr (.tuple (.str w :: rest)) a c nins gs.length = true
  fit : fitsT w rest gs = true
theorem isInstr_eq {w f : Str} {l : List Nat} {rest : List PyData} {a c : Int} {n m : Nat} (hf : forms.lookup w = some f) (hl : f.cps.toList = l) (h : rest.length = l.length) : isInstr (.tuple (.str w :: rest)) a c n m = parts l rest a c n m := by
  have e : f.length = l.length := by rw [← hl]; simp [Str.length]
  simp [isInstr, hf, hl, h, e]
theorem ok_ints {xs : List Int} (h : xs.length ≤ 1000) : OkD 1 (.tuple (xs.map PyData.int)) := .tup (by simpa using h) fun x hx => by
  obtain ⟨i, _, rfl⟩ := List.mem_map.mp hx
  exact .int i
theorem regs_ok {xs : List Int} {c l m : Int} (h : ∀ x ∈ xs, 0 ≤ x ∧ x < c) (h1 : l ≤ (xs.length : Int)) (h2 : (xs.length : Int) ≤ m) : areRegs (.tuple (xs.map PyData.int)) c l m = true := by
  simp only [areRegs, List.length_map, Bool.and_eq_true, decide_eq_true_eq, List.all_eq_true]
  refine ⟨⟨h1, h2⟩, fun p hp => ?_⟩
  obtain ⟨i, hi, rfl⟩ := List.mem_map.mp hp
  have := h i hi
  simp [whole]; omega
theorem toInt_map (xs : List Int) : (xs.map PyData.int).map toInt = xs := by
  rw [List.map_map]
  exact List.map_id' xs
section
variable {a c r s t k u n b : Int} {gs xs : List Int}
theorem w_fit {w : Str} {rest : List PyData} (h : w ≠ "proc" ∧ w ≠ "thread" ∧ w ≠ "need") : fitsT w rest gs = true := by
  unfold fitsT
  rw [if_neg h.1, if_neg h.2.1, if_neg h.2.2]
theorem words_a : ¬ ("thread" : Str) = "proc" ∧ ¬ ("need" : Str) = "proc" ∧ ¬ ("need" : Str) = "thread" := by decide +kernel
theorem g_new (h : 0 ≤ r ∧ r < c) : GoodRest "new" [.int r] a c gs where
  ok := by
    intro x hx'
    simp only [List.mem_cons, List.not_mem_nil, or_false] at hx'
    subst hx'
    exact .int _
  len := by simp
  ins := fun nins hn' => by
    rw [isInstr_eq (f := "r") (l := [114]) (by decide +kernel) (by decide +kernel) rfl]
    skip
    simp [parts, List.range, List.range.loop, isPart, whole, isNum]
    try omega
  fit := w_fit (by decide +kernel)
theorem g_builtin (h : 0 ≤ r ∧ r < c) (hn : 0 ≤ n ∧ n < 9) : GoodRest "builtin" [.int r, .int n] a c gs where
  ok := by
    intro x hx'
    simp only [List.mem_cons, List.not_mem_nil, or_false] at hx'
    rcases hx' with rfl | rfl
    · exact .int _
    · exact .int _
  len := by simp
  ins := fun nins hn' => by
    rw [isInstr_eq (f := "rb") (l := [114, 98]) (by decide +kernel) (by decide +kernel) rfl]
    skip
    simp [parts, List.range, List.range.loop, isPart, whole, isNum]
    try omega
  fit := w_fit (by decide +kernel)
theorem g_copy (h : 0 ≤ r ∧ r < c) (hs : 0 ≤ s ∧ s < c) : GoodRest "copy" [.int r, .int s] a c gs where
  ok := by
    intro x hx'
    simp only [List.mem_cons, List.not_mem_nil, or_false] at hx'
    rcases hx' with rfl | rfl
    · exact .int _
    · exact .int _
  len := by simp
  ins := fun nins hn' => by
    rw [isInstr_eq (f := "rr") (l := [114, 114]) (by decide +kernel) (by decide +kernel) rfl]
    skip
    simp [parts, List.range, List.range.loop, isPart, whole, isNum]
    try omega
  fit := w_fit (by decide +kernel)
theorem g_bind (h : 0 ≤ r ∧ r < c) (hs : 0 ≤ s ∧ s < c) : GoodRest "bind" [.int r, .int s] a c gs where
  ok := by
    intro x hx'
    simp only [List.mem_cons, List.not_mem_nil, or_false] at hx'
    rcases hx' with rfl | rfl
    · exact .int _
    · exact .int _
  len := by simp
  ins := fun nins hn' => by
    rw [isInstr_eq (f := "rr") (l := [114, 114]) (by decide +kernel) (by decide +kernel) rfl]
    skip
    simp [parts, List.range, List.range.loop, isPart, whole, isNum]
    try omega
  fit := w_fit (by decide +kernel)
theorem g_int (h : 0 ≤ r ∧ r < c) (hn : -10 ≤ n ∧ n < 10) : GoodRest "int" [.int r, .int n] a c gs where
  ok := by
    intro x hx'
    simp only [List.mem_cons, List.not_mem_nil, or_false] at hx'
    rcases hx' with rfl | rfl
    · exact .int _
    · exact .int _
  len := by simp
  ins := fun nins hn' => by
    rw [isInstr_eq (f := "ri") (l := [114, 105]) (by decide +kernel) (by decide +kernel) rfl]
    skip
    simp [parts, List.range, List.range.loop, isPart, whole, isNum]
    try omega
  fit := w_fit (by decide +kernel)
theorem g_atom (h : 0 ≤ r ∧ r < c) : GoodRest "atom" [.int r, .str "a1"] a c gs where
  ok := by
    intro x hx'
    simp only [List.mem_cons, List.not_mem_nil, or_false] at hx'
    rcases hx' with rfl | rfl
    · exact .int _
    · exact .str (by decide +kernel) (by decide +kernel)
  len := by simp
  ins := fun nins hn' => by
    rw [isInstr_eq (f := "ra") (l := [114, 97]) (by decide +kernel) (by decide +kernel) rfl]
    have ha : isAtom (.str "a1") = true := by decide +kernel
    simp [parts, List.range, List.range.loop, isPart, ha, whole, isNum]
    try omega
  fit := w_fit (by decide +kernel)
theorem g_tuple (h : 0 ≤ r ∧ r < c) (hx : ∀ x ∈ xs, 0 ≤ x ∧ x < c) (h1 : 1 ≤ xs.length) (h2 : xs.length ≤ 6) : GoodRest "tuple" [.int r, .str "f", .tuple (xs.map PyData.int)] a c gs where
  ok := by
    intro x hx'
    simp only [List.mem_cons, List.not_mem_nil, or_false] at hx'
    rcases hx' with rfl | rfl | rfl
    · exact .int _
    · exact .str (by decide +kernel) (by decide +kernel)
    · exact ok_ints (by omega)
  len := by simp
  ins := fun nins hn' => by
    rw [isInstr_eq (f := "ral") (l := [114, 97, 108]) (by decide +kernel) (by decide +kernel) rfl]
    have hr := regs_ok (l := 1) (m := 6) hx (by omega) (by omega)
    have ha : isAtom (.str "f") = true := by decide +kernel
    simp [parts, List.range, List.range.loop, isPart, hr, ha, whole, isNum]
    try omega
  fit := w_fit (by decide +kernel)
theorem g_proc (h : 0 ≤ r ∧ r < c) (hu : 0 ≤ u ∧ u < (gs.length : Int)) (hb : 0 ≤ b ∧ b ≤ 6) (hx : ∀ x ∈ xs, 0 ≤ x ∧ x < c) (h1 : b + (xs.length : Int) = gs.getD u.toNat 0) (h2 : (xs.length : Int) ≤ c) (h3 : xs.length ≤ 1000) : GoodRest "proc" [.int r, .int u, .int b, .tuple (xs.map PyData.int)] a c gs where
  ok := by
    intro x hx'
    simp only [List.mem_cons, List.not_mem_nil, or_false] at hx'
    rcases hx' with rfl | rfl | rfl | rfl
    · exact .int _
    · exact .int _
    · exact .int _
    · exact ok_ints (by omega)
  len := by simp
  ins := fun nins hn' => by
    rw [isInstr_eq (f := "rucn") (l := [114, 117, 99, 110]) (by decide +kernel) (by decide +kernel) rfl]
    have hr := regs_ok (l := 0) (m := c) hx (by omega) (by omega)
    simp [parts, List.range, List.range.loop, isPart, hr, whole, isNum]
    try omega
  fit := by simp [fitsT, h1]
theorem g_if (h : 0 ≤ r ∧ r < c) (hk : a + 1 ≤ k ∧ k ≤ a + 2) : GoodRest "if" [.int r, .int k] a c gs where
  ok := by
    intro x hx'
    simp only [List.mem_cons, List.not_mem_nil, or_false] at hx'
    rcases hx' with rfl | rfl
    · exact .int _
    · exact .int _
  len := by simp
  ins := fun nins hn' => by
    rw [isInstr_eq (f := "rk") (l := [114, 107]) (by decide +kernel) (by decide +kernel) rfl]
    skip
    simp [parts, List.range, List.range.loop, isPart, whole, isNum]
    try omega
  fit := w_fit (by decide +kernel)
theorem g_caseint (h : 0 ≤ r ∧ r < c) (hn : -10 ≤ n ∧ n < 10) (hk : a + 1 ≤ k ∧ k ≤ a + 2) : GoodRest "caseint" [.int r, .int n, .int k] a c gs where
  ok := by
    intro x hx'
    simp only [List.mem_cons, List.not_mem_nil, or_false] at hx'
    rcases hx' with rfl | rfl | rfl
    · exact .int _
    · exact .int _
    · exact .int _
  len := by simp
  ins := fun nins hn' => by
    rw [isInstr_eq (f := "rik") (l := [114, 105, 107]) (by decide +kernel) (by decide +kernel) rfl]
    skip
    simp [parts, List.range, List.range.loop, isPart, whole, isNum]
    try omega
  fit := w_fit (by decide +kernel)
theorem g_caseatom (h : 0 ≤ r ∧ r < c) (hk : a + 1 ≤ k ∧ k ≤ a + 2) : GoodRest "caseatom" [.int r, .str "b", .int k] a c gs where
  ok := by
    intro x hx'
    simp only [List.mem_cons, List.not_mem_nil, or_false] at hx'
    rcases hx' with rfl | rfl | rfl
    · exact .int _
    · exact .str (by decide +kernel) (by decide +kernel)
    · exact .int _
  len := by simp
  ins := fun nins hn' => by
    rw [isInstr_eq (f := "rak") (l := [114, 97, 107]) (by decide +kernel) (by decide +kernel) rfl]
    have ha : isAtom (.str "b") = true := by decide +kernel
    simp [parts, List.range, List.range.loop, isPart, ha, whole, isNum]
    try omega
  fit := w_fit (by decide +kernel)
theorem g_casetuple (h : 0 ≤ r ∧ r < c) (hx : ∀ x ∈ xs, 0 ≤ x ∧ x < c) (h1 : 1 ≤ xs.length) (h2 : xs.length ≤ 6) (h3 : xs.Nodup) (hk : a + 1 ≤ k ∧ k ≤ a + 2) : GoodRest "casetuple" [.int r, .str "f", .tuple (xs.map PyData.int), .int k] a c gs where
  ok := by
    intro x hx'
    simp only [List.mem_cons, List.not_mem_nil, or_false] at hx'
    rcases hx' with rfl | rfl | rfl | rfl
    · exact .int _
    · exact .str (by decide +kernel) (by decide +kernel)
    · exact ok_ints (by omega)
    · exact .int _
  len := by simp
  ins := fun nins hn' => by
    rw [isInstr_eq (f := "rapk") (l := [114, 97, 112, 107]) (by decide +kernel) (by decide +kernel) rfl]
    have hr := regs_ok (l := 1) (m := 6) hx (by omega) (by omega)
    have hd : diff (.tuple (xs.map PyData.int)) = true := by simp only [diff, toInt_map]; exact decide_eq_true h3
    have ha : isAtom (.str "f") = true := by decide +kernel
    simp [parts, List.range, List.range.loop, isPart, hr, ha, hd, whole, isNum]
    try omega
  fit := w_fit (by decide +kernel)
theorem g_call (h : 0 ≤ r ∧ r < c) (hx : ∀ x ∈ xs, 0 ≤ x ∧ x < c) (h2 : xs.length ≤ 7) : GoodRest "call" [.int r, .tuple (xs.map PyData.int)] a c gs where
  ok := by
    intro x hx'
    simp only [List.mem_cons, List.not_mem_nil, or_false] at hx'
    rcases hx' with rfl | rfl
    · exact .int _
    · exact ok_ints (by omega)
  len := by simp
  ins := fun nins hn' => by
    rw [isInstr_eq (f := "rm") (l := [114, 109]) (by decide +kernel) (by decide +kernel) rfl]
    have hr := regs_ok (l := 0) (m := 7) hx (by omega) (by omega)
    simp [parts, List.range, List.range.loop, isPart, hr, whole, isNum]
    try omega
  fit := w_fit (by decide +kernel)
theorem g_op {g : Str} (hg : g ∈ signs) (hg2 : PyData.strOk g = true ∧ g.length ≤ 1000) (h : 0 ≤ r ∧ r < c) (hs : 0 ≤ s ∧ s < c) (ht : 0 ≤ t ∧ t < c) : GoodRest "op" [.str g, .int r, .int s, .int t] a c gs where
  ok := by
    intro x hx'
    simp only [List.mem_cons, List.not_mem_nil, or_false] at hx'
    rcases hx' with rfl | rfl | rfl | rfl
    · exact .str hg2.1 hg2.2
    · exact .int _
    · exact .int _
    · exact .int _
  len := by simp
  ins := fun nins hn' => by
    rw [isInstr_eq (f := "srrr") (l := [115, 114, 114, 114]) (by decide +kernel) (by decide +kernel) rfl]
    skip
    simp [parts, List.range, List.range.loop, isPart, hg, whole, isNum]
    try omega
  fit := w_fit (by decide +kernel)
theorem g_thread (hu : 0 ≤ u ∧ u < (gs.length : Int)) (hx : ∀ x ∈ xs, 0 ≤ x ∧ x < c) (h1 : (xs.length : Int) = gs.getD u.toNat 0) (h2 : (xs.length : Int) ≤ c) (h3 : xs.length ≤ 1000) : GoodRest "thread" [.int u, .tuple (xs.map PyData.int)] a c gs where
  ok := by
    intro x hx'
    simp only [List.mem_cons, List.not_mem_nil, or_false] at hx'
    rcases hx' with rfl | rfl
    · exact .int _
    · exact ok_ints (by omega)
  len := by simp
  ins := fun nins hn' => by
    rw [isInstr_eq (f := "un") (l := [117, 110]) (by decide +kernel) (by decide +kernel) rfl]
    have hr := regs_ok (l := 0) (m := c) hx (by omega) (by omega)
    simp [parts, List.range, List.range.loop, isPart, hr, whole, isNum]
    try omega
  fit := by simp [fitsT, h1, words_a.1]
theorem g_need (h : 0 ≤ r ∧ r < c) (hu : 0 ≤ u ∧ u < (gs.length : Int)) (hx : ∀ x ∈ xs, 0 ≤ x ∧ x < c) (h1 : (xs.length : Int) = gs.getD u.toNat 0) (h2 : (xs.length : Int) ≤ c) (h3 : xs.length ≤ 1000) : GoodRest "need" [.int r, .int u, .tuple (xs.map PyData.int)] a c gs where
  ok := by
    intro x hx'
    simp only [List.mem_cons, List.not_mem_nil, or_false] at hx'
    rcases hx' with rfl | rfl | rfl
    · exact .int _
    · exact .int _
    · exact ok_ints (by omega)
  len := by simp
  ins := fun nins hn' => by
    rw [isInstr_eq (f := "run") (l := [114, 117, 110]) (by decide +kernel) (by decide +kernel) rfl]
    have hr := regs_ok (l := 0) (m := c) hx (by omega) (by omega)
    simp [parts, List.range, List.range.loop, isPart, hr, whole, isNum]
    try omega
  fit := by simp [fitsT, h1, words_a.2.1, words_a.2.2]
theorem g_try (hk : a + 1 ≤ k ∧ k ≤ a + 2) (h : 0 ≤ r ∧ r < c) : GoodRest "try" [.int k, .int r] a c gs where
  ok := by
    intro x hx'
    simp only [List.mem_cons, List.not_mem_nil, or_false] at hx'
    rcases hx' with rfl | rfl
    · exact .int _
    · exact .int _
  len := by simp
  ins := fun nins hn' => by
    rw [isInstr_eq (f := "kr") (l := [107, 114]) (by decide +kernel) (by decide +kernel) rfl]
    skip
    simp [parts, List.range, List.range.loop, isPart, whole, isNum]
    try omega
  fit := w_fit (by decide +kernel)
theorem g_untry  : GoodRest "untry" [] a c gs where
  ok := by
    intro x hx'
    simp only [List.mem_cons, List.not_mem_nil, or_false] at hx'
  len := by simp
  ins := fun nins hn' => by
    rw [isInstr_eq (f := "") (l := []) (by decide +kernel) (by decide +kernel) rfl]
    simp [parts, List.range, List.range.loop, isPart, whole, isNum]
  fit := w_fit (by decide +kernel)
theorem g_raise (h : 0 ≤ r ∧ r < c) : GoodRest "raise" [.int r] a c gs where
  ok := by
    intro x hx'
    simp only [List.mem_cons, List.not_mem_nil, or_false] at hx'
    subst hx'
    exact .int _
  len := by simp
  ins := fun nins hn' => by
    rw [isInstr_eq (f := "r") (l := [114]) (by decide +kernel) (by decide +kernel) rfl]
    skip
    simp [parts, List.range, List.range.loop, isPart, whole, isNum]
    try omega
  fit := w_fit (by decide +kernel)
theorem g_choose (hk : a + 1 ≤ k ∧ k ≤ a + 2) : GoodRest "choose" [.int k] a c gs where
  ok := by
    intro x hx'
    simp only [List.mem_cons, List.not_mem_nil, or_false] at hx'
    subst hx'
    exact .int _
  len := by simp
  ins := fun nins hn' => by
    rw [isInstr_eq (f := "k") (l := [107]) (by decide +kernel) (by decide +kernel) rfl]
    skip
    simp [parts, List.range, List.range.loop, isPart, whole, isNum]
    try omega
  fit := w_fit (by decide +kernel)
theorem g_jump (hk : a + 1 ≤ k ∧ k ≤ a + 2) : GoodRest "jump" [.int k] a c gs where
  ok := by
    intro x hx'
    simp only [List.mem_cons, List.not_mem_nil, or_false] at hx'
    subst hx'
    exact .int _
  len := by simp
  ins := fun nins hn' => by
    rw [isInstr_eq (f := "k") (l := [107]) (by decide +kernel) (by decide +kernel) rfl]
    skip
    simp [parts, List.range, List.range.loop, isPart, whole, isNum]
    try omega
  fit := w_fit (by decide +kernel)
end
end K40
set_option Elab.async false
set_option linter.all false
set_option maxRecDepth 100000
set_option maxHeartbeats 4000000

namespace K40
open PySem PySem.Spec PyProof.Rows L2 Z
section
variable {P : Program} {w : World} {K : PySem.W.Frag} {mg : Str → Option Value} {base : Heap} {aSIGNS aFORMS : Addr}
/-! data that stays where only the stream is changed -/
theorem _root_.Z.Keep.tup {st a l : Addr} {H H' : Hp} {xs : List V} (k : Keep st H H') (h : SqT K H a xs) (s : Strm H st l) : SqT K H' a xs := by
  obtain ⟨ns, b, c, d, e, _⟩ := s
  rcases h with (h | ⟨ob, h⟩) | h
  · exact .inl (.inl (k _ _ h (fun z => by subst z; rw [e] at h; cases h)))
  · exact .inl (.inr ⟨ob, k _ _ h (fun z => by subst z; rw [e] at h; cases h)⟩)
  · exact .inr h
/-- data that stays data along R -/
def DR (R : Hp → Hp → Prop) (K : PySem.W.Frag) (H : Hp) (v : V) (d : PyData) : Prop := ∀ H', R H H' → Dp K H' v d
def DRs (R : Hp → Hp → Prop) (K : PySem.W.Frag) (H : Hp) (vs : List V) (ds : List PyData) : Prop := ∀ H', R H H' → DpAll K H' vs ds
/-- all tuples stay -/
def KeepT (H H' : Hp) : Prop := (∀ b xs, H b = some (.tup xs) → H' b = some (.tup xs)) ∧ ∀ b ob v, H b = some (.frz ob v) → H' b = some (.frz ob v)
structure Way (R : Hp → Hp → Prop) : Prop where
  refl : ∀ H, R H H
  trans : ∀ {H1 H2 H3}, R H1 H2 → R H2 H3 → R H1 H3
theorem wayT : Way KeepT := ⟨fun _ => ⟨fun _ _ h => h, fun _ _ _ h => h⟩, fun a b => ⟨fun c o h => b.1 c o (a.1 c o h), fun c o v h => b.2 c o v (a.2 c o v h)⟩⟩
theorem wayK (st : Addr) : Way (Keep st) := ⟨Keep.refl st, fun a b => a.trans b⟩
theorem KeepT.sqT {H H' : Hp} {a : Addr} {xs : List V} (k : KeepT H H') (h : SqT K H a xs) : SqT K H' a xs := by
  rcases h with (h | ⟨ob, h⟩) | h
  · exact .inl (.inl (k.1 _ _ h))
  · exact .inl (.inr ⟨ob, k.2 _ _ _ h⟩)
  · exact .inr h
theorem _root_.Z.Keep.toT {st l : Addr} {H H' : Hp} (k : Keep st H H') (s : Strm H st l) : KeepT H H' := by
  obtain ⟨ns, b, c, d, e, _⟩ := s
  exact ⟨fun a xs h => k _ _ h (fun z => by subst z; rw [e] at h; cases h), fun a ob v h => k _ _ h (fun z => by subst z; rw [e] at h; cases h)⟩
theorem keepT_upd {H : Hp} {p : Addr} {o u : HO} (h : H p = some u) (hu : ∀ ys, u ≠ .tup ys) (hf : ∀ ob v, u ≠ .frz ob v) : KeepT H (upd H p o) :=
  ⟨fun a xs e => by rw [upd_ne (fun z => by subst z; rw [h] at e; exact hu _ (Option.some.inj e))]; exact e, fun a ob v e => by rw [upd_ne (fun z => by subst z; rw [h] at e; exact hf _ _ (Option.some.inj e))]; exact e⟩
theorem _root_.L2.Same.toT {H H' : Hp} (s : Same H H') : KeepT H H' := ⟨fun _ _ h => s _ _ h, fun _ _ _ h => s _ _ h⟩
theorem dps_append {H : Hp} {vs' : List V} {ds' : List PyData} : ∀ {vs : List V} {ds : List PyData}, DpAll K H vs ds → DpAll K H vs' ds' → DpAll K H (vs ++ vs') (ds ++ ds')
  | _, _, .nil, h' => h'
  | _, _, .cons h t, h' => .cons h (dps_append t h')
theorem dps_take {H : Hp} : ∀ (n : Nat) {vs : List V} {ds : List PyData}, DpAll K H vs ds → DpAll K H (vs.take n) (ds.take n)
  | 0, _, _, _ => by simp only [List.take_zero]; exact .nil
  | n + 1, _, _, .nil => by simp only [List.take_nil]; exact .nil
  | n + 1, _, _, .cons h t => .cons h (dps_take n t)
theorem dps_drop {H : Hp} : ∀ (n : Nat) {vs : List V} {ds : List PyData}, DpAll K H vs ds → DpAll K H (vs.drop n) (ds.drop n)
  | 0, _, _, h => h
  | n + 1, _, _, .nil => by simp only [List.drop_nil]; exact .nil
  | n + 1, _, _, .cons h t => dps_drop n t
section
variable {R : Hp → Hp → Prop} {st a l : Addr} {H H' : Hp} {v : V} {d : PyData} {vs xs : List V} {ds : List PyData}
theorem DR.keep (W : Way R) (h : DR R K H v d) (k : R H H') : DR R K H' v d := fun H2 k2 => h H2 (W.trans k k2)
theorem DRs.keep (W : Way R) (h : DRs R K H vs ds) (k : R H H') : DRs R K H' vs ds := fun H2 k2 => h H2 (W.trans k k2)
theorem DR.dp (W : Way R) (h : DR R K H v d) : Dp K H v d := h H (W.refl _)
theorem DRs.dp (W : Way R) (h : DRs R K H vs ds) : DpAll K H vs ds := h H (W.refl _)
theorem DR.int (i : Int) : DR R K H (.int i) (.int i) := fun _ _ => .int i
theorem DR.str (z : Str) : DR R K H (.str z) (.str z) := fun _ _ => .str z
theorem DR.bl (z : Bool) : DR R K H (.bl z) (.bool z) := fun _ _ => .bl z
theorem DR.non : DR R K H .non .none := fun _ _ => .non
theorem DRs.nil : DRs R K H [] [] := fun _ _ => .nil
theorem DRs.cons (h : DR R K H v d) (t : DRs R K H vs ds) : DRs R K H (v :: vs) (d :: ds) := fun H' k => .cons (h H' k) (t H' k)
theorem DR.tupT (h : SqT K H a vs) (t : DRs KeepT K H vs ds) : DR KeepT K H (.ref a) (.tuple ds) := fun H' k => .tup (k.sqT h) (t H' k)
theorem DR.tup (s : Strm H st l) (h : SqT K H a vs) (t : DRs (Keep st) K H vs ds) : DR (Keep st) K H (.ref a) (.tuple ds) := fun H' k => .tup (k.tup h s) (t H' k)
theorem DR.lst (hne : a ≠ st) (h : SqL K H a vs) (t : DRs (Keep st) K H vs ds) : DR (Keep st) K H (.ref a) (.list ds) := fun H' k => .lst (k.seqL h hne) (t H' k)
theorem DR.ofT (s : Strm H st l) (h : DR KeepT K H v d) : DR (Keep st) K H v d := fun H' k => h H' (k.toT s)
theorem DRs.ofT (s : Strm H st l) (h : DRs KeepT K H vs ds) : DRs (Keep st) K H vs ds := fun H' k => h H' (k.toT s)
theorem DRs.ints : ∀ (xs : List Int), DRs R K H (xs.map V.int) (xs.map PyData.int)
  | [] => .nil
  | x :: xs => .cons (.int x) (DRs.ints xs)
theorem DRs.append {vs' : List V} {ds' : List PyData} (h : DRs R K H vs ds) (h' : DRs R K H vs' ds') : DRs R K H (vs ++ vs') (ds ++ ds') := fun H' k => dps_append (h H' k) (h' H' k)
theorem DRs.take (h : DRs R K H vs ds) (n : Nat) : DRs R K H (vs.take n) (ds.take n) := fun H' k => dps_take n (h H' k)
theorem DRs.drop (h : DRs R K H vs ds) (n : Nat) : DRs R K H (vs.drop n) (ds.drop n) := fun H' k => dps_drop n (h H' k)
theorem DRs.len (W : Way R) (h : DRs R K H vs ds) : vs.length = ds.length := dps_len (h.dp W)
theorem DRs.get (W : Way R) {i : Nat} (h : DRs R K H vs ds) (e : vs[i]? = some v) : ∃ d, ds[i]? = some d ∧ DR R K H v d := by
  obtain ⟨d, h1, _⟩ := dps_get (h.dp W) e
  refine ⟨d, h1, fun H' k => ?_⟩
  obtain ⟨d', h2, h3⟩ := dps_get (h H' k) e
  rw [h1] at h2
  exact Option.some.inj h2 ▸ h3
theorem DRs.get' (W : Way R) {i : Nat} (h : DRs R K H vs ds) (e : ds[i]? = some d) : ∃ v, vs[i]? = some v ∧ DR R K H v d := by
  obtain ⟨v, h1, _⟩ := dps_get' (h.dp W) e
  refine ⟨v, h1, fun H' k => ?_⟩
  obtain ⟨v', h2, h3⟩ := dps_get' (h H' k) e
  rw [h1] at h2
  exact Option.some.inj h2 ▸ h3
end
/-! ### registers drawn -/
def sp_regs (K : PySem.W.Frag) : Sp := fun vs H Q _ => ∃ (st l : Addr) (c m : Int), vs = [.ref st, .int c, .int m] ∧ 0 < c ∧ c < 1000 ∧ 0 ≤ m ∧ m ≤ 1000 ∧ Strm H st l ∧
  ∀ a (xs : List Int) H', SqT K H' a (xs.map V.int) → xs.length = m.toNat → (∀ x ∈ xs, 0 ≤ x ∧ x < c) → Strm H' st l → Keep st H H' → Q (.ref a) H'
theorem cal_law_registers (T : Txt K w mg aSIGNS aFORMS) : C8.Cal P w K mg base 2 "_law_registers" (sp_regs K) [] := by
  refine cal_mk T.d_law_registers (fun _ _ _ _ _ _ us hl => match us, hl with | [_, _, _], _ => rfl) sc_law_registers (fun vs H Q E h => ?_) (fun f cdv A outer s H vs Q E hr h => ?_)
  · obtain ⟨st, l, c, m, rfl, _⟩ := h; rfl
  · obtain ⟨st, l, c, m, rfl, c0, c1, m0, m1, hst, q⟩ := h
    refine ⟨_, (pss_one (ps_ret (pe_callTy (tupOfK K) (by rfl) T.z_tuple (by decide +kernel) (pa_cons (pe_lc (own := [("_law_k", 3)]) (by rfl) sc_law_registers.nd (pi_range1 (by rfl) T.z_range (pa_cons (pv 2) pa_nil)) (blkOk_by (own := [("_law_k", 3)]) (N := n_law_registers) (sc := C8.fnScope s_law_registers) (by decide +kernel)) (fun _ _ _ _ _ => (pg_name (i := 3) sc_law_registers.nd rfl (Or.inl rfl))) (fun _ _ _ _ _ => pts_nil) (fun _ _ _ _ _ => (C8.pe_c (cal_law_draw T) hr (by decide) (by rfl) (pa_cons (pv 0) (pa_cons (pv 1) pa_nil))))) pa_nil)))), ?_⟩
    walk_at "rd"
    refine i_exRng m0 (by omega) ?_
    intro D hD
    refine lc_it walk_range (fun i H' => Strm H' st l ∧ Keep st H H' ∧ ∃ xs : List Int, H' D = some (.lst (xs.map V.int)) ∧ xs.length = i ∧ ∀ x ∈ xs, 0 ≤ x ∧ x < c) ?_ (fun i H _ h => trivial) ?_ ?_
    · exact ⟨hst.upd (hst.ne hD).1 (hst.ne hD).2, (same_new hD).keep, [], upd_same, rfl, by simp⟩
    · rintro i x H1 H2 hi ⟨s1, k1, xs, hx, hl, hb⟩ ⟨rfl, rfl⟩
      walk_at "rd"
      refine ⟨rfl, ?_⟩
      walk_at "rd"
      rw [if_pos rfl]
      walk_at "rd"
      refine ⟨st, l, c, rfl, c0, by omega, s1, fun n H3 n0 n1 s3 k3 => ?_⟩
      have nd := (hst.ne hD).1
      refine ⟨_, k3 _ _ hx nd, by rw [List.length_map, sizeLine_eq]; omega, s3.upd nd (hst.ne hD).2, ?_, xs ++ [n], by rw [upd_same, List.map_append]; rfl, by simp [hl], ?_⟩
      · intro b o e hb'
        rw [upd_ne (ne_of_none e hD)]
        exact k3 _ _ (k1 _ _ e hb') hb'
      · intro y hy
        rcases List.mem_append.mp hy with h | h
        · exact hb y h
        · rw [List.mem_singleton.mp h]; exact ⟨n0, n1⟩
    · rintro H1 ⟨s1, k1, xs, hx, hl, hb⟩
      walk_at "rd"
      refine i_tupOf (.of hx) fun p hp => ?_
      have hps := s1.ne hp
      exact q p xs _ (.of upd_same) hl hb (s1.upd hps.1 hps.2) (k1.trans (same_new hp).keep)
end
end K40
set_option Elab.async false
set_option linter.all false
set_option maxRecDepth 100000
set_option maxHeartbeats 4000000

namespace Z
open PySem PySem.Spec PyProof.Rows L2
section
variable {K : PySem.W.Frag} {σ : L2.St} {H H2 : Hp} {tk tv : TE} {r : List (TE × TE)} {p : Addr} {Q : VK}
theorem i_dispL {tr1 tr2 : List (TE × TE)} (q : ∀ p, H p = none → tPutEach tr1 p σ (upd H p (.dK [])) fun H1 =>
  ∀ q, H1 q = none → tPairs tr2 σ (upd H1 q (.dK [])) fun ps H2 => H2 q = some (.dK []) ∧ ∃ kvs : List (Key × V), ps = kvs.map (fun kv => (kV kv.1, kv.2)) ∧ kvs.length ≤ 15 ∧
    ∃ kv1, H2 p = some (.dK kv1) ∧ kv1 ≠ [] ∧ kv1.length ≤ 17 ∧ q ≠ p ∧ Q (.ref p) (upd (upd H2 q (.dK (mergeK [] kvs))) p (.dK (mergeK kv1 (mergeK [] kvs))))) : tDispL tr1 tr2 σ H Q := q
theorem i_putE {Q : Hp → Prop} (q : tk σ H fun x H1 => tv σ H1 fun y H2 => ∃ kvs key, H2 p = some (.dK kvs) ∧ x = kV key ∧ kvs.length < sizeLine ∧ tPutEach r p σ (upd H2 p (.dK (putK kvs key y))) Q) : tPutEach ((tk, tv) :: r) p σ H Q := q
theorem i_putN {Q : Hp → Prop} (q : Q H) : tPutEach [] p σ H Q := q
theorem i_tupRg {te : L2.St → Hp → (Int → Int → Hp → Prop) → Prop} (q : te σ H fun a b H1 => RgOk a b ∧ ∀ q, H1 q = none → Q (.ref q) (upd H1 q (.tup (rgV a b)))) : tTupRg te σ H Q := q
theorem i_rg1 {ta : TE} {Q : Int → Int → Hp → Prop} (q : ta σ H fun x H1 => ∃ n, x = .int n ∧ Q 0 n H1) : tRg1 ta σ H Q := q
theorem valV_none_of {κ : Type} [DecidableEq κ] {kvs : List (κ × V)} {k : κ} (h : k ∉ kvs.map (·.1)) : valV kvs k = none := by
  cases e : valV kvs k with
  | none => rfl
  | some v => exact absurd (valV_in e) h
theorem valV_some_of {κ : Type} [DecidableEq κ] {kvs : List (κ × V)} {k : κ} (h : k ∈ kvs.map (·.1)) : ∃ v, valV kvs k = some v ∧ (k, v) ∈ kvs := by
  cases e : valV kvs k with
  | none => exact absurd h (valV_not e)
  | some v =>
    refine ⟨v, rfl, ?_⟩
    unfold valV at e
    rw [Option.map_eq_some_iff] at e
    obtain ⟨kv, h1, h2⟩ := e
    have h3 := List.find?_some h1
    have h4 := List.mem_of_find?_eq_some h1
    have h5 : kv.1 = k := of_decide_eq_true h3
    rw [← h5, ← h2]
    exact h4
theorem mergeK_new : ∀ (more kvs : List (Key × V)), ((kvs ++ more).map (·.1)).Nodup → mergeK kvs more = kvs ++ more
  | [], kvs, _ => by rw [List.append_nil]; rfl
  | (k, v) :: more, kvs, h => by
    have h1 : k ∉ kvs.map (·.1) := by
      intro hk
      rw [List.map_append, List.nodup_append] at h
      exact h.2.2 k hk k (by simp) rfl
    show mergeK (putK kvs k v) more = _
    rw [putK_new v (valV_none_of h1)]
    have e : kvs ++ (k, v) :: more = (kvs ++ [(k, v)]) ++ more := by rw [List.append_assoc]; rfl
    rw [e] at h ⊢
    exact mergeK_new more _ h
theorem atI_str {z : Str} {i : Int} {j c : Nat} (e : z.cps.toList[j]? = some c) (h : i = j) : atI z.cps.toList i = some c := by subst h; exact atI_nat e
end
end Z
namespace K40
open PySem PySem.Spec PyProof.Rows L2 Z
section
variable {P : Program} {w : World} {K : PySem.W.Frag} {mg : Str → Option Value} {base : Heap} {aSIGNS aFORMS : Addr}
/-- a row of the table of instructions: the instruction without its word -/
def Row (K : PySem.W.Frag) (H : Hp) (a c : Int) (gs : List Int) (w : Str) (v : V) : Prop := ∃ p vs rest, v = .ref p ∧ SqT K H p vs ∧ DRs KeepT K H vs rest ∧ GoodRest w rest a c gs
theorem Row.keep {H H' : Hp} {a c : Int} {gs : List Int} {w : Str} {v : V} (h : Row K H a c gs w v) (k : KeepT H H') : Row K H' a c gs w v := by
  obtain ⟨p, vs, rest, e, h1, h2, h3⟩ := h
  exact ⟨p, vs, rest, e, k.sqT h1, h2.keep wayT k, h3⟩
/-- the table, as far as it stands -/
structure Rows (K : PySem.W.Frag) (st l p : Addr) (H0 H : Hp) (a c : Int) (gs : List Int) (ws : List Str) : Prop where
  strm : Strm H st l
  keep : Keep st H0 H
  ex : ∃ kvs : List (Key × V), H p = some (.dK kvs) ∧ kvs.map (·.1) = ws.map Sum.inr ∧ ∀ kv ∈ kvs, ∀ w, kv.1 = .inr w → Row K H a c gs w kv.2
  np : p ≠ st ∧ p ≠ l ∧ H0 p = none
section
variable {st l p : Addr} {H0 H H' : Hp} {a c : Int} {gs : List Int} {ws : List Str} {x : Str} {y : V}
theorem Rows.move (R : Rows K st l p H0 H a c gs ws) (k : Keep st H H') (s : Strm H' st l) : Rows K st l p H0 H' a c gs ws := by
  obtain ⟨kvs, h1, h2, h3⟩ := R.ex
  exact ⟨s, R.keep.trans k, ⟨kvs, k _ _ h1 R.np.1, h2, fun kv hkv w e => (h3 kv hkv w e).keep (k.toT R.strm)⟩, R.np⟩
theorem Rows.put {Q : Hp → Prop} (R : Rows K st l p H0 H a c gs ws) (hw : x ∉ ws) (hl : ws.length < 100) (g : Row K H a c gs x y) (q : ∀ H3, Rows K st l p H0 H3 a c gs (ws ++ [x]) → Q H3) :
    ∃ kvs key, H p = some (.dK kvs) ∧ V.str x = kV key ∧ kvs.length < sizeLine ∧ Q (upd H p (.dK (putK kvs key y))) := by
  obtain ⟨kvs, h1, h2, h3⟩ := R.ex
  have hlen : kvs.length = ws.length := by have := congrArg List.length h2; simpa using this
  refine ⟨kvs, .inr x, h1, rfl, by rw [hlen, sizeLine_eq]; omega, q _ ?_⟩
  have kt : KeepT H (upd H p (.dK (putK kvs (.inr x) y))) := keepT_upd h1 (fun _ z => by cases z) (fun _ _ z => by cases z)
  have hn : (Sum.inr x : Key) ∉ kvs.map (·.1) := by rw [h2]; simpa using hw
  refine ⟨R.strm.upd R.np.1 R.np.2.1, fun b o e hb => ?_, ⟨_, upd_same, ?_, ?_⟩, R.np⟩
  · rw [upd_ne (ne_of_none e R.np.2.2)]; exact R.keep _ _ e hb
  · rw [putK_new y (valV_none_of hn), List.map_append, h2, List.map_append]; rfl
  · rw [putK_new y (valV_none_of hn)] at kt ⊢
    intro kv hkv w e
    rcases List.mem_append.mp hkv with h | h
    · exact (h3 kv h w e).keep kt
    · rw [List.mem_singleton.mp h] at e ⊢
      cases e
      exact g.keep kt
theorem Rows.tup {r : List (TE × TE)} {σ : L2.St} {Q : Hp → Prop} {vs : List V} {rest : List PyData} (R : Rows K st l p H0 H a c gs ws) (d : DRs KeepT K H vs rest) (g : GoodRest x rest a c gs) (q : ∀ H3, Rows K st l p H0 H3 a c gs (ws ++ [x]) → tPutEach r p σ H3 Q)
    (hw : x ∉ ws := by decide +kernel) (hl : ws.length < 100 := by decide) (hz : vs.length ≤ sizeLine := by rw [PySem.sizeLine_eq]; exact Nat.le_of_ble_eq_true rfl) :
    vs.length ≤ sizeLine ∧ ∀ t, H t = none → ∃ kvs key, (upd H t (.tup vs)) p = some (.dK kvs) ∧ V.str x = kV key ∧ kvs.length < sizeLine ∧ tPutEach r p σ (upd (upd H t (.tup vs)) p (.dK (putK kvs key (.ref t)))) Q := by
  refine ⟨hz, fun t ht => ?_⟩
  have nt := R.strm.ne ht
  have R1 := R.move (same_new (o := .tup vs) ht).keep (R.strm.upd nt.1 nt.2)
  exact R1.put (Q := fun H => tPutEach r p σ H Q) hw hl ⟨t, vs, rest, rfl, .of upd_same, d.keep wayT (same_new ht).toT, g⟩ q
theorem Rows.merge {q : Addr} {more : List (Key × V)} {mws : List Str} (R : Rows K st l p H0 H a c gs ws) (hq : H q = some (.dK [])) (hqp : q ≠ p) (hqs : q ≠ st) (hql : q ≠ l) (hq0 : H0 q = none)
    (hk : more.map (·.1) = mws.map Sum.inr) (nd : (ws ++ mws).Nodup) (g : ∀ kv ∈ more, ∀ w, kv.1 = .inr w → Row K H a c gs w kv.2) :
    ∃ kv1, H p = some (.dK kv1) ∧ kv1.length = ws.length ∧ Rows K st l p H0 (upd (upd H q (.dK (mergeK [] more))) p (.dK (mergeK kv1 (mergeK [] more)))) a c gs (ws ++ mws) := by
  obtain ⟨kvs, h1, h2, h3⟩ := R.ex
  have hlen : kvs.length = ws.length := by have := congrArg List.length h2; simpa using this
  refine ⟨kvs, h1, hlen, ?_⟩
  have inj : ∀ xs : List Str, xs.Nodup → (xs.map (Sum.inr : Str → Key)).Nodup := fun xs h => List.Pairwise.map _ (fun x y h e => h (Sum.inr.inj e)) h
  have e1 : mergeK [] more = more := by
    rw [mergeK_new more [] (by rw [List.nil_append, hk]; exact inj _ (List.nodup_append.mp nd).2.1), List.nil_append]
  have e2 : mergeK kvs more = kvs ++ more := mergeK_new more kvs (by rw [List.map_append, h2, hk, ← List.map_append]; exact inj _ nd)
  rw [e1, e2]
  have kt : KeepT H (upd (upd H q (.dK more)) p (.dK (kvs ++ more))) := by
    refine wayT.trans (keepT_upd hq (fun _ z => by cases z) (fun _ _ z => by cases z)) (keepT_upd (u := .dK kvs) ?_ (fun _ z => by cases z) (fun _ _ z => by cases z))
    rw [upd_ne (Ne.symm hqp)]; exact h1
  refine ⟨(R.strm.upd hqs hql).upd R.np.1 R.np.2.1, fun b o e hb => ?_, ⟨_, upd_same, ?_, ?_⟩, R.np⟩
  · rw [upd_ne (ne_of_none e R.np.2.2), upd_ne (ne_of_none e hq0)]; exact R.keep _ _ e hb
  · rw [List.map_append, h2, hk, List.map_append]
  · intro kv hkv w e
    rcases List.mem_append.mp hkv with h | h
    · exact (h3 kv h w e).keep kt
    · exact (g kv h w e).keep kt
theorem Rows.get (R : Rows K st l p H0 H a c gs ws) (hx : x ∈ ws) : ∃ kvs v, H p = some (.dK kvs) ∧ valV kvs (.inr x) = some v ∧ Row K H a c gs x v := by
  obtain ⟨kvs, h1, h2, h3⟩ := R.ex
  obtain ⟨v, e, hm⟩ := valV_some_of (kvs := kvs) (k := .inr x) (by rw [h2]; exact List.mem_map_of_mem hx)
  exact ⟨kvs, v, h1, e, h3 _ hm _ rfl⟩
theorem Rows.sqT {t : Addr} {xs : List V} (R : Rows K st l p H0 H a c gs ws) (s : Strm H0 st l) (h : SqT K H0 t xs) : SqT K H t xs := R.keep.tup h s
theorem row_ints {xs : List Int} {t : Addr} (h : SqT K H t (xs.map V.int)) : DR KeepT K H (.ref t) (.tuple (xs.map PyData.int)) := .tupT h (.ints xs)
end
def words : List Str := ["new", "builtin", "copy", "bind", "int", "atom", "tuple", "proc", "if", "caseint", "caseatom", "casetuple", "call", "op", "thread", "need", "try", "untry", "raise", "choose", "jump"]
theorem cut_first (xs : List Int) (n : Nat) : cutV (xs.map V.int) none (some (n : Int)) = (xs.take n).map V.int := by
  unfold cutV
  rw [HT.sIx_nat, HT.sIx_none, List.drop_zero, Nat.sub_zero, ← List.map_take]
  congr 1
  rw [List.length_map]
  rcases Nat.le_total n xs.length with h | h
  · rw [Nat.min_eq_left h]
  · rw [Nat.min_eq_right h, List.take_length, List.take_of_length_le h]
theorem cut_rest (xs : List Int) (n : Nat) : cutV (xs.map V.int) (some (n : Int)) none = (xs.drop n).map V.int := by
  unfold cutV
  rw [HT.sIx_nat, HT.sIx_none, List.take_of_length_le (by rw [List.length_drop]; omega), ← List.map_drop]
  congr 1
  rw [List.length_map]
  rcases Nat.le_total n xs.length with h | h
  · rw [Nat.min_eq_left h]
  · rw [Nat.min_eq_right h, List.drop_length, List.drop_of_length_le h]
theorem rg_ints (n : Int) : rgV 0 n = ((List.range n.toNat).map fun i : Nat => (i : Int)).map V.int := by
  unfold rgV
  rw [List.map_map, Int.sub_zero]
  apply List.map_congr_left
  intro i _
  show V.int (0 + (i : Int)) = V.int (i : Int)
  rw [Int.zero_add]
def sp_instr (K : PySem.W.Frag) : Sp := fun vs H Q _ => ∃ (st l us : Addr) (x : Str) (c a : Int) (gs : List Int), vs = [.ref st, .str x, .int c, .int a, .ref us] ∧ x ∈ words ∧ 3 ≤ c ∧ c < 7 ∧ 0 ≤ a ∧ a < 100 ∧
  us ≠ st ∧ SqL K H us (gs.map V.int) ∧ 1 ≤ gs.length ∧ gs.length ≤ 3 ∧ (∀ g ∈ gs, 0 ≤ g ∧ g ≤ 3) ∧ Strm H st l ∧
  ∀ p vs rest H', SqT K H' p (.str x :: vs) → DRs KeepT K H' vs rest → GoodRest x rest a c gs → Strm H' st l → Keep st H H' → Q (.ref p) H'
theorem cal_law_instruction (T : Txt K w mg aSIGNS aFORMS) : C8.Cal P w K mg base 3 "_law_instruction" (sp_instr K) [] := by
  refine cal_mk T.d_law_instruction (fun _ _ _ _ _ _ us hl => match us, hl with | [_, _, _, _, _], _ => rfl) sc_law_instruction (fun vs H Q E h => ?_) (fun f cdv A outer s H vs Q E hr h => ?_)
  · obtain ⟨st, l, us, x, c, a, gs, rfl, _⟩ := h; rfl
  · obtain ⟨st, l, us, x, c, a, gs, rfl, hx, c3, c7, a0, a1, hus, hgs, g1, g3, hg, hst, q⟩ := h
    refine ⟨_, (pss_cons (ps_asg (C8.pe_c (cal_law_registers T) hr (by decide) (by rfl) (pa_cons (pv 0) (pa_cons (pv 2) (pa_cons pe_int pa_nil)))) (tupG K (by rfl) (pgs_cons (pg_name (i := 5) sc_law_instruction.nd rfl (Or.inl rfl)) (pgs_cons (pg_name (i := 6) sc_law_instruction.nd rfl (Or.inl rfl)) (pgs_cons (pg_name (i := 7) sc_law_instruction.nd rfl (Or.inl rfl)) pgs_nil)))))
  (pss_cons (ps_set (i := 8) sc_law_instruction.nd rfl (Or.inl rfl) (pe_op (addK K) (pe_op (addK K) (pv 3) pe_int) (C8.pe_c (cal_law_draw T) hr (by decide) (by rfl) (pa_cons (pv 0) (pa_cons pe_int pa_nil)))))
  (pss_cons (ps_set (i := 9) sc_law_instruction.nd rfl (Or.inl rfl) (C8.pe_c (cal_law_draw T) hr (by decide) (by rfl) (pa_cons (pv 0) (pa_cons (pe_callB (lenK K) (by rfl) T.z_len (by decide +kernel) (pa_cons (pv 4) pa_nil)) pa_nil))))
  (pss_cons (ps_set (i := 10) sc_law_instruction.nd rfl (Or.inl rfl) (pe_ix (ixK K w hr) (pv 4) (pv 9) (fun _ _ => rfl)))
  (pss_cons (ps_set (i := 11) sc_law_instruction.nd rfl (Or.inl rfl) (pe_op op_sub (C8.pe_c (cal_law_draw T) hr (by decide) (by rfl) (pa_cons (pv 0) (pa_cons pe_int pa_nil))) pe_int))
  (pss_cons (ps_set (i := 12) sc_law_instruction.nd rfl (Or.inl rfl) (C8.pe_c (cal_law_registers T) hr (by decide) (by rfl) (pa_cons (pv 0) (pa_cons (pv 2) (pa_cons (pe_op (addK K) pe_int (C8.pe_c (cal_law_draw T) hr (by decide) (by rfl) (pa_cons (pv 0) (pa_cons pe_int pa_nil)))) pa_nil)))))
  (pss_cons (ps_set (i := 13) sc_law_instruction.nd rfl (Or.inl rfl) (pe_slice (slK K) (pe_tupRg (by rfl) (by rfl) T.z_tuple (prg_1 (by rfl) T.z_range (pv 2))) po_none (po_some (pe_op (addK K) pe_int (C8.pe_c (cal_law_draw T) hr (by decide) (by rfl) (pa_cons (pv 0) (pa_cons pe_int pa_nil)))))))
  (pss_cons (ps_set (i := 14) sc_law_instruction.nd rfl (Or.inl rfl) (pe_callB (min3U (by rfl)) (by rfl) T.z_min (by decide +kernel) (pa_cons (pv 10) (pa_cons pe_int (pa_cons (C8.pe_c (cal_law_draw T) hr (by decide) (by rfl) (pa_cons (pv 0) (pa_cons pe_int pa_nil))) pa_nil)))))
  (pss_cons (ps_set (i := 15) sc_law_instruction.nd rfl (Or.inl rfl) (pe_dispN (ppn_cons pe_str (pe_tup (pa_cons (pv 5) pa_nil)) (ppn_cons pe_str (pe_tup (pa_cons (pv 5) (pa_cons (C8.pe_c (cal_law_draw T) hr (by decide) (by rfl) (pa_cons (pv 0) (pa_cons pe_int pa_nil))) pa_nil))) (ppn_cons pe_str (pe_tup (pa_cons (pv 5) (pa_cons (pv 6) pa_nil))) (ppn_cons pe_str (pe_tup (pa_cons (pv 5) (pa_cons (pv 6) pa_nil))) (ppn_cons pe_str (pe_tup (pa_cons (pv 5) (pa_cons (pv 11) pa_nil))) (ppn_cons pe_str (pe_tup (pa_cons (pv 5) (pa_cons pe_str pa_nil))) (ppn_cons pe_str (pe_tup (pa_cons (pv 5) (pa_cons pe_str (pa_cons (pv 12) pa_nil)))) (ppn_cons pe_str (pe_tup (pa_cons (pv 5) (pa_cons (pv 9) (pa_cons (pv 14) (pa_cons (C8.pe_c (cal_law_registers T) hr (by decide) (by rfl) (pa_cons (pv 0) (pa_cons (pv 2) (pa_cons (pe_op op_sub (pv 10) (pv 14)) pa_nil)))) pa_nil))))) (ppn_cons pe_str (pe_tup (pa_cons (pv 5) (pa_cons (pv 8) pa_nil))) (ppn_cons pe_str (pe_tup (pa_cons (pv 5) (pa_cons (pv 11) (pa_cons (pv 8) pa_nil)))) (ppn_cons pe_str (pe_tup (pa_cons (pv 5) (pa_cons pe_str (pa_cons (pv 8) pa_nil)))) (ppn_cons pe_str (pe_tup (pa_cons (pv 5) (pa_cons pe_str (pa_cons (pv 13) (pa_cons (pv 8) pa_nil))))) (ppn_cons pe_str (pe_tup (pa_cons (pv 5) (pa_cons (pe_slice (slK K) (pv 12) (po_some pe_int) po_none) pa_nil))) (ppn_cons pe_str (pe_tup (pa_cons (pe_ix (ixK K w hr) pe_str (C8.pe_c (cal_law_draw T) hr (by decide) (by rfl) (pa_cons (pv 0) (pa_cons pe_int pa_nil))) (fun _ _ => rfl)) (pa_cons (pv 5) (pa_cons (pv 6) (pa_cons (pv 7) pa_nil))))) (ppn_cons pe_str (pe_tup (pa_cons (pv 9) (pa_cons (C8.pe_c (cal_law_registers T) hr (by decide) (by rfl) (pa_cons (pv 0) (pa_cons (pv 2) (pa_cons (pv 10) pa_nil)))) pa_nil))) (ppn_cons pe_str (pe_tup (pa_cons (pv 5) (pa_cons (pv 9) (pa_cons (C8.pe_c (cal_law_registers T) hr (by decide) (by rfl) (pa_cons (pv 0) (pa_cons (pv 2) (pa_cons (pv 10) pa_nil)))) pa_nil)))) (ppn_cons pe_str (pe_tup (pa_cons (pv 8) (pa_cons (pv 5) pa_nil))) (ppn_zero (pps_cons pe_str (pe_tup pa_nil) (pps_cons pe_str (pe_tup (pa_cons (pv 5) pa_nil)) (pps_cons pe_str (pe_tup (pa_cons (pv 8) pa_nil)) (pps_cons pe_str (pe_tup (pa_cons (pv 8) pa_nil)) pps_nil)))) (by rfl) (by rfl) (by rfl) (by rfl))))))))))))))))))) (by decide) (fun z => by cases z)))
  (pss_one (ps_ret (pe_op (addK K) (pe_tup (pa_cons (pv 1) pa_nil)) (pe_ix (ixK K w hr) (pv 15) (pv 1) (fun _ _ => rfl)))))))))))))), ?_⟩
    have hc : RgOk 0 c := .of_le (by omega) (by omega) (by omega) (by omega)
    walk_at "rd"
    refine ⟨st, l, c, 3, rfl, by omega, by omega, by decide, by decide, hst, fun p1 xs1 H1 t1 l1 b1 s1 k1 => ?_⟩
    obtain ⟨r, s', t, rfl⟩ : ∃ r s t, xs1 = [r, s, t] := by
      match xs1, l1 with
      | [r, s, t], _ => exact ⟨r, s, t, rfl⟩
    have br := b1 r (by simp); have bs := b1 s' (by simp); have bt := b1 t (by simp)
    have t1' : SqT K H1 p1 [.int r, .int s', .int t] := t1
    refine i_gtup t1' rfl ?_
    walk_at "rd"
    refine ⟨st, l, 2, rfl, by decide, by decide, s1, fun dk H2 dk0 dk1 s2 k2 => ?_⟩
    walk_at "rd"
    refine i_lenL (k2.seqL (k1.seqL hgs hus) hus) ?_
    walk_at "rd"
    refine ⟨st, l, gs.length, by rw [List.length_map]; rfl, by omega, by omega, s2, fun u H3 u0 u1 s3 k3 => ?_⟩
    have hgs3 := k3.seqL (k2.seqL (k1.seqL hgs hus) hus) hus
    obtain ⟨gv, hgv⟩ : ∃ gv, gs[u.toNat]? = some gv := ⟨_, List.getElem?_eq_getElem (by omega)⟩
    have gvb := hg gv (List.mem_of_getElem? hgv)
    have hgd : gs.getD u.toNat 0 = gv := by rw [List.getD_eq_getElem?_getD, hgv]; rfl
    walk_at "rd"
    refine i_ixL (v := .int gv) hgs3 (at_of (j := u.toNat) (by omega) (by rw [List.getElem?_map, hgv]; rfl)) ?_
    walk_at "rd"
    refine ⟨st, l, 9, rfl, by decide, by decide, s3, fun n9 H4 n90 n91 s4 k4 => ?_⟩
    walk_at "rd"
    refine ⟨st, l, 6, rfl, by decide, by decide, s4, fun n6 H5 n60 n61 s5 k5 => ?_⟩
    walk_at "rd"
    refine ⟨st, l, c, 1 + n6, rfl, by omega, by omega, by omega, by omega, s5, fun so xso H6 tso lso bso s6 k6 => ?_⟩
    walk_at "rd"
    refine i_tupRg (i_rg1 ?_)
    walk_at "rd"
    refine ⟨hc, fun pr hpr => ?_⟩
    have nr := s6.ne hpr
    walk_at "rd"
    refine ⟨st, l, 3, rfl, by decide, by decide, s6.upd nr.1 nr.2, fun n3 H7 n30 n31 s7 k7 => ?_⟩
    have hpr7 : SqT K H7 pr (((List.range c.toNat).map fun i : Nat => (i : Int)).map V.int) := k7.tup (.of (by rw [← rg_ints]; exact upd_same)) (s6.upd nr.1 nr.2)
    walk_at "rd"
    refine i_slT hpr7 fun di H8 k8 hdi => ?_
    rw [show (1 + n3 : Int) = ((1 + n3.toNat : Nat) : Int) by omega, cut_first] at hdi
    have s8 := k8.strm s7
    walk_at "rd"
    refine ⟨st, l, 4, rfl, by decide, by decide, s8, fun n4 H9 n40 n41 s9 k9 => ?_⟩
    walk_at "rd"
    have own0 : 0 ≤ min (min gv 6) n4 := by omega
    have own1 : min (min gv 6) n4 ≤ gv := by omega
    have own2 : min (min gv 6) n4 ≤ 6 := by omega
    generalize min (min gv 6) n4 = own at own0 own1 own2 ⊢
    have hso : SqT K H9 so (xso.map V.int) := k9.tup (k8.sqT (k7.tup ((same_new hpr).sqT tso) (s6.upd nr.1 nr.2))) s8
    have hdi9 := k9.tup hdi s8
    have hgs9 : SqL K H9 us (gs.map V.int) := k9.seqL (k8.seq (k7.seqL ((same_new hpr).seq (k6.seqL (k5.seqL (k4.seqL hgs3 hus) hus) hus)) hus)) hus
    have kk : Keep st H H9 := k1.trans (k2.trans (k3.trans (k4.trans (k5.trans (k6.trans ((same_new hpr).keep.trans (k7.trans (k8.keep.trans k9))))))))
    have lso1 : 1 ≤ xso.length ∧ xso.length ≤ 6 := by omega
    have num : -10 ≤ n9 - 4 ∧ n9 - 4 < 10 := by omega
    have hk : a + 1 ≤ a + 1 + dk ∧ a + 1 + dk ≤ a + 2 := by omega
    have hu : 0 ≤ u ∧ u < (gs.length : Int) := ⟨u0, u1⟩
    have hdl : (((List.range c.toNat).map fun i : Nat => (i : Int)).take (1 + n3.toNat)).length = 1 + n3.toNat := by rw [List.length_take, List.length_map, List.length_range]; omega
    have hdn : (((List.range c.toNat).map fun i : Nat => (i : Int)).take (1 + n3.toNat)).Nodup := by
      rw [← List.map_take, List.take_range]
      exact List.Pairwise.map _ (fun x y h e => h (by omega)) List.nodup_range
    have hdb : ∀ x ∈ ((List.range c.toNat).map fun i : Nat => (i : Int)).take (1 + n3.toNat), 0 ≤ x ∧ x < c := by
      intro x hx
      obtain ⟨i, hi, rfl⟩ := List.mem_map.mp (List.mem_of_mem_take hx)
      have := List.mem_range.mp hi
      omega
    generalize ((List.range c.toNat).map fun i : Nat => (i : Int)).take (1 + n3.toNat) = dif at hdi9 hdl hdn hdb
    refine i_dispL fun p hp => ?_
    have np := s9.ne hp
    have R : Rows K st l p H9 (upd H9 p (.dK [])) a c gs [] := ⟨s9.upd np.1 np.2, (same_new hp).keep, ⟨[], upd_same, rfl, by simp⟩, np.1, np.2, hp⟩
    refine i_putE ?_
    walk_at "rd"
    refine R.tup (.cons (.int _) (.nil)) (g_new br) fun H' R => ?_
    refine i_putE ?_
    walk_at "rd"
    refine ⟨st, l, 9, rfl, by decide, by decide, R.strm, fun nb Hb nb0 nb1 sb kb => ?_⟩
    have R := R.move kb sb
    walk_at "rd"
    refine R.tup (.cons (.int _) (.cons (.int _) (.nil))) (g_builtin br ⟨nb0, nb1⟩) fun H' R => ?_
    refine i_putE ?_
    walk_at "rd"
    refine R.tup (.cons (.int _) (.cons (.int _) (.nil))) (g_copy br bs) fun H' R => ?_
    refine i_putE ?_
    walk_at "rd"
    refine R.tup (.cons (.int _) (.cons (.int _) (.nil))) (g_bind br bs) fun H' R => ?_
    refine i_putE ?_
    walk_at "rd"
    refine R.tup (.cons (.int _) (.cons (.int _) (.nil))) (g_int br num) fun H' R => ?_
    refine i_putE ?_
    walk_at "rd"
    refine R.tup (.cons (.int _) (.cons (.str _) (.nil))) (g_atom br) fun H' R => ?_
    refine i_putE ?_
    walk_at "rd"
    refine R.tup (.cons (.int _) (.cons (.str _) (.cons (row_ints (R.sqT s9 hso)) (.nil)))) (g_tuple br bso lso1.1 lso1.2) fun H' R => ?_
    refine i_putE ?_
    walk_at "rd"
    refine ⟨st, l, c, gv - own, rfl, by omega, by omega, by omega, by omega, R.strm, fun pp xp Hp tp lp bp sp kp => ?_⟩
    have R := R.move kp sp
    walk_at "rd"
    refine R.tup (.cons (.int _) (.cons (.int _) (.cons (.int _) (.cons (row_ints tp) (.nil))))) (g_proc br hu ⟨own0, own2⟩ bp (by rw [hgd]; omega) (by omega) (by omega)) fun H' R => ?_
    refine i_putE ?_
    walk_at "rd"
    refine R.tup (.cons (.int _) (.cons (.int _) (.nil))) (g_if br hk) fun H' R => ?_
    refine i_putE ?_
    walk_at "rd"
    refine R.tup (.cons (.int _) (.cons (.int _) (.cons (.int _) (.nil)))) (g_caseint br num hk) fun H' R => ?_
    refine i_putE ?_
    walk_at "rd"
    refine R.tup (.cons (.int _) (.cons (.str _) (.cons (.int _) (.nil)))) (g_caseatom br hk) fun H' R => ?_
    refine i_putE ?_
    walk_at "rd"
    refine R.tup (.cons (.int _) (.cons (.str _) (.cons (row_ints (R.sqT s9 hdi9)) (.cons (.int _) (.nil))))) (g_casetuple br hdb (by omega) (by omega) hdn hk) fun H' R => ?_
    refine i_putE ?_
    walk_at "rd"
    refine i_slT (R.sqT s9 hso) fun pc Hc kc tc => ?_
    rw [show (1 : Int) = ((1 : Nat) : Int) from rfl, cut_rest] at tc
    have R := R.move kc.keep (kc.strm R.strm)
    walk_at "rd"
    refine R.tup (.cons (.int _) (.cons (row_ints tc) (.nil))) (g_call br (fun x hx => bso x (List.mem_of_mem_drop hx)) (by rw [List.length_drop]; omega)) fun H' R => ?_
    refine i_putE ?_
    walk_at "rd"
    refine ⟨st, l, 3, rfl, by decide, by decide, R.strm, fun ns Hs ns0 ns1 ss ks => ?_⟩
    have R := R.move ks ss
    obtain ⟨cs, hcs, hsg, hsk⟩ : ∃ cs, ("+-*" : Str).cps.toList[ns.toNat]? = some cs ∧ (⟨#[cs]⟩ : Str) ∈ signs ∧ PyData.strOk ⟨#[cs]⟩ = true ∧ (⟨#[cs]⟩ : Str).length ≤ 1000 := by
      have h3 : ns.toNat = 0 ∨ ns.toNat = 1 ∨ ns.toNat = 2 := by omega
      rcases h3 with e | e | e <;> rw [e]
      · exact ⟨43, by decide +kernel, by decide +kernel, by decide +kernel, by decide +kernel⟩
      · exact ⟨45, by decide +kernel, by decide +kernel, by decide +kernel, by decide +kernel⟩
      · exact ⟨42, by decide +kernel, by decide +kernel, by decide +kernel, by decide +kernel⟩
    refine i_ixS (c := cs) (by rw [PySem.sizeLine_eq]; exact Nat.le_of_ble_eq_true rfl) (atI_str hcs (by omega)) ?_
    walk_at "rd"
    refine R.tup (.cons (.str _) (.cons (.int _) (.cons (.int _) (.cons (.int _) (.nil))))) (g_op hsg hsk br bs bt) fun H' R => ?_
    refine i_putE ?_
    walk_at "rd"
    refine ⟨st, l, c, gv, rfl, by omega, by omega, by omega, by omega, R.strm, fun pt xt Ht tt lt' bt' st' kt => ?_⟩
    have R := R.move kt st'
    walk_at "rd"
    refine R.tup (.cons (.int _) (.cons (row_ints tt) (.nil))) (g_thread hu bt' (by rw [hgd]; omega) (by omega) (by omega)) fun H' R => ?_
    refine i_putE ?_
    walk_at "rd"
    refine ⟨st, l, c, gv, rfl, by omega, by omega, by omega, by omega, R.strm, fun pt xt Ht tt lt' bt' st' kt => ?_⟩
    have R := R.move kt st'
    walk_at "rd"
    refine R.tup (.cons (.int _) (.cons (.int _) (.cons (row_ints tt) (.nil)))) (g_need br hu bt' (by rw [hgd]; omega) (by omega) (by omega)) fun H' R => ?_
    refine i_putE ?_
    walk_at "rd"
    refine R.tup (.cons (.int _) (.cons (.int _) (.nil))) (g_try hk br) fun H' R => ?_
    refine i_putN ?_
    intro q2 hq2
    have n2 := R.strm.ne hq2
    have hqp : q2 ≠ p := fun e => by
      obtain ⟨kvs, h1, _⟩ := R.ex
      rw [e, h1] at hq2; cases hq2
    have R2 := R.move (same_new (o := .dK []) hq2).keep (R.strm.upd n2.1 n2.2)
    have hq0 : H9 q2 = none := by
      cases e : H9 q2 with
      | none => rfl
      | some o =>
        have := R.keep _ _ e n2.1
        rw [hq2] at this; cases this
    have kq : upd _ q2 (.dK []) q2 = some (.dK []) := upd_same (H := H') (a := q2) (o := .dK [])
    walk_at "rd"
    refine ⟨by walk_at "sz", fun ta hta => ?_⟩
    have na := R2.strm.ne hta
    have R3 := R2.move (same_new (o := .tup []) hta).keep (R2.strm.upd na.1 na.2)
    walk_at "rd"
    refine ⟨by walk_at "sz", fun tb htb => ?_⟩
    have nb' := R3.strm.ne htb
    have R4 := R3.move (same_new (o := .tup [.int r]) htb).keep (R3.strm.upd nb'.1 nb'.2)
    walk_at "rd"
    refine ⟨by walk_at "sz", fun tc' htc => ?_⟩
    have nc := R4.strm.ne htc
    have R5 := R4.move (same_new (o := .tup [.int (a + 1 + dk)]) htc).keep (R4.strm.upd nc.1 nc.2)
    walk_at "rd"
    refine ⟨by walk_at "sz", fun td htd => ?_⟩
    have nd := R5.strm.ne htd
    have R6 := R5.move (same_new (o := .tup [.int (a + 1 + dk)]) htd).keep (R5.strm.upd nd.1 nd.2)
    have fa := wayT.trans (same_new (o := .tup [.int r]) htb).toT (wayT.trans (same_new (o := .tup [.int (a + 1 + dk)]) htc).toT (same_new (o := .tup [.int (a + 1 + dk)]) htd).toT)
    have fb := wayT.trans (same_new (o := .tup [.int (a + 1 + dk)]) htc).toT (same_new (o := .tup [.int (a + 1 + dk)]) htd).toT
    have fc := (same_new (o := .tup [.int (a + 1 + dk)]) htd).toT
    have kq2 := same_new (o := .tup [.int (a + 1 + dk)]) htd _ _ (same_new (o := .tup [.int (a + 1 + dk)]) htc _ _ (same_new (o := .tup [.int r]) htb _ _ (same_new (o := .tup []) hta _ _ kq)))
    obtain ⟨kv1, hkv1, hl1, RF⟩ := R6.merge (q := q2) (more := [(.inr "untry", .ref ta), (.inr "raise", .ref tb), (.inr "choose", .ref tc'), (.inr "jump", .ref td)]) (mws := ["untry", "raise", "choose", "jump"]) kq2 hqp n2.1 n2.2 hq0 rfl (by decide +kernel) (by
      intro kv hkv w' e
      simp only [List.mem_cons, List.not_mem_nil, or_false] at hkv
      rcases hkv with rfl | rfl | rfl | rfl
      · cases e; exact ⟨ta, [], [], rfl, fa.sqT (.of upd_same), .nil, g_untry⟩
      · cases e; exact ⟨tb, _, [.int r], rfl, fb.sqT (.of upd_same), .cons (.int _) .nil, g_raise br⟩
      · cases e; exact ⟨tc', _, [.int (a + 1 + dk)], rfl, fc.sqT (.of upd_same), .cons (.int _) .nil, g_choose hk⟩
      · cases e; exact ⟨td, _, [.int (a + 1 + dk)], rfl, .of upd_same, .cons (.int _) .nil, g_jump hk⟩)
    walk_at "rd"
    refine ⟨kq2, [(.inr "untry", .ref ta), (.inr "raise", .ref tb), (.inr "choose", .ref tc'), (.inr "jump", .ref td)], rfl, by simp, kv1, hkv1, fun z => (by rw [z] at hl1; cases hl1), by rw [hl1]; decide, hqp, ?_⟩
    walk_at "rd"
    refine ⟨by walk_at "sz", fun tw htw => ?_⟩
    have nw := RF.strm.ne htw
    have R7 := RF.move (same_new (o := .tup [.str x]) htw).keep (RF.strm.upd nw.1 nw.2)
    obtain ⟨kvs, v, e1, e2, pv', vs', rest, rfl, t7, d7, g7⟩ := R7.get hx
    walk_at "rd"
    refine i_ixD (r := .ref pv') (by rw [← e2]; exact DGet.k (k := .inr x) e1) ?_
    refine i_addT (.of upd_same) t7 ?_ fun pz Hz kz tz => ?_
    · have e3 := g7.len
      rw [← DRs.len wayT d7] at e3
      rw [sizeLine_eq, List.length_singleton]; omega
    · exact q pz vs' rest Hz tz (d7.keep wayT kz.toT) g7 (kz.strm R7.strm) (kk.trans (R7.keep.trans kz.keep))
end
end K40
set_option Elab.async false
set_option linter.all false
set_option maxRecDepth 100000
set_option maxHeartbeats 4000000

namespace Z
open PySem PySem.Spec PyProof.Rows L2
section
variable {K : PySem.W.Frag} {σ : L2.St} {H : Hp} {Q : VK} {p : Addr} {xs : List V} {y : V}
theorem i_bm {T : String} {r : V → List V → Hp → VK → Prop} {to : TE} {t : TA} (q : to σ H fun x H1 => tyV K T x H1 ∧ t σ H1 fun xs H2 => r x xs H2 Q) : tBM K T r to t σ H Q := q
theorem i_tyL (h : SqL K H p xs) : tyV K "list" (.ref p) H := .inl ⟨rfl, xs, h⟩
theorem i_append (h : H p = some (.lst xs)) (hl : xs.length < sizeLine) (q : Q .non (upd H p (.lst (xs ++ [y])))) : rAppend (.ref p) [y] H Q := ⟨p, xs, y, rfl, rfl, h, hl, q⟩
theorem Keep.updNew {st p : Addr} {H H' : Hp} {o : HO} (k : Keep st H H') (hp : H p = none) : Keep st H (upd H' p o) := fun b u e hb => by
  rw [upd_ne (ne_of_none e hp)]; exact k b u e hb
end
end Z
namespace K40
open PySem PySem.Spec PyProof.Rows L2 Z
section
variable {P : Program} {w : World} {K : PySem.W.Frag} {mg : Str → Option Value} {base : Heap} {aSIGNS aFORMS : Addr}
/-! ### the code -/
/-- a unit: given, registers, instructions -/
abbrev UnitD := Int × Int × List PyData
def unitD (u : UnitD) : PyData := .tuple [.int u.1, .int u.2.1, .tuple u.2.2]
def UnitV (K : PySem.W.Frag) (H : Hp) (v : V) (u : UnitD) : Prop := ∃ b r rvs, v = .ref b ∧ SqT K H b [.int u.1, .int u.2.1, .ref r] ∧ SqT K H r rvs ∧ DRs KeepT K H rvs u.2.2
theorem UnitV.keep {H H' : Hp} {v : V} {u : UnitD} (h : UnitV K H v u) (k : KeepT H H') : UnitV K H' v u := by
  obtain ⟨b, r, rvs, e, h1, h2, h3⟩ := h
  exact ⟨b, r, rvs, e, k.sqT h1, k.sqT h2, h3.keep wayT k⟩
def UnitVs (K : PySem.W.Frag) (H : Hp) : List V → List UnitD → Prop
  | [], [] => True
  | v :: vs, u :: us => UnitV K H v u ∧ UnitVs K H vs us
  | _, _ => False
theorem UnitVs.keep {H H' : Hp} (k : KeepT H H') : ∀ {vs : List V} {us : List UnitD}, UnitVs K H vs us → UnitVs K H' vs us
  | [], [], h => trivial
  | v :: vs, u :: us, h => ⟨h.1.keep k, h.2.keep k⟩
  | [], _ :: _, h => h.elim
  | _ :: _, [], h => h.elim
theorem UnitVs.snoc {H : Hp} {v : V} {u : UnitD} (hv : UnitV K H v u) : ∀ {vs : List V} {us : List UnitD}, UnitVs K H vs us → UnitVs K H (vs ++ [v]) (us ++ [u])
  | [], [], h => ⟨hv, trivial⟩
  | v :: vs, u :: us, h => ⟨h.1, UnitVs.snoc hv h.2⟩
  | [], _ :: _, h => h.elim
  | _ :: _, [], h => h.elim
theorem UnitVs.len {H : Hp} : ∀ {vs : List V} {us : List UnitD}, UnitVs K H vs us → vs.length = us.length
  | [], [], h => rfl
  | v :: vs, u :: us, h => by rw [List.length_cons, List.length_cons, h.2.len]
  | [], _ :: _, h => h.elim
  | _ :: _, [], h => h.elim
theorem UnitVs.get {H : Hp} : ∀ {vs : List V} {us : List UnitD} {i : Nat} {u : UnitD}, UnitVs K H vs us → us[i]? = some u → ∃ v, vs[i]? = some v ∧ UnitV K H v u
  | v :: vs, u :: us, 0, u', h, e => by simp at e; subst e; exact ⟨v, rfl, h.1⟩
  | v :: vs, u :: us, i + 1, u', h, e => by
    obtain ⟨v', h1, h2⟩ := UnitVs.get (i := i) h.2 (by simpa using e)
    exact ⟨v', by simpa using h1, h2⟩
  | [], [], _, _, h, e => by simp at e
  | [], _ :: _, _, _, h, e => h.elim
  | _ :: _, [], _, _, h, e => h.elim
theorem UnitV.dr {H : Hp} {v : V} {u : UnitD} (h : UnitV K H v u) : DR KeepT K H v (unitD u) := by
  obtain ⟨b, r, rvs, rfl, h1, h2, h3⟩ := h
  exact .tupT h1 (.cons (.int _) (.cons (.int _) (.cons (.tupT h2 h3) .nil)))
theorem UnitVs.drs {H : Hp} : ∀ {vs : List V} {us : List UnitD}, UnitVs K H vs us → DRs KeepT K H vs (us.map unitD)
  | [], [], h => .nil
  | v :: vs, u :: us, h => .cons h.1.dr h.2.drs
  | [], _ :: _, h => h.elim
  | _ :: _, [], h => h.elim
/-- an instruction that is right -/
def GoodIns (k c : Int) (gs : List Int) (d : PyData) : Prop := ∃ x rest, d = .tuple (.str x :: rest) ∧ GoodRest x rest k c gs
def GoodRows (c : Int) (gs : List Int) (rows : List PyData) : Prop := ∀ (k : Nat) d, rows[k]? = some d → GoodIns (k : Int) c gs d
structure GoodUnit (gs : List Int) (u : UnitD) : Prop where
  g0 : 0 ≤ u.1 ∧ u.1 ≤ 3
  c0 : 3 ≤ u.2.1 ∧ u.2.1 < 7
  rows : ∃ is, u.2.2 = is ++ [endT, endT] ∧ 1 ≤ is.length ∧ is.length ≤ 8 ∧ GoodRows u.2.1 gs is
structure GoodCode (us : List UnitD) : Prop where
  l1 : 1 ≤ us.length
  l3 : us.length ≤ 3
  all : ∀ u ∈ us, GoodUnit (us.map (·.1)) u
def sp_lawcode (K : PySem.W.Frag) : Sp := fun vs H Q _ => ∃ (st l : Addr), vs = [.ref st] ∧ Strm H st l ∧
  ∀ p vs us H', SqT K H' p vs → UnitVs K H' vs us → GoodCode us → Strm H' st l → Keep st H H' → Q (.ref p) H'
theorem gather_ok {is : List Int} {st l D : Addr} {H H1 : Hp} : True := trivial
theorem cal_law_code (T : Txt K w mg aSIGNS aFORMS) : C8.Cal P w K mg base 4 "_law_code" (sp_lawcode K) [] := by
  refine cal_mk T.d_law_code (fun _ _ _ _ _ _ us hl => match us, hl with | [_], _ => rfl) sc_law_code (fun vs H Q E h => ?_) (fun f cdv A outer s H vs Q E hr h => ?_)
  · obtain ⟨st, l, rfl, _⟩ := h; rfl
  · obtain ⟨st, l, rfl, hst, q⟩ := h
    refine ⟨_, (pss_cons (ps_set (i := 1) sc_law_code.nd rfl (Or.inl rfl) (pe_lst (pa_cons pe_str (pa_cons pe_str (pa_cons pe_str (pa_cons pe_str (pa_cons pe_str (pa_cons pe_str (pa_cons pe_str (pa_cons pe_str (pa_cons pe_str (pa_cons pe_str (pa_cons pe_str (pa_cons pe_str (pa_cons pe_str (pa_cons pe_str (pa_cons pe_str (pa_cons pe_str (pa_cons pe_str (pa_cons pe_str (pa_cons pe_str (pa_cons pe_str (pa_cons pe_str pa_nil)))))))))))))))))))))))
  (pss_cons (ps_setLc (i := 2) (own := [("_law_k", 9)]) (by rfl) sc_law_code.nd rfl rfl (sw_true rfl rfl rfl (by decide +kernel)) (pi_range1 (by rfl) T.z_range (pa_cons (pe_op (addK K) pe_int (C8.pe_c (cal_law_draw T) hr (by decide) (by rfl) (pa_cons (pv 0) (pa_cons pe_int pa_nil)))) pa_nil)) (blkOk_by (own := [("_law_k", 9)]) (N := n_law_code) (sc := C8.fnScope s_law_code) (by decide +kernel)) (fun _ _ _ _ _ => (pg_name (i := 9) sc_law_code.nd rfl (Or.inl rfl))) (fun _ _ _ _ _ => pts_nil) (fun _ _ _ _ _ => (C8.pe_c (cal_law_draw T) hr (by decide) (by rfl) (pa_cons (pv 0) (pa_cons pe_int pa_nil)))))
  (pss_cons (ps_set (i := 3) sc_law_code.nd rfl (Or.inl rfl) (pe_lst pa_nil))
  (pss_cons (ps_for PassesOwn.never rfl (listI K (pv 2)) (pg_name (i := 4) sc_law_code.nd rfl (Or.inl rfl)) (pss_cons (ps_set (i := 5) sc_law_code.nd rfl (Or.inl rfl) (pe_op (addK K) (pe_callB (max2U (by rfl)) (by rfl) T.z_max (by decide +kernel) (pa_cons pe_int (pa_cons (pv 4) pa_nil))) (C8.pe_c (cal_law_draw T) hr (by decide) (by rfl) (pa_cons (pv 0) (pa_cons pe_int pa_nil)))))
  (pss_cons (ps_set (i := 6) sc_law_code.nd rfl (Or.inl rfl) (pe_op (addK K) pe_int (C8.pe_c (cal_law_draw T) hr (by decide) (by rfl) (pa_cons (pv 0) (pa_cons pe_int pa_nil)))))
  (pss_cons (ps_set (i := 7) sc_law_code.nd rfl (Or.inl rfl) (pe_lst pa_nil))
  (pss_cons (ps_for PassesOwn.never rfl (pi_range1 (by rfl) T.z_range (pa_cons (pv 6) pa_nil)) (pg_name (i := 8) sc_law_code.nd rfl (Or.inl rfl)) (pss_one (ps_expr (pe_bm PySem.F.plainAttrs_list PySem.F.slot_list_append PySem.F.type_list_append mt_append (pv 7) (pa_cons (C8.pe_c (cal_law_instruction T) hr (by decide) (by rfl) (pa_cons (pv 0) (pa_cons (pe_ix (ixK K w hr) (pv 1) (C8.pe_c (cal_law_draw T) hr (by decide) (by rfl) (pa_cons (pv 0) (pa_cons (pe_callB (lenK K) (by rfl) T.z_len (by decide +kernel) (pa_cons (pv 1) pa_nil)) pa_nil))) (fun _ _ => rfl)) (pa_cons (pv 5) (pa_cons (pv 8) (pa_cons (pv 2) pa_nil)))))) pa_nil)))))
  (pss_one (ps_expr (pe_bm PySem.F.plainAttrs_list PySem.F.slot_list_append PySem.F.type_list_append mt_append (pv 3) (pa_cons (pe_tup (pa_cons (pv 4) (pa_cons (pv 5) (pa_cons (pe_op (addK K) (pe_callTy (tupOfK K) (by rfl) T.z_tuple (by decide +kernel) (pa_cons (pv 7) pa_nil)) (pe_tup (pa_cons (pe_tup (pa_cons pe_str pa_nil)) (pa_cons (pe_tup (pa_cons pe_str pa_nil)) pa_nil)))) pa_nil)))) pa_nil)))))))))
  (pss_one (ps_ret (pe_callTy (tupOfK K) (by rfl) T.z_tuple (by decide +kernel) (pa_cons (pv 3) pa_nil)))))))), ?_⟩
    walk_at "rd"
    refine ⟨by walk_at "sz", fun pw hpw => ?_⟩
    have nw := hst.ne hpw
    walk_at "rd"
    refine ⟨st, l, 3, rfl, by decide, by decide, hst.upd nw.1 nw.2, fun n H1 n0 n1 s1 k1 => ?_⟩
    have hpw1 : H1 pw = some (.lst (words.map V.str)) := k1 _ _ upd_same nw.1
    have kk1 := (same_new hpw).keep.trans k1
    walk_at "rd"
    refine i_exRng (by omega) (by omega) ?_
    intro pu hpu
    have nu := s1.ne hpu
    refine lc_it walk_range (fun i H' => Strm H' st l ∧ Keep st H1 H' ∧ ∃ xs : List Int, H' pu = some (.lst (xs.map V.int)) ∧ xs.length = i ∧ ∀ x ∈ xs, 0 ≤ x ∧ x ≤ 3) ?_ (fun i H _ h => trivial) ?_ ?_
    · exact ⟨s1.upd nu.1 nu.2, (same_new hpu).keep, [], upd_same, rfl, by simp⟩
    · rintro i x H2 H3 hi ⟨s2, k2, xs, hx, hl, hb⟩ ⟨rfl, rfl⟩
      walk_at "rd"
      refine ⟨rfl, ?_⟩
      walk_at "rd"
      rw [if_pos rfl]
      walk_at "rd"
      refine ⟨st, l, 4, rfl, by decide, by decide, s2, fun n' H4 n0' n1' s4 k4 => ?_⟩
      refine ⟨_, k4 _ _ hx nu.1, by rw [List.length_map, sizeLine_eq]; omega, s4.upd nu.1 nu.2, ?_, xs ++ [n'], by rw [upd_same, List.map_append]; rfl, by simp [hl], ?_⟩
      · exact (k2.trans k4).updNew hpu
      · intro y hy
        rcases List.mem_append.mp hy with h | h
        · exact hb y h
        · rw [List.mem_singleton.mp h]; omega
    · rintro H2 ⟨s2, k2, gs, hgs, hgl, hgb⟩
      have hpw2 := k2 _ _ hpw1 nw.1
      have kk2 := kk1.trans k2
      walk_at "rd"
      refine ⟨by walk_at "sz", fun pf hpf => ?_⟩
      have nf := s2.ne hpf
      walk_at "rd"
      refine i_exLst (xs := gs.map V.int) (.of ((same_new hpf) _ _ hgs)) ?_
      refine for_list (K := K) (a := pu) (xs := gs.map V.int) (fun i σ H' => Strm H' st l ∧ Keep st H2 H' ∧ (∃ g c m r a k, σ = [some (.ref st), some (.ref pw), some (.ref pu), some (.ref pf), g, c, m, r, a, k]) ∧
        ∃ fvs us, H' pf = some (.lst fvs) ∧ us.length = i ∧ UnitVs K H' fvs us ∧ us.map (·.1) = gs.take i ∧ ∀ u ∈ us, GoodUnit gs u) ?_ (fun i σ H' _ h => .of (h.2.1 _ _ hgs nu.1)) ?_ ?_
      · exact ⟨s2.upd nf.1 nf.2, (same_new hpf).keep, ⟨_, _, _, _, _, _, rfl⟩, [], [], upd_same, rfl, trivial, rfl, by simp⟩
      · rintro i y σ H3 hi ⟨s3, k3, ⟨g', c', m', r', a', k', rfl⟩, fvs, us, hf3, hul, huv, hug, hgd⟩
        obtain ⟨g, hg, rfl⟩ := get_ints hi
        have gb := hgb g (List.mem_of_getElem? hg)
        walk_at "rd"
        refine ⟨st, l, 3, rfl, by decide, by decide, s3, fun n3 H4 n30 n31 s4 k4 => ?_⟩
        walk_at "rd"
        have hc0 : 3 ≤ (if g > 3 then g else 3) + n3 ∧ (if g > 3 then g else 3) + n3 < 7 := by split <;> omega
        generalize (if g > 3 then g else 3) + n3 = c at hc0 ⊢
        refine ⟨st, l, 8, rfl, by decide, by decide, s4, fun n8 H5 n80 n81 s5 k5 => ?_⟩
        walk_at "rd"
        refine ⟨by walk_at "sz", fun pr hpr => ?_⟩
        have nr := s5.ne hpr
        have k25 := k3.trans (k4.trans k5)
        walk_at "rd"
        refine i_exRng (by omega) (by omega) ?_
        refine for_range (fun i σ H' => Strm H' st l ∧ Keep st H5 H' ∧ (∃ a k, σ = [some (.ref st), some (.ref pw), some (.ref pu), some (.ref pf), some (.int g), some (.int c), some (.int (1 + n8)), some (.ref pr), a, k]) ∧
          ∃ rvs rows, H' pr = some (.lst rvs) ∧ rows.length = i ∧ DRs KeepT K H' rvs rows ∧ GoodRows c gs rows) ?_ ?_ ?_
        · exact ⟨s5.upd nr.1 nr.2, (same_new hpr).keep, ⟨_, _, rfl⟩, [], [], upd_same, rfl, .nil, fun k d e => by simp at e⟩
        · rintro k σ H6 hk ⟨s6, k6, ⟨a'', k'', rfl⟩, rvs, rows, hr6, hrl, hrd, hrg⟩
          walk_at "rd"
          refine i_bm ?_
          walk_at "rd"
          refine ⟨i_tyL (.of hr6), ?_⟩
          have hpw6 : H6 pw = some (.lst (words.map V.str)) := k6 _ _ (k25 _ _ hpw2 nw.1) nw.1
          have hgs6 : SqL K H6 pu (gs.map V.int) := .of (k6 _ _ (k25 _ _ hgs nu.1) nu.1)
          walk_at "rd"
          refine i_lenL (.of hpw6) ?_
          walk_at "rd"
          refine ⟨st, l, 21, rfl, by decide, by decide, s6, fun n21 H7 m0 m1 s7 k7 => ?_⟩
          walk_at "rd"
          have hwl : n21.toNat < words.length := by
            have : words.length = 21 := rfl
            omega
          refine i_ixL (v := .str words[n21.toNat]) (.of (k7 _ _ hpw6 nw.1)) (at_of (j := n21.toNat) (by omega) (by rw [List.getElem?_map, List.getElem?_eq_getElem hwl]; rfl)) ?_
          walk_at "rd"
          refine ⟨st, l, pu, words[n21.toNat], c, 0 + (k : Int), gs, rfl, List.getElem_mem _, hc0.1, hc0.2, by omega, by omega, nu.1, k7.seqL hgs6 nu.1, by omega, by omega, hgb, s7, fun pi ivs rest H8 hi1 hi2 hi3 s8 k8 => ?_⟩
          walk_at "rd"
          have hr8 := k8 _ _ (k7 _ _ hr6 nr.1) nr.1
          have hrd8 : DRs KeepT K H8 rvs rows := hrd.keep wayT (wayT.trans (k7.toT s6) (k8.toT s7))
          have kt : KeepT H8 (upd H8 pr (.lst (rvs ++ [.ref pi]))) := keepT_upd hr8 (fun _ z => by cases z) (fun _ _ z => by cases z)
          refine i_append hr8 ?_ ?_
          · have := DRs.len wayT hrd
            rw [sizeLine_eq]; omega
          · refine ⟨s8.upd nr.1 nr.2, (k6.trans (k7.trans k8)).updNew hpr, ⟨_, _, rfl⟩, _, rows ++ [.tuple (.str words[n21.toNat] :: rest)], upd_same, by simp [hrl], (hrd8.append (.cons (.tupT hi1 (.cons (.str _) hi2)) .nil)).keep wayT kt, ?_⟩
            intro j d e
            rcases Nat.lt_or_ge j rows.length with h | h
            · rw [List.getElem?_append_left h] at e; exact hrg j d e
            · rw [List.getElem?_append_right h] at e
              have hj : j = rows.length := by
                have := (List.getElem?_eq_some_iff.mp e).1
                simp at this; omega
              subst hj
              simp at e
              subst e
              rw [hrl]
              rw [Int.zero_add] at hi3
              exact ⟨_, _, rfl, hi3⟩
        · rintro σ H6 ⟨s6, k6, ⟨a'', k'', rfl⟩, rvs, rows, hr6, hrl, hrd, hrg⟩
          walk_at "rd"
          refine i_bm ?_
          walk_at "rd"
          have hf5 : H5 pf = some (.lst fvs) := k5 _ _ (k4 _ _ hf3 nf.1) nf.1
          have hf6 : H6 pf = some (.lst fvs) := k6 _ _ hf5 nf.1
          refine ⟨i_tyL (.of hf6), ?_⟩
          walk_at "rd"
          refine i_tupOf (.of hr6) fun pt hpt => ?_
          walk_at "rd"
          refine ⟨by walk_at "sz", fun p1 hp1 => ?_⟩
          walk_at "rd"
          refine ⟨by walk_at "sz", fun p2 hp2 => ?_⟩
          walk_at "rd"
          refine ⟨by walk_at "sz", fun p3 hp3 => ?_⟩
          have hrl2 := DRs.len wayT hrd
          refine i_addT (xs := rvs) (ys := [.ref p1, .ref p2]) ((same_new hp3).sqT ((same_new hp2).sqT ((same_new hp1).sqT (.of upd_same)))) (.of upd_same) (by rw [sizeLine_eq, List.length_cons, List.length_cons, List.length_nil]; omega) fun ps H7 k7 h7 => ?_
          walk_at "rd"
          refine ⟨by walk_at "sz", fun p4 hp4 => ?_⟩
          have S7 : Same H6 H7 := (same_new hpt).trans ((same_new hp1).trans ((same_new hp2).trans ((same_new hp3).trans k7)))
          have S8 : Same H6 (upd H7 p4 (.tup [.int g, .int c, .ref ps])) := S7.trans (same_new hp4)
          walk_at "rd"
          have s8 := S8.strm s6
          have hf8 := S8 _ _ hf6
          have kt : KeepT _ (upd (upd H7 p4 (.tup [.int g, .int c, .ref ps])) pf (.lst (fvs ++ [.ref p4]))) := keepT_upd hf8 (fun _ z => by cases z) (fun _ _ z => by cases z)
          refine i_append hf8 ?_ ?_
          · have := huv.len
            rw [sizeLine_eq]
            have := hi
            have h9 : i < (gs.map V.int).length := (List.getElem?_eq_some_iff.mp hi).1
            rw [List.length_map] at h9
            omega
          · refine ⟨s8.upd nf.1 nf.2, ((k25.trans k6).trans S8.keep).updNew hpf, ⟨_, _, _, _, _, _, rfl⟩, _, us ++ [(g, c, rows ++ [endT, endT])], upd_same, by simp [hul], ?_, ?_, ?_⟩
            · have e1 : SqT K H7 p1 [.str "end"] := k7.sqT ((same_new hp3).sqT ((same_new hp2).sqT (.of upd_same)))
              have e2 : SqT K H7 p2 [.str "end"] := k7.sqT ((same_new hp3).sqT (.of upd_same))
              have d7 : DRs KeepT K H7 (rvs ++ [.ref p1, .ref p2]) (rows ++ [endT, endT]) := (hrd.keep wayT S7.toT).append (.cons (.tupT e1 (.cons (.str _) .nil)) (.cons (.tupT e2 (.cons (.str _) .nil)) .nil))
              refine UnitVs.snoc ?_ (huv.keep (wayT.trans (k4.toT s3) (wayT.trans (k5.toT s4) (wayT.trans (k6.toT s5) (wayT.trans S8.toT kt)))))
              exact ⟨p4, ps, _, rfl, kt.sqT (.of upd_same), kt.sqT ((same_new hp4).sqT h7), d7.keep wayT (wayT.trans (same_new hp4).toT kt)⟩
            · rw [List.map_append, hug, List.take_succ, hg]; rfl
            · intro u hu
              rcases List.mem_append.mp hu with h | h
              · exact hgd u h
              · rw [List.mem_singleton.mp h]
                exact ⟨⟨gb.1, gb.2⟩, hc0, rows, rfl, by omega, by omega, hrg⟩
      · rintro σ H3 ⟨s3, k3, ⟨g', c', m', r', a', k', rfl⟩, fvs, us, hf3, hul, huv, hug, hgd⟩
        walk_at "rd"
        refine i_tupOf (.of hf3) fun p hp => ?_
        have np := s3.ne hp
        have e1 : gs.take (gs.map V.int).length = gs := by rw [List.length_map, List.take_length]
        rw [e1] at hug
        rw [List.length_map] at hul
        refine q p fvs us _ (.of upd_same) (huv.keep (same_new hp).toT) ⟨by omega, by omega, fun u hu => by rw [hug]; exact hgd u hu⟩ (s3.upd np.1 np.2) ?_
        exact kk2.trans (k3.trans (same_new hp).keep)
end
end K40
set_option Elab.async false
set_option linter.all false
set_option maxRecDepth 100000
set_option maxHeartbeats 4000000

namespace K40
open PySem PySem.Spec PyProof.Rows L2 Z
section
variable {P : Program} {w : World} {K : PySem.W.Frag} {mg : Str → Option Value} {base : Heap} {aSIGNS aFORMS : Addr}
/-! ### displays of plain data -/
section
variable {st l : Addr} {σ : L2.St} {H0 : Hp} {te ta tb tm : TE} {t : TA} {d : PyData} {ds : List PyData} {i j k m : Int}
/-- the expression makes this data, and only adds to the heap -/
def Mk (K : PySem.W.Frag) (st : Addr) (σ : L2.St) (H0 : Hp) (te : TE) (d : PyData) : Prop := ∀ H, Same H0 H → ∀ Q : VK, (∀ x H', Same H H' → DR (Keep st) K H' x d → Q x H') → te σ H Q
def MkA (K : PySem.W.Frag) (st : Addr) (σ : L2.St) (H0 : Hp) (t : TA) (ds : List PyData) : Prop := ∀ H, Same H0 H → ∀ Q : List V → Hp → Prop, (∀ xs H', Same H H' → DRs (Keep st) K H' xs ds → Q xs H') → t σ H Q
theorem mk_non : Mk K st σ H0 (tC .non) .none := fun H s Q q => q _ H (Same.refl H) .non
theorem mk_bl {b : Bool} : Mk K st σ H0 (tC (.bl b)) (.bool b) := fun H s Q q => q _ H (Same.refl H) (.bl b)
theorem mk_int : Mk K st σ H0 (tC (.int i)) (.int i) := fun H s Q q => q _ H (Same.refl H) (.int i)
theorem mk_str {z : Str} : Mk K st σ H0 (tC (.str z)) (.str z) := fun H s Q q => q _ H (Same.refl H) (.str z)
theorem mk_v {n : Nat} (e : σ[n]? = some (some (.int i))) : Mk K st σ H0 (tVar n) (.int i) := fun H s Q q => i_var e (q _ H (Same.refl H) (.int i))
theorem int_of {H : Hp} {x : V} (h : DR (Keep st) K H x (.int i)) : x = .int i := by
  have := h.dp (wayK st)
  cases this; rfl
theorem mk_add (ha : Mk K st σ H0 ta (.int i)) (hb : Mk K st σ H0 tb (.int j)) : Mk K st σ H0 (tOp (uAdd K) ta tb) (.int (i + j)) := fun H s Q q =>
  ha H s _ fun x H1 s1 dx => hb H1 (s.trans s1) _ fun y H2 s2 dy => by rw [int_of dx, int_of dy]; exact i_addI (q _ H2 (s1.trans s2) (.int _))
theorem mk_sub (ha : Mk K st σ H0 ta (.int i)) (hb : Mk K st σ H0 tb (.int j)) : Mk K st σ H0 (tOp (rI0 fun i j => .int (i - j)) ta tb) (.int (i - j)) := fun H s Q q =>
  ha H s _ fun x H1 s1 dx => hb H1 (s.trans s1) _ fun y H2 s2 dy => by rw [int_of dx, int_of dy]; exact i_rI0 (q _ H2 (s1.trans s2) (.int _))
theorem mk_pow (ha : Mk K st σ H0 ta (.int i)) (hb : Mk K st σ H0 tb (.int j)) (c : CPow i j) : Mk K st σ H0 (tOp (rI CPow fun i j => .int (i ^ j.toNat)) ta tb) (.int (i ^ j.toNat)) := fun H s Q q =>
  ha H s _ fun x H1 s1 dx => hb H1 (s.trans s1) _ fun y H2 s2 dy => by rw [int_of dx, int_of dy]; exact i_rI c (q _ H2 (s1.trans s2) (.int _))
theorem mk_neg (ha : Mk K st σ H0 ta (.int i)) : Mk K st σ H0 (tUn (rU fun i => .int (-i)) ta) (.int (-i)) := fun H s Q q =>
  ha H s _ fun x H1 s1 dx => by rw [int_of dx]; exact i_rU (q _ H1 s1 (.int _))
theorem mk_mulS {z y : Str} (ok : MulOk z k) (e : Txt.mul z k = y) : Mk K st σ H0 (tOp (uMul K) (tC (.str z)) (tC (.int k))) (.str y) := fun H s Q q =>
  i_mulS ok (by rw [e]; exact q _ H (Same.refl H) (.str y))
theorem mka_nil : MkA K st σ H0 tNil [] := fun H s Q q => q _ H (Same.refl H) .nil
theorem mka_cons (h : Mk K st σ H0 te d) (ht : MkA K st σ H0 t ds) : MkA K st σ H0 (tCons te t) (d :: ds) := fun H s Q q =>
  h H s _ fun x H1 s1 dx => ht H1 (s.trans s1) _ fun xs H2 s2 dxs => q _ H2 (s1.trans s2) (.cons (dx.keep (wayK st) s2.keep) dxs)
theorem mk_tup (hst : Strm H0 st l) (h : MkA K st σ H0 t ds) (hl : ds.length ≤ 1000) : Mk K st σ H0 (tTup t) (.tuple ds) := fun H s Q q =>
  h H s _ fun xs H1 s1 dxs => ⟨by rw [DRs.len (wayK st) dxs, sizeLine_eq]; omega, fun p hp => by
    have s2 := same_new (o := .tup xs) hp
    exact q _ _ (s1.trans s2) (.tup (s2.strm ((s.trans s1).strm hst)) (.of upd_same) (dxs.keep (wayK st) s2.keep))⟩
theorem mk_lst (hst : Strm H0 st l) (h : MkA K st σ H0 t ds) (hl : ds.length ≤ 1000) : Mk K st σ H0 (tLst t) (.list ds) := fun H s Q q =>
  h H s _ fun xs H1 s1 dxs => ⟨by rw [DRs.len (wayK st) dxs, sizeLine_eq]; omega, fun p hp => by
    have s2 := same_new (o := .lst xs) hp
    exact q _ _ (s1.trans s2) (.lst (((s.trans s1).strm hst).ne hp).1 (.of upd_same) (dxs.keep (wayK st) s2.keep))⟩
theorem zeros {R : Hp → Hp → Prop} {H : Hp} : ∀ (n : Nat), DRs R K H (List.replicate n [V.int 0]).flatten (List.replicate n (PyData.int 0))
  | 0 => .nil
  | n + 1 => by
    rw [List.replicate_succ, List.replicate_succ, List.flatten_cons]
    exact .cons (.int 0) (zeros n)
theorem mk_repT (hst : Strm H0 st l) (hm : Mk K st σ H0 tm (.int m)) (h1 : 1 ≤ m) (h2 : m ≤ 1000) : Mk K st σ H0 (tOp (uMul K) (tTup (tCons (tC (.int 0)) tNil)) tm) (.tuple (List.replicate m.toNat (.int 0))) := fun H s Q q => by
  refine i_op (i_tup (i_cons (i_c (i_nil ⟨by rw [sizeLine_eq]; exact Nat.le_of_ble_eq_true rfl, fun p hp => ?_⟩))))
  have s2 := same_new (o := .tup [.int 0]) hp
  refine hm _ (s.trans s2) _ fun y H2 s3 dy => ?_
  rw [int_of dy]
  refine i_mulT (s3.sqT (.of upd_same)) (by simp) h1 h2 (by simp) fun p2 H3 s4 h4 => ?_
  exact q _ H3 (s2.trans (s3.trans s4)) (.tup (s4.strm (s3.strm (s2.strm (s.strm hst)))) h4 (zeros _))
theorem mk_repL (hst : Strm H0 st l) (hm : Mk K st σ H0 tm (.int m)) (h1 : 0 ≤ m) (h2 : m ≤ 1000) : Mk K st σ H0 (tOp (uMul K) (tLst (tCons (tC (.int 0)) tNil)) tm) (.list (List.replicate m.toNat (.int 0))) := fun H s Q q => by
  refine i_op (i_lst (i_cons (i_c (i_nil ⟨by rw [sizeLine_eq]; exact Nat.le_of_ble_eq_true rfl, fun p hp => ?_⟩))))
  have s2 := same_new (o := .lst [.int 0]) hp
  refine hm _ (s.trans s2) _ fun y H2 s3 dy => ?_
  rw [int_of dy]
  refine i_mulL (s3 _ _ upd_same) h1 h2 (by simp) fun p2 hp2 => ?_
  have s4 := same_new (o := .lst (List.replicate m.toNat [V.int 0]).flatten) hp2
  exact q _ _ (s2.trans (s3.trans s4)) (.lst ((s3.strm (s2.strm (s.strm hst))).ne hp2).1 (.of upd_same) (zeros _))
theorem mk_ref {n : Nat} {p : Addr} (e : σ[n]? = some (some (.ref p))) (h : DR (Keep st) K H0 (.ref p) d) : Mk K st σ H0 (tVar n) d := fun H s Q q => i_var e (q _ H (Same.refl H) (h.keep (wayK st) s.keep))
theorem mk_u0 {us : Addr} {gs : List Int} {g0 : Int} (hus : SqL K H0 us (gs.map V.int)) (hg : gs[0]? = some g0) (e : σ[3]? = some (some (.ref us))) : Mk K st σ H0 (tOp (uIx K w) (tVar 3) (tC (.int 0))) (.int g0) :=
  fun H s Q q => i_op (i_var e (i_c (i_ixL (v := .int g0) (s.seq hus) (at_of (j := 0) (by decide) (by rw [List.getElem?_map, hg]; rfl)) (q _ H (Same.refl H) (.int _)))))
theorem mka_go {H : Hp} {Q : List V → Hp → Prop} (ds : List PyData) (h : MkA K st σ H t ds) (q : ∀ xs H', Same H H' → DRs (Keep st) K H' xs ds → Q xs H') : t σ H Q := h H (Same.refl H) Q q
end
theorem mulOk_a : MulOk ("a" : Str) 13 := ⟨by decide, fun _ _ => by decide +kernel, fun _ _ => by
  show decide ((("a" : Str).length * (13 : Int).toNat) > sizeLine) = false
  rw [sizeLine_eq]; decide +kernel⟩
/-- the rows that are none -/
def badRows (a c n g0 m : Int) : List PyData := [.tuple [.str "new", .int c],
  .tuple [.str "new", .int (-(1 : Int))],
  .tuple [.str "new", .bool true],
  .tuple [.str "new"],
  .tuple [.str "new", .int (0), .int (0)],
  .tuple [.str "builtin", .int (0), .int (9)],
  .tuple [.str "int", .int (0), .int (((10 : Int) ^ ((9 : Int)).toNat) + (1 : Int))],
  .tuple [.str "int", .int (0), .str "1"],
  .tuple [.str "atom", .int (0), .str "A"],
  .tuple [.str "atom", .int (0), .str ""],
  .tuple [.str "tuple", .int (0), .str "f", .tuple []],
  .tuple [.str "tuple", .int (0), .str "f", .list [.int (0)]],
  .tuple [.str "tuple", .int (0), .str "f", .tuple (List.replicate ((7 : Int)).toNat (.int 0))],
  .tuple [.str "jump", .int a],
  .tuple [.str "jump", .int n],
  .tuple [.str "if", .int (0), .int (a - (1 : Int))],
  .tuple [.str "try", .int n, .int (0)],
  .tuple [.str "casetuple", .int (0), .str "f", .tuple [.int (0), .int (0)], .int (n - (1 : Int))],
  .tuple [.str "call", .int (0), .tuple (List.replicate ((8 : Int)).toNat (.int 0))],
  .tuple [.str "op", .str "/", .int (0), .int (0), .int (0)],
  .tuple [.str "thread", .int m, .tuple []],
  .tuple [.str "stop"],
  .tuple [],
  .tuple [.str "proc", .int (0), .int (0), .int (0), .tuple (List.replicate ((g0 + (1 : Int))).toNat (.int 0))],
  .tuple [.str "thread", .int (0), .tuple (List.replicate ((g0 + (1 : Int))).toNat (.int 0))],
  .list [.str "untry"],
  .none,
  .tuple [.str "need", .int (0), .int (0)],
  .tuple [.list [.str "new"], .int (0)],
  .tuple [.str "proc", .int (0), .int (0), .int (7), .tuple []],
  .tuple [.str "choose", .none],
  .tuple [.str "tuple", .int (0), .int (7), .tuple [.int (0)]],
  .tuple [.str "tuple", .int (0), .str "F", .tuple [.int (0)]],
  .tuple [.str "caseint", .int (0), .none, .int (n - (1 : Int))],
  .tuple [.str "caseint", .int (0), .bool true, .int (n - (1 : Int))],
  .tuple [.str "caseint", .int (0), .int ((-((10 : Int) ^ ((9 : Int)).toNat)) - (1 : Int)), .int (n - (1 : Int))],
  .tuple [.str "caseatom", .int (0), .str "", .int (n - (1 : Int))],
  .tuple [.str "caseatom", .int (0), .int (3), .int (n - (1 : Int))],
  .tuple [.str "casetuple", .int (0), .str "", .tuple [.int (0)], .int (n - (1 : Int))],
  .tuple [.str "casetuple", .int (0), .str "f", .tuple [.int (0), .int (1), .int (2), .int (3), .int (4), .int (5), .int (6)], .int (n - (1 : Int))],
  .tuple [.str "casetuple", .int (0), .str "f", .tuple [], .int (n - (1 : Int))],
  .tuple [.str "int", .int (0), .bool true],
  .tuple [.str "call", .int (0), .list [.int (0)]],
  .tuple [.str "thread", .int (0), .list (List.replicate (g0).toNat (.int 0))],
  .tuple [.str "need", .int (0), .int (0), .list (List.replicate (g0).toNat (.int 0))],
  .tuple [.str "jump", .bool true],
  .tuple [.str "if", .int (0), .bool true],
  .tuple [.str "proc", .int (0), .int (0), .int (0), .list (List.replicate (g0).toNat (.int 0))],
  .tuple [.str "proc", .int (0), .bool false, .int g0, .tuple []],
  .tuple [.str "proc", .int (0), .int (0), .bool true, .tuple []],
  .tuple [.str "try", .int (1), .bool true],
  .tuple [.str "atom", .int (0), .str "aaaaaaaaaaaaa"],
  .tuple [.str "tuple", .int (0), .str "aaaaaaaaaaaaa", .tuple [.int (0)]],
  .tuple [.str "builtin", .int (0), .bool true],
  .tuple [.str "op", .list [.str "+"], .int (0), .int (0), .int (0)],
  .tuple [.str "copy", .int (0)]]
def sp_bad (K : PySem.W.Frag) : Sp := fun vs H Q _ => ∃ (st l us : Addr) (a c n g0 : Int) (gs : List Int), vs = [.int a, .int c, .int n, .ref us] ∧ Strm H st l ∧ SqL K H us (gs.map V.int) ∧ gs[0]? = some g0 ∧ 0 ≤ g0 ∧ g0 ≤ 3 ∧
  ∀ p vs H', H' p = some (.lst vs) → p ≠ st → DRs (Keep st) K H' vs (badRows a c n g0 gs.length) → Same H H' → Q (.ref p) H'
theorem cal_law_bad_rows (T : Txt K w mg aSIGNS aFORMS) : C8.Cal P w K mg base 1 "_law_bad_rows" (sp_bad K) [] := by
  refine cal_mk T.d_law_bad_rows (fun _ _ _ _ _ _ us hl => match us, hl with | [_, _, _, _], _ => rfl) sc_law_bad_rows (fun vs H Q E h => ?_) (fun f cdv A outer s H vs Q E hr h => ?_)
  · obtain ⟨st, l, us, a, c, n, g0, gs, rfl, _⟩ := h; rfl
  · obtain ⟨st, l, us, a, c, n, g0, gs, rfl, hst, hus, hg0, h0, h3, q⟩ := h
    refine ⟨_, (pss_cons (ps_set (i := 4) sc_law_bad_rows.nd rfl (Or.inl rfl) (pe_tup (pa_cons pe_str (pa_cons (pe_callB (lenK K) (by rfl) T.z_len (by decide +kernel) (pa_cons (pv 3) pa_nil)) (pa_cons (pe_tup pa_nil) pa_nil)))))
  (pss_one (ps_ret (pe_lst (pa_cons (pe_tup (pa_cons pe_str (pa_cons (pv 1) pa_nil))) (pa_cons (pe_tup (pa_cons pe_str (pa_cons (pe_un un_neg pe_int) pa_nil))) (pa_cons (pe_tup (pa_cons pe_str (pa_cons pe_bl pa_nil))) (pa_cons (pe_tup (pa_cons pe_str pa_nil)) (pa_cons (pe_tup (pa_cons pe_str (pa_cons pe_int (pa_cons pe_int pa_nil)))) (pa_cons (pe_tup (pa_cons pe_str (pa_cons pe_int (pa_cons pe_int pa_nil)))) (pa_cons (pe_tup (pa_cons pe_str (pa_cons pe_int (pa_cons (pe_op (addK K) (pe_op op_pow pe_int pe_int) pe_int) pa_nil)))) (pa_cons (pe_tup (pa_cons pe_str (pa_cons pe_int (pa_cons pe_str pa_nil)))) (pa_cons (pe_tup (pa_cons pe_str (pa_cons pe_int (pa_cons pe_str pa_nil)))) (pa_cons (pe_tup (pa_cons pe_str (pa_cons pe_int (pa_cons pe_str pa_nil)))) (pa_cons (pe_tup (pa_cons pe_str (pa_cons pe_int (pa_cons pe_str (pa_cons (pe_tup pa_nil) pa_nil))))) (pa_cons (pe_tup (pa_cons pe_str (pa_cons pe_int (pa_cons pe_str (pa_cons (pe_lst (pa_cons pe_int pa_nil)) pa_nil))))) (pa_cons (pe_tup (pa_cons pe_str (pa_cons pe_int (pa_cons pe_str (pa_cons (pe_op (mulK K) (pe_tup (pa_cons pe_int pa_nil)) pe_int) pa_nil))))) (pa_cons (pe_tup (pa_cons pe_str (pa_cons (pv 0) pa_nil))) (pa_cons (pe_tup (pa_cons pe_str (pa_cons (pv 2) pa_nil))) (pa_cons (pe_tup (pa_cons pe_str (pa_cons pe_int (pa_cons (pe_op op_sub (pv 0) pe_int) pa_nil)))) (pa_cons (pe_tup (pa_cons pe_str (pa_cons (pv 2) (pa_cons pe_int pa_nil)))) (pa_cons (pe_tup (pa_cons pe_str (pa_cons pe_int (pa_cons pe_str (pa_cons (pe_tup (pa_cons pe_int (pa_cons pe_int pa_nil))) (pa_cons (pe_op op_sub (pv 2) pe_int) pa_nil)))))) (pa_cons (pe_tup (pa_cons pe_str (pa_cons pe_int (pa_cons (pe_op (mulK K) (pe_tup (pa_cons pe_int pa_nil)) pe_int) pa_nil)))) (pa_cons (pe_tup (pa_cons pe_str (pa_cons pe_str (pa_cons pe_int (pa_cons pe_int (pa_cons pe_int pa_nil)))))) (pa_cons (pv 4) (pa_cons (pe_tup (pa_cons pe_str pa_nil)) (pa_cons (pe_tup pa_nil) (pa_cons (pe_tup (pa_cons pe_str (pa_cons pe_int (pa_cons pe_int (pa_cons pe_int (pa_cons (pe_op (mulK K) (pe_tup (pa_cons pe_int pa_nil)) (pe_op (addK K) (pe_ix (ixK K w hr) (pv 3) pe_int (fun _ _ => rfl)) pe_int)) pa_nil)))))) (pa_cons (pe_tup (pa_cons pe_str (pa_cons pe_int (pa_cons (pe_op (mulK K) (pe_tup (pa_cons pe_int pa_nil)) (pe_op (addK K) (pe_ix (ixK K w hr) (pv 3) pe_int (fun _ _ => rfl)) pe_int)) pa_nil)))) (pa_cons (pe_lst (pa_cons pe_str pa_nil)) (pa_cons pe_non (pa_cons (pe_tup (pa_cons pe_str (pa_cons pe_int (pa_cons pe_int pa_nil)))) (pa_cons (pe_tup (pa_cons (pe_lst (pa_cons pe_str pa_nil)) (pa_cons pe_int pa_nil))) (pa_cons (pe_tup (pa_cons pe_str (pa_cons pe_int (pa_cons pe_int (pa_cons pe_int (pa_cons (pe_tup pa_nil) pa_nil)))))) (pa_cons (pe_tup (pa_cons pe_str (pa_cons pe_non pa_nil))) (pa_cons (pe_tup (pa_cons pe_str (pa_cons pe_int (pa_cons pe_int (pa_cons (pe_tup (pa_cons pe_int pa_nil)) pa_nil))))) (pa_cons (pe_tup (pa_cons pe_str (pa_cons pe_int (pa_cons pe_str (pa_cons (pe_tup (pa_cons pe_int pa_nil)) pa_nil))))) (pa_cons (pe_tup (pa_cons pe_str (pa_cons pe_int (pa_cons pe_non (pa_cons (pe_op op_sub (pv 2) pe_int) pa_nil))))) (pa_cons (pe_tup (pa_cons pe_str (pa_cons pe_int (pa_cons pe_bl (pa_cons (pe_op op_sub (pv 2) pe_int) pa_nil))))) (pa_cons (pe_tup (pa_cons pe_str (pa_cons pe_int (pa_cons (pe_op op_sub (pe_un un_neg (pe_op op_pow pe_int pe_int)) pe_int) (pa_cons (pe_op op_sub (pv 2) pe_int) pa_nil))))) (pa_cons (pe_tup (pa_cons pe_str (pa_cons pe_int (pa_cons pe_str (pa_cons (pe_op op_sub (pv 2) pe_int) pa_nil))))) (pa_cons (pe_tup (pa_cons pe_str (pa_cons pe_int (pa_cons pe_int (pa_cons (pe_op op_sub (pv 2) pe_int) pa_nil))))) (pa_cons (pe_tup (pa_cons pe_str (pa_cons pe_int (pa_cons pe_str (pa_cons (pe_tup (pa_cons pe_int pa_nil)) (pa_cons (pe_op op_sub (pv 2) pe_int) pa_nil)))))) (pa_cons (pe_tup (pa_cons pe_str (pa_cons pe_int (pa_cons pe_str (pa_cons (pe_tup (pa_cons pe_int (pa_cons pe_int (pa_cons pe_int (pa_cons pe_int (pa_cons pe_int (pa_cons pe_int (pa_cons pe_int pa_nil)))))))) (pa_cons (pe_op op_sub (pv 2) pe_int) pa_nil)))))) (pa_cons (pe_tup (pa_cons pe_str (pa_cons pe_int (pa_cons pe_str (pa_cons (pe_tup pa_nil) (pa_cons (pe_op op_sub (pv 2) pe_int) pa_nil)))))) (pa_cons (pe_tup (pa_cons pe_str (pa_cons pe_int (pa_cons pe_bl pa_nil)))) (pa_cons (pe_tup (pa_cons pe_str (pa_cons pe_int (pa_cons (pe_lst (pa_cons pe_int pa_nil)) pa_nil)))) (pa_cons (pe_tup (pa_cons pe_str (pa_cons pe_int (pa_cons (pe_op (mulK K) (pe_lst (pa_cons pe_int pa_nil)) (pe_ix (ixK K w hr) (pv 3) pe_int (fun _ _ => rfl))) pa_nil)))) (pa_cons (pe_tup (pa_cons pe_str (pa_cons pe_int (pa_cons pe_int (pa_cons (pe_op (mulK K) (pe_lst (pa_cons pe_int pa_nil)) (pe_ix (ixK K w hr) (pv 3) pe_int (fun _ _ => rfl))) pa_nil))))) (pa_cons (pe_tup (pa_cons pe_str (pa_cons pe_bl pa_nil))) (pa_cons (pe_tup (pa_cons pe_str (pa_cons pe_int (pa_cons pe_bl pa_nil)))) (pa_cons (pe_tup (pa_cons pe_str (pa_cons pe_int (pa_cons pe_int (pa_cons pe_int (pa_cons (pe_op (mulK K) (pe_lst (pa_cons pe_int pa_nil)) (pe_ix (ixK K w hr) (pv 3) pe_int (fun _ _ => rfl))) pa_nil)))))) (pa_cons (pe_tup (pa_cons pe_str (pa_cons pe_int (pa_cons pe_bl (pa_cons (pe_ix (ixK K w hr) (pv 3) pe_int (fun _ _ => rfl)) (pa_cons (pe_tup pa_nil) pa_nil)))))) (pa_cons (pe_tup (pa_cons pe_str (pa_cons pe_int (pa_cons pe_int (pa_cons pe_bl (pa_cons (pe_tup pa_nil) pa_nil)))))) (pa_cons (pe_tup (pa_cons pe_str (pa_cons pe_int (pa_cons pe_bl pa_nil)))) (pa_cons (pe_tup (pa_cons pe_str (pa_cons pe_int (pa_cons (pe_op (mulK K) pe_str pe_int) pa_nil)))) (pa_cons (pe_tup (pa_cons pe_str (pa_cons pe_int (pa_cons (pe_op (mulK K) pe_str pe_int) (pa_cons (pe_tup (pa_cons pe_int pa_nil)) pa_nil))))) (pa_cons (pe_tup (pa_cons pe_str (pa_cons pe_int (pa_cons pe_bl pa_nil)))) (pa_cons (pe_tup (pa_cons pe_str (pa_cons (pe_lst (pa_cons pe_str pa_nil)) (pa_cons pe_int (pa_cons pe_int (pa_cons pe_int pa_nil)))))) (pa_cons (pe_tup (pa_cons pe_str (pa_cons pe_int pa_nil))) pa_nil)))))))))))))))))))))))))))))))))))))))))))))))))))))))))))), ?_⟩
    walk_at "rd"
    refine i_lenL hus ?_
    walk_at "rd"
    refine ⟨by walk_at "sz", fun p1 hp1 => ?_⟩
    walk_at "rd"
    refine ⟨by walk_at "sz", fun p2 hp2 => ?_⟩
    refine i_gname ?_
    with_reducible refine Z.i_ret ?_
    with_reducible refine Z.i_lst ?_
    have s12 := (same_new (o := .tup []) hp1).trans (same_new (o := .tup [.str "thread", .int gs.length, .ref p1]) hp2)
    have hst := s12.strm hst
    have hus := s12.seq hus
    have hfar : DR (Keep st) K (upd (upd H p1 (.tup [])) p2 (.tup [.str "thread", .int gs.length, .ref p1])) (.ref p2) (.tuple [.str "thread", .int gs.length, .tuple []]) :=
      .tup hst (.of upd_same) (.cons (.str _) (.cons (.int _) (.cons (.tup hst ((same_new hp2).sqT (.of upd_same)) .nil) .nil)))
    rw [List.length_map]
    refine mka_go (K := K) (st := st) (badRows a c n g0 gs.length) ?_ fun xs H' s dxs => ?_
    · exact (mka_cons (mk_tup hst (mka_cons mk_str (mka_cons (mk_v (by with_unfolding_all rfl)) mka_nil)) (by simp)) (mka_cons (mk_tup hst (mka_cons mk_str (mka_cons (mk_neg mk_int) mka_nil)) (by simp)) (mka_cons (mk_tup hst (mka_cons mk_str (mka_cons mk_bl mka_nil)) (by simp)) (mka_cons (mk_tup hst (mka_cons mk_str mka_nil) (by simp)) (mka_cons (mk_tup hst (mka_cons mk_str (mka_cons mk_int (mka_cons mk_int mka_nil))) (by simp)) (mka_cons (mk_tup hst (mka_cons mk_str (mka_cons mk_int (mka_cons mk_int mka_nil))) (by simp)) (mka_cons (mk_tup hst (mka_cons mk_str (mka_cons mk_int (mka_cons (mk_add (mk_pow mk_int mk_int (by unfold CPow; decide +kernel)) mk_int) mka_nil))) (by simp)) (mka_cons (mk_tup hst (mka_cons mk_str (mka_cons mk_int (mka_cons mk_str mka_nil))) (by simp)) (mka_cons (mk_tup hst (mka_cons mk_str (mka_cons mk_int (mka_cons mk_str mka_nil))) (by simp)) (mka_cons (mk_tup hst (mka_cons mk_str (mka_cons mk_int (mka_cons mk_str mka_nil))) (by simp)) (mka_cons (mk_tup hst (mka_cons mk_str (mka_cons mk_int (mka_cons mk_str (mka_cons (mk_tup hst mka_nil (by simp)) mka_nil)))) (by simp)) (mka_cons (mk_tup hst (mka_cons mk_str (mka_cons mk_int (mka_cons mk_str (mka_cons (mk_lst hst (mka_cons mk_int mka_nil) (by simp)) mka_nil)))) (by simp)) (mka_cons (mk_tup hst (mka_cons mk_str (mka_cons mk_int (mka_cons mk_str (mka_cons (mk_repT hst mk_int (by omega) (by omega)) mka_nil)))) (by simp)) (mka_cons (mk_tup hst (mka_cons mk_str (mka_cons (mk_v (by with_unfolding_all rfl)) mka_nil)) (by simp)) (mka_cons (mk_tup hst (mka_cons mk_str (mka_cons (mk_v (by with_unfolding_all rfl)) mka_nil)) (by simp)) (mka_cons (mk_tup hst (mka_cons mk_str (mka_cons mk_int (mka_cons (mk_sub (mk_v (by with_unfolding_all rfl)) mk_int) mka_nil))) (by simp)) (mka_cons (mk_tup hst (mka_cons mk_str (mka_cons (mk_v (by with_unfolding_all rfl)) (mka_cons mk_int mka_nil))) (by simp)) (mka_cons (mk_tup hst (mka_cons mk_str (mka_cons mk_int (mka_cons mk_str (mka_cons (mk_tup hst (mka_cons mk_int (mka_cons mk_int mka_nil)) (by simp)) (mka_cons (mk_sub (mk_v (by with_unfolding_all rfl)) mk_int) mka_nil))))) (by simp)) (mka_cons (mk_tup hst (mka_cons mk_str (mka_cons mk_int (mka_cons (mk_repT hst mk_int (by omega) (by omega)) mka_nil))) (by simp)) (mka_cons (mk_tup hst (mka_cons mk_str (mka_cons mk_str (mka_cons mk_int (mka_cons mk_int (mka_cons mk_int mka_nil))))) (by simp)) (mka_cons (mk_ref (by with_unfolding_all rfl) hfar) (mka_cons (mk_tup hst (mka_cons mk_str mka_nil) (by simp)) (mka_cons (mk_tup hst mka_nil (by simp)) (mka_cons (mk_tup hst (mka_cons mk_str (mka_cons mk_int (mka_cons mk_int (mka_cons mk_int (mka_cons (mk_repT hst (mk_add (mk_u0 hus hg0 (by with_unfolding_all rfl)) mk_int) (by omega) (by omega)) mka_nil))))) (by simp)) (mka_cons (mk_tup hst (mka_cons mk_str (mka_cons mk_int (mka_cons (mk_repT hst (mk_add (mk_u0 hus hg0 (by with_unfolding_all rfl)) mk_int) (by omega) (by omega)) mka_nil))) (by simp)) (mka_cons (mk_lst hst (mka_cons mk_str mka_nil) (by simp)) (mka_cons mk_non (mka_cons (mk_tup hst (mka_cons mk_str (mka_cons mk_int (mka_cons mk_int mka_nil))) (by simp)) (mka_cons (mk_tup hst (mka_cons (mk_lst hst (mka_cons mk_str mka_nil) (by simp)) (mka_cons mk_int mka_nil)) (by simp)) (mka_cons (mk_tup hst (mka_cons mk_str (mka_cons mk_int (mka_cons mk_int (mka_cons mk_int (mka_cons (mk_tup hst mka_nil (by simp)) mka_nil))))) (by simp)) (mka_cons (mk_tup hst (mka_cons mk_str (mka_cons mk_non mka_nil)) (by simp)) (mka_cons (mk_tup hst (mka_cons mk_str (mka_cons mk_int (mka_cons mk_int (mka_cons (mk_tup hst (mka_cons mk_int mka_nil) (by simp)) mka_nil)))) (by simp)) (mka_cons (mk_tup hst (mka_cons mk_str (mka_cons mk_int (mka_cons mk_str (mka_cons (mk_tup hst (mka_cons mk_int mka_nil) (by simp)) mka_nil)))) (by simp)) (mka_cons (mk_tup hst (mka_cons mk_str (mka_cons mk_int (mka_cons mk_non (mka_cons (mk_sub (mk_v (by with_unfolding_all rfl)) mk_int) mka_nil)))) (by simp)) (mka_cons (mk_tup hst (mka_cons mk_str (mka_cons mk_int (mka_cons mk_bl (mka_cons (mk_sub (mk_v (by with_unfolding_all rfl)) mk_int) mka_nil)))) (by simp)) (mka_cons (mk_tup hst (mka_cons mk_str (mka_cons mk_int (mka_cons (mk_sub (mk_neg (mk_pow mk_int mk_int (by unfold CPow; decide +kernel))) mk_int) (mka_cons (mk_sub (mk_v (by with_unfolding_all rfl)) mk_int) mka_nil)))) (by simp)) (mka_cons (mk_tup hst (mka_cons mk_str (mka_cons mk_int (mka_cons mk_str (mka_cons (mk_sub (mk_v (by with_unfolding_all rfl)) mk_int) mka_nil)))) (by simp)) (mka_cons (mk_tup hst (mka_cons mk_str (mka_cons mk_int (mka_cons mk_int (mka_cons (mk_sub (mk_v (by with_unfolding_all rfl)) mk_int) mka_nil)))) (by simp)) (mka_cons (mk_tup hst (mka_cons mk_str (mka_cons mk_int (mka_cons mk_str (mka_cons (mk_tup hst (mka_cons mk_int mka_nil) (by simp)) (mka_cons (mk_sub (mk_v (by with_unfolding_all rfl)) mk_int) mka_nil))))) (by simp)) (mka_cons (mk_tup hst (mka_cons mk_str (mka_cons mk_int (mka_cons mk_str (mka_cons (mk_tup hst (mka_cons mk_int (mka_cons mk_int (mka_cons mk_int (mka_cons mk_int (mka_cons mk_int (mka_cons mk_int (mka_cons mk_int mka_nil))))))) (by simp)) (mka_cons (mk_sub (mk_v (by with_unfolding_all rfl)) mk_int) mka_nil))))) (by simp)) (mka_cons (mk_tup hst (mka_cons mk_str (mka_cons mk_int (mka_cons mk_str (mka_cons (mk_tup hst mka_nil (by simp)) (mka_cons (mk_sub (mk_v (by with_unfolding_all rfl)) mk_int) mka_nil))))) (by simp)) (mka_cons (mk_tup hst (mka_cons mk_str (mka_cons mk_int (mka_cons mk_bl mka_nil))) (by simp)) (mka_cons (mk_tup hst (mka_cons mk_str (mka_cons mk_int (mka_cons (mk_lst hst (mka_cons mk_int mka_nil) (by simp)) mka_nil))) (by simp)) (mka_cons (mk_tup hst (mka_cons mk_str (mka_cons mk_int (mka_cons (mk_repL hst (mk_u0 hus hg0 (by with_unfolding_all rfl)) (by omega) (by omega)) mka_nil))) (by simp)) (mka_cons (mk_tup hst (mka_cons mk_str (mka_cons mk_int (mka_cons mk_int (mka_cons (mk_repL hst (mk_u0 hus hg0 (by with_unfolding_all rfl)) (by omega) (by omega)) mka_nil)))) (by simp)) (mka_cons (mk_tup hst (mka_cons mk_str (mka_cons mk_bl mka_nil)) (by simp)) (mka_cons (mk_tup hst (mka_cons mk_str (mka_cons mk_int (mka_cons mk_bl mka_nil))) (by simp)) (mka_cons (mk_tup hst (mka_cons mk_str (mka_cons mk_int (mka_cons mk_int (mka_cons mk_int (mka_cons (mk_repL hst (mk_u0 hus hg0 (by with_unfolding_all rfl)) (by omega) (by omega)) mka_nil))))) (by simp)) (mka_cons (mk_tup hst (mka_cons mk_str (mka_cons mk_int (mka_cons mk_bl (mka_cons (mk_u0 hus hg0 (by with_unfolding_all rfl)) (mka_cons (mk_tup hst mka_nil (by simp)) mka_nil))))) (by simp)) (mka_cons (mk_tup hst (mka_cons mk_str (mka_cons mk_int (mka_cons mk_int (mka_cons mk_bl (mka_cons (mk_tup hst mka_nil (by simp)) mka_nil))))) (by simp)) (mka_cons (mk_tup hst (mka_cons mk_str (mka_cons mk_int (mka_cons mk_bl mka_nil))) (by simp)) (mka_cons (mk_tup hst (mka_cons mk_str (mka_cons mk_int (mka_cons (mk_mulS mulOk_a (by decide +kernel)) mka_nil))) (by simp)) (mka_cons (mk_tup hst (mka_cons mk_str (mka_cons mk_int (mka_cons (mk_mulS mulOk_a (by decide +kernel)) (mka_cons (mk_tup hst (mka_cons mk_int mka_nil) (by simp)) mka_nil)))) (by simp)) (mka_cons (mk_tup hst (mka_cons mk_str (mka_cons mk_int (mka_cons mk_bl mka_nil))) (by simp)) (mka_cons (mk_tup hst (mka_cons mk_str (mka_cons (mk_lst hst (mka_cons mk_str mka_nil) (by simp)) (mka_cons mk_int (mka_cons mk_int (mka_cons mk_int mka_nil))))) (by simp)) (mka_cons (mk_tup hst (mka_cons mk_str (mka_cons mk_int mka_nil)) (by simp)) mka_nil))))))))))))))))))))))))))))))))))))))))))))))))))))))))
    · refine ⟨by rw [DRs.len (wayK st) dxs, sizeLine_eq]; exact Nat.le_of_ble_eq_true rfl, fun p hp => ?_⟩
      have s2 := same_new (o := .lst xs) hp
      exact q p xs _ upd_same ((s.strm hst).ne hp).1 (dxs.keep (wayK st) s2.keep) (s12.trans (s.trans s2))
end
end K40
set_option Elab.async false
set_option linter.all false
set_option maxRecDepth 100000
set_option maxHeartbeats 4000000

namespace K40
open PySem PySem.Spec PyProof.Rows L2 Z
section
variable {P : Program} {w : World} {K : PySem.W.Frag} {mg : Str → Option Value} {base : Heap} {aSIGNS aFORMS : Addr}
theorem cutV_take (xs : List V) (n : Nat) : cutV xs none (some (n : Int)) = xs.take n := by
  unfold cutV
  rw [HT.sIx_nat, HT.sIx_none, List.drop_zero, Nat.sub_zero]
  rcases Nat.le_total n xs.length with h | h
  · rw [Nat.min_eq_left h]
  · rw [Nat.min_eq_right h, List.take_length, List.take_of_length_le h]
theorem cutV_drop (xs : List V) (n : Nat) : cutV xs (some (n : Int)) none = xs.drop n := by
  unfold cutV
  rw [HT.sIx_nat, HT.sIx_none, List.take_of_length_le (by rw [List.length_drop]; omega)]
  rcases Nat.le_total n xs.length with h | h
  · rw [Nat.min_eq_left h]
  · rw [Nat.min_eq_right h, List.drop_length, List.drop_of_length_le h]
theorem cutV_neg2 (xs : List V) : cutV xs none (some (-2)) = xs.take (xs.length - 2) := by
  unfold cutV
  rw [HT.sIx_none, List.drop_zero, Nat.sub_zero]
  have e : HT.sIx xs.length xs.length (some (-2)) = xs.length - 2 := by
    show (if (-2 : Int) < 0 then ((-2 : Int) + (xs.length : Int)).toNat else min (-2 : Int).toNat xs.length) = xs.length - 2
    rw [if_pos (by decide)]; omega
  rw [e]
/-- the units, the one at u another -/
def setU (us : List UnitD) (u : Nat) (x : PyData) : List PyData := (us.map unitD).take u ++ [x] ++ (us.map unitD).drop (u + 1)
def sp_put (K : PySem.W.Frag) : Sp := fun vs H Q _ => ∃ (st l pc : Addr) (cvs : List V) (us : List UnitD) (ud : UnitD) (u a : Nat) (vr : V) (d : PyData), vs = [.ref pc, .int u, .int a, vr] ∧ Strm H st l ∧ SqT K H pc cvs ∧ UnitVs K H cvs us ∧
  us[u]? = some ud ∧ us.length ≤ 3 ∧ ud.2.2.length ≤ 10 ∧ DR (Keep st) K H vr d ∧
  ∀ p H', Same H H' → DR (Keep st) K H' (.ref p) (.tuple (setU us u (.tuple [.int ud.1, .int ud.2.1, .tuple (ud.2.2.take a ++ [d] ++ ud.2.2.drop (a + 1))]))) → Q (.ref p) H'
theorem cal_law_put (T : Txt K w mg aSIGNS aFORMS) : C8.Cal P w K mg base 1 "_law_put" (sp_put K) [] := by
  refine cal_mk T.d_law_put (fun _ _ _ _ _ _ us hl => match us, hl with | [_, _, _, _], _ => rfl) sc_law_put (fun vs H Q E h => ?_) (fun f cdv A outer s H vs Q E hr h => ?_)
  · obtain ⟨st, l, pc, cvs, us, ud, u, a, vr, d, rfl, _⟩ := h; rfl
  · obtain ⟨st, l, pc, cvs, us, ud, u, a, vr, d, rfl, hst, hpc, huv, hu, hl3, hl10, hvr, q⟩ := h
    refine ⟨_, (pss_cons (ps_asg (pe_ix (ixK K w hr) (pv 0) (pv 1) (fun _ _ => rfl)) (tupG K (by rfl) (pgs_cons (pg_name (i := 4) sc_law_put.nd rfl (Or.inl rfl)) (pgs_cons (pg_name (i := 5) sc_law_put.nd rfl (Or.inl rfl)) (pgs_cons (pg_name (i := 6) sc_law_put.nd rfl (Or.inl rfl)) pgs_nil)))))
  (pss_one (ps_ret (pe_op (addK K) (pe_op (addK K) (pe_slice (slK K) (pv 0) po_none (po_some (pv 1))) (pe_tup (pa_cons (pe_tup (pa_cons (pv 4) (pa_cons (pv 5) (pa_cons (pe_op (addK K) (pe_op (addK K) (pe_slice (slK K) (pv 6) po_none (po_some (pv 2))) (pe_tup (pa_cons (pv 3) pa_nil))) (pe_slice (slK K) (pv 6) (po_some (pe_op (addK K) (pv 2) pe_int)) po_none)) pa_nil)))) pa_nil))) (pe_slice (slK K) (pv 0) (po_some (pe_op (addK K) (pv 1) pe_int)) po_none))))), ?_⟩
    have W := wayK st
    obtain ⟨uv, hcu, b, pr, rvs, rfl, hb, hpr, hrd⟩ := huv.get hu
    have hrl := DRs.len wayT hrd
    have hcl := huv.len
    walk_at "rd"
    refine i_ixT hpc (atI_nat hcu) ?_
    refine i_gtup hb rfl ?_
    walk_at "rd"
    refine i_slT hpc fun p1 H1 s1 h1 => ?_
    rw [cutV_take] at h1
    walk_at "rd"
    refine i_slT (s1.sqT hpr) fun p2 H2 s2 h2 => ?_
    rw [cutV_take] at h2
    walk_at "rd"
    refine ⟨by walk_at "sz", fun p3 hp3 => ?_⟩
    have s3 := same_new (o := .tup [vr]) hp3
    have h3 : SqT K _ p3 [vr] := .of (upd_same (H := H2) (o := .tup [vr]))
    refine i_addT (s3.sqT h2) h3 (by rw [sizeLine_eq, List.length_take, List.length_singleton]; omega) fun p4 H4 s4 h4 => ?_
    walk_at "rd"
    rw [show ((a : Int) + 1) = ((a + 1 : Nat) : Int) from rfl]
    have s04 := s1.trans (s2.trans (s3.trans s4))
    refine i_slT (s04.sqT hpr) fun p5 H5 s5 h5 => ?_
    rw [cutV_drop] at h5
    walk_at "rd"
    refine i_addT (s5.sqT h4) h5 (by rw [sizeLine_eq, List.length_append, List.length_take, List.length_drop, List.length_singleton]; omega) fun p6 H6 s6 h6 => ?_
    walk_at "rd"
    refine ⟨by walk_at "sz", fun p7 hp7 => ?_⟩
    have s7 := same_new (o := .tup [.int ud.1, .int ud.2.1, .ref p6]) hp7
    have h7 : SqT K _ p7 [.int ud.1, .int ud.2.1, .ref p6] := .of (upd_same (H := H6) (o := .tup [.int ud.1, .int ud.2.1, .ref p6]))
    walk_at "rd"
    refine ⟨by walk_at "sz", fun p8 hp8 => ?_⟩
    have s8 := same_new (o := .tup [.ref p7]) hp8
    have h8 : SqT K (upd (upd H6 p7 (.tup [.int ud.1, .int ud.2.1, .ref p6])) p8 (.tup [.ref p7])) p8 [.ref p7] := .of upd_same
    have s48 := s5.trans (s6.trans (s7.trans s8))
    refine i_addT ((s2.trans (s3.trans (s4.trans s48))).sqT h1) h8 (by rw [sizeLine_eq, List.length_take, List.length_singleton]; omega) fun p9 H9 s9 h9 => ?_
    walk_at "rd"
    rw [show ((u : Int) + 1) = ((u + 1 : Nat) : Int) from rfl]
    have s09 := s04.trans (s48.trans s9)
    refine i_slT (s09.sqT hpc) fun p10 H10 s10 h10 => ?_
    rw [cutV_drop] at h10
    walk_at "rd"
    refine i_addT (s10.sqT h9) h10 (by rw [sizeLine_eq, List.length_append, List.length_take, List.length_drop, List.length_singleton]; omega) fun p11 H11 s11 h11 => ?_
    have sA := s09.trans (s10.trans s11)
    have s811 := s9.trans (s10.trans s11)
    have s711 := s8.trans s811
    have s611 := s7.trans s711
    have st11 := sA.strm hst
    have dr : DRs (Keep st) K H11 rvs ud.2.2 := (hrd.ofT hst).keep W sA.keep
    have dn : DR (Keep st) K H11 vr d := hvr.keep W sA.keep
    have dc : DRs (Keep st) K H11 cvs (us.map unitD) := ((huv.drs).ofT hst).keep W sA.keep
    refine q p11 H11 sA (.tup st11 h11 (((dc.take u).append (.cons ?_ .nil)).append (dc.drop (u + 1))))
    refine .tup st11 (s811.sqT (s8.sqT h7)) (.cons (.int _) (.cons (.int _) (.cons ?_ .nil)))
    exact .tup st11 (s611.sqT h6) (((dr.take a).append (.cons dn .nil)).append (dr.drop (a + 1)))
end
end K40
set_option Elab.async false
set_option linter.all false
set_option maxRecDepth 100000
set_option maxHeartbeats 4000000
namespace K40
open PySem PySem.Spec PyProof.Rows L2 Z
/-! K40p: the laws of the looks: code is code, what is hurt is none -/
theorem bad_part {w f : Str} {l : List Nat} {rest : List PyData} {a c : Int} {n m : Nat} (hf : forms.lookup w = some f) (hl : f.cps.toList = l) (hr : rest.length = l.length) (k : Nat) (hk : k < l.length) (h : isPart (l.getD k 0) (rest.getD k .none) a c n m = false) :
    isInstr (.tuple (.str w :: rest)) a c n m = false := by
  rw [isInstr_eq hf hl hr]
  unfold parts
  rw [List.all_eq_false]
  exact ⟨k, List.mem_range.mpr hk, by rw [h]; exact Bool.false_ne_true⟩
theorem bad_len {w f : Str} {rest : List PyData} {a c : Int} {n m : Nat} (hf : forms.lookup w = some f) (h : rest.length ≠ f.length) : isInstr (.tuple (.str w :: rest)) a c n m = false := by
  simp [isInstr, hf, h]
/-- not an instruction at place a of a unit with c registers and n instructions -/
def Bad (d : PyData) (a c : Int) (n : Nat) (gs : List Int) : Prop := isInstr d a c n gs.length = false ∨ fits d gs = false
theorem bad_rows {a c g0 : Int} {n : Nat} {gs : List Int} (ha : 0 ≤ a ∧ a + 1 < (n : Int)) (hn : 3 ≤ n) (hc : 3 ≤ c ∧ c < 7) (hg0 : 0 ≤ g0 ∧ g0 ≤ 3) (hg : gs[0]? = some g0) : ∀ d ∈ badRows a c n g0 gs.length, Bad d a c n gs := by
  intro d hd
  unfold badRows at hd
  simp only [List.mem_cons, List.not_mem_nil, or_false] at hd
  rcases hd with rfl | rfl | rfl | rfl | rfl | rfl | rfl | rfl | rfl | rfl | rfl | rfl | rfl | rfl | rfl | rfl | rfl | rfl | rfl | rfl | rfl | rfl | rfl | rfl | rfl | rfl | rfl | rfl | rfl | rfl | rfl | rfl | rfl | rfl | rfl | rfl | rfl | rfl | rfl | rfl | rfl | rfl | rfl | rfl | rfl | rfl | rfl | rfl | rfl | rfl | rfl | rfl | rfl | rfl | rfl | rfl
  · exact .inl (bad_part (f := "r") (l := [114]) (by decide +kernel) (by decide +kernel) rfl 0 (by decide) (by simp [isPart, whole, isNum, areRegs, diff] <;> omega))
  · exact .inl (bad_part (f := "r") (l := [114]) (by decide +kernel) (by decide +kernel) rfl 0 (by decide) (by simp [isPart, whole, isNum, areRegs, diff] <;> omega))
  · exact .inl (bad_part (f := "r") (l := [114]) (by decide +kernel) (by decide +kernel) rfl 0 (by decide) (by simp [isPart, whole, isNum, areRegs, diff] <;> omega))
  · exact .inl (bad_len (f := "r") (by decide +kernel) (by decide +kernel))
  · exact .inl (bad_len (f := "r") (by decide +kernel) (by decide +kernel))
  · exact .inl (bad_part (f := "rb") (l := [114, 98]) (by decide +kernel) (by decide +kernel) rfl 1 (by decide) (by simp [isPart, whole, isNum, areRegs, diff] <;> omega))
  · exact .inl (bad_part (f := "ri") (l := [114, 105]) (by decide +kernel) (by decide +kernel) rfl 1 (by decide) (by simp [isPart, whole, isNum, areRegs, diff] <;> omega))
  · exact .inl (bad_part (f := "ri") (l := [114, 105]) (by decide +kernel) (by decide +kernel) rfl 1 (by decide) (by simp [isPart, whole, isNum, areRegs, diff] <;> omega))
  · exact .inl (bad_part (f := "ra") (l := [114, 97]) (by decide +kernel) (by decide +kernel) rfl 1 (by decide) (by have h : isAtom (.str "A") = false := (by decide +kernel); simp [isPart, h]))
  · exact .inl (bad_part (f := "ra") (l := [114, 97]) (by decide +kernel) (by decide +kernel) rfl 1 (by decide) (by have h : isAtom (.str "") = false := (by decide +kernel); simp [isPart, h]))
  · exact .inl (bad_part (f := "ral") (l := [114, 97, 108]) (by decide +kernel) (by decide +kernel) rfl 2 (by decide) (by simp [isPart, whole, isNum, areRegs, diff] <;> omega))
  · exact .inl (bad_part (f := "ral") (l := [114, 97, 108]) (by decide +kernel) (by decide +kernel) rfl 2 (by decide) (by simp [isPart, whole, isNum, areRegs, diff] <;> omega))
  · exact .inl (bad_part (f := "ral") (l := [114, 97, 108]) (by decide +kernel) (by decide +kernel) rfl 2 (by decide) (by simp [isPart, whole, isNum, areRegs, diff] <;> omega))
  · exact .inl (bad_part (f := "k") (l := [107]) (by decide +kernel) (by decide +kernel) rfl 0 (by decide) (by simp [isPart, whole, isNum, areRegs, diff] <;> omega))
  · exact .inl (bad_part (f := "k") (l := [107]) (by decide +kernel) (by decide +kernel) rfl 0 (by decide) (by simp [isPart, whole, isNum, areRegs, diff] <;> omega))
  · exact .inl (bad_part (f := "rk") (l := [114, 107]) (by decide +kernel) (by decide +kernel) rfl 1 (by decide) (by simp [isPart, whole, isNum, areRegs, diff] <;> omega))
  · exact .inl (bad_part (f := "kr") (l := [107, 114]) (by decide +kernel) (by decide +kernel) rfl 0 (by decide) (by simp [isPart, whole, isNum, areRegs, diff] <;> omega))
  · exact .inl (bad_part (f := "rapk") (l := [114, 97, 112, 107]) (by decide +kernel) (by decide +kernel) rfl 2 (by decide) (by simp [isPart, whole, isNum, areRegs, diff] <;> omega))
  · exact .inl (bad_part (f := "rm") (l := [114, 109]) (by decide +kernel) (by decide +kernel) rfl 1 (by decide) (by simp [isPart, whole, isNum, areRegs, diff] <;> omega))
  · exact .inl (bad_part (f := "srrr") (l := [115, 114, 114, 114]) (by decide +kernel) (by decide +kernel) rfl 0 (by decide) (by have h : ("/" : Str) ∉ signs := (by decide +kernel); simp [isPart, h]))
  · exact .inl (bad_part (f := "un") (l := [117, 110]) (by decide +kernel) (by decide +kernel) rfl 0 (by decide) (by simp [isPart, whole, isNum, areRegs, diff] <;> omega))
  · exact .inl (by simp [isInstr, stop_none])
  · exact .inl rfl
  · exact .inr (by simp [fits, fitsT, hg]; try omega)
  · exact .inr (by simp [fits, fitsT, hg]; try omega)
  · exact .inl rfl
  · exact .inl rfl
  · exact .inl (bad_len (f := "run") (by decide +kernel) (by decide +kernel))
  · exact .inl rfl
  · exact .inl (bad_part (f := "rucn") (l := [114, 117, 99, 110]) (by decide +kernel) (by decide +kernel) rfl 2 (by decide) (by simp [isPart, whole, isNum, areRegs, diff] <;> omega))
  · exact .inl (bad_part (f := "k") (l := [107]) (by decide +kernel) (by decide +kernel) rfl 0 (by decide) (by simp [isPart, whole, isNum, areRegs, diff] <;> omega))
  · exact .inl (bad_part (f := "ral") (l := [114, 97, 108]) (by decide +kernel) (by decide +kernel) rfl 1 (by decide) (by have h : isAtom (.int (7)) = false := (by decide +kernel); simp [isPart, h]))
  · exact .inl (bad_part (f := "ral") (l := [114, 97, 108]) (by decide +kernel) (by decide +kernel) rfl 1 (by decide) (by have h : isAtom (.str "F") = false := (by decide +kernel); simp [isPart, h]))
  · exact .inl (bad_part (f := "rik") (l := [114, 105, 107]) (by decide +kernel) (by decide +kernel) rfl 1 (by decide) (by simp [isPart, whole, isNum, areRegs, diff] <;> omega))
  · exact .inl (bad_part (f := "rik") (l := [114, 105, 107]) (by decide +kernel) (by decide +kernel) rfl 1 (by decide) (by simp [isPart, whole, isNum, areRegs, diff] <;> omega))
  · exact .inl (bad_part (f := "rik") (l := [114, 105, 107]) (by decide +kernel) (by decide +kernel) rfl 1 (by decide) (by simp [isPart, whole, isNum, areRegs, diff] <;> omega))
  · exact .inl (bad_part (f := "rak") (l := [114, 97, 107]) (by decide +kernel) (by decide +kernel) rfl 1 (by decide) (by have h : isAtom (.str "") = false := (by decide +kernel); simp [isPart, h]))
  · exact .inl (bad_part (f := "rak") (l := [114, 97, 107]) (by decide +kernel) (by decide +kernel) rfl 1 (by decide) (by have h : isAtom (.int (3)) = false := (by decide +kernel); simp [isPart, h]))
  · exact .inl (bad_part (f := "rapk") (l := [114, 97, 112, 107]) (by decide +kernel) (by decide +kernel) rfl 1 (by decide) (by have h : isAtom (.str "") = false := (by decide +kernel); simp [isPart, h]))
  · exact .inl (bad_part (f := "rapk") (l := [114, 97, 112, 107]) (by decide +kernel) (by decide +kernel) rfl 2 (by decide) (by simp [isPart, whole, isNum, areRegs, diff] <;> omega))
  · exact .inl (bad_part (f := "rapk") (l := [114, 97, 112, 107]) (by decide +kernel) (by decide +kernel) rfl 2 (by decide) (by simp [isPart, whole, isNum, areRegs, diff] <;> omega))
  · exact .inl (bad_part (f := "ri") (l := [114, 105]) (by decide +kernel) (by decide +kernel) rfl 1 (by decide) (by simp [isPart, whole, isNum, areRegs, diff] <;> omega))
  · exact .inl (bad_part (f := "rm") (l := [114, 109]) (by decide +kernel) (by decide +kernel) rfl 1 (by decide) (by simp [isPart, whole, isNum, areRegs, diff] <;> omega))
  · exact .inl (bad_part (f := "un") (l := [117, 110]) (by decide +kernel) (by decide +kernel) rfl 1 (by decide) (by simp [isPart, whole, isNum, areRegs, diff] <;> omega))
  · exact .inl (bad_part (f := "run") (l := [114, 117, 110]) (by decide +kernel) (by decide +kernel) rfl 2 (by decide) (by simp [isPart, whole, isNum, areRegs, diff] <;> omega))
  · exact .inl (bad_part (f := "k") (l := [107]) (by decide +kernel) (by decide +kernel) rfl 0 (by decide) (by simp [isPart, whole, isNum, areRegs, diff] <;> omega))
  · exact .inl (bad_part (f := "rk") (l := [114, 107]) (by decide +kernel) (by decide +kernel) rfl 1 (by decide) (by simp [isPart, whole, isNum, areRegs, diff] <;> omega))
  · exact .inl (bad_part (f := "rucn") (l := [114, 117, 99, 110]) (by decide +kernel) (by decide +kernel) rfl 3 (by decide) (by simp [isPart, whole, isNum, areRegs, diff] <;> omega))
  · exact .inl (bad_part (f := "rucn") (l := [114, 117, 99, 110]) (by decide +kernel) (by decide +kernel) rfl 1 (by decide) (by simp [isPart, whole, isNum, areRegs, diff] <;> omega))
  · exact .inl (bad_part (f := "rucn") (l := [114, 117, 99, 110]) (by decide +kernel) (by decide +kernel) rfl 2 (by decide) (by simp [isPart, whole, isNum, areRegs, diff] <;> omega))
  · exact .inl (bad_part (f := "kr") (l := [107, 114]) (by decide +kernel) (by decide +kernel) rfl 1 (by decide) (by simp [isPart, whole, isNum, areRegs, diff] <;> omega))
  · exact .inl (bad_part (f := "ra") (l := [114, 97]) (by decide +kernel) (by decide +kernel) rfl 1 (by decide) (by have h : isAtom (.str "aaaaaaaaaaaaa") = false := (by decide +kernel); simp [isPart, h]))
  · exact .inl (bad_part (f := "ral") (l := [114, 97, 108]) (by decide +kernel) (by decide +kernel) rfl 1 (by decide) (by have h : isAtom (.str "aaaaaaaaaaaaa") = false := (by decide +kernel); simp [isPart, h]))
  · exact .inl (bad_part (f := "rb") (l := [114, 98]) (by decide +kernel) (by decide +kernel) rfl 1 (by decide) (by simp [isPart, whole, isNum, areRegs, diff] <;> omega))
  · exact .inl (bad_part (f := "srrr") (l := [115, 114, 114, 114]) (by decide +kernel) (by decide +kernel) rfl 0 (by decide) (by simp [isPart, signs]))
  · exact .inl (bad_len (f := "rr") (by decide +kernel) (by decide +kernel))
theorem okn {P : PyData → Prop} : ∀ x ∈ ([] : List PyData), P x := fun x hx => nomatch hx
theorem okc {P : PyData → Prop} {d : PyData} {ds : List PyData} (h : P d) (t : ∀ x ∈ ds, P x) : ∀ x ∈ d :: ds, P x := fun x hx => by
  rcases List.mem_cons.mp hx with rfl | h'
  · exact h
  · exact t x h'
theorem ok_repT {n : Nat} {m : Int} (h : m ≤ 1000) : OkD (n + 1) (.tuple (List.replicate m.toNat (.int 0))) := .tup (by rw [List.length_replicate]; omega) fun x hx => by rw [List.eq_of_mem_replicate hx]; exact .int 0
theorem ok_repL {n : Nat} {m : Int} (h : m ≤ 1000) : OkD (n + 1) (.list (List.replicate m.toNat (.int 0))) := .lst (by rw [List.length_replicate]; omega) fun x hx => by rw [List.eq_of_mem_replicate hx]; exact .int 0
theorem word_in {w f : Str} {rest : List PyData} (h : forms.lookup w = some f) : Word (.tuple (.str w :: rest)) := fun x r e => by cases e; exact .inr ⟨f, h⟩
theorem word_stop {rest : List PyData} : Word (.tuple (.str "stop" :: rest)) := fun x r e => by cases e; exact .inl rfl
theorem ok_rows {a c n g0 m : Int} (h0 : g0 ≤ 3) : ∀ d ∈ badRows a c n g0 m, OkD 2 d := (okc (.tup (by simp) (okc (.str (by decide +kernel) (by decide +kernel)) (okc (.int _) okn))) (okc (.tup (by simp) (okc (.str (by decide +kernel) (by decide +kernel)) (okc (.int _) okn))) (okc (.tup (by simp) (okc (.str (by decide +kernel) (by decide +kernel)) (okc (.bl _) okn))) (okc (.tup (by simp) (okc (.str (by decide +kernel) (by decide +kernel)) okn)) (okc (.tup (by simp) (okc (.str (by decide +kernel) (by decide +kernel)) (okc (.int _) (okc (.int _) okn)))) (okc (.tup (by simp) (okc (.str (by decide +kernel) (by decide +kernel)) (okc (.int _) (okc (.int _) okn)))) (okc (.tup (by simp) (okc (.str (by decide +kernel) (by decide +kernel)) (okc (.int _) (okc (.int _) okn)))) (okc (.tup (by simp) (okc (.str (by decide +kernel) (by decide +kernel)) (okc (.int _) (okc (.str (by decide +kernel) (by decide +kernel)) okn)))) (okc (.tup (by simp) (okc (.str (by decide +kernel) (by decide +kernel)) (okc (.int _) (okc (.str (by decide +kernel) (by decide +kernel)) okn)))) (okc (.tup (by simp) (okc (.str (by decide +kernel) (by decide +kernel)) (okc (.int _) (okc (.str (by decide +kernel) (by decide +kernel)) okn)))) (okc (.tup (by simp) (okc (.str (by decide +kernel) (by decide +kernel)) (okc (.int _) (okc (.str (by decide +kernel) (by decide +kernel)) (okc (.tup (by simp) okn) okn))))) (okc (.tup (by simp) (okc (.str (by decide +kernel) (by decide +kernel)) (okc (.int _) (okc (.str (by decide +kernel) (by decide +kernel)) (okc (.lst (by simp) (okc (.int _) okn)) okn))))) (okc (.tup (by simp) (okc (.str (by decide +kernel) (by decide +kernel)) (okc (.int _) (okc (.str (by decide +kernel) (by decide +kernel)) (okc (ok_repT (by omega)) okn))))) (okc (.tup (by simp) (okc (.str (by decide +kernel) (by decide +kernel)) (okc (.int _) okn))) (okc (.tup (by simp) (okc (.str (by decide +kernel) (by decide +kernel)) (okc (.int _) okn))) (okc (.tup (by simp) (okc (.str (by decide +kernel) (by decide +kernel)) (okc (.int _) (okc (.int _) okn)))) (okc (.tup (by simp) (okc (.str (by decide +kernel) (by decide +kernel)) (okc (.int _) (okc (.int _) okn)))) (okc (.tup (by simp) (okc (.str (by decide +kernel) (by decide +kernel)) (okc (.int _) (okc (.str (by decide +kernel) (by decide +kernel)) (okc (.tup (by simp) (okc (.int _) (okc (.int _) okn))) (okc (.int _) okn)))))) (okc (.tup (by simp) (okc (.str (by decide +kernel) (by decide +kernel)) (okc (.int _) (okc (ok_repT (by omega)) okn)))) (okc (.tup (by simp) (okc (.str (by decide +kernel) (by decide +kernel)) (okc (.str (by decide +kernel) (by decide +kernel)) (okc (.int _) (okc (.int _) (okc (.int _) okn)))))) (okc (.tup (by simp) (okc (.str (by decide +kernel) (by decide +kernel)) (okc (.int _) (okc (.tup (by simp) okn) okn)))) (okc (.tup (by simp) (okc (.str (by decide +kernel) (by decide +kernel)) okn)) (okc (.tup (by simp) okn) (okc (.tup (by simp) (okc (.str (by decide +kernel) (by decide +kernel)) (okc (.int _) (okc (.int _) (okc (.int _) (okc (ok_repT (by omega)) okn)))))) (okc (.tup (by simp) (okc (.str (by decide +kernel) (by decide +kernel)) (okc (.int _) (okc (ok_repT (by omega)) okn)))) (okc (.lst (by simp) (okc (.str (by decide +kernel) (by decide +kernel)) okn)) (okc .non (okc (.tup (by simp) (okc (.str (by decide +kernel) (by decide +kernel)) (okc (.int _) (okc (.int _) okn)))) (okc (.tup (by simp) (okc (.lst (by simp) (okc (.str (by decide +kernel) (by decide +kernel)) okn)) (okc (.int _) okn))) (okc (.tup (by simp) (okc (.str (by decide +kernel) (by decide +kernel)) (okc (.int _) (okc (.int _) (okc (.int _) (okc (.tup (by simp) okn) okn)))))) (okc (.tup (by simp) (okc (.str (by decide +kernel) (by decide +kernel)) (okc .non okn))) (okc (.tup (by simp) (okc (.str (by decide +kernel) (by decide +kernel)) (okc (.int _) (okc (.int _) (okc (.tup (by simp) (okc (.int _) okn)) okn))))) (okc (.tup (by simp) (okc (.str (by decide +kernel) (by decide +kernel)) (okc (.int _) (okc (.str (by decide +kernel) (by decide +kernel)) (okc (.tup (by simp) (okc (.int _) okn)) okn))))) (okc (.tup (by simp) (okc (.str (by decide +kernel) (by decide +kernel)) (okc (.int _) (okc .non (okc (.int _) okn))))) (okc (.tup (by simp) (okc (.str (by decide +kernel) (by decide +kernel)) (okc (.int _) (okc (.bl _) (okc (.int _) okn))))) (okc (.tup (by simp) (okc (.str (by decide +kernel) (by decide +kernel)) (okc (.int _) (okc (.int _) (okc (.int _) okn))))) (okc (.tup (by simp) (okc (.str (by decide +kernel) (by decide +kernel)) (okc (.int _) (okc (.str (by decide +kernel) (by decide +kernel)) (okc (.int _) okn))))) (okc (.tup (by simp) (okc (.str (by decide +kernel) (by decide +kernel)) (okc (.int _) (okc (.int _) (okc (.int _) okn))))) (okc (.tup (by simp) (okc (.str (by decide +kernel) (by decide +kernel)) (okc (.int _) (okc (.str (by decide +kernel) (by decide +kernel)) (okc (.tup (by simp) (okc (.int _) okn)) (okc (.int _) okn)))))) (okc (.tup (by simp) (okc (.str (by decide +kernel) (by decide +kernel)) (okc (.int _) (okc (.str (by decide +kernel) (by decide +kernel)) (okc (.tup (by simp) (okc (.int _) (okc (.int _) (okc (.int _) (okc (.int _) (okc (.int _) (okc (.int _) (okc (.int _) okn)))))))) (okc (.int _) okn)))))) (okc (.tup (by simp) (okc (.str (by decide +kernel) (by decide +kernel)) (okc (.int _) (okc (.str (by decide +kernel) (by decide +kernel)) (okc (.tup (by simp) okn) (okc (.int _) okn)))))) (okc (.tup (by simp) (okc (.str (by decide +kernel) (by decide +kernel)) (okc (.int _) (okc (.bl _) okn)))) (okc (.tup (by simp) (okc (.str (by decide +kernel) (by decide +kernel)) (okc (.int _) (okc (.lst (by simp) (okc (.int _) okn)) okn)))) (okc (.tup (by simp) (okc (.str (by decide +kernel) (by decide +kernel)) (okc (.int _) (okc (ok_repL (by omega)) okn)))) (okc (.tup (by simp) (okc (.str (by decide +kernel) (by decide +kernel)) (okc (.int _) (okc (.int _) (okc (ok_repL (by omega)) okn))))) (okc (.tup (by simp) (okc (.str (by decide +kernel) (by decide +kernel)) (okc (.bl _) okn))) (okc (.tup (by simp) (okc (.str (by decide +kernel) (by decide +kernel)) (okc (.int _) (okc (.bl _) okn)))) (okc (.tup (by simp) (okc (.str (by decide +kernel) (by decide +kernel)) (okc (.int _) (okc (.int _) (okc (.int _) (okc (ok_repL (by omega)) okn)))))) (okc (.tup (by simp) (okc (.str (by decide +kernel) (by decide +kernel)) (okc (.int _) (okc (.bl _) (okc (.int _) (okc (.tup (by simp) okn) okn)))))) (okc (.tup (by simp) (okc (.str (by decide +kernel) (by decide +kernel)) (okc (.int _) (okc (.int _) (okc (.bl _) (okc (.tup (by simp) okn) okn)))))) (okc (.tup (by simp) (okc (.str (by decide +kernel) (by decide +kernel)) (okc (.int _) (okc (.bl _) okn)))) (okc (.tup (by simp) (okc (.str (by decide +kernel) (by decide +kernel)) (okc (.int _) (okc (.str (by decide +kernel) (by decide +kernel)) okn)))) (okc (.tup (by simp) (okc (.str (by decide +kernel) (by decide +kernel)) (okc (.int _) (okc (.str (by decide +kernel) (by decide +kernel)) (okc (.tup (by simp) (okc (.int _) okn)) okn))))) (okc (.tup (by simp) (okc (.str (by decide +kernel) (by decide +kernel)) (okc (.int _) (okc (.bl _) okn)))) (okc (.tup (by simp) (okc (.str (by decide +kernel) (by decide +kernel)) (okc (.lst (by simp) (okc (.str (by decide +kernel) (by decide +kernel)) okn)) (okc (.int _) (okc (.int _) (okc (.int _) okn)))))) (okc (.tup (by simp) (okc (.str (by decide +kernel) (by decide +kernel)) (okc (.int _) okn))) okn))))))))))))))))))))))))))))))))))))))))))))))))))))))))
theorem word_rows {a c n g0 m : Int} : ∀ d ∈ badRows a c n g0 m, Word d := (okc (word_in (f := "r") (by decide +kernel)) (okc (word_in (f := "r") (by decide +kernel)) (okc (word_in (f := "r") (by decide +kernel)) (okc (word_in (f := "r") (by decide +kernel)) (okc (word_in (f := "r") (by decide +kernel)) (okc (word_in (f := "rb") (by decide +kernel)) (okc (word_in (f := "ri") (by decide +kernel)) (okc (word_in (f := "ri") (by decide +kernel)) (okc (word_in (f := "ra") (by decide +kernel)) (okc (word_in (f := "ra") (by decide +kernel)) (okc (word_in (f := "ral") (by decide +kernel)) (okc (word_in (f := "ral") (by decide +kernel)) (okc (word_in (f := "ral") (by decide +kernel)) (okc (word_in (f := "k") (by decide +kernel)) (okc (word_in (f := "k") (by decide +kernel)) (okc (word_in (f := "rk") (by decide +kernel)) (okc (word_in (f := "kr") (by decide +kernel)) (okc (word_in (f := "rapk") (by decide +kernel)) (okc (word_in (f := "rm") (by decide +kernel)) (okc (word_in (f := "srrr") (by decide +kernel)) (okc (word_in (f := "un") (by decide +kernel)) (okc word_stop (okc (fun x r e => by cases e) (okc (word_in (f := "rucn") (by decide +kernel)) (okc (word_in (f := "un") (by decide +kernel)) (okc (fun x r e => by cases e) (okc (fun x r e => by cases e) (okc (word_in (f := "run") (by decide +kernel)) (okc (fun x r e => by cases e) (okc (word_in (f := "rucn") (by decide +kernel)) (okc (word_in (f := "k") (by decide +kernel)) (okc (word_in (f := "ral") (by decide +kernel)) (okc (word_in (f := "ral") (by decide +kernel)) (okc (word_in (f := "rik") (by decide +kernel)) (okc (word_in (f := "rik") (by decide +kernel)) (okc (word_in (f := "rik") (by decide +kernel)) (okc (word_in (f := "rak") (by decide +kernel)) (okc (word_in (f := "rak") (by decide +kernel)) (okc (word_in (f := "rapk") (by decide +kernel)) (okc (word_in (f := "rapk") (by decide +kernel)) (okc (word_in (f := "rapk") (by decide +kernel)) (okc (word_in (f := "ri") (by decide +kernel)) (okc (word_in (f := "rm") (by decide +kernel)) (okc (word_in (f := "un") (by decide +kernel)) (okc (word_in (f := "run") (by decide +kernel)) (okc (word_in (f := "k") (by decide +kernel)) (okc (word_in (f := "rk") (by decide +kernel)) (okc (word_in (f := "rucn") (by decide +kernel)) (okc (word_in (f := "rucn") (by decide +kernel)) (okc (word_in (f := "rucn") (by decide +kernel)) (okc (word_in (f := "kr") (by decide +kernel)) (okc (word_in (f := "ra") (by decide +kernel)) (okc (word_in (f := "ral") (by decide +kernel)) (okc (word_in (f := "rb") (by decide +kernel)) (okc (word_in (f := "srrr") (by decide +kernel)) (okc (word_in (f := "rr") (by decide +kernel)) okn))))))))))))))))))))))))))))))))))))))))))))))))))))))))
end K40
set_option Elab.async false
set_option linter.all false
set_option maxRecDepth 100000
set_option maxHeartbeats 4000000
namespace K40
open PySem PySem.Spec PyProof.Rows L2 Z
theorem insAll_all {us : List PyData} {r : Int} {n : Nat} : ∀ (ds : List PyData) (k : Nat), (∀ (j : Nat) d, ds[j]? = some d → isInstr d ((k + j : Nat) : Int) r n us.length = true ∧ fits d (us.map given) = true) → insAll us r n ds k = true
  | [], k, h => rfl
  | d :: ds, k, h => by
    have h0 := h 0 d rfl
    rw [Nat.add_zero] at h0
    rw [insAll, h0.1, h0.2, insAll_all ds (k + 1) fun j d' e => by
      have := h (j + 1) d' (by simpa using e)
      rw [show k + (j + 1) = k + 1 + j by omega] at this
      exact this]
    rfl
theorem insAll_no {us l m : List PyData} {d : PyData} {r : Int} {n : Nat} (h : Bad d (l.length : Int) r n (us.map given)) : insAll us r n (l ++ [d] ++ m) 0 = false := by
  rw [insAll_app, insAll_app]
  have e : insAll us r n [d] (0 + l.length) = false := by
    rw [Nat.zero_add, insAll, insAll]
    rcases h with h | h
    · rw [List.length_map] at h; rw [h]; rfl
    · rw [h]; simp
  rw [e]; simp
theorem isCode_no {us : List PyData} {x : PyData} (hx : x ∈ us) (h : isUnit x = false ∨ insOk us x = false) : isCode (.tuple us) = false := by
  rw [isCode]
  rcases h with h | h
  · have : us.all isUnit = false := List.all_eq_false.mpr ⟨x, hx, by rw [h]; exact Bool.false_ne_true⟩
    rw [this]; simp
  · have : us.all (insOk us) = false := List.all_eq_false.mpr ⟨x, hx, by rw [h]; exact Bool.false_ne_true⟩
    rw [this]; simp
theorem GoodIns.ok {k c : Int} {gs : List Int} {d : PyData} (h : GoodIns k c gs d) : OkD 2 d ∧ Word d := by
  obtain ⟨x, rest, rfl, g⟩ := h
  refine ⟨.tup (by have := g.len; rw [List.length_cons]; omega) fun y hy => ?_, ?_⟩
  · rcases List.mem_cons.mp hy with rfl | hy
    · have hi := g.ins (k + 3).toNat
      have : isInstr (.tuple (.str x :: rest)) k c (k + 3).toNat gs.length = true := hi (by omega)
      rw [isInstr] at this
      cases e : forms.lookup x with
      | none => rw [e] at this; cases this
      | some f =>
        have hs : ∀ p ∈ forms, PyData.strOk p.1 = true ∧ p.1.length ≤ 1000 := by decide +kernel
        have hm := hs _ (lookup_mem e)
        exact .str hm.1 hm.2
    · exact g.ok y hy
  · have hi := g.ins (k + 3).toNat
    have : isInstr (.tuple (.str x :: rest)) k c (k + 3).toNat gs.length = true := hi (by omega)
    rw [isInstr] at this
    cases e : forms.lookup x with
    | none => rw [e] at this; cases this
    | some f => exact word_in e
theorem ok_end : OkD 2 endT ∧ Word endT := ⟨.tup (by simp) (okc (.str (by decide +kernel) (by decide +kernel)) okn), word_in (f := "") (by decide +kernel)⟩
section
variable {us : List UnitD} {ud : UnitD} {gs : List Int} {u : Nat}
theorem GoodUnit.rowsOk (g : GoodUnit gs ud) : ∀ d ∈ ud.2.2, OkD 2 d ∧ Word d := by
  obtain ⟨is, e, h1, h8, hr⟩ := g.rows
  intro d hd
  rw [e] at hd
  rcases List.mem_append.mp hd with h | h
  · obtain ⟨k, hk⟩ := List.getElem?_of_mem h
    exact (hr k d hk).ok
  · have : d = endT := by simpa using h
    rw [this]; exact ok_end
theorem GoodUnit.len (g : GoodUnit gs ud) : 3 ≤ ud.2.2.length ∧ ud.2.2.length ≤ 10 := by
  obtain ⟨is, e, h1, h8, hr⟩ := g.rows
  rw [e, List.length_append]
  simp only [List.length_cons, List.length_nil]
  omega
theorem ok_unit {g c : Int} {is : List PyData} (hl : is.length ≤ 1000) (h : ∀ d ∈ is, OkD 2 d) : OkD 4 (.tuple [.int g, .int c, .tuple is]) :=
  .tup (by simp) (okc (.int _) (okc (.int _) (okc (.tup hl h) okn)))
theorem GoodUnit.ok (g : GoodUnit gs ud) : OkD 4 (unitD ud) := ok_unit (by have := g.len; omega) fun d hd => (g.rowsOk d hd).1
/-- the words within a unit -/
def WordsU (x : PyData) : Prop := ∀ g r is, x = .tuple [g, r, .tuple is] → ∀ d ∈ is, Word d
theorem GoodUnit.words (g : GoodUnit gs ud) : WordsU (unitD ud) := fun a b is e d hd => by
  cases e
  exact (g.rowsOk d hd).2
theorem unit_is (g : GoodUnit gs ud) : isUnit (unitD ud) = true := by
  have hl := g.len
  obtain ⟨is, e, h1, h8, hr⟩ := g.rows
  have hg := g.g0; have hc := g.c0
  have he : PyData.eqv endT endT = true := by decide +kernel
  have hlast : ud.2.2.getLast? = some endT := by rw [e]; simp
  simp only [unitD, isUnit, hlast, he, whole, Bool.and_true, Bool.and_eq_true, decide_eq_true_eq]
  omega
theorem good_ins (g : GoodUnit gs ud) {us : List PyData} (hgs : us.map given = gs) : insOk us (unitD ud) = true := by
  have hl := g.len
  obtain ⟨is, e, h1, h8, hr⟩ := g.rows
  have hul : us.length = gs.length := by rw [← hgs, List.length_map]
  show insAll us ud.2.1 ud.2.2.length ud.2.2 0 = true
  refine insAll_all _ 0 fun j d hj => ?_
  rw [Nat.zero_add, hul, hgs]
  rw [e] at hj
  have hn : ud.2.2.length = is.length + 2 := by rw [e, List.length_append]; rfl
  rw [hn]
  rcases Nat.lt_or_ge j is.length with h | h
  · rw [List.getElem?_append_left h] at hj
    obtain ⟨x, rest, rfl, gr⟩ := hr j d hj
    exact ⟨gr.ins _ (by omega), gr.fit⟩
  · rw [List.getElem?_append_right h] at hj
    have hd : d = endT := by
      have := List.mem_of_getElem? hj
      simpa using this
    subst hd
    refine ⟨?_, (w_fit (w := "end") (rest := []) (by decide +kernel) : fitsT "end" [] gs = true)⟩
    show isInstr (.tuple (.str "end" :: [])) _ _ _ _ = true
    rw [isInstr_eq (f := "") (l := []) (by decide +kernel) (by decide +kernel) rfl]
    rfl
theorem given_units : ∀ us : List UnitD, (us.map unitD).map given = us.map (·.1) := fun us => by
  rw [List.map_map]; rfl
theorem good_code (g : GoodCode us) : isCode (.tuple (us.map unitD)) = true := by
  have h1 := g.l1; have h3 := g.l3
  rw [isCode, List.length_map]
  simp only [Bool.and_eq_true, decide_eq_true_eq, List.all_eq_true]
  refine ⟨⟨by omega, fun x hx => ?_⟩, fun x hx => ?_⟩
  · obtain ⟨ud, hu, rfl⟩ := List.mem_map.mp hx
    exact unit_is (g.all ud hu)
  · obtain ⟨ud, hu, rfl⟩ := List.mem_map.mp hx
    exact good_ins (g.all ud hu) (given_units us)
theorem good_ok (g : GoodCode us) : (∀ x ∈ us.map unitD, OkD 4 x) ∧ ∀ x ∈ us.map unitD, WordsU x := by
  refine ⟨fun x hx => ?_, fun x hx => ?_⟩
  · obtain ⟨ud, hu, rfl⟩ := List.mem_map.mp hx
    exact (g.all ud hu).ok
  · obtain ⟨ud, hu, rfl⟩ := List.mem_map.mp hx
    exact (g.all ud hu).words
/-- plain data that is no code -/
structure NoCode (d : PyData) : Prop where
  ok : OkD 5 d
  words : ∀ us, d = .tuple us → Words us
  no : isCode d = false
theorem no_tup {us : List PyData} {x : PyData} (hl : us.length ≤ 1000) (ok : ∀ y ∈ us, OkD 4 y) (wd : ∀ y ∈ us, WordsU y) (hx : x ∈ us) (h : isUnit x = false ∨ insOk us x = false) : NoCode (.tuple us) where
  ok := .tup hl ok
  words := fun us' e u hu => by cases e; exact wd u hu
  no := isCode_no hx h
theorem mem_setU {x y : PyData} (h : y ∈ setU us u x) : y ∈ us.map unitD ∨ y = x := by
  unfold setU at h
  rcases List.mem_append.mp h with h | h
  · rcases List.mem_append.mp h with h | h
    · exact .inl (List.mem_of_mem_take h)
    · exact .inr (List.mem_singleton.mp h)
  · exact .inl (List.mem_of_mem_drop h)
theorem no_set {x : PyData} (g : GoodCode us) (ok : OkD 4 x) (wd : WordsU x) (h : isUnit x = false ∨ insOk (setU us u x) x = false) : NoCode (.tuple (setU us u x)) := by
  have h3 := g.l3
  refine no_tup (x := x) ?_ (fun y hy => ?_) (fun y hy => ?_) ?_ h
  · unfold setU
    simp only [List.length_append, List.length_take, List.length_drop, List.length_map, List.length_singleton]
    omega
  · rcases mem_setU hy with h | rfl
    · exact (good_ok g).1 y h
    · exact ok
  · rcases mem_setU hy with h | rfl
    · exact (good_ok g).2 y h
    · exact wd
  · unfold setU; simp
/-- one row is none -/
theorem no_row {a : Nat} {d : PyData} (g : GoodCode us) (hu : us[u]? = some ud) (ha : a + 1 < ud.2.2.length) (ok : OkD 2 d) (wd : Word d) (b : Bad d (a : Int) ud.2.1 ud.2.2.length (us.map (·.1))) :
    NoCode (.tuple (setU us u (.tuple [.int ud.1, .int ud.2.1, .tuple (ud.2.2.take a ++ [d] ++ ud.2.2.drop (a + 1))]))) := by
  have gu := g.all ud (List.mem_of_getElem? hu)
  have hl := gu.len
  have hrow : ∀ y ∈ ud.2.2.take a ++ [d] ++ ud.2.2.drop (a + 1), OkD 2 y ∧ Word y := by
    intro y hy
    rcases List.mem_append.mp hy with h | h
    · rcases List.mem_append.mp h with h | h
      · exact gu.rowsOk y (List.mem_of_mem_take h)
      · rw [List.mem_singleton.mp h]; exact ⟨ok, wd⟩
    · exact gu.rowsOk y (List.mem_of_mem_drop h)
  have hlen : (ud.2.2.take a ++ [d] ++ ud.2.2.drop (a + 1)).length = ud.2.2.length := by
    simp only [List.length_append, List.length_take, List.length_drop, List.length_singleton]
    omega
  refine no_set g (ok_unit (by rw [hlen]; omega) fun y hy => (hrow y hy).1) (fun a b is e y hy => by cases e; exact (hrow y hy).2) (.inr ?_)
  have hgiv : (setU us u (.tuple [.int ud.1, .int ud.2.1, .tuple (ud.2.2.take a ++ [d] ++ ud.2.2.drop (a + 1))])).map given = us.map (·.1) := by
    unfold setU
    rw [List.map_append, List.map_append, List.map_take, List.map_drop, given_units]
    show (us.map (·.1)).take u ++ [ud.1] ++ (us.map (·.1)).drop (u + 1) = us.map (·.1)
    have hm : (us.map (·.1))[u]? = some ud.1 := by rw [List.getElem?_map, hu]; rfl
    rw [← take_get hm, List.take_append_drop]
  show insAll _ ud.2.1 (ud.2.2.take a ++ [d] ++ ud.2.2.drop (a + 1)).length _ 0 = false
  rw [hlen]
  refine insAll_no ?_
  rw [hgiv, List.length_take, Nat.min_eq_left (by omega)]
  exact b
theorem no_end {a : Nat} (g : GoodCode us) (hu : us[u]? = some ud) : NoCode (.tuple (setU us u (.tuple [.int ud.1, .int ud.2.1, .tuple (ud.2.2.take a ++ [.tuple [.str "untry"]])]))) := by
  have gu := g.all ud (List.mem_of_getElem? hu)
  have hl := gu.len
  have hrow : ∀ y ∈ ud.2.2.take a ++ [.tuple [.str "untry"]], OkD 2 y ∧ Word y := by
    intro y hy
    rcases List.mem_append.mp hy with h | h
    · exact gu.rowsOk y (List.mem_of_mem_take h)
    · rw [List.mem_singleton.mp h]; exact ⟨.tup (by simp) (okc (.str (by decide +kernel) (by decide +kernel)) okn), word_in (f := "") (by decide +kernel)⟩
  refine no_set g (ok_unit (by rw [List.length_append, List.length_take, List.length_singleton]; omega) fun y hy => (hrow y hy).1) (fun a b is e y hy => by cases e; exact (hrow y hy).2) (.inl ?_)
  have he : PyData.eqv (.tuple [.str "untry"]) endT = false := by decide +kernel
  have hlast : (ud.2.2.take a ++ [PyData.tuple [.str "untry"]]).getLast? = some (.tuple [.str "untry"]) := by simp
  simp only [isUnit, hlast, he, Bool.and_false]
theorem no_given (g : GoodCode us) (hu : us[u]? = some ud) : NoCode (.tuple (setU us u (.tuple [.int (ud.2.1 + 1), .int ud.2.1, .tuple ud.2.2]))) := by
  have gu := g.all ud (List.mem_of_getElem? hu)
  have hl := gu.len
  refine no_set g (ok_unit (by omega) fun y hy => (gu.rowsOk y hy).1) (fun a b is e y hy => by cases e; exact (gu.rowsOk y hy).2) (.inl ?_)
  simp only [isUnit, whole]
  have : decide (ud.2.1 + 1 ≤ ud.2.1) = false := decide_eq_false (by omega)
  rw [this]; simp
theorem no_list (g : GoodCode us) (hu : us[u]? = some ud) : NoCode (.tuple (setU us u (.list [.int ud.1, .int ud.2.1, .tuple ud.2.2]))) := by
  have gu := g.all ud (List.mem_of_getElem? hu)
  have hl := gu.len
  exact no_set g (.lst (by simp) (okc (.int _) (okc (.int _) (okc (.tup (by omega) fun y hy => (gu.rowsOk y hy).1) okn)))) (fun a b is e y hy => by cases e) (.inl rfl)
theorem no_rowlist (g : GoodCode us) (hu : us[u]? = some ud) : NoCode (.tuple (setU us u (.tuple [.int ud.1, .int ud.2.1, .list ud.2.2]))) := by
  have gu := g.all ud (List.mem_of_getElem? hu)
  have hl := gu.len
  exact no_set g (.tup (by simp) (okc (.int _) (okc (.int _) (okc (.lst (by omega) fun y hy => (gu.rowsOk y hy).1) okn)))) (fun a b is e y hy => by cases e) (.inl rfl)
/-- the five whole values that are none -/
def wrong (us : List UnitD) : List PyData := [.list (us.map unitD), .tuple [], .none, .tuple (us.map unitD ++ [.tuple []]), .tuple (us.map unitD ++ [.tuple [.int 0, .int 0, .tuple []]])]
theorem no_wrong (g : GoodCode us) : ∀ d ∈ wrong us, NoCode d := by
  have h1 := g.l1; have h3 := g.l3
  have hk := good_ok g
  have app : ∀ x, OkD 4 x → WordsU x → isUnit x = false → NoCode (.tuple (us.map unitD ++ [x])) := fun x ok wd h => by
    refine no_tup (x := x) (by rw [List.length_append, List.length_map, List.length_singleton]; omega) (fun y hy => ?_) (fun y hy => ?_) (by simp) (.inl h)
    · rcases List.mem_append.mp hy with h | h
      · exact hk.1 y h
      · rw [List.mem_singleton.mp h]; exact ok
    · rcases List.mem_append.mp hy with h | h
      · exact hk.2 y h
      · rw [List.mem_singleton.mp h]; exact wd
  refine okc ?_ (okc ?_ (okc ?_ (okc ?_ (okc ?_ okn))))
  · exact ⟨.lst (by rw [List.length_map]; omega) hk.1, fun us' e => (by cases e), rfl⟩
  · exact ⟨.tup (by simp) okn, fun us' e => (by cases e; exact fun u hu => nomatch hu), rfl⟩
  · exact ⟨.non, fun us' e => (by cases e), rfl⟩
  · exact app _ (.tup (by simp) okn) (fun a b is e => by cases e) rfl
  · exact app _ (ok_unit (by simp) okn) (fun a b is e y hy => by cases e; cases hy) rfl
end
end K40
set_option Elab.async false
set_option linter.all false
set_option maxRecDepth 100000
set_option maxHeartbeats 4000000

namespace K40
open PySem PySem.Spec PyProof.Rows L2 Z
section
variable {P : Program} {w : World} {K : PySem.W.Frag} {mg : Str → Option Value} {base : Heap} {aSIGNS aFORMS : Addr}
def sp_hurt (K : PySem.W.Frag) : Sp := fun vs H Q _ => ∃ (st l pc : Addr) (cvs : List V) (us : List UnitD), vs = [.ref st, .ref pc] ∧ Strm H st l ∧ SqT K H pc cvs ∧ UnitVs K H cvs us ∧ GoodCode us ∧
  ∀ v d H', Dp K H' v d → NoCode d → Q v H'
theorem cal_law_hurt (T : Txt K w mg aSIGNS aFORMS) : C8.Cal P w K mg base 2 "_law_hurt" (sp_hurt K) [] := by
  refine cal_mk T.d_law_hurt (fun _ _ _ _ _ _ us hl => match us, hl with | [_, _], _ => rfl) sc_law_hurt (fun vs H Q E h => ?_) (fun f cdv A outer s H vs Q E hr h => ?_)
  · obtain ⟨st, l, pc, cvs, us, rfl, _⟩ := h; rfl
  · obtain ⟨st, l, pc, cvs, us, rfl, hst, hpc, huv, gc, q⟩ := h
    refine ⟨_, (pss_cons (ps_set (i := 2) sc_law_hurt.nd rfl (Or.inl rfl) (C8.pe_c (cal_law_draw T) hr (by decide) (by rfl) (pa_cons (pv 0) (pa_cons (pe_callB (lenK K) (by rfl) T.z_len (by decide +kernel) (pa_cons (pv 1) pa_nil)) pa_nil))))
  (pss_cons (ps_asg (pe_ix (ixK K w hr) (pv 1) (pv 2) (fun _ _ => rfl)) (tupG K (by rfl) (pgs_cons (pg_name (i := 3) sc_law_hurt.nd rfl (Or.inl rfl)) (pgs_cons (pg_name (i := 4) sc_law_hurt.nd rfl (Or.inl rfl)) (pgs_cons (pg_name (i := 5) sc_law_hurt.nd rfl (Or.inl rfl)) pgs_nil)))))
  (pss_cons (ps_set (i := 6) sc_law_hurt.nd rfl (Or.inl rfl) (C8.pe_c (cal_law_draw T) hr (by decide) (by rfl) (pa_cons (pv 0) (pa_cons pe_int pa_nil))))
  (pss_cons (ps_if (pt_cmpR (eqK K hr) (pv 6) pe_int (nomark _)) (pss_one (ps_ret (pe_op (addK K) (pe_op (addK K) (pe_slice (slK K) (pv 1) po_none (po_some (pv 2))) (pe_tup (pa_cons (pe_tup (pa_cons (pv 3) (pa_cons (pv 4) (pa_cons (pe_op (addK K) (pe_slice (slK K) (pv 5) po_none (po_some (pe_un un_neg pe_int))) (pe_tup (pa_cons (pe_tup (pa_cons pe_str pa_nil)) pa_nil))) pa_nil)))) pa_nil))) (pe_slice (slK K) (pv 1) (po_some (pe_op (addK K) (pv 2) pe_int)) po_none)))) pss_nil)
  (pss_cons (ps_if (pt_cmpR (eqK K hr) (pv 6) pe_int (nomark _)) (pss_one (ps_ret (pe_op (addK K) (pe_op (addK K) (pe_slice (slK K) (pv 1) po_none (po_some (pv 2))) (pe_tup (pa_cons (pe_tup (pa_cons (pe_op (addK K) (pv 4) pe_int) (pa_cons (pv 4) (pa_cons (pv 5) pa_nil)))) pa_nil))) (pe_slice (slK K) (pv 1) (po_some (pe_op (addK K) (pv 2) pe_int)) po_none)))) pss_nil)
  (pss_cons (ps_if (pt_cmpR (eqK K hr) (pv 6) pe_int (nomark _)) (pss_one (ps_ret (pe_op (addK K) (pe_op (addK K) (pe_slice (slK K) (pv 1) po_none (po_some (pv 2))) (pe_tup (pa_cons (pe_lst (pa_cons (pv 3) (pa_cons (pv 4) (pa_cons (pv 5) pa_nil)))) pa_nil))) (pe_slice (slK K) (pv 1) (po_some (pe_op (addK K) (pv 2) pe_int)) po_none)))) pss_nil)
  (pss_cons (ps_if (pt_cmpR (eqK K hr) (pv 6) pe_int (nomark _)) (pss_one (ps_ret (pe_op (addK K) (pe_op (addK K) (pe_slice (slK K) (pv 1) po_none (po_some (pv 2))) (pe_tup (pa_cons (pe_tup (pa_cons (pv 3) (pa_cons (pv 4) (pa_cons (pe_callTy (listOfK K) (by rfl) T.z_list (by decide +kernel) (pa_cons (pv 5) pa_nil)) pa_nil)))) pa_nil))) (pe_slice (slK K) (pv 1) (po_some (pe_op (addK K) (pv 2) pe_int)) po_none)))) pss_nil)
  (pss_cons (ps_if (pt_cmpR (eqK K hr) (pv 6) pe_int (nomark _)) (pss_one (ps_ret (pe_ix (ixK K w hr) (pe_lst (pa_cons (pe_callTy (listOfK K) (by rfl) T.z_list (by decide +kernel) (pa_cons (pv 1) pa_nil)) (pa_cons (pe_tup pa_nil) (pa_cons pe_non (pa_cons (pe_op (addK K) (pv 1) (pe_tup (pa_cons (pe_tup pa_nil) pa_nil))) (pa_cons (pe_op (addK K) (pv 1) (pe_tup (pa_cons (pe_tup (pa_cons pe_int (pa_cons pe_int (pa_cons (pe_tup pa_nil) pa_nil)))) pa_nil))) pa_nil)))))) (C8.pe_c (cal_law_draw T) hr (by decide) (by rfl) (pa_cons (pv 0) (pa_cons pe_int pa_nil))) (fun _ _ => rfl)))) pss_nil)
  (pss_cons (ps_set (i := 7) sc_law_hurt.nd rfl (Or.inl rfl) (C8.pe_c (cal_law_draw T) hr (by decide) (by rfl) (pa_cons (pv 0) (pa_cons (pe_op op_sub (pe_callB (lenK K) (by rfl) T.z_len (by decide +kernel) (pa_cons (pv 5) pa_nil)) pe_int) pa_nil))))
  (pss_cons (ps_set (i := 8) sc_law_hurt.nd rfl (Or.inl rfl) (C8.pe_c (cal_law_bad_rows T) hr (by decide) (by rfl) (pa_cons (pv 7) (pa_cons (pv 4) (pa_cons (pe_callB (lenK K) (by rfl) T.z_len (by decide +kernel) (pa_cons (pv 5) pa_nil)) (pa_cons (pe_lc (own := [("_law_unit", 9)]) (by rfl) sc_law_hurt.nd (tupI K (pv 1)) (blkOk_by (own := [("_law_unit", 9)]) (N := n_law_hurt) (sc := C8.fnScope s_law_hurt) (by decide +kernel)) (fun _ _ _ _ _ => (pg_name (i := 9) sc_law_hurt.nd rfl (Or.inl rfl))) (fun _ _ _ _ _ => pts_nil) (fun _ _ _ _ _ => (pe_ix (ixK K w hr) (pv 9) pe_int (fun _ _ => rfl)))) pa_nil))))))
  (pss_one (ps_ret (C8.pe_c (cal_law_put T) hr (by decide) (by rfl) (pa_cons (pv 1) (pa_cons (pv 2) (pa_cons (pv 7) (pa_cons (pe_ix (ixK K w hr) (pv 8) (C8.pe_c (cal_law_draw T) hr (by decide) (by rfl) (pa_cons (pv 0) (pa_cons (pe_callB (lenK K) (by rfl) T.z_len (by decide +kernel) (pa_cons (pv 8) pa_nil)) pa_nil))) (fun _ _ => rfl)) pa_nil))))))))))))))))), ?_⟩
    have W := wayK st
    have hcl := huv.len
    have g1 := gc.l1; have g3 := gc.l3
    walk_at "rd"
    refine i_lenT hpc ?_
    walk_at "rd"
    refine ⟨st, l, cvs.length, rfl, by omega, by omega, hst, fun u H1 u0 u1 s1 k1 => ?_⟩
    walk_at "rd"
    obtain ⟨n, rfl⟩ : ∃ n : Nat, u = n := ⟨u.toNat, by omega⟩
    obtain ⟨ud, hu⟩ : ∃ ud, us[n]? = some ud := ⟨_, List.getElem?_eq_getElem (by omega)⟩
    obtain ⟨uv, hcu, b, pr, rvs, rfl, hb, hpr, hrd⟩ := (huv.keep (k1.toT hst)).get hu
    have hrl := DRs.len wayT hrd
    have gu := gc.all ud (List.mem_of_getElem? hu)
    have gl := gu.len
    have hpc1 := k1.tup hpc hst
    refine i_ixT hpc1 (atI_nat hcu) ?_
    refine i_gtup hb rfl ?_
    walk_at "rd"
    refine ⟨st, l, 10, rfl, by decide, by decide, s1, fun pk H2 pk0 pk1 s2 k2 => ?_⟩
    walk_at "rd"
    have kT := (k1.trans k2).toT hst
    have hpc := k2.tup hpc1 s1
    have hpr := k2.tup hpr s1
    have hrd := hrd.keep wayT (k2.toT s1)
    have huv := huv.keep kT
    have dr : DRs (Keep st) K H2 rvs ud.2.2 := hrd.ofT s2
    have dc : DRs (Keep st) K H2 cvs (us.map unitD) := huv.drs.ofT s2
    clear hpc1 hb k1 kT
    -- a unit set anew: the end of all the ways 0 .. 3
    have fin : ∀ (σ : L2.St) (H8 : Hp) (p1 p8 : Addr) (v : V) (x : PyData), σ[1]? = some (some (.ref pc)) → σ[2]? = some (some (.int n)) → Same H2 H8 → SqT K H8 p1 (cvs.take n) → SqT K H8 p8 [v] → DR (Keep st) K H8 v x → NoCode (.tuple (setU us n x)) →
        uAdd K (.ref p1) (.ref p8) H8 fun y H1 => tSl (uSl K) (tVar 1) (tPart (tOp (uAdd K) (tVar 2) (tC (.int 1)))) tNoPart σ H1 fun z H2 => uAdd K y z H2 Q := by
      intro σ H8 p1 p8 v x e1 e2 s8 h1 h8 dx no
      refine i_addT h1 h8 (by rw [sizeLine_eq, List.length_take, List.length_singleton]; omega) fun p9 H9 s9 h9 => ?_
      refine i_sl (i_var e1 (i_part (i_op (i_var e2 (i_c (i_addI (i_exI (i_nopart ?_))))))))
      rw [show ((n : Int) + 1) = ((n + 1 : Nat) : Int) from rfl]
      refine i_slT ((s8.trans s9).sqT hpc) fun p10 H10 s10 h10 => ?_
      rw [cutV_drop] at h10
      refine i_addT (s10.sqT h9) h10 (by rw [sizeLine_eq, List.length_append, List.length_take, List.length_drop, List.length_singleton]; omega) fun p11 H11 s11 h11 => ?_
      have sA := s8.trans (s9.trans (s10.trans s11))
      have dc4 := dc.keep W sA.keep
      exact q _ _ H11 (DR.dp W (.tup (sA.strm s2) h11 (((dc4.take n).append (.cons (dx.keep W (s9.trans (s10.trans s11)).keep) .nil)).append (dc4.drop (n + 1))))) no
    refine i_ifD (fun e0 => ?_) (fun e0 => ?_)
    · walk_at "rd"
      refine i_slT hpc fun p1 H3 s3 h1 => ?_
      rw [cutV_take] at h1
      walk_at "rd"
      refine i_slT (s3.sqT hpr) fun p2 H4 s4 h2 => ?_
      rw [cutV_neg2] at h2
      walk_at "rd"
      refine ⟨by walk_at "sz", fun p3 hp3 => ?_⟩
      walk_at "rd"
      refine ⟨by walk_at "sz", fun p4 hp4 => ?_⟩
      have s5 := (same_new (o := .tup [.str "untry"]) hp3).trans (same_new (o := .tup [.ref p3]) hp4)
      have h3 : SqT K (upd (upd H4 p3 (.tup [.str "untry"])) p4 (.tup [.ref p3])) p3 [.str "untry"] := (same_new hp4).sqT (.of upd_same)
      refine i_addT (s5.sqT h2) (.of upd_same) (by rw [sizeLine_eq, List.length_take, List.length_singleton]; omega) fun p5 H6 s6 h5 => ?_
      walk_at "rd"
      refine ⟨by walk_at "sz", fun p6 hp6 => ?_⟩
      have s7 := same_new (o := .tup [.int ud.1, .int ud.2.1, .ref p5]) hp6
      walk_at "rd"
      refine ⟨by walk_at "sz", fun p7 hp7 => ?_⟩
      have s8 := same_new (o := .tup [.ref p6]) hp7
      have s38 := s4.trans (s5.trans (s6.trans (s7.trans s8)))
      have sA := s3.trans s38
      have stA := sA.strm s2
      have dA := dr.keep W sA.keep
      walk_at "rd"
      refine fin _ _ p1 p7 _ _ (by with_unfolding_all rfl) (by with_unfolding_all rfl) sA (s38.sqT h1) (.of upd_same) (.tup stA (s8.sqT (.of upd_same)) (.cons (.int _) (.cons (.int _) (.cons (.tup stA (s8.sqT (s7.sqT h5)) ((dA.take _).append (.cons (.tup stA ((s6.trans (s7.trans s8)).sqT h3) (.cons (.str _) .nil)) .nil))) .nil)))) (no_end gc hu)
    walk_at "rd"
    refine i_ifD (fun e1 => ?_) (fun e1 => ?_)
    · walk_at "rd"
      refine i_slT hpc fun p1 H3 s3 h1 => ?_
      rw [cutV_take] at h1
      walk_at "rd"
      refine ⟨by walk_at "sz", fun p6 hp6 => ?_⟩
      have s7 := same_new (o := .tup [.int (ud.2.1 + 1), .int ud.2.1, .ref pr]) hp6
      walk_at "rd"
      refine ⟨by walk_at "sz", fun p7 hp7 => ?_⟩
      have s8 := same_new (o := .tup [.ref p6]) hp7
      have s38 := s7.trans s8
      have sA := s3.trans s38
      have stA := sA.strm s2
      have dA := dr.keep W sA.keep
      walk_at "rd"
      refine fin _ _ p1 p7 _ _ (by with_unfolding_all rfl) (by with_unfolding_all rfl) sA (s38.sqT h1) (.of upd_same) (.tup stA (s8.sqT (.of upd_same)) (.cons (.int _) (.cons (.int _) (.cons (.tup stA (sA.sqT hpr) dA) .nil)))) (no_given gc hu)
    walk_at "rd"
    refine i_ifD (fun e2 => ?_) (fun e2 => ?_)
    · walk_at "rd"
      refine i_slT hpc fun p1 H3 s3 h1 => ?_
      rw [cutV_take] at h1
      walk_at "rd"
      refine ⟨by walk_at "sz", fun p6 hp6 => ?_⟩
      have s7 := same_new (o := .lst [.int ud.1, .int ud.2.1, .ref pr]) hp6
      walk_at "rd"
      refine ⟨by walk_at "sz", fun p7 hp7 => ?_⟩
      have s8 := same_new (o := .tup [.ref p6]) hp7
      have s38 := s7.trans s8
      have sA := s3.trans s38
      have stA := sA.strm s2
      have dA := dr.keep W sA.keep
      walk_at "rd"
      refine fin _ _ p1 p7 _ _ (by with_unfolding_all rfl) (by with_unfolding_all rfl) sA (s38.sqT h1) (.of upd_same) (.lst ((s3.strm s2).ne hp6).1 (s8.seq (.of upd_same)) (.cons (.int _) (.cons (.int _) (.cons (.tup stA (sA.sqT hpr) dA) .nil)))) (no_list gc hu)
    walk_at "rd"
    refine i_ifD (fun e3 => ?_) (fun e3 => ?_)
    · walk_at "rd"
      refine i_slT hpc fun p1 H3 s3 h1 => ?_
      rw [cutV_take] at h1
      walk_at "rd"
      refine i_listOfT (s3.sqT hpr) fun p5 hp5 => ?_
      have s5 := same_new (o := .lst rvs) hp5
      walk_at "rd"
      refine ⟨by walk_at "sz", fun p6 hp6 => ?_⟩
      have s7 := same_new (o := .tup [.int ud.1, .int ud.2.1, .ref p5]) hp6
      walk_at "rd"
      refine ⟨by walk_at "sz", fun p7 hp7 => ?_⟩
      have s8 := same_new (o := .tup [.ref p6]) hp7
      have s38 := s5.trans (s7.trans s8)
      have sA := s3.trans s38
      have stA := sA.strm s2
      have dA := dr.keep W sA.keep
      walk_at "rd"
      refine fin _ _ p1 p7 _ _ (by with_unfolding_all rfl) (by with_unfolding_all rfl) sA (s38.sqT h1) (.of upd_same) (.tup stA (s8.sqT (.of upd_same)) (.cons (.int _) (.cons (.int _) (.cons (.lst ((s3.strm s2).ne hp5).1 ((s7.trans s8).seq (.of upd_same)) dA) .nil)))) (no_rowlist gc hu)
    walk_at "rd"
    refine i_ifD (fun e4 => ?_) (fun e4 => ?_)
    · walk_at "rd"
      refine i_listOfT hpc fun q1 hq1 => ?_
      have t1 := same_new (o := .lst cvs) hq1
      walk_at "rd"
      refine ⟨by walk_at "sz", fun q2 hq2 => ?_⟩
      have t2 := same_new (o := .tup []) hq2
      walk_at "rd"
      refine ⟨by walk_at "sz", fun q3 hq3 => ?_⟩
      have t3 := same_new (o := .tup []) hq3
      walk_at "rd"
      refine ⟨by walk_at "sz", fun q4 hq4 => ?_⟩
      have t4 := same_new (o := .tup [.ref q3]) hq4
      have t14 := t1.trans (t2.trans (t3.trans t4))
      refine i_addT (t14.sqT hpc) (.of upd_same) (by rw [sizeLine_eq, List.length_singleton]; omega) fun q5 H5 t5 g5 => ?_
      walk_at "rd"
      refine ⟨by walk_at "sz", fun q6 hq6 => ?_⟩
      have t6 := same_new (o := .tup []) hq6
      walk_at "rd"
      refine ⟨by walk_at "sz", fun q7 hq7 => ?_⟩
      have t7 := same_new (o := .tup [.int 0, .int 0, .ref q6]) hq7
      walk_at "rd"
      refine ⟨by walk_at "sz", fun q8 hq8 => ?_⟩
      have t8 := same_new (o := .tup [.ref q7]) hq8
      have t68 := t6.trans (t7.trans t8)
      have t18 := t14.trans (t5.trans t68)
      refine i_addT (t18.sqT hpc) (.of upd_same) (by rw [sizeLine_eq, List.length_singleton]; omega) fun q9 H9 t9 g9 => ?_
      walk_at "rd"
      refine ⟨by walk_at "sz", fun q10 hq10 => ?_⟩
      have t10 := same_new (o := .lst [.ref q1, .ref q2, .non, .ref q5, .ref q9]) hq10
      have sA := t18.trans (t9.trans t10)
      have stA := sA.strm s2
      have dcA := dc.keep W sA.keep
      have n10 := ((t18.trans t9).strm s2).ne hq10
      have t910 := t9.trans t10
      have dA : DRs (Keep st) K _ [.ref q1, .ref q2, .non, .ref q5, .ref q9] (wrong us) :=
        .cons (.lst (s2.ne hq1).1 ((t2.trans (t3.trans (t4.trans (t5.trans (t68.trans t910))))).seq (.of upd_same)) dcA)
        (.cons (.tup stA ((t3.trans (t4.trans (t5.trans (t68.trans t910)))).sqT (.of upd_same)) .nil)
        (.cons .non
        (.cons (.tup stA ((t68.trans t910).sqT g5) (dcA.append (.cons (.tup stA ((t4.trans (t5.trans (t68.trans t910))).sqT (.of upd_same)) .nil) .nil)))
        (.cons (.tup stA (t10.sqT g9) (dcA.append (.cons (.tup stA ((t8.trans t910).sqT (.of upd_same)) (.cons (.int _) (.cons (.int _) (.cons (.tup stA ((t7.trans (t8.trans t910)).sqT (.of upd_same)) .nil) .nil)))) .nil))) .nil))))
      walk_at "rd"
      refine ⟨st, l, 5, rfl, by decide, by decide, stA, fun i H11 i0 i1 s11 k11 => ?_⟩
      obtain ⟨v, hv⟩ : ∃ v, ([.ref q1, .ref q2, .non, .ref q5, .ref q9] : List V)[i.toNat]? = some v := ⟨_, List.getElem?_eq_getElem (by simp only [List.length_cons, List.length_nil]; omega)⟩
      obtain ⟨d, hd, dd⟩ := dA.get W hv
      refine i_ixL (.of (k11 _ _ upd_same n10.1)) (at_of (j := i.toNat) (by omega) hv) ?_
      exact q v d H11 (DR.dp W (dd.keep W k11)) (no_wrong gc d (List.mem_of_getElem? hd))
    walk_at "rd"
    refine i_lenT hpr ?_
    walk_at "rd"
    refine ⟨st, l, (rvs.length : Int) - 1, rfl, by omega, by omega, s2, fun a H3 a0 a1 s3 k3 => ?_⟩
    obtain ⟨a, rfl⟩ : ∃ a' : Nat, a = a' := ⟨a.toNat, by omega⟩
    have hpc3 := k3.tup hpc s2
    have hpr3 := k3.tup hpr s2
    have huv3 := huv.keep (k3.toT s2)
    walk_at "rd"
    refine i_lenT hpr3 ?_
    walk_at "rd"
    refine i_exTup hpc3 ?_
    intro D hD
    refine lcT (fun i => .int ((us.map (·.1)).getD i 0)) hpc3 (by rw [sizeLine_eq]; omega) hD (fun i x H4 Qe hi s4 k => ?_) (fun H4 s4 hL => ?_)
    · walk_at "rd"
      refine ⟨rfl, ?_⟩
      walk_at "rd"
      have hlt : i < us.length := by rw [← hcl]; exact (List.getElem?_eq_some_iff.mp hi).1
      obtain ⟨x', hx', b', r', rv', rfl, hb', _, _⟩ := huv3.get (List.getElem?_eq_getElem hlt)
      rw [hi] at hx'
      cases hx'
      have k0 := k H4 (Same.refl _)
      rw [List.getD_eq_getElem?_getD, List.getElem?_map, List.getElem?_eq_getElem hlt] at k0
      try rw [if_pos rfl]
      walk_at "rd"
      exact i_ixT (s4.sqT hb') (atI_nat (j := 0) rfl) k0
    · have hL' : H4 D = some (.lst ((us.map (·.1)).map V.int)) := by
        rw [hL]
        congr 2
        rw [hcl]
        have e : us.length = (us.map (·.1)).length := by rw [List.length_map]
        rw [e]
        exact map_range_get (f := V.int) _ _ fun i d hi => by rw [List.getD_eq_getElem?_getD, hi]; rfl
      obtain ⟨g0, hg0⟩ : ∃ g0, (us.map (·.1))[0]? = some g0 := ⟨_, List.getElem?_eq_getElem (by rw [List.length_map]; omega)⟩
      have hgb : 0 ≤ g0 ∧ g0 ≤ 3 := by
        obtain ⟨ud0, h0, rfl⟩ := List.mem_map.mp (List.mem_of_getElem? hg0)
        exact (gc.all ud0 h0).g0
      walk_at "rd"
      refine ⟨st, l, D, a, ud.2.1, rvs.length, g0, us.map (·.1), rfl, s4.strm s3, .of hL', hg0, hgb.1, hgb.2, fun pb bvs H5 hpb nb dbs s5 => ?_⟩
      have hbl := DRs.len W dbs
      have hb56 : (badRows (a : Int) ud.2.1 rvs.length g0 (us.map (·.1)).length).length = 56 := rfl
      rw [hb56] at hbl
      have st5 := s5.strm (s4.strm s3)
      have s35 := s4.trans s5
      walk_at "rd"
      refine i_lenL (.of hpb) ?_
      walk_at "rd"
      refine ⟨st, l, bvs.length, rfl, by omega, by omega, st5, fun i H6 i0 i1 s6 k6 => ?_⟩
      obtain ⟨v, hv⟩ : ∃ v, bvs[i.toNat]? = some v := ⟨_, List.getElem?_eq_getElem (by omega)⟩
      obtain ⟨d, hd, dd⟩ := dbs.get W hv
      refine i_ixL (.of (k6 _ _ hpb nb)) (at_of (j := i.toNat) (by omega) hv) ?_
      walk_at "rd"
      have kT := wayT.trans s35.toT (k6.toT st5)
      have hdm := List.mem_of_getElem? hd
      refine ⟨st, l, pc, cvs, us, ud, n, a, v, d, rfl, s6, kT.sqT hpc3, huv3.keep kT, hu, g3, gl.2, dd.keep W k6, fun p7 H7 s7 d7 => ?_⟩
      have hc0 := gu.c0
      refine q _ _ H7 (DR.dp W d7) (no_row gc hu (by omega) (ok_rows hgb.2 d hdm) (word_rows d hdm) ?_)
      rw [← hrl]
      exact bad_rows (by omega) (by omega) hc0 hgb hg0 d hdm
def sp_law (K : PySem.W.Frag) : Sp := fun vs H Q _ => ∃ (a : Addr) (ns : List Int), vs = [.ref a] ∧ SqL K H a (ns.map V.int) ∧ ns.length ≤ 63 ∧ ∀ H', Q (.bl true) H'
theorem ok_law {f : Addr} {fd : FuncData} (F : C8.Fun K "law" "law" s_law f fd) (T : Txt K w mg aSIGNS aFORMS) : FnOk P w K mg base C8.CX0 6 f fd ["_law_script"] (sp_law K) := by
  refine C8.fn0 F sc_law (fun vs H Q E h => ?_) (fun cdv A outer s H vs Q E hr h => ?_)
  · obtain ⟨a, ns, rfl, _⟩ := h; rfl
  · obtain ⟨a, ns, rfl, ha, hl, q⟩ := h
    refine ⟨_, (pss_cons (ps_set (i := 1) sc_law.nd rfl (Or.inl rfl) (C8.pe_c (cal_law_stream T) hr (by decide) (by rfl) (pa_cons (pv 0) pa_nil)))
  (pss_cons (ps_set (i := 2) sc_law.nd rfl (Or.inl rfl) (C8.pe_c (cal_law_code T) hr (by decide) (by rfl) (pa_cons (pv 1) pa_nil)))
  (pss_cons (ps_if (pt_cmpR isNotU (C8.pe_c (cal_is_code T) hr (by decide) (by rfl) (pa_cons (pv 2) pa_nil)) pe_bl (nomark _)) (pss_one (ps_ret pe_bl)) pss_nil)
  (pss_one (ps_ret (pe_cmpR isU (C8.pe_c (cal_is_code T) hr (by decide) (by rfl) (pa_cons (C8.pe_c (cal_law_hurt T) hr (by decide) (by rfl) (pa_cons (pv 1) (pa_cons (pv 2) pa_nil))) pa_nil)) pe_bl (nomark _))))))), ?_⟩
    walk_at "rd"
    refine ⟨a, ns, rfl, ha, hl, fun st l H1 hst s1 hn => ?_⟩
    walk_at "rd"
    refine ⟨st, l, rfl, hst, fun p cvs us H2 hp huv gc hst2 k2 => ?_⟩
    walk_at "rd"
    have h1 := gc.l1; have h3 := gc.l3
    refine ⟨.ref p, .tuple (us.map unitD), 5, rfl, .tup hp (DRs.dp wayT huv.drs), .tup (by rw [List.length_map]; omega) (good_ok gc).1, by decide, fun us' e => by cases e; exact fun x hx => (good_ok gc).2 x hx, fun H3 s3 => ?_⟩
    rw [good_code gc]
    walk_at "rd"
    refine i_ifN (fun h => absurd rfl h) (fun _ => ?_)
    walk_at "rd"
    refine ⟨st, l, p, cvs, us, rfl, s3.strm hst2, s3.sqT hp, huv.keep s3.toT, gc, fun v d H4 dv no => ?_⟩
    walk_at "rd"
    refine ⟨v, d, 5, rfl, dv, no.ok, by decide, no.words, fun H5 s5 => ?_⟩
    rw [no.no]
    walk_at "rd"
    exact q H5
end
end K40
set_option Elab.async false
set_option linter.all false
set_option maxRecDepth 100000
set_option maxHeartbeats 0
namespace K40
open PySem PySem.Spec PyProof.Rows L2 Z He
/-! ### the head -/
def e_is_whole_graphs : He.DefD := ⟨("is_whole_graphs", none), "is_whole", "is_whole", C8.fnArgs s_is_whole_graphs, C8.fnBody s_is_whole_graphs, C8.fnScope s_is_whole_graphs, [], []⟩
def e_is_atom : He.DefD := ⟨("is_atom", none), "is_atom", "is_atom", C8.fnArgs s_is_atom, C8.fnBody s_is_atom, C8.fnScope s_is_atom, [], []⟩
def e_is_number : He.DefD := ⟨("is_number", none), "is_number", "is_number", C8.fnArgs s_is_number, C8.fnBody s_is_number, C8.fnScope s_is_number, [], []⟩
def e_is_whole_codes : He.DefD := ⟨("is_whole_codes", none), "is_whole", "is_whole", C8.fnArgs s_is_whole_codes, C8.fnBody s_is_whole_codes, C8.fnScope s_is_whole_codes, [], []⟩
def e_are_registers : He.DefD := ⟨("are_registers", none), "are_registers", "are_registers", C8.fnArgs s_are_registers, C8.fnBody s_are_registers, C8.fnScope s_are_registers, [], []⟩
def e_is_part : He.DefD := ⟨("is_part", none), "is_part", "is_part", C8.fnArgs s_is_part, C8.fnBody s_is_part, C8.fnScope s_is_part, [], []⟩
def e_fits_unit : He.DefD := ⟨("fits_unit", none), "fits_unit", "fits_unit", C8.fnArgs s_fits_unit, C8.fnBody s_fits_unit, C8.fnScope s_fits_unit, [], []⟩
def e_is_instruction : He.DefD := ⟨("is_instruction", none), "is_instruction", "is_instruction", C8.fnArgs s_is_instruction, C8.fnBody s_is_instruction, C8.fnScope s_is_instruction, [], []⟩
def e_is_unit : He.DefD := ⟨("is_unit", none), "is_unit", "is_unit", C8.fnArgs s_is_unit, C8.fnBody s_is_unit, C8.fnScope s_is_unit, [], []⟩
def e_is_code : He.DefD := ⟨("is_code", none), "is_code", "is_code", C8.fnArgs s_is_code, C8.fnBody s_is_code, C8.fnScope s_is_code, [], []⟩
def e_law_stream : He.DefD := ⟨("_law_stream", none), "_law_stream", "_law_stream", C8.fnArgs s_law_stream, C8.fnBody s_law_stream, C8.fnScope s_law_stream, [], []⟩
def e_law_draw : He.DefD := ⟨("_law_draw", none), "_law_draw", "_law_draw", C8.fnArgs s_law_draw, C8.fnBody s_law_draw, C8.fnScope s_law_draw, [], []⟩
def e_law_registers : He.DefD := ⟨("_law_registers", none), "_law_registers", "_law_registers", C8.fnArgs s_law_registers, C8.fnBody s_law_registers, C8.fnScope s_law_registers, [], []⟩
def e_law_instruction : He.DefD := ⟨("_law_instruction", none), "_law_instruction", "_law_instruction", C8.fnArgs s_law_instruction, C8.fnBody s_law_instruction, C8.fnScope s_law_instruction, [], []⟩
def e_law_code : He.DefD := ⟨("_law_code", none), "_law_code", "_law_code", C8.fnArgs s_law_code, C8.fnBody s_law_code, C8.fnScope s_law_code, [], []⟩
def e_law_put : He.DefD := ⟨("_law_put", none), "_law_put", "_law_put", C8.fnArgs s_law_put, C8.fnBody s_law_put, C8.fnScope s_law_put, [], []⟩
def e_law_bad_rows : He.DefD := ⟨("_law_bad_rows", none), "_law_bad_rows", "_law_bad_rows", C8.fnArgs s_law_bad_rows, C8.fnBody s_law_bad_rows, C8.fnScope s_law_bad_rows, [], []⟩
def e_law_hurt : He.DefD := ⟨("_law_hurt", none), "_law_hurt", "_law_hurt", C8.fnArgs s_law_hurt, C8.fnBody s_law_hurt, C8.fnScope s_law_hurt, [], []⟩
def e_law : He.DefD := ⟨("law", none), "law", "law", C8.fnArgs s_law, C8.fnBody s_law, C8.fnScope s_law, [], []⟩
def fnL : List He.DefD := [e_is_whole_graphs, e_is_atom, e_is_number, e_is_whole_codes, e_are_registers, e_is_part, e_fits_unit, e_is_instruction, e_is_unit, e_is_code, e_law_stream, e_law_draw, e_law_registers, e_law_instruction, e_law_code, e_law_put, e_law_bad_rows, e_law_hurt, e_law]
def faL : List He.Fa := [.free "isinstance", .free "int", .free "bool", .free "all", .free "str", .free "len", .free "abs", .free "tuple", .free "set", .free "range", .free "enumerate", .free "list", .free "min", .free "max", .str "SMALL" small, .int "MOST_ATOM" (12), .str "DIGITS" digits, .int "MOST_NUMBER" (1000000000), .glo "SIGNS", .glo "FORMS", .int "MOST_CODE" (5000), .int "MOST_REGISTERS" (2000), .int "MOST_UNITS" (250), .glo "is_whole_graphs", .glo "is_atom", .glo "is_number", .glo "is_whole_codes", .glo "are_registers", .glo "is_part", .glo "fits_unit", .glo "is_instruction", .glo "is_unit", .glo "is_code", .glo "_law_stream", .glo "_law_draw", .glo "_law_registers", .glo "_law_instruction", .glo "_law_code", .glo "_law_put", .glo "_law_bad_rows", .glo "_law_hurt", .glo "law"]
theorem txt_of {K : PySem.W.Frag} {w : World} {h : Heap} {mg : Str → Option Value} (X : K.In h) (G : h.Ns mainGlobals mg) (c : He.SaysD faL fnL K) (he : (tupB K (ga K "SIGNS") (signs.map V.str) && (valsB K (ga K "FORMS") (forms.map fun p => (p.1, Dv.str p.2)) && eqO (PySem.W.nsIn K (ga K "FORMS") "stop") (some none))) = true) (ct : ∃ es n, KDict K w (ga K "FORMS") es n) : Txt K w mg (ga K "SIGNS") (ga K "FORMS") where
  z_isinstance := free_ok X G (c.fact 0 (f := .free "isinstance") rfl)
  z_int := free_ok X G (c.fact 1 (f := .free "int") rfl)
  z_bool := free_ok X G (c.fact 2 (f := .free "bool") rfl)
  z_all := free_ok X G (c.fact 3 (f := .free "all") rfl)
  z_str := free_ok X G (c.fact 4 (f := .free "str") rfl)
  z_len := free_ok X G (c.fact 5 (f := .free "len") rfl)
  z_abs := free_ok X G (c.fact 6 (f := .free "abs") rfl)
  z_tuple := free_ok X G (c.fact 7 (f := .free "tuple") rfl)
  z_set := free_ok X G (c.fact 8 (f := .free "set") rfl)
  z_range := free_ok X G (c.fact 9 (f := .free "range") rfl)
  z_enumerate := free_ok X G (c.fact 10 (f := .free "enumerate") rfl)
  z_list := free_ok X G (c.fact 11 (f := .free "list") rfl)
  z_min := free_ok X G (c.fact 12 (f := .free "min") rfl)
  z_max := free_ok X G (c.fact 13 (f := .free "max") rfl)
  g_SMALL := gstr X G (c.fact 14 (f := .str "SMALL" small) rfl)
  g_MOST_ATOM := gint X G (c.fact 15 (f := .int "MOST_ATOM" (12)) rfl)
  g_DIGITS := gstr X G (c.fact 16 (f := .str "DIGITS" digits) rfl)
  g_MOST_NUMBER := gint X G (c.fact 17 (f := .int "MOST_NUMBER" (1000000000)) rfl)
  g_SIGNS := gref X G (c.fact 18 (f := .glo "SIGNS") rfl)
  g_FORMS := gref X G (c.fact 19 (f := .glo "FORMS") rfl)
  g_MOST_CODE := gint X G (c.fact 20 (f := .int "MOST_CODE" (5000)) rfl)
  g_MOST_REGISTERS := gint X G (c.fact 21 (f := .int "MOST_REGISTERS" (2000)) rfl)
  g_MOST_UNITS := gint X G (c.fact 22 (f := .int "MOST_UNITS" (250)) rfl)
  d_is_whole_graphs := defa_of X G (fd := (c.def_ 0 (d := e_is_whole_graphs) rfl).choose) (c.def_ 0 (d := e_is_whole_graphs) rfl).choose_spec (c.fact 23 (f := .glo "is_whole_graphs") rfl)
  d_is_atom := defa_of X G (fd := (c.def_ 1 (d := e_is_atom) rfl).choose) (c.def_ 1 (d := e_is_atom) rfl).choose_spec (c.fact 24 (f := .glo "is_atom") rfl)
  d_is_number := defa_of X G (fd := (c.def_ 2 (d := e_is_number) rfl).choose) (c.def_ 2 (d := e_is_number) rfl).choose_spec (c.fact 25 (f := .glo "is_number") rfl)
  d_is_whole_codes := defa_of X G (fd := (c.def_ 3 (d := e_is_whole_codes) rfl).choose) (c.def_ 3 (d := e_is_whole_codes) rfl).choose_spec (c.fact 26 (f := .glo "is_whole_codes") rfl)
  d_are_registers := defa_of X G (fd := (c.def_ 4 (d := e_are_registers) rfl).choose) (c.def_ 4 (d := e_are_registers) rfl).choose_spec (c.fact 27 (f := .glo "are_registers") rfl)
  d_is_part := defa_of X G (fd := (c.def_ 5 (d := e_is_part) rfl).choose) (c.def_ 5 (d := e_is_part) rfl).choose_spec (c.fact 28 (f := .glo "is_part") rfl)
  d_fits_unit := defa_of X G (fd := (c.def_ 6 (d := e_fits_unit) rfl).choose) (c.def_ 6 (d := e_fits_unit) rfl).choose_spec (c.fact 29 (f := .glo "fits_unit") rfl)
  d_is_instruction := defa_of X G (fd := (c.def_ 7 (d := e_is_instruction) rfl).choose) (c.def_ 7 (d := e_is_instruction) rfl).choose_spec (c.fact 30 (f := .glo "is_instruction") rfl)
  d_is_unit := defa_of X G (fd := (c.def_ 8 (d := e_is_unit) rfl).choose) (c.def_ 8 (d := e_is_unit) rfl).choose_spec (c.fact 31 (f := .glo "is_unit") rfl)
  d_is_code := defa_of X G (fd := (c.def_ 9 (d := e_is_code) rfl).choose) (c.def_ 9 (d := e_is_code) rfl).choose_spec (c.fact 32 (f := .glo "is_code") rfl)
  d_law_stream := defa_of X G (fd := (c.def_ 10 (d := e_law_stream) rfl).choose) (c.def_ 10 (d := e_law_stream) rfl).choose_spec (c.fact 33 (f := .glo "_law_stream") rfl)
  d_law_draw := defa_of X G (fd := (c.def_ 11 (d := e_law_draw) rfl).choose) (c.def_ 11 (d := e_law_draw) rfl).choose_spec (c.fact 34 (f := .glo "_law_draw") rfl)
  d_law_registers := defa_of X G (fd := (c.def_ 12 (d := e_law_registers) rfl).choose) (c.def_ 12 (d := e_law_registers) rfl).choose_spec (c.fact 35 (f := .glo "_law_registers") rfl)
  d_law_instruction := defa_of X G (fd := (c.def_ 13 (d := e_law_instruction) rfl).choose) (c.def_ 13 (d := e_law_instruction) rfl).choose_spec (c.fact 36 (f := .glo "_law_instruction") rfl)
  d_law_code := defa_of X G (fd := (c.def_ 14 (d := e_law_code) rfl).choose) (c.def_ 14 (d := e_law_code) rfl).choose_spec (c.fact 37 (f := .glo "_law_code") rfl)
  d_law_put := defa_of X G (fd := (c.def_ 15 (d := e_law_put) rfl).choose) (c.def_ 15 (d := e_law_put) rfl).choose_spec (c.fact 38 (f := .glo "_law_put") rfl)
  d_law_bad_rows := defa_of X G (fd := (c.def_ 16 (d := e_law_bad_rows) rfl).choose) (c.def_ 16 (d := e_law_bad_rows) rfl).choose_spec (c.fact 39 (f := .glo "_law_bad_rows") rfl)
  d_law_hurt := defa_of X G (fd := (c.def_ 17 (d := e_law_hurt) rfl).choose) (c.def_ 17 (d := e_law_hurt) rfl).choose_spec (c.fact 40 (f := .glo "_law_hurt") rfl)
  d_law := defa_of X G (fd := (c.def_ 18 (d := e_law) rfl).choose) (c.def_ 18 (d := e_law) rfl).choose_spec (c.fact 41 (f := .glo "law") rfl)
  k_SIGNS := tupB_ok (ba he).1
  k_FORMS := by
    obtain ⟨es, n, D⟩ := ct
    have h2 := ba (ba he).2
    exact ⟨es, n, D, fun p hp => valsB_ok (q := (p.1, Dv.str p.2)) h2.1 (List.mem_map.mpr ⟨p, hp, rfl⟩), fun x hx => by rw [List.mem_singleton.mp hx]; exact eqO_ok h2.2⟩
def tsL : List Tab := [(fun K => ga K "FORMS", forms.map (·.1))]
def exL (K : PySem.W.Frag) : Bool := tupB K (ga K "SIGNS") (signs.map V.str) && (valsB K (ga K "FORMS") (forms.map fun p => (p.1, Dv.str p.2)) && eqO (PySem.W.nsIn K (ga K "FORMS") "stop") (some none))
theorem all_of {l : PySem.W.OpenLaw} {w : World} {K : PySem.W.Frag} {h : Heap} {mg : Str → Option Value} {fa : Addr} (X : K.In h) (G : h.Ns mainGlobals mg) (hfa : mg "law" = some (.ref fa)) (c : SaysT faL fnL tsL w K) (he : exL K = true) :
    ∃ fd : FuncData, (∀ (s : Shared) (v : Value), BindsTo s fd ⟨[v], []⟩ [("_law_script", v)]) ∧ ∀ base : Heap, K.In base → base.Ns mainGlobals mg → FnOk l.prog w K mg base C8.CX0 6 fa fd ["_law_script"] (sp_law K) := by
  have T := txt_of (w := w) X G c.d he (c.tab 0 (t := (fun K => ga K "FORMS", forms.map (·.1))) rfl)
  obtain ⟨f, fd, F, df, e, kp⟩ := T.d_law.ex
  have e2 := hfa.symm.trans e
  cases e2
  have F' := F
  obtain ⟨oc, od, dV, kV, doc, pm, an, cdv, ct, osl, rfl, lk, hcd⟩ := F.ex
  have dz : dV = .none := df
  subst dz
  exact ⟨_, fun s v => .of_eq rfl, fun base _ _ => ok_law F' T⟩
theorem walk {l : PySem.W.OpenLaw} {q : Program} {loose : List Str} {XP : (Str → Option Value) → Heap → Prop} {YP : World → Heap → Prop} {d : DefRec} {K : Params → PySem.W.Frag} (hn : l.most = some 63) (hdf : d.params.defaults = [])
    (hY : ∀ (w : World) (h : Heap), YP w h → (K w.params).In h)
    (F : ∀ (w : World) (mg : Str → Option Value) (fa : Addr) (h : Heap), (K w.params).In h → h.Ns mainGlobals mg → mg d.name = some (.ref fa) →
      ∃ fd : FuncData, (∀ (s : Shared) (u : Value), BindsTo s fd ⟨[u], []⟩ [("_law_script", u)]) ∧ ∀ base : Heap, (K w.params).In base → base.Ns mainGlobals mg → FnOk l.prog w (K w.params) mg base C8.CX0 6 fa fd ["_law_script"] (sp_law (K w.params))) :
    PySem.W.WalkO q loose XP YP l.row.toRowW d [] (fun f vs => PySem.call f vs) :=
  L2.walk_of (n := 63) (k := 6) (x := "_law_script") (CX := fun _ => C8.CX0) (sp := fun w => sp_law (K w.params)) hn (by decide) hdf ⟨rfl, by decide, by decide⟩ hY F (fun _ _ a ns hl _ hS => ⟨a, ns, rfl, hS, hl, fun _ => rfl⟩) fun _ _ _ _ _ z => z
end K40
open PySem PySem.W PyProof.Rows
set_option maxHeartbeats 0 in
theorem PySem.Challenge.cw_leatwork_k40_code_forms_holds : PySem.Challenge.rw_leatwork_k40_code_forms.Holds := by
  w_on; o_law; k_head; (case hw => w_witness2)
  k_fill
  refine K40.walk (l := PySem.Challenge.rw_leatwork_k40_code_forms) rfl rfl (fun w h Y => PySem.W.kIn_of Y) ?F
  case F =>
    intro w mg fa h KX G hmg
    refine K40.all_of KX G hmg ?c ?e
    case c =>
      unfold He.SaysT
      kernel_rfl
    case e => kernel_rfl
