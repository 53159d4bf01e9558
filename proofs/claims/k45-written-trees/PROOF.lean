import PyProof.Rows.All
import Wide.All
import OpenK.AllK
import Wide.FinOn
import PySem.Challenge.RW_mixtrees_k45_written_trees
import HandS.ForMost
import HandS.Exc
import HandS.TryOnly
import HandS.ExcOwn
import HandS.WordsExc
import HandS.IsInst
import HandS.Walk
import HandS.TupAny
import HandS.Style
import HandS.Flow
import HandS.TupMul
import HandS.Wide
import HandS.More
import HandS.Deep
import HandS.Small
import HandS.Strs
import HandS.Zip
import HandS.CallSlots
import HandS.Defaults
import KE.DataFind
import KE.SortData
import KE.KDictZip
import KE.GoesNew
import PyProof.TupleOfGen
import HandS.Head0
import HandS.Head1
import HandS.Head2
import HandS.HeadEnd
import HandS.HeadHook1
import HandS.HeadHook2
set_option Elab.async false
set_option linter.all false
set_option maxRecDepth 100000
set_option maxHeartbeats 4000000
/-! MxT: the rules that make tuples, with the new object told to be a plain one (no dict of its own). -/
namespace Mx
open PySem PySem.Spec PyProof.Rows L2
abbrev St := L2.St
/-- a tuple that is known to its object -/
abbrev tpl (ob : Obj) (xs : List V) : HO := .frz ob (.tup xs)
section
variable {X : Cx} {pins : List (Addr × Obj)} {σ : St} {H : Hp} {s : Shared}
theorem laidT {h : Heap} {its : List Value} {xs : List V} {t' : Nat} (I : Inv X pins σ H { s with heap := h }) (r : Vals xs its) (hz : xs.length ≤ sizeLine) :
    ∃ ob : Obj, ob.dict = none ∧ Inv X pins σ (upd H h.objs.size (tpl ob xs)) { s with heap := h.push { cls := .type "tuple", data := .seq its.toArray }, toks := t' } := by
  refine ⟨{ cls := .type "tuple", data := .seq its.toArray }, rfl, ?_⟩
  have I2 := I.laid (a := h.objs.size) (o := tpl { cls := .type "tuple", data := .seq its.toArray } xs) (h' := h.push { cls := .type "tuple", data := .seq its.toArray }) (t' := t') (fun b o e => Heap.get?_push_of_some _ e) (Nat.le_refl _)
    ⟨Heap.get?_push_size _ rfl, hz, its, r, IsTup.new _ _⟩
  exact I2
/-- a display -/
def tTupX (t : TA) : TE := fun σ H Q => t σ H fun xs H1 => xs.length ≤ sizeLine ∧ ∀ p ob, ob.dict = none → H1 p = none → Q (.ref p) (upd H1 p (tpl ob xs))
theorem pe_tupX {es : List Expr} {t : TA} {pos : Pos} {x1} (h : PA X es t) : PE X (.Tuple es x1 pos) (tTupX t) := by
  refine ⟨fun pins s σ H Q I hq => ?_⟩
  refine wpAny_Tuple_spliced (thn (h.run pos pins s σ H _ I hq) fun us s1 ⟨xs, H1, I1, r, z, q⟩ => ⟨by rw [← r.length]; exact z, ?_⟩)
  obtain ⟨ob, hd, I2⟩ := laidT (t' := s1.toks) I1 r z
  exact ⟨.ref s1.heap.objs.size, _, I2, rfl, q _ ob hd (I1.hok.fresh (Nat.le_refl _))⟩
/-- t + u -/
def rCatX (K : PySem.W.Frag) : R2 := fun x y H Q => ∃ a b xs ys, x = .ref a ∧ y = .ref b ∧ SqT K H a xs ∧ SqT K H b ys ∧ xs.length + ys.length ≤ sizeLine ∧
  (xs = [] → Q (.ref b) H) ∧ (xs ≠ [] → ys = [] → Q (.ref a) H) ∧ (xs ≠ [] → ys ≠ [] → ∀ p ob, ob.dict = none → H p = none → Q (.ref p) (upd H p (tpl ob (xs ++ ys))))
theorem op_catX : OpR X (binaryOp .Add) (rCatX X.K) := by
  intro pins s σ H x y v u Q I rx ry h
  obtain ⟨a, b, xs, ys, rfl, rfl, ha, hb, hz, q0, q1, q2⟩ := h
  cases rx
  cases ry
  obtain ⟨its, r1, p1, _⟩ := I.tuple ha
  obtain ⟨its2, r2, p2, _⟩ := I.tuple hb
  by_cases hx : xs = []
  · subst hx
    cases r1
    exact cat_tup0 p1 p2 ⟨.ref b, H, I, rfl, q0 rfl⟩
  · refine HT.cat_tup p1 p2 (fun z => hx (r1.nil_iff.mp z)) (fun z => ⟨.ref a, H, I, rfl, q1 hx (r2.nil_iff.mp z)⟩) (fun z => ?_) (by rw [← r1.length, ← r2.length]; exact hz)
    obtain ⟨ob, hd, I2⟩ := laidT (t' := s.toks) I (r1.append r2) (by rw [List.length_append]; exact hz)
    exact ⟨.ref s.heap.objs.size, _, I2, rfl, q2 hx (fun w => z (r2.nil_iff.mpr w)) _ ob hd (I.hok.fresh (Nat.le_refl _))⟩
/-- t[lo:hi] -/
def rSlX (K : PySem.W.Frag) : V → Option Int → Option Int → Hp → VK → Prop := fun x lo hi H Q => ∃ a xs, x = .ref a ∧ SqT K H a xs ∧
  (HT.sIx xs.length 0 lo = 0 ∧ HT.sIx xs.length xs.length hi = xs.length → Q (.ref a) H) ∧ (¬ (HT.sIx xs.length 0 lo = 0 ∧ HT.sIx xs.length xs.length hi = xs.length) → ∀ p ob, ob.dict = none → H p = none → Q (.ref p) (upd H p (tpl ob (cutV xs lo hi))))
theorem sl_tupX : SlR X (rSlX X.K) := by
  intro pins s σ H x v vl vu lo hi sl Q I rx hs pl pu h
  obtain ⟨a, xs, rfl, hx, q1, q2⟩ := h
  cases rx
  obtain ⟨its, r, ht, hz⟩ := I.tuple hx
  have hlen : its.toArray.size = xs.length := by rw [List.size_toArray]; exact r.length.symm
  refine ⟨"tuple", _, PyProof.Rows.slot_tuple_getitem.lookup, ht.typeIs, ?_⟩
  by_cases hw : HT.sIx xs.length 0 lo = 0 ∧ HT.sIx xs.length xs.length hi = xs.length
  · exact getItem_tuple_whole ht hs pl pu (by rw [hlen]; exact hw) ⟨.ref a, H, I, rfl, q1 hw⟩
  · refine HT.getItem_tuple_cut ht hs pl pu (by rw [hlen]; exact hw) ?_ (by rw [hlen]; exact hz)
    rw [hlen]
    obtain ⟨ob, hd, I2⟩ := laidT (t' := s.toks) I ((r.drop (HT.sIx xs.length 0 lo)).take (HT.sIx xs.length xs.length hi - HT.sIx xs.length 0 lo)) (Nat.le_trans (cutV_length xs lo hi) hz)
    exact ⟨.ref s.heap.objs.size, _, I2, rfl, q2 hw _ ob hd (I.hok.fresh (Nat.le_refl _))⟩
/-- tuple(x) -/
theorem call_tupleX : CallR X (.type "tuple") (fun xs H Q => ∃ p ys, xs = [.ref p] ∧ ((SqL X.K H p ys ∧ ∀ l ob, ob.dict = none → H l = none → Q (.ref l) (upd H l (tpl ob ys))) ∨ (SqT X.K H p ys ∧ Q (.ref p) H))) := by
  intro pins s σ H xs us Q I r h
  obtain ⟨p, ys, rfl, h⟩ := h
  obtain ⟨u, rfl, rx⟩ := vals1 r
  cases rx
  rcases h with ⟨hq, q⟩ | ⟨hq, q⟩
  · obtain ⟨its, r', pl, hz⟩ := I.list hq
    have hlen := r'.length
    refine call_tuple_list pl.isList (fun h' kp => ?_) (by simp only [List.size_toArray] <;> omega)
    have I1 : Inv X pins σ H { s with heap := h' } := I.kept (t' := s.toks) kp
    obtain ⟨ob, hd, I2⟩ := laidT (t' := s.toks) I1 r' hz
    exact ⟨.ref h'.objs.size, _, I2, rfl, q _ ob hd (I1.hok.fresh (Nat.le_refl _))⟩
  · obtain ⟨its, r', pl, hz⟩ := I.tuple hq
    exact call_tuple_same pl ⟨.ref p, H, I, rfl, q⟩
end
/-! ### a tuple times an int -/
theorem tuple_mul1 (l : Addr) (items : Array Value) (n : Nat) (dd : Option Addr) (sl : Array (Option Value)) (u : Tok) :
    Meets (Builtin.«tuple.__mul__» ⟨[.ref l, .int 1 u], []⟩) (fun _ R s => s.heap.get? l = some { cls := .type "tuple", dict := dd, data := .seq items n, slots := sl } ∧ R (.ok (.ret (Value.ref l))) s) :=
  .of_wp fun prog w A R s h => by
    obtain ⟨hp, g, d, tk, os⟩ := s
    obtain ⟨hl, h⟩ := h
    have f1 := AutoSeq1.idx_int
    have c0 : (decide ((1 : Int) < -(2 ^ 63)) || decide ((1 : Int) ≥ 2 ^ 63)) = false := by decide
    have c1 : (items.isEmpty || (1 : Int) == 1) = true := by rw [show ((1 : Int) == 1) = true from rfl, Bool.or_true]
    wp_walk using wpAny_loadPart' hl
    repeat (first
      | (refine wpAny_ite_false (decide_eq_false (by rw [c0]; exact Bool.false_ne_true)) ?_; wp_walk using wpAny_loadPart' hl)
      | (refine wpAny_ite_true (decide_eq_true c1) ?_; wp_walk using wpAny_loadPart' hl))
    exact ⟨_, rfl, h⟩
def rRepT1 (K : PySem.W.Frag) : R2 := fun x y H Q => ∃ l xs, x = .ref l ∧ y = .int 1 ∧ SqT K H l xs ∧ Q (.ref l) H
theorem op_repT1 {X : Cx} : OpR X (binaryOp .Mult) (rRepT1 X.K) := by
  intro pins s σ H x y v u Q I rx ry h
  obtain ⟨l, xs, rfl, rfl, hT, q⟩ := h
  cases rx
  obtain ⟨t, rfl⟩ := ry
  obtain ⟨its, r, ⟨⟨cls, dd, data, sl⟩, ho, hc, n, hd⟩, hs⟩ := I.tuple hT
  simp only at hc hd
  subst hc hd
  refine wpAny_binaryOp_repeat_ref (T := "tuple") (U := "int") (by decide) ⟨_, ho, rfl⟩ (fun s' => typeIs_int s' 1 t) noFill_tuple_mul F.fills_int_mul F.slot_int_rmul repeat_tuple F.slot_int_index.lookup
    (call_meets F.slot_int_rmul (typeIs_int s 1 t) F.entry_int_rmul (F.args_int_rmul_2 _ _) (int_rmul_tuple 1 t l its.toArray n dd sl)
      ⟨ho, rfl, ⟨_, ho, rfl⟩, call_meets F.slot_tuple_mul ⟨_, ho, rfl⟩ F.entry_tuple_mul (F.args_tuple_mul_2 _ _) (tuple_mul1 l its.toArray n dd sl t) ⟨ho, ?_⟩⟩)
  exact ⟨.ref l, H, I, rfl, q⟩
def rRepX (K : PySem.W.Frag) : R2 := fun x y H Q => ∃ l k xs, x = .ref l ∧ y = .int k ∧ SqT K H l xs ∧ xs ≠ [] ∧ 2 ≤ k ∧ k ≤ 1000 ∧ xs.length ≤ 1000 ∧ ∀ p ob, ob.dict = none → H p = none → Q (.ref p) (upd H p (tpl ob (List.replicate k.toNat xs).flatten))
theorem op_repX {X : Cx} : OpR X (binaryOp .Mult) (rRepX X.K) := by
  intro pins s σ H x y v u Q I rx ry h
  obtain ⟨l, k, xs, rfl, rfl, hT, hne, h1, h2, hz, q⟩ := h
  cases rx
  obtain ⟨t, rfl⟩ := ry
  obtain ⟨its, r, ⟨⟨cls, dd, data, sl⟩, ho, hc, n, hd⟩, hs⟩ := I.tuple hT
  simp only at hc hd
  subst hc hd
  have hle : its.length = xs.length := r.length.symm
  have hn : its ≠ [] := fun e => hne (by
    rw [e] at hle
    exact List.eq_nil_of_length_eq_zero hle.symm)
  have hi : its.toArray.isEmpty = false := by
    cases its with
    | nil => exact absurd rfl hn
    | cons a b => rfl
  have hsz0 : its.toArray.size = xs.length := by rw [List.size_toArray, hle]
  have hm : ((its.toArray.size : Nat) : Int) * k ≤ 1000000 := by
    rw [hsz0]
    have a1 : ((xs.length : Nat) : Int) * k ≤ 1000 * k := Int.mul_le_mul_of_nonneg_right (by omega) (by omega)
    omega
  have flen : (List.replicate k.toNat its).flatten.length ≤ sizeLine := by
    rw [PyProof.Rows.lm_len_rep_flat, hle, sizeLine_eq]
    have a1 : k.toNat * xs.length ≤ 1000 * 1000 := Nat.mul_le_mul (by omega) hz
    omega
  have c0 : (decide (k < -(2 ^ 63)) || decide (k ≥ 2 ^ 63)) = false := by
    rw [decide_eq_false (by omega), decide_eq_false (by omega)] <;> rfl
  have c1 : (its.toArray.isEmpty || k == 1) = false := by
    rw [hi, Bool.false_or]
    exact beq_eq_false_iff_ne.mpr (by omega)
  have c2 : (decide (k ≤ 0) || its.toArray.isEmpty) = false := by
    rw [hi, Bool.or_false]
    exact decide_eq_false (by omega)
  have c4 : Builtin.Tuple.tupleTooMany (((its.toArray.size : Nat) : Int) * k) = false := by
    unfold Builtin.Tuple.tupleTooMany
    rw [sizeLine_eq]
    exact decide_eq_false (by omega)
  refine wpAny_binaryOp_repeat_ref (T := "tuple") (U := "int") (by decide) ⟨_, ho, rfl⟩ (fun s' => typeIs_int s' k t) noFill_tuple_mul F.fills_int_mul F.slot_int_rmul repeat_tuple F.slot_int_index.lookup
    (call_meets F.slot_int_rmul (typeIs_int s k t) F.entry_int_rmul (F.args_int_rmul_2 _ _) (int_rmul_tuple k t l its.toArray n dd sl)
      ⟨ho, rfl, ⟨_, ho, rfl⟩, call_meets F.slot_tuple_mul ⟨_, ho, rfl⟩ F.entry_tuple_mul (F.args_tuple_mul_2 _ _) (tuple_mulW l its.toArray n dd sl k t c0 c1 c2 (by omega) c4 (by rw [size_rep, List.size_toArray]; exact flen)) ⟨ho, ?_⟩⟩)
  rw [size_rep]
  obtain ⟨ob, hd, I2⟩ := laidT (t' := s.toks) I (r.rep k.toNat) (by rw [PyProof.Rows.lm_len_rep_flat, sizeLine_eq]; have a1 : k.toNat * xs.length ≤ 1000 * 1000 := Nat.mul_le_mul (by omega) hz; omega)
  exact ⟨.ref s.heap.objs.size, _, I2, rfl, q _ ob hd (I.hok.fresh (Nat.le_refl _))⟩
end Mx

set_option Elab.async false
set_option linter.all false
set_option maxRecDepth 100000
set_option maxHeartbeats 4000000
/-! Mx0: frozen data, mutable objects, the simulation between a data-level memory and the abstract heap. -/
namespace Mx
open PySem PySem.Spec PyProof.Rows L2

/-- a value at the data level: frozen data, a mutable object by its number, or the script -/
inductive U where
  | d (x : PyData)
  | o (n : Nat)
  | scr (ns : List Int)
/-- a mutable object -/
inductive MO where
  | lst (us : List U)
  | dct (kvs : List (Key × U))
  | lck (kvs : List (Key × U))
  | fz (ds : List PyData)
abbrev Mem := List MO
/-- an outcome -/
inductive R (α : Type) where
  | ok (a : α) (M : Mem)
  | exc (c : Str) (M : Mem)
  | bad
def R.bind {α β : Type} (r : R α) (f : α → Mem → R β) : R β :=
  match r with
  | .ok a M => f a M
  | .exc c M => .exc c M
  | .bad => .bad
abbrev DEnv := List (Option U)

/-! ### data in the frozen part B of the heap -/
mutual
inductive DR (B : Hp) : V → PyData → Prop
  | non : DR B .non .none
  | bl (b : Bool) : DR B (.bl b) (.bool b)
  | int (i : Int) : DR B (.int i) (.int i)
  | str (x : Str) : DR B (.str x) (.str x)
  | lst {a : Addr} {xs : List V} {ds : List PyData} : B a = some (.lst xs) → DRs B xs ds → DR B (.ref a) (.list ds)
  | tup {a : Addr} {ob : Obj} {xs : List V} {ds : List PyData} : ob.dict = none → B a = some (tpl ob xs) → DRs B xs ds → DR B (.ref a) (.tuple ds)
inductive DRs (B : Hp) : List V → List PyData → Prop
  | nil : DRs B [] []
  | cons {v : V} {vs : List V} {d : PyData} {ds : List PyData} : DR B v d → DRs B vs ds → DRs B (v :: vs) (d :: ds)
end

mutual
theorem DR.mono {B B' : Hp} (h : Same B B') : ∀ {d : PyData} {v : V}, DR B v d → DR B' v d
  | .none, _, .non => .non
  | .bool _, _, .bl b => .bl b
  | .int _, _, .int i => .int i
  | .str _, _, .str x => .str x
  | .list _, _, .lst e r => .lst (h _ _ e) (DRs.mono h r)
  | .tuple _, _, .tup z e r => .tup z (h _ _ e) (DRs.mono h r)
theorem DRs.mono {B B' : Hp} (h : Same B B') : ∀ {ds : List PyData} {vs : List V}, DRs B vs ds → DRs B' vs ds
  | [], _, .nil => .nil
  | _ :: _, _, .cons a b => .cons (DR.mono h a) (DRs.mono h b)
end
theorem DRs.length {B : Hp} : ∀ {ds : List PyData} {vs : List V}, DRs B vs ds → vs.length = ds.length
  | [], _, .nil => rfl
  | _ :: _, _, .cons _ b => by rw [List.length_cons, List.length_cons, DRs.length b]

/-! ### values -/
def UR (K : PySem.W.Frag) (B : Hp) (ι : List Addr) : U → V → Prop
  | .d x, v => DR B v x
  | .o n, v => ∃ a, ι[n]? = some a ∧ v = .ref a
  | .scr ns, v => ∃ a, v = .ref a ∧ SqL K B a (ns.map V.int)
abbrev URs (K : PySem.W.Frag) (B : Hp) (ι : List Addr) : List U → List V → Prop := Paired (UR K B ι)
abbrev URk (K : PySem.W.Frag) (B : Hp) (ι : List Addr) : List (Key × U) → List (Key × V) → Prop :=
  Paired fun p q => p.1 = q.1 ∧ UR K B ι p.2 q.2

theorem pre_get {ι ι' : List Addr} (h : ι <+: ι') {n : Nat} {a : Addr} (e : ι[n]? = some a) : ι'[n]? = some a := by
  obtain ⟨t, rfl⟩ := h
  have hn : n < ι.length := (List.getElem?_eq_some_iff.mp e).1
  rw [List.getElem?_append_left hn]
  exact e
theorem UR.mono {K : PySem.W.Frag} {B B' : Hp} {ι ι' : List Addr} (h : Same B B') (p : ι <+: ι') : ∀ {u : U} {v : V}, UR K B ι u v → UR K B' ι' u v
  | .d _, _, r => DR.mono h r
  | .o _, _, ⟨a, e, r⟩ => ⟨a, pre_get p e, r⟩
  | .scr _, _, ⟨a, e, r⟩ => ⟨a, e, h.seq r⟩
theorem URs.mono {K : PySem.W.Frag} {B B' : Hp} {ι ι' : List Addr} (h : Same B B') (p : ι <+: ι') {us : List U} {vs : List V} (r : URs K B ι us vs) : URs K B' ι' us vs :=
  Paired.mapP r fun _ _ z => UR.mono h p z
theorem URk.mono {K : PySem.W.Frag} {B B' : Hp} {ι ι' : List Addr} (h : Same B B') (p : ι <+: ι') {us : List (Key × U)} {vs : List (Key × V)} (r : URk K B ι us vs) : URk K B' ι' us vs :=
  Paired.mapP r fun _ _ z => ⟨z.1, UR.mono h p z.2⟩

/-- what stands at the address a of the mutable object m -/
def MOk (K : PySem.W.Frag) (B : Hp) (ι : List Addr) (H : Hp) (a : Addr) : MO → Prop
  | .lst us => B a = none ∧ ∃ vs, H a = some (.lst vs) ∧ URs K B ι us vs
  | .dct kvs => B a = none ∧ ∃ vs, H a = some (.dK vs) ∧ URk K B ι kvs vs
  | .lck kvs => ∃ od vs, B a = some (.frz od (.dK vs)) ∧ URk K B ι kvs vs
  | .fz ds => ∃ vs, B a = some (.lst vs) ∧ DRs B vs ds
structure Sim (K : PySem.W.Frag) (B : Hp) (ι : List Addr) (M : Mem) (H : Hp) : Prop where
  sub : Same B H
  len : ι.length = M.length
  ok : ∀ (n : Nat) (a : Addr) (m : MO), ι[n]? = some a → M[n]? = some m → MOk K B ι H a m
  nd : ι.Nodup
/-- a step: the frozen part and the numbering grow, what is outside both stays outside and as it was -/
structure Stp (B : Hp) (ι : List Addr) (H B' : Hp) (ι' : List Addr) (H' : Hp) : Prop where
  sub : Same B B'
  pre : ι <+: ι'
  out : ∀ a o, H a = some o → B a = none → a ∉ ι → B' a = none ∧ a ∉ ι' ∧ H' a = some o

theorem Stp.refl (B : Hp) (ι : List Addr) (H : Hp) : Stp B ι H B ι H := ⟨Same.refl B, List.prefix_refl ι, fun _ _ h b n => ⟨b, n, h⟩⟩
theorem Stp.trans {B B1 B2 H H1 H2 : Hp} {ι ι1 ι2 : List Addr} (a : Stp B ι H B1 ι1 H1) (b : Stp B1 ι1 H1 B2 ι2 H2) : Stp B ι H B2 ι2 H2 :=
  ⟨a.sub.trans b.sub, List.IsPrefix.trans a.pre b.pre, fun x o h hb hn => by
    obtain ⟨h1, h2, h3⟩ := a.out x o h hb hn
    exact b.out x o h3 h1 h2⟩

theorem Sim.dom {K : PySem.W.Frag} {B H : Hp} {ι : List Addr} {M : Mem} (s : Sim K B ι M H) {a : Addr} (h : a ∈ ι) : ∃ o, H a = some o := by
  obtain ⟨n, hn, e⟩ := List.mem_iff_getElem.mp h
  have hM : n < M.length := s.len ▸ hn
  have e1 : ι[n]? = some a := by rw [List.getElem?_eq_getElem hn, e]
  have k := s.ok n a _ e1 (List.getElem?_eq_getElem hM)
  revert k
  cases M[n] with
  | lst us => rintro ⟨_, vs, h, _⟩; exact ⟨_, h⟩
  | dct us => rintro ⟨_, vs, h, _⟩; exact ⟨_, h⟩
  | lck us => rintro ⟨od, vs, h, _⟩; exact ⟨_, s.sub _ _ h⟩
  | fz ds => rintro ⟨vs, h, _⟩; exact ⟨_, s.sub _ _ h⟩
theorem Sim.fresh {K : PySem.W.Frag} {B H : Hp} {ι : List Addr} {M : Mem} (s : Sim K B ι M H) {p : Addr} (h : H p = none) : B p = none ∧ p ∉ ι := by
  refine ⟨s.sub.free h, fun hm => ?_⟩
  obtain ⟨o, e⟩ := s.dom hm
  rw [h] at e
  cases e

theorem same_upd {H : Hp} {p : Addr} {o : HO} (h : H p = none) : Same H (upd H p o) := fun b x e => by
  rw [upd_ne (ne_of_none e h)]
  exact e
/-- what MOk says of an object elsewhere is kept when B, ι grow and the heap changes at p alone -/
theorem MOk.keep {K : PySem.W.Frag} {B B' H H' : Hp} {ι ι' : List Addr} {a : Addr} {m : MO} (k : MOk K B ι H a m) (h : Same B B') (p : ι <+: ι') (hb : B a = none → B' a = none) (hh : H' a = H a) : MOk K B' ι' H' a m := by
  cases m with
  | lst us => obtain ⟨b, vs, e, r⟩ := k; exact ⟨hb b, vs, hh.trans e, r.mono h p⟩
  | dct us => obtain ⟨b, vs, e, r⟩ := k; exact ⟨hb b, vs, hh.trans e, r.mono h p⟩
  | lck us => obtain ⟨od, vs, e, r⟩ := k; exact ⟨od, vs, h _ _ e, r.mono h p⟩
  | fz ds => obtain ⟨vs, e, r⟩ := k; exact ⟨vs, h _ _ e, DRs.mono h r⟩

section
variable {K : PySem.W.Frag} {B H : Hp} {ι : List Addr} {M : Mem}
/-- a new frozen object -/
theorem Sim.froze (s : Sim K B ι M H) {p : Addr} (hp : H p = none) (o : HO) : Sim K (upd B p o) ι M (upd H p o) ∧ Stp B ι H (upd B p o) ι (upd H p o) := by
  obtain ⟨bp, np⟩ := s.fresh hp
  have hB : Same B (upd B p o) := same_upd bp
  refine ⟨⟨fun a x e => ?_, s.len, fun n a m e1 e2 => ?_, s.nd⟩, ⟨hB, List.prefix_refl _, fun a x e b n => ?_⟩⟩
  · by_cases h : a = p
    · subst h; rw [upd_same] at e ⊢; exact e
    · rw [upd_ne h] at e ⊢; exact s.sub _ _ e
  · have na : a ≠ p := fun z => np (z ▸ List.mem_of_getElem? e1)
    exact (s.ok n a m e1 e2).keep hB (List.prefix_refl _) (fun b => by rw [upd_ne na]; exact b) (upd_ne na)
  · have na : a ≠ p := ne_of_none e hp
    exact ⟨by rw [upd_ne na]; exact b, n, by rw [upd_ne na]; exact e⟩
/-- a new mutable object -/
theorem Sim.made (s : Sim K B ι M H) {p : Addr} (hp : H p = none) {o : HO} {m : MO} (k : MOk K B (ι ++ [p]) (upd H p o) p m) : Sim K B (ι ++ [p]) (M ++ [m]) (upd H p o) ∧ Stp B ι H B (ι ++ [p]) (upd H p o) := by
  obtain ⟨bp, np⟩ := s.fresh hp
  have hpre : ι <+: ι ++ [p] := List.prefix_append _ _
  refine ⟨⟨s.sub.trans (same_upd hp), by rw [List.length_append, List.length_append, s.len]; rfl, fun n a x e1 e2 => ?_, ?_⟩, ⟨Same.refl B, hpre, fun a x e b n => ?_⟩⟩
  · by_cases hn : n < ι.length
    · rw [List.getElem?_append_left hn] at e1
      rw [List.getElem?_append_left (s.len ▸ hn)] at e2
      have na : a ≠ p := fun z => np (z ▸ List.mem_of_getElem? e1)
      exact (s.ok n a x e1 e2).keep (Same.refl B) hpre (fun b => b) (upd_ne na)
    · have hl : n = ι.length := by
        have := (List.getElem?_eq_some_iff.mp e1).1
        rw [List.length_append] at this
        simp at this
        omega
      subst hl
      have e3 : (M ++ [m])[ι.length]? = some m := by rw [s.len]; simp
      rw [e3] at e2
      cases e2
      have e4 : (ι ++ [p])[ι.length]? = some p := by simp
      rw [e4] at e1
      cases e1
      exact k
  · rw [List.nodup_append]
    refine ⟨s.nd, by simp, fun a ha b hb => ?_⟩
    rw [List.mem_singleton] at hb
    subst hb
    exact fun z => np (z ▸ ha)
  · have na : a ≠ p := ne_of_none e hp
    refine ⟨b, fun hm => ?_, by rw [upd_ne na]; exact e⟩
    rcases List.mem_append.mp hm with z | z
    · exact n z
    · exact na (List.mem_singleton.mp z)
/-- a mutable object changed -/
theorem Sim.wrote (s : Sim K B ι M H) {n : Nat} {a : Addr} (e : ι[n]? = some a) {o : HO} {m : MO} (hb : B a = none) (k : MOk K B ι (upd H a o) a m) : Sim K B ι (M.set n m) (upd H a o) ∧ Stp B ι H B ι (upd H a o) := by
  refine ⟨⟨fun b x h => ?_, by rw [List.length_set]; exact s.len, fun j b x e1 e2 => ?_, s.nd⟩, ⟨Same.refl B, List.prefix_refl _, fun b x h hb' hn => ?_⟩⟩
  · have nb : b ≠ a := fun z => by rw [z, hb] at h; cases h
    rw [upd_ne nb]
    exact s.sub _ _ h
  · by_cases hj : j = n
    · subst hj
      rw [e] at e1
      cases e1
      have hl : j < M.length := s.len ▸ (List.getElem?_eq_some_iff.mp e).1
      rw [List.getElem?_set_self hl] at e2
      cases e2
      exact k
    · rw [List.getElem?_set_ne (Ne.symm hj)] at e2
      have nb : b ≠ a := fun z => by
        subst z
        obtain ⟨h1, q1⟩ := List.getElem?_eq_some_iff.mp e
        obtain ⟨h2, q2⟩ := List.getElem?_eq_some_iff.mp e1
        exact hj ((List.getElem_inj s.nd).mp (q2.trans q1.symm))
      exact (s.ok j b x e1 e2).keep (Same.refl B) (List.prefix_refl _) (fun z => z) (upd_ne nb)
  · have nb : b ≠ a := fun z => hn (z ▸ List.mem_of_getElem? e)
    exact ⟨hb', hn, by rw [upd_ne nb]; exact h⟩
/-- a mutable object frozen where it stands -/
theorem Sim.seal (s : Sim K B ι M H) {n : Nat} {a : Addr} {vs : List V} {ds : List PyData} (e : ι[n]? = some a) (hb : B a = none) (ha : H a = some (.lst vs)) (hr : DRs B vs ds) : Sim K (upd B a (.lst vs)) ι (M.set n (.fz ds)) H ∧ Stp B ι H (upd B a (.lst vs)) ι H := by
  have hB : Same B (upd B a (.lst vs)) := same_upd hb
  refine ⟨⟨fun b x h => ?_, by rw [List.length_set]; exact s.len, fun j b x e1 e2 => ?_, s.nd⟩, ⟨hB, List.prefix_refl _, fun b x h hb' hn => ?_⟩⟩
  · by_cases z : b = a
    · subst z; rw [upd_same] at h; cases h; exact ha
    · rw [upd_ne z] at h; exact s.sub _ _ h
  · by_cases hj : j = n
    · subst hj
      rw [e] at e1
      cases e1
      have hl : j < M.length := s.len ▸ (List.getElem?_eq_some_iff.mp e).1
      rw [List.getElem?_set_self hl] at e2
      cases e2
      exact ⟨vs, upd_same, DRs.mono hB hr⟩
    · rw [List.getElem?_set_ne (Ne.symm hj)] at e2
      have nb : b ≠ a := fun z => by
        subst z
        obtain ⟨h1, q1⟩ := List.getElem?_eq_some_iff.mp e
        obtain ⟨h2, q2⟩ := List.getElem?_eq_some_iff.mp e1
        exact hj ((List.getElem_inj s.nd).mp (q2.trans q1.symm))
      exact (s.ok j b x e1 e2).keep hB (List.prefix_refl _) (fun z => by rw [upd_ne nb]; exact z) rfl
  · have nb : b ≠ a := fun z => hn (z ▸ List.mem_of_getElem? e)
    exact ⟨by rw [upd_ne nb]; exact hb', hn, h⟩
theorem UR.back {B' : Hp} {ι' : List Addr} (hB : Same B B') (hp : ι <+: ι') : ∀ {u : U} {v v' : V}, UR K B ι u v → UR K B' ι' u v' → UR K B' ι u v'
  | .d _, _, _, _, r => r
  | .o n, _, _, ⟨a, e, _⟩, ⟨a', e', r'⟩ => by
    have e2 := pre_get hp e
    rw [e'] at e2
    cases e2
    exact ⟨_, e, r'⟩
  | .scr _, _, _, _, r => r
theorem URs.back {B' : Hp} {ι' : List Addr} (hB : Same B B') (hp : ι <+: ι') : ∀ {us : List U} {vs vs' : List V}, URs K B ι us vs → URs K B' ι' us vs' → URs K B' ι us vs'
  | _, _, _, .nil, .nil => .nil
  | _, _, _, .cons a b, .cons a' b' => .cons (UR.back hB hp a a') (URs.back hB hp b b')
theorem URk.back {B' : Hp} {ι' : List Addr} (hB : Same B B') (hp : ι <+: ι') : ∀ {us : List (Key × U)} {vs vs' : List (Key × V)}, URk K B ι us vs → URk K B' ι' us vs' → URk K B' ι us vs'
  | _, _, _, .nil, .nil => .nil
  | _, _, _, .cons a b, .cons a' b' => .cons ⟨a'.1, UR.back hB hp a.2 a'.2⟩ (URk.back hB hp b b')
/-- the memory cut back, where the elder part is as it was -/
theorem Sim.cut {B' H' : Hp} {ι' : List Addr} {M' : Mem} (s : Sim K B ι M H) (t : Stp B ι H B' ι' H') (s' : Sim K B' ι' M' H') (e : M'.take M.length = M) : Sim K B' ι M H' ∧ Stp B ι H B' ι H' := by
  refine ⟨⟨s'.sub, s.len, fun n a m e1 e2 => ?_, s.nd⟩, ⟨t.sub, List.prefix_refl _, fun a o h hb hn => ?_⟩⟩
  · have hn : n < M.length := (List.getElem?_eq_some_iff.mp e2).1
    have e3 : M'[n]? = some m := by
      rw [← e, List.getElem?_take_of_lt hn] at e2
      exact e2
    have k' := s'.ok n a m (pre_get t.pre e1) e3
    have k := s.ok n a m e1 e2
    cases m with
    | lst us =>
      obtain ⟨_, vs, _, r⟩ := k
      obtain ⟨b', vs', h', r'⟩ := k'
      exact ⟨b', vs', h', URs.back t.sub t.pre r r'⟩
    | dct us =>
      obtain ⟨_, vs, _, r⟩ := k
      obtain ⟨b', vs', h', r'⟩ := k'
      exact ⟨b', vs', h', URk.back t.sub t.pre r r'⟩
    | lck us =>
      obtain ⟨_, vs, _, r⟩ := k
      obtain ⟨od, vs', h', r'⟩ := k'
      exact ⟨od, vs', h', URk.back t.sub t.pre r r'⟩
    | fz ds => exact k'
  · obtain ⟨h1, _, h3⟩ := t.out a o h hb hn
    exact ⟨h1, hn, h3⟩
end

/-! ### a dict locked, and unlocked again -/
/-- the frozen part without the address d -/
def del (B : Hp) (d : Addr) : Hp := fun a => if a = d then none else B a
theorem del_same {B : Hp} {d : Addr} : del B d d = none := if_pos rfl
theorem del_ne {B : Hp} {d a : Addr} (h : a ≠ d) : del B d a = B a := if_neg h
mutual
theorem DR.del {B : Hp} {d : Addr} {od : Obj} {kvs : List (Key × V)} (hd : B d = some (.frz od (.dK kvs))) : ∀ {x : PyData} {v : V}, DR B v x → DR (del B d) v x
  | .none, _, .non => .non
  | .bool _, _, .bl b => .bl b
  | .int _, _, .int i => .int i
  | .str _, _, .str x => .str x
  | .list _, _, .lst e r => .lst (by rw [del_ne (fun z => by rw [z, hd] at e; cases e)]; exact e) (DRs.del hd r)
  | .tuple _, _, .tup z e r => .tup z (by rw [del_ne (fun q => by rw [q, hd] at e; cases e)]; exact e) (DRs.del hd r)
theorem DRs.del {B : Hp} {d : Addr} {od : Obj} {kvs : List (Key × V)} (hd : B d = some (.frz od (.dK kvs))) : ∀ {xs : List PyData} {vs : List V}, DRs B vs xs → DRs (del B d) vs xs
  | [], _, .nil => .nil
  | _ :: _, _, .cons a b => .cons (DR.del hd a) (DRs.del hd b)
end
theorem SqL.del {K : PySem.W.Frag} {B : Hp} {d a : Addr} {od : Obj} {kvs : List (Key × V)} (hd : B d = some (.frz od (.dK kvs))) {vs : List V} (h : SqL K B a vs) : SqL K (del B d) a vs := by
  rcases h with (h | ⟨o, h⟩) | h
  · refine .inl (.inl ?_)
    rw [del_ne (fun z => by rw [z, hd] at h; cases h)]
    exact h
  · refine .inl (.inr ⟨o, ?_⟩)
    rw [del_ne (fun z => by rw [z, hd] at h; cases h)]
    exact h
  · exact .inr h
theorem UR.del {K : PySem.W.Frag} {B : Hp} {ι : List Addr} {d : Addr} {od : Obj} {kvs : List (Key × V)} (hd : B d = some (.frz od (.dK kvs))) : ∀ {u : U} {v : V}, UR K B ι u v → UR K (del B d) ι u v
  | .d _, _, r => DR.del hd r
  | .o _, _, r => r
  | .scr _, _, ⟨a, e, r⟩ => ⟨a, e, SqL.del hd r⟩
theorem URs.del {K : PySem.W.Frag} {B : Hp} {ι : List Addr} {d : Addr} {od : Obj} {kvs : List (Key × V)} (hd : B d = some (.frz od (.dK kvs))) {us : List U} {vs : List V} (r : URs K B ι us vs) : URs K (del B d) ι us vs :=
  Paired.mapP r fun _ _ z => UR.del hd z
theorem URk.del {K : PySem.W.Frag} {B : Hp} {ι : List Addr} {d : Addr} {od : Obj} {kvs : List (Key × V)} (hd : B d = some (.frz od (.dK kvs))) {us : List (Key × U)} {vs : List (Key × V)} (r : URk K B ι us vs) : URk K (del B d) ι us vs :=
  Paired.mapP r fun _ _ z => ⟨z.1, UR.del hd z.2⟩
section
variable {K : PySem.W.Frag} {B H : Hp} {ι : List Addr} {M : Mem}
theorem Sim.lock (s : Sim K B ι M H) {n : Nat} {a : Addr} {us : List (Key × U)} {vs : List (Key × V)} (e : ι[n]? = some a) (hb : B a = none) (r : URk K B ι us vs) (od : Obj) :
    Sim K (upd B a (.frz od (.dK vs))) ι (M.set n (.lck us)) (upd H a (.frz od (.dK vs))) := by
  have hB : Same B (upd B a (.frz od (.dK vs))) := same_upd hb
  refine ⟨fun b x h => ?_, by rw [List.length_set]; exact s.len, fun j b x e1 e2 => ?_, s.nd⟩
  · by_cases z : b = a
    · subst z; rw [upd_same] at h ⊢; exact h
    · rw [upd_ne z] at h ⊢; exact s.sub _ _ h
  · by_cases hj : j = n
    · subst hj
      rw [e] at e1
      cases e1
      have hl : j < M.length := s.len ▸ (List.getElem?_eq_some_iff.mp e).1
      rw [List.getElem?_set_self hl] at e2
      cases e2
      exact ⟨od, vs, upd_same, r.mono hB (List.prefix_refl _)⟩
    · rw [List.getElem?_set_ne (Ne.symm hj)] at e2
      have nb : b ≠ a := fun z => by
        subst z
        obtain ⟨h1, q1⟩ := List.getElem?_eq_some_iff.mp e
        obtain ⟨h2, q2⟩ := List.getElem?_eq_some_iff.mp e1
        exact hj ((List.getElem_inj s.nd).mp (q2.trans q1.symm))
      exact (s.ok j b x e1 e2).keep hB (List.prefix_refl _) (fun z => by rw [upd_ne nb]; exact z) (upd_ne nb)
theorem Sim.unlock {B' H' : Hp} {ι' : List Addr} {M' : Mem} {n : Nat} {a : Addr} {us : List (Key × U)} {vs : List (Key × V)} {od : Obj} (e : ι[n]? = some a) (hb : B a = none)
    (t : Stp (upd B a (.frz od (.dK vs))) ι (upd H a (.frz od (.dK vs))) B' ι' H') (s' : Sim K B' ι' M' H') (hM : M'[n]? = some (.lck us)) :
    H' a = some (.frz od (.dK vs)) ∧ B' a = some (.frz od (.dK vs)) ∧ Sim K (del B' a) ι' (M'.set n (.dct us)) (upd H' a (.dK vs)) ∧ Stp B ι H (del B' a) ι' (upd H' a (.dK vs)) := by
  have hB' : B' a = some (.frz od (.dK vs)) := t.sub _ _ upd_same
  have e' : ι'[n]? = some a := pre_get t.pre e
  refine ⟨s'.sub _ _ hB', hB', ⟨fun b x h => ?_, by rw [List.length_set]; exact s'.len, fun j b x e1 e2 => ?_, s'.nd⟩, ⟨fun b x h => ?_, t.pre, fun b x h hb' hn => ?_⟩⟩
  · have nb : b ≠ a := fun z => by rw [z, del_same] at h; cases h
    rw [del_ne nb] at h
    rw [upd_ne nb]
    exact s'.sub _ _ h
  · by_cases hj : j = n
    · subst hj
      rw [e'] at e1
      cases e1
      have hl : j < M'.length := s'.len ▸ (List.getElem?_eq_some_iff.mp e').1
      rw [List.getElem?_set_self hl] at e2
      cases e2
      obtain ⟨od', vs', h1, r⟩ := s'.ok j a _ e' hM
      rw [hB'] at h1
      cases h1
      exact ⟨del_same, vs, upd_same, r.del hB'⟩
    · rw [List.getElem?_set_ne (Ne.symm hj)] at e2
      have nb : b ≠ a := fun z => by
        subst z
        obtain ⟨h1, q1⟩ := List.getElem?_eq_some_iff.mp e'
        obtain ⟨h2, q2⟩ := List.getElem?_eq_some_iff.mp e1
        exact hj ((List.getElem_inj s'.nd).mp (q2.trans q1.symm))
      have k := s'.ok j b x e1 e2
      cases x with
      | lst us => obtain ⟨b0, vs, e, r⟩ := k; exact ⟨by rw [del_ne nb]; exact b0, vs, by rw [upd_ne nb]; exact e, r.del hB'⟩
      | dct us => obtain ⟨b0, vs, e, r⟩ := k; exact ⟨by rw [del_ne nb]; exact b0, vs, by rw [upd_ne nb]; exact e, r.del hB'⟩
      | lck us => obtain ⟨od, vs, e, r⟩ := k; exact ⟨od, vs, by rw [del_ne nb]; exact e, r.del hB'⟩
      | fz ds => obtain ⟨vs, e, r⟩ := k; exact ⟨vs, by rw [del_ne nb]; exact e, DRs.del hB' r⟩
  · have nb : b ≠ a := fun z => by rw [z, hb] at h; cases h
    rw [del_ne nb]
    exact t.sub _ _ (by rw [upd_ne nb]; exact h)
  · have nb : b ≠ a := fun z => hn (z ▸ List.mem_of_getElem? e)
    obtain ⟨h1, h2, h3⟩ := t.out b x (by rw [upd_ne nb]; exact h) (by rw [upd_ne nb]; exact hb') hn
    exact ⟨by rw [del_ne nb]; exact h1, h2, by rw [upd_ne nb]; exact h3⟩
end

/-! ### slots -/
structure Slots (K : PySem.W.Frag) (B : Hp) (ι : List Addr) (ρ : DEnv) (σ : St) : Prop where
  len : ρ.length = σ.length
  get : ∀ (i : Nat) (u : U), ρ[i]? = some (some u) → ∃ v, σ[i]? = some (some v) ∧ UR K B ι u v
theorem Slots.mono {K : PySem.W.Frag} {B B' : Hp} {ι ι' : List Addr} {ρ : DEnv} {σ : St} (s : Slots K B ι ρ σ) (h : Same B B') (p : ι <+: ι') : Slots K B' ι' ρ σ :=
  ⟨s.len, fun i u e => let ⟨v, e1, r⟩ := s.get i u e; ⟨v, e1, r.mono h p⟩⟩
theorem Slots.set {K : PySem.W.Frag} {B : Hp} {ι : List Addr} {ρ : DEnv} {σ : St} (s : Slots K B ι ρ σ) {u : U} {v : V} (r : UR K B ι u v) (i : Nat) : Slots K B ι (ρ.set i (some u)) (σ.set i (some v)) := by
  refine ⟨by rw [List.length_set, List.length_set, s.len], fun j w e => ?_⟩
  by_cases hj : i = j
  · subst hj
    have hl : i < ρ.length := by
      have := (List.getElem?_eq_some_iff.mp e).1
      rw [List.length_set] at this
      exact this
    rw [List.getElem?_set_self hl] at e
    cases e
    rw [List.getElem?_set_self (s.len ▸ hl)]
    exact ⟨v, rfl, r⟩
  · rw [List.getElem?_set_ne hj] at e
    obtain ⟨x, e1, q⟩ := s.get j w e
    exact ⟨x, by rw [List.getElem?_set_ne hj]; exact e1, q⟩

/-! ### what an outcome asks -/
/-- what is wanted where a class of the name c is raised -/
abbrev WD := Str → St → Hp → Prop
def Wp {α : Type} (K : PySem.W.Frag) (W : WD) (σ : St) (B : Hp) (ι : List Addr) (H : Hp) (r : R α) (Q : α → Hp → List Addr → Mem → Hp → Prop) : Prop :=
  match r with
  | .ok a M => ∀ B' ι' H', Stp B ι H B' ι' H' → Sim K B' ι' M H' → Q a B' ι' M H'
  | .exc c M => ∀ B' ι' H', Stp B ι H B' ι' H' → Sim K B' ι' M H' → W c σ H'
  | .bad => False
section
variable {α β : Type} {K : PySem.W.Frag} {W : WD} {σ : St} {B H : Hp} {ι : List Addr}
theorem Wp.shift {B1 H1 : Hp} {ι1 : List Addr} {r : R α} {Q : α → Hp → List Addr → Mem → Hp → Prop} (h : Wp K W σ B ι H r Q) (t : Stp B ι H B1 ι1 H1) : Wp K W σ B1 ι1 H1 r Q := by
  cases r with
  | ok a M => exact fun B' ι' H' t' => h B' ι' H' (t.trans t')
  | exc c M => exact fun B' ι' H' t' => h B' ι' H' (t.trans t')
  | bad => exact h
theorem Wp.imp {r : R α} {Q Q' : α → Hp → List Addr → Mem → Hp → Prop} (h : Wp K W σ B ι H r Q) (f : ∀ a B' ι' M' H', Stp B ι H B' ι' H' → Sim K B' ι' M' H' → Q a B' ι' M' H' → Q' a B' ι' M' H') : Wp K W σ B ι H r Q' := by
  cases r with
  | ok a M => exact fun B' ι' H' t s => f a B' ι' M H' t s (h B' ι' H' t s)
  | exc c M => exact h
  | bad => exact h
theorem Wp.bind {r : R α} {f : α → Mem → R β} {Q : β → Hp → List Addr → Mem → Hp → Prop} (h : Wp K W σ B ι H (r.bind f) Q) : Wp K W σ B ι H r fun a B' ι' M' H' => Wp K W σ B' ι' H' (f a M') Q := by
  cases r with
  | ok a M => exact fun B' ι' H' t s => Wp.shift (r := f a M) h t
  | exc c M => exact h
  | bad => exact h
theorem Wp.ok {a : α} {M : Mem} {Q : α → Hp → List Addr → Mem → Hp → Prop} (h : Wp K W σ B ι H (.ok a M) Q) (s : Sim K B ι M H) : Q a B ι M H := h B ι H (Stp.refl _ _ _) s
end
/-- an expression's reading from what it computes -/
def tD (K : PySem.W.Frag) (W : WD) (f : DEnv → Mem → R U) : TE := fun σ H Q => ∃ ρ M B ι, Sim K B ι M H ∧ Slots K B ι ρ σ ∧ Wp K W σ B ι H (f ρ M) fun u B' ι' M' H' => ∀ v, UR K B' ι' u v → Q v H'
def tDb (K : PySem.W.Frag) (W : WD) (f : DEnv → Mem → R Bool) : TT := fun σ H Q => ∃ ρ M B ι, Sim K B ι M H ∧ Slots K B ι ρ σ ∧ Wp K W σ B ι H (f ρ M) fun b B' ι' M' H' => Q b H'
def tDa (K : PySem.W.Frag) (W : WD) (f : DEnv → Mem → R (List U)) : TA := fun σ H Q => ∃ ρ M B ι, Sim K B ι M H ∧ Slots K B ι ρ σ ∧ Wp K W σ B ι H (f ρ M) fun us B' ι' M' H' => ∀ vs, URs K B' ι' us vs → Q vs H'
/-- a statement's outcome -/
inductive RS where
  | nx (ρ : DEnv) (M : Mem)
  | rt (u : U) (M : Mem)
  | bk (ρ : DEnv) (M : Mem)
  | ct (ρ : DEnv) (M : Mem)
  | exc (c : Str) (ρ : DEnv) (M : Mem)
  | bad
def Ws (K : PySem.W.Frag) (W : WD) (D : Ends) (B : Hp) (ι : List Addr) (H : Hp) (r : RS) : Prop :=
  match r with
  | .nx ρ M => ∀ σ' B' ι' H', Stp B ι H B' ι' H' → Sim K B' ι' M H' → Slots K B' ι' ρ σ' → D.nx σ' H'
  | .rt u M => ∀ v B' ι' H', Stp B ι H B' ι' H' → Sim K B' ι' M H' → UR K B' ι' u v → D.rt v H'
  | .bk ρ M => ∀ σ' B' ι' H', Stp B ι H B' ι' H' → Sim K B' ι' M H' → Slots K B' ι' ρ σ' → D.bk σ' H'
  | .ct ρ M => ∀ σ' B' ι' H', Stp B ι H B' ι' H' → Sim K B' ι' M H' → Slots K B' ι' ρ σ' → D.ct σ' H'
  | .exc c ρ M => ∀ σ' B' ι' H', Stp B ι H B' ι' H' → Sim K B' ι' M H' → Slots K B' ι' ρ σ' → W c σ' H'
  | .bad => False
theorem Ws.shift {K : PySem.W.Frag} {W : WD} {D : Ends} {B H B1 H1 : Hp} {ι ι1 : List Addr} {r : RS} (h : Ws K W D B ι H r) (t : Stp B ι H B1 ι1 H1) : Ws K W D B1 ι1 H1 r := by
  cases r with
  | nx ρ M => exact fun σ' B' ι' H' t' => h σ' B' ι' H' (t.trans t')
  | rt ρ M => exact fun σ' B' ι' H' t' => h σ' B' ι' H' (t.trans t')
  | bk ρ M => exact fun σ' B' ι' H' t' => h σ' B' ι' H' (t.trans t')
  | ct ρ M => exact fun σ' B' ι' H' t' => h σ' B' ι' H' (t.trans t')
  | exc c ρ M => exact fun σ' B' ι' H' t' => h σ' B' ι' H' (t.trans t')
  | bad => exact h
/-- a statement's reading -/
def tDs (K : PySem.W.Frag) (W : WD) (f : DEnv → Mem → RS) : TS := fun D σ H => ∃ ρ M B ι, Sim K B ι M H ∧ Slots K B ι ρ σ ∧ Ws K W D B ι H (f ρ M)
/-- an expression within a statement -/
def R.toS {α : Type} (r : R α) (ρ : DEnv) (f : α → Mem → RS) : RS :=
  match r with
  | .ok a M => f a M
  | .exc c M => .exc c ρ M
  | .bad => .bad
theorem Ws.expr {α : Type} {K : PySem.W.Frag} {W : WD} {D : Ends} {B H : Hp} {ι : List Addr} {σ : St} {ρ : DEnv} {r : R α} {f : α → Mem → RS} (h : Ws K W D B ι H (r.toS ρ f)) (sl : Slots K B ι ρ σ) :
    Wp K W σ B ι H r fun a B' ι' M' H' => Ws K W D B' ι' H' (f a M') := by
  cases r with
  | ok a M => exact fun B' ι' H' t s => Ws.shift (r := f a M) h t
  | exc c M => exact fun B' ι' H' t s => h σ B' ι' H' t s (sl.mono t.sub t.pre)
  | bad => exact h
end Mx

set_option Elab.async false
set_option linter.all false
set_option maxRecDepth 100000
set_option maxHeartbeats 4000000
/-! Mx1: operations on data-level values, and that the layer's rules answer so. -/
namespace Mx
open PySem PySem.Spec PyProof.Rows L2

/-! ### making, reading sequences -/
def allD : List U → Option (List PyData)
  | [] => some []
  | .d x :: r => match allD r with
    | some ds => some (x :: ds)
    | none => none
  | _ :: _ => none
theorem allD_rel {K : PySem.W.Frag} {B : Hp} {ι : List Addr} : ∀ {us : List U} {ds : List PyData} {vs : List V}, allD us = some ds → URs K B ι us vs → DRs B vs ds
  | [], _, _, e, .nil => by cases e; exact .nil
  | .d x :: r, ds, _, e, .cons a b => by
    unfold allD at e
    cases h : allD r with
    | none => rw [h] at e; cases e
    | some l => rw [h] at e; cases e; exact .cons a (allD_rel h b)
  | .o _ :: _, _, _, e, _ => nomatch e
  | .scr _ :: _, _, _, e, _ => nomatch e
theorem rel_map {K : PySem.W.Frag} {B : Hp} {ι : List Addr} : ∀ {ds : List PyData} {vs : List V}, DRs B vs ds → URs K B ι (ds.map U.d) vs
  | [], _, .nil => .nil
  | _ :: _, _, .cons a b => .cons a (rel_map b)
theorem allD_map : ∀ ds : List PyData, allD (ds.map U.d) = some ds
  | [] => rfl
  | d :: r => by
    show (match allD (r.map U.d) with | some ds => some (d :: ds) | none => none) = _
    rw [allD_map r]
def mkL (m : Bool) (us : List U) (M : Mem) : U × Mem :=
  if m then (.o M.length, M ++ [.lst us]) else
    match allD us with
    | some ds => (.d (.list ds), M)
    | none => (.o M.length, M ++ [.lst us])
def mkT (us : List U) (M : Mem) : Option (U × Mem) :=
  match allD us with
  | some ds => some (.d (.tuple ds), M)
  | none => none
section
variable {K : PySem.W.Frag} {B H : Hp} {ι : List Addr} {M : Mem}
theorem mkL_new (s : Sim K B ι M H) {us : List U} {vs : List V} (r : URs K B ι us vs) {p : Addr} (hp : H p = none) :
    ∃ B' ι', Stp B ι H B' ι' (upd H p (.lst vs)) ∧ Sim K B' ι' (M ++ [.lst us]) (upd H p (.lst vs)) ∧ UR K B' ι' (.o M.length) (.ref p) := by
  have hb := (s.fresh hp).1
  obtain ⟨h1, h2⟩ := s.made (p := p) hp (o := .lst vs) (m := .lst us) ⟨hb, vs, upd_same, r.mono (Same.refl B) (List.prefix_append _ _)⟩
  exact ⟨B, ι ++ [p], h2, h1, p, by rw [← s.len]; simp, rfl⟩
theorem mkL_ok (s : Sim K B ι M H) (m : Bool) {us : List U} {vs : List V} (r : URs K B ι us vs) {p : Addr} (hp : H p = none) :
    ∃ B' ι', Stp B ι H B' ι' (upd H p (.lst vs)) ∧ Sim K B' ι' (mkL m us M).2 (upd H p (.lst vs)) ∧ UR K B' ι' (mkL m us M).1 (.ref p) := by
  unfold mkL
  cases m with
  | true => exact mkL_new s r hp
  | false =>
    cases h : allD us with
    | none => exact mkL_new s r hp
    | some ds =>
      obtain ⟨h1, h2⟩ := s.froze hp (.lst vs)
      exact ⟨_, ι, h2, h1, .lst upd_same (DRs.mono h2.sub (allD_rel h r))⟩
theorem mkT_ok (s : Sim K B ι M H) {us : List U} {vs : List V} (r : URs K B ι us vs) {u : U} {M' : Mem} (e : mkT us M = some (u, M')) {p : Addr} (hp : H p = none) {ob : Obj} (hd : ob.dict = none) :
    ∃ B' ι', Stp B ι H B' ι' (upd H p (tpl ob vs)) ∧ Sim K B' ι' M' (upd H p (tpl ob vs)) ∧ UR K B' ι' u (.ref p) := by
  unfold mkT at e
  cases h : allD us with
  | none => rw [h] at e; cases e
  | some ds =>
    rw [h] at e
    cases e
    obtain ⟨h1, h2⟩ := s.froze hp (tpl ob vs)
    exact ⟨_, ι, h2, h1, .tup hd upd_same (DRs.mono h2.sub (allD_rel h r))⟩
end
/-- the items of a list (true) or a tuple (false) -/
def seqU (M : Mem) : U → Option (Bool × List U)
  | .d (.list ds) => some (true, ds.map U.d)
  | .d (.tuple ds) => some (false, ds.map U.d)
  | .o n => match M[n]? with
    | some (.lst us) => some (true, us)
    | some (.fz ds) => some (true, ds.map U.d)
    | _ => none
  | _ => none
def viewU (M : Mem) : U → Option PyData
  | .d x => some x
  | .o n => match M[n]? with
    | some (.lst us) => (allD us).map .list
    | some (.fz ds) => some (.list ds)
    | _ => none
  | .scr _ => none
section
variable {K : PySem.W.Frag} {B H : Hp} {ι : List Addr} {M : Mem} {u : U} {v : V}
theorem Sim.at (s : Sim K B ι M H) {n : Nat} (r : UR K B ι (.o n) v) {m : MO} (e : M[n]? = some m) : ∃ a, v = .ref a ∧ ι[n]? = some a ∧ MOk K B ι H a m := by
  obtain ⟨a, h, rfl⟩ := r
  exact ⟨a, rfl, h, s.ok n a m h e⟩
theorem seqU_ok (s : Sim K B ι M H) (r : UR K B ι u v) {b : Bool} {us : List U} (e : seqU M u = some (b, us)) :
    ∃ a vs, v = .ref a ∧ URs K B ι us vs ∧ (if b then H a = some (.lst vs) else ∃ ob : Obj, ob.dict = none ∧ H a = some (tpl ob vs)) := by
  cases u with
  | d x =>
    cases x with
    | list ds => cases e; cases r with | lst h q => exact ⟨_, _, rfl, rel_map q, s.sub _ _ h⟩
    | tuple ds => cases e; cases r with | tup z h q => exact ⟨_, _, rfl, rel_map q, _, z, s.sub _ _ h⟩
    | _ => cases e
  | o n =>
    unfold seqU at e
    dsimp only at e
    cases h : M[n]? with
    | none => rw [h] at e; cases e
    | some m =>
      rw [h] at e
      cases m with
      | lst ws =>
        cases e
        obtain ⟨a, rfl, hi, _, vs, h1, q⟩ := s.at r h
        exact ⟨a, vs, rfl, q, h1⟩
      | fz ds =>
        cases e
        obtain ⟨a, rfl, hi, vs, h1, q⟩ := s.at r h
        exact ⟨a, vs, rfl, rel_map q, s.sub _ _ h1⟩
      | _ => cases e
  | scr ns => cases e
theorem seqU_L (s : Sim K B ι M H) (r : UR K B ι u v) {us : List U} (e : seqU M u = some (true, us)) : ∃ a vs, v = .ref a ∧ URs K B ι us vs ∧ H a = some (.lst vs) := seqU_ok s r e
theorem seqU_T (s : Sim K B ι M H) (r : UR K B ι u v) {us : List U} (e : seqU M u = some (false, us)) : ∃ a vs, v = .ref a ∧ URs K B ι us vs ∧ SqT K H a vs := by
  obtain ⟨a, vs, h1, h2, ob, _, h3⟩ := seqU_ok s r e
  exact ⟨a, vs, h1, h2, .inl (.inr ⟨ob, h3⟩)⟩
theorem seqU_sq (s : Sim K B ι M H) (r : UR K B ι u v) {b : Bool} {us : List U} (e : seqU M u = some (b, us)) :
    ∃ a vs, v = .ref a ∧ URs K B ι us vs ∧ (SqL K H a vs ∨ SqT K H a vs) := by
  obtain ⟨a, vs, h1, h2, h3⟩ := seqU_ok s r e
  cases b with
  | true => exact ⟨a, vs, h1, h2, .inl (.inl (.inl h3))⟩
  | false =>
    obtain ⟨ob, _, h3⟩ := h3
    exact ⟨a, vs, h1, h2, .inr (.inl (.inr ⟨ob, h3⟩))⟩
mutual
theorem DR.dpH {K : PySem.W.Frag} {B H : Hp} (h : Same B H) : ∀ {d : PyData} {v : V}, DR B v d → Dp K H v d
  | .none, _, .non => .non
  | .bool _, _, .bl b => .bl b
  | .int _, _, .int i => .int i
  | .str _, _, .str x => .str x
  | .list _, _, .lst e r => .lst (.inl (.inl (h _ _ e))) (DRs.dpH h r)
  | .tuple _, _, .tup _ e r => .tup (.inl (.inr ⟨_, h _ _ e⟩)) (DRs.dpH h r)
theorem DRs.dpH {K : PySem.W.Frag} {B H : Hp} (h : Same B H) : ∀ {ds : List PyData} {vs : List V}, DRs B vs ds → DpAll K H vs ds
  | [], _, .nil => .nil
  | _ :: _, _, .cons a b => .cons (DR.dpH h a) (DRs.dpH h b)
end
theorem viewU_ok (s : Sim K B ι M H) (r : UR K B ι u v) {x : PyData} (e : viewU M u = some x) : Dp K H v x := by
  cases u with
  | d y => cases e; exact DR.dpH s.sub r
  | o n =>
    unfold viewU at e
    dsimp only at e
    cases h : M[n]? with
    | none => rw [h] at e; cases e
    | some m =>
      rw [h] at e
      cases m with
      | lst ws =>
        dsimp only at e
        cases h2 : allD ws with
        | none => rw [h2] at e; cases e
        | some ds =>
          rw [h2] at e
          cases e
          obtain ⟨a, rfl, hi, _, vs, h1, q⟩ := s.at r h
          exact .lst (.inl (.inl h1)) (DRs.dpH s.sub (allD_rel h2 q))
      | fz ds =>
        cases e
        obtain ⟨a, rfl, hi, vs, h1, q⟩ := s.at r h
        exact .lst (.inl (.inl (s.sub _ _ h1))) (DRs.dpH s.sub q)
      | _ => cases e
  | scr ns => cases e
end

/-! ### the reading of an operation -/
abbrev Op2 := U → U → Mem → Option (U × Mem)
/-- what is asked behind an operation at (B, ι, H) that gave (u, M') -/
def Aft (K : PySem.W.Frag) (B : Hp) (ι : List Addr) (H : Hp) (u : U) (M' : Mem) (Q : VK) : Prop :=
  ∀ v B' ι' H', Stp B ι H B' ι' H' → Sim K B' ι' M' H' → UR K B' ι' u v → Q v H'
def rD2 (K : PySem.W.Frag) (g : Op2) : R2 := fun x y H Q => ∃ B ι M a b u M', Sim K B ι M H ∧ UR K B ι a x ∧ UR K B ι b y ∧ g a b M = some (u, M') ∧ Aft K B ι H u M' Q
theorem opImp {X : Cx} {f : Value → Value → Sem Value} {r r' : R2} (h : OpR X f r) (k : ∀ x y H Q, r' x y H Q → r x y H Q) : OpR X f r' :=
  fun pins s σ H x y v u Q I rx ry q => h pins s σ H x y v u Q I rx ry (k x y H Q q)
theorem Aft.flat {K : PySem.W.Frag} {B : Hp} {ι : List Addr} {H : Hp} {x : PyData} {v : V} {M : Mem} {Q : VK} (h : Aft K B ι H (.d x) M Q) (s : Sim K B ι M H) (r : DR B v x) : Q v H := h v B ι H (Stp.refl _ _ _) s r

def LIM : Nat := 16777216
theorem lim_eq : LIM = sizeLine := by rw [sizeLine_eq]; rfl
theorem paired_append {α β : Type} {G : α → β → Prop} : ∀ {l₁ l₂ : List α} {m₁ m₂ : List β}, Paired G l₁ m₁ → Paired G l₂ m₂ → Paired G (l₁ ++ l₂) (m₁ ++ m₂)
  | _, _, _, _, .nil, h => h
  | _, _, _, _, .cons a b, h => .cons a (paired_append b h)
theorem URs.len {K : PySem.W.Frag} {B : Hp} {ι : List Addr} {us : List U} {vs : List V} (r : URs K B ι us vs) : us.length = vs.length := Paired.length r

/-- x + y -/
def addU (m : Bool) : Op2 := fun x y M =>
  match x, y with
  | .d (.int i), .d (.int j) => some (.d (.int (i + j)), M)
  | .d (.str a), .d (.str b) => if a.length + b.length ≤ LIM then some (.d (.str (a ++ b)), M) else none
  | x, y =>
    match seqU M x, seqU M y with
    | some (true, us), some (true, ws) => if us.length + ws.length ≤ LIM then some (mkL m (us ++ ws) M) else none
    | some (false, us), some (false, ws) => if us.length + ws.length ≤ LIM then mkT (us ++ ws) M else none
    | _, _ => none
theorem op_addU {X : Cx} (m : Bool) : OpR X (binaryOp .Add) (rD2 X.K (addU m)) := by
  refine opImp (OpR.or op_add (OpR.or op_add_str (OpR.or op_cat op_catX))) fun x y H Q h => ?_
  obtain ⟨B, ι, M, a, b, u, M', s, ra, rb, e, q⟩ := h
  have seqs : (match seqU M a, seqU M b with
      | some (true, us), some (true, ws) => if us.length + ws.length ≤ LIM then some (mkL m (us ++ ws) M) else none
      | some (false, us), some (false, ws) => if us.length + ws.length ≤ LIM then mkT (us ++ ws) M else none
      | _, _ => none) = some (u, M') → rCat x y H Q ∨ rCatX X.K x y H Q := by
    intro e
    cases h1 : seqU M a with
    | none => rw [h1] at e; cases e
    | some p =>
      obtain ⟨b1, us⟩ := p
      cases h2 : seqU M b with
      | none => rw [h1, h2] at e; cases b1 <;> cases e
      | some p2 =>
        obtain ⟨b2, ws⟩ := p2
        rw [h1, h2] at e
        cases b1 with
        | true =>
          cases b2 with
          | false => cases e
          | true =>
            dsimp only at e
            split at e
            · rename_i hl
              obtain ⟨pa, va, rfl, qa, ha⟩ := seqU_L s ra h1
              obtain ⟨pb, vb, rfl, qb, hb⟩ := seqU_L s rb h2
              refine .inl ⟨pa, pb, va, vb, rfl, rfl, ha, hb, by rw [← qa.len, ← qb.len, ← lim_eq]; exact hl, fun p hp => ?_⟩
              obtain ⟨B', ι', t, s', r'⟩ := mkL_ok s m (paired_append qa qb) hp
              rw [Option.some.inj e] at s' r'
              exact q _ _ _ _ t s' r'
            · cases e
        | false =>
          cases b2 with
          | true => cases e
          | false =>
            dsimp only at e
            split at e
            · rename_i hl
              obtain ⟨pa, va, rfl, qa, ha⟩ := seqU_T s ra h1
              obtain ⟨pb, vb, rfl, qb, hb⟩ := seqU_T s rb h2
              refine .inr ⟨pa, pb, va, vb, rfl, rfl, ha, hb, by rw [← qa.len, ← qb.len, ← lim_eq]; exact hl, fun z => ?_, fun _ z => ?_, fun _ _ p ob hd hp => ?_⟩
              · subst z
                cases qa
                have e' : mkT ws M = some (u, M') := e
                cases b with
                | d xb =>
                  cases xb with
                  | tuple ds =>
                    cases h2
                    unfold mkT at e'
                    rw [allD_map] at e'
                    cases e'
                    exact q _ _ _ _ (Stp.refl _ _ _) s rb
                  | _ => cases h2
                | o n =>
                  unfold seqU at h2
                  dsimp only at h2
                  split at h2 <;> cases h2
                | scr ns => cases h2
              · subst z
                cases qb
                rw [List.append_nil] at e
                cases a with
                | d xb =>
                  cases xb with
                  | tuple ds =>
                    cases h1
                    unfold mkT at e
                    rw [allD_map] at e
                    cases e
                    exact q _ _ _ _ (Stp.refl _ _ _) s ra
                  | _ => cases h1
                | o n =>
                  unfold seqU at h1
                  dsimp only at h1
                  split at h1 <;> cases h1
                | scr ns => cases h1
              · obtain ⟨B', ι', t, s', r'⟩ := mkT_ok s (paired_append qa qb) e hp hd
                exact q _ _ _ _ t s' r'
            · cases e
  unfold addU at e
  split at e
  · cases e; cases ra; cases rb
    exact .inl ⟨_, _, rfl, rfl, q.flat s (.int _)⟩
  · split at e
    · rename_i hl
      cases e; cases ra; cases rb
      exact .inr (.inl ⟨_, _, rfl, rfl, by rw [← lim_eq]; exact hl, q.flat s (.str _)⟩)
    · cases e
  · rcases seqs e with z | z
    · exact .inr (.inr (.inl z))
    · exact .inr (.inr (.inr z))
end Mx

set_option Elab.async false
set_option linter.all false
set_option maxRecDepth 100000
set_option maxHeartbeats 4000000
/-! Mx2: further operations: - * // % **, comparisons, len, subscripts, slices, truth. -/
namespace Mx
open PySem PySem.Spec PyProof.Rows L2

theorem paired_rep {α β : Type} {G : α → β → Prop} {l : List α} {m : List β} (h : Paired G l m) : ∀ k : Nat, Paired G (List.replicate k l).flatten (List.replicate k m).flatten
  | 0 => .nil
  | k + 1 => by
    rw [List.replicate_succ, List.replicate_succ, List.flatten_cons, List.flatten_cons]
    exact paired_append h (paired_rep h k)

def small64 (i : Int) : Bool := decide (i.natAbs < 18446744073709551616)
theorem small64_ok {i : Int} (h : small64 i = true) : -(2 ^ 64) < i ∧ i < 2 ^ 64 := by
  have := of_decide_eq_true h
  omega
def mulU (m : Bool) : Op2 := fun x y M =>
  match x, y with
  | .d (.int i), .d (.int j) => if small64 i || small64 j then some (.d (.int (i * j)), M) else none
  | x, .d (.int k) =>
    match seqU M x with
    | some (true, us) => if 0 ≤ k && k ≤ 1000000 && us.length * k.toNat ≤ LIM then some (mkL m (List.replicate k.toNat us).flatten M) else none
    | some (false, us) => if k = 1 then mkT us M else if 2 ≤ k && k ≤ 1000 && us.length ≤ 1000 && !us.isEmpty then mkT (List.replicate k.toNat us).flatten M else none
    | none => none
  | _, _ => none
theorem seqF_mkT {M M' : Mem} {a u : U} {us : List U} (h : seqU M a = some (false, us)) (e : mkT us M = some (u, M')) : u = a ∧ M' = M := by
  cases a with
  | d x =>
    cases x with
    | tuple ds =>
      cases h
      unfold mkT at e
      rw [allD_map] at e
      cases e
      exact ⟨rfl, rfl⟩
    | _ => cases h
  | o n =>
    unfold seqU at h
    dsimp only at h
    split at h <;> cases h
  | scr ns => cases h
theorem op_mulU {X : Cx} (m : Bool) : OpR X (binaryOp .Mult) (rD2 X.K (mulU m)) := by
  refine opImp (OpR.or op_mul (OpR.or op_rep (OpR.or op_repX op_repT1))) fun x y H Q h => ?_
  obtain ⟨B, ι, M, a, b, u, M', s, ra, rb, e, q⟩ := h
  unfold mulU at e
  split at e
  · split at e
    · rename_i hl
      cases e; cases ra; cases rb
      refine .inl ⟨_, _, rfl, rfl, ?_, q.flat s (.int _)⟩
      rcases Bool.or_eq_true_iff.mp hl with z | z
      · exact .inl (small64_ok z)
      · exact .inr (small64_ok z)
    · cases e
  · cases rb
    rename_i k _
    split at e
    · rename_i us h1
      split at e
      · rename_i hl
        simp only [Bool.and_eq_true, decide_eq_true_eq] at hl
        obtain ⟨⟨h2, h3⟩, h4⟩ := hl
        obtain ⟨pa, va, rfl, qa, ha⟩ := seqU_L s ra h1
        refine .inr (.inl ⟨pa, k, va, rfl, rfl, ha, by omega, by omega, by rw [← qa.len, ← lim_eq]; exact h4, fun p hp => ?_⟩)
        obtain ⟨B', ι', t, s', r'⟩ := mkL_ok s m (paired_rep qa k.toNat) hp
        rw [Option.some.inj e] at s' r'
        exact q _ _ _ _ t s' r'
      · cases e
    · rename_i us h1
      obtain ⟨pa, va, rfl, qa, ha⟩ := seqU_T s ra h1
      split at e
      · rename_i hk
        subst hk
        obtain ⟨rfl, rfl⟩ := seqF_mkT h1 e
        exact .inr (.inr (.inr ⟨pa, va, rfl, rfl, ha, q _ _ _ _ (Stp.refl _ _ _) s ra⟩))
      · split at e
        · rename_i hl
          simp only [Bool.and_eq_true, decide_eq_true_eq, Bool.not_eq_true'] at hl
          obtain ⟨⟨⟨h2, h3⟩, h4⟩, h5⟩ := hl
          refine .inr (.inr (.inl ⟨pa, k, va, rfl, rfl, ha, fun z => ?_, h2, h3, by rw [← qa.len]; exact h4, fun p ob hd hp => ?_⟩))
          · subst z
            cases qa
            cases h5
          · obtain ⟨B', ι', t, s', r'⟩ := mkT_ok s (paired_rep qa k.toNat) e hp hd
            exact q _ _ _ _ t s' r'
        · cases e
    · cases e
  · cases e

/-! ### ints -/
def intU (c : Int → Int → Bool) (f : Int → Int → Int) : Op2 := fun x y M =>
  match x, y with
  | .d (.int i), .d (.int j) => if c i j then some (.d (.int (f i j)), M) else none
  | _, _ => none
theorem op_intU {X : Cx} {g : Value → Value → Sem Value} {C : Int → Int → Prop} {c : Int → Int → Bool} {f : Int → Int → Int} (h : OpR X g (rI C fun i j => .int (f i j))) (k : ∀ i j, c i j = true → C i j) : OpR X g (rD2 X.K (intU c f)) := by
  refine opImp h fun x y H Q h => ?_
  obtain ⟨B, ι, M, a, b, u, M', s, ra, rb, e, q⟩ := h
  unfold intU at e
  split at e
  · split at e
    · rename_i hl
      cases e; cases ra; cases rb
      exact ⟨_, _, rfl, rfl, k _ _ hl, q.flat s (.int _)⟩
    · cases e
  · cases e
def subU : Op2 := intU (fun _ _ => true) (· - ·)
def modU : Op2 := intU (fun _ j => decide (0 < j)) (· % ·)
def divU : Op2 := intU (fun _ j => decide (0 < j) && decide (j.natAbs < 340282366920938463463374607431768211456)) (· / ·)
def powU : Op2 := intU (fun i j => decide (0 ≤ j) && decide (j ≤ 1000) && small64 i) (fun i j => i ^ j.toNat)
theorem op_subU {X : Cx} : OpR X (binaryOp .Sub) (rD2 X.K subU) := op_intU (C := fun _ _ => True) (opImp op_sub fun x y H Q ⟨i, j, a, b, _, q⟩ => ⟨i, j, a, b, q⟩) fun _ _ _ => trivial
theorem op_modU {X : Cx} : OpR X (binaryOp .Mod) (rD2 X.K modU) := op_intU op_mod fun _ _ h => of_decide_eq_true h
theorem op_divU {X : Cx} : OpR X (binaryOp .FloorDiv) (rD2 X.K divU) := op_intU op_fdivW fun i j h => by
  obtain ⟨h1, h2⟩ := Bool.and_eq_true_iff.mp h
  exact wide_div (b := 128) (of_decide_eq_true h1) (by have := of_decide_eq_true h2; omega) (by decide) (by decide)
theorem op_powU {X : Cx} : OpR X (binaryOp .Pow) (rD2 X.K powU) := op_intU op_pow fun i j h => by
  simp only [Bool.and_eq_true, decide_eq_true_eq] at h
  obtain ⟨⟨h1, h2⟩, h3⟩ := h
  refine ⟨h1, by omega, ?_⟩
  have := of_decide_eq_true h3
  omega
def binU (op : Operator) (m : Bool) : Op2 :=
  match op with
  | .Add => addU m
  | .Sub => subU
  | .Mult => mulU m
  | .FloorDiv => divU
  | .Mod => modU
  | .Pow => powU
  | _ => fun _ _ _ => none
theorem op_binU {X : Cx} (op : Operator) (m : Bool) : OpR X (binaryOp op) (rD2 X.K (binU op m)) := by
  cases op with
  | Add => exact op_addU m
  | Sub => exact op_subU
  | Mult => exact op_mulU m
  | FloorDiv => exact op_divU
  | Mod => exact op_modU
  | Pow => exact op_powU
  | _ => exact fun pins s σ H x y v u Q I rx ry ⟨_, _, _, _, _, _, _, _, _, _, e, _⟩ => nomatch e

/-! ### comparisons: a truth value, the memory as it was -/
abbrev Cmp2 := U → U → Mem → Option Bool
def rC2 (K : PySem.W.Frag) (g : Cmp2) : R2 := fun x y H Q => ∃ B ι M a b c, Sim K B ι M H ∧ UR K B ι a x ∧ UR K B ι b y ∧ g a b M = some c ∧ Q (.bl c) H
def eqU (ne : Bool) : Cmp2 := fun a b M =>
  match viewU M a, viewU M b with
  | some x, some y => if SeqAt.shaped x && SeqAt.shaped y then some (ne != PyData.eqv x y) else none
  | _, _ => none
theorem op_eqU {X : Cx} (hu : X.A.units + 64 < cLine) : OpR X (compareOp .Eq) (rC2 X.K (eqU false)) := by
  refine opImp (op_eqD hu) fun x y H Q h => ?_
  obtain ⟨B, ι, M, a, b, c, s, ra, rb, e, q⟩ := h
  unfold eqU at e
  split at e
  · rename_i d1 d2 h1 h2
    split at e
    · rename_i hl
      cases e
      obtain ⟨z1, z2⟩ := Bool.and_eq_true_iff.mp hl
      exact ⟨d1, d2, viewU_ok s ra h1, viewU_ok s rb h2, z1, z2, by simpa using q⟩
    · cases e
  · cases e
theorem op_neU {X : Cx} (hu : X.A.units + 64 < cLine) : OpR X (compareOp .NotEq) (rC2 X.K (eqU true)) := by
  refine opImp (op_neD hu) fun x y H Q h => ?_
  obtain ⟨B, ι, M, a, b, c, s, ra, rb, e, q⟩ := h
  unfold eqU at e
  split at e
  · rename_i d1 d2 h1 h2
    split at e
    · rename_i hl
      cases e
      obtain ⟨z1, z2⟩ := Bool.and_eq_true_iff.mp hl
      exact ⟨d1, d2, viewU_ok s ra h1, viewU_ok s rb h2, z1, z2, by simpa using q⟩
    · cases e
  · cases e
/-- two ints -/
def ordU (p : Int → Int → Bool) : Cmp2 := fun a b _ =>
  match a, b with
  | .d (.int i), .d (.int j) => some (p i j)
  | _, _ => none
theorem op_ordU {X : Cx} {f : Value → Value → Sem Value} {p : Int → Int → Bool} (h : OpR X f (rI0 fun i j => .bl (p i j))) : OpR X f (rC2 X.K (ordU p)) := by
  refine opImp h fun x y H Q h => ?_
  obtain ⟨B, ι, M, a, b, c, s, ra, rb, e, q⟩ := h
  unfold ordU at e
  split at e
  · cases e; cases ra; cases rb
    exact ⟨_, _, rfl, rfl, q⟩
  · cases e
/-- flat data -/
def flatD : PyData → Bool
  | .none => true
  | .bool _ => true
  | .int _ => true
  | .str _ => true
  | _ => false
theorem flat_of {B : Hp} {v : V} {d : PyData} (r : DR B v d) (h : flatD d = true) : flatV v = true := by
  cases r <;> first | rfl | cases h
theorem eqV_of {B : Hp} {v w : V} {d e : PyData} (r : DR B v d) (q : DR B w e) (h : flatD d = true) (k : flatD e = true) : eqV v w = PyData.eqv d e := by
  cases r <;> first | (cases h; done) | (cases q <;> first | (cases k; done) | (simp [eqV, PyData.eqv]; done) | rfl)
theorem inV_of {B : Hp} {v : V} {d : PyData} (r : DR B v d) (h : flatD d = true) : ∀ {ds : List PyData} {vs : List V}, DRs B vs ds → ds.all flatD = true → vs.all flatV = true ∧ inV v vs = ds.any fun y => PyData.eqv y d
  | [], _, .nil, _ => ⟨rfl, rfl⟩
  | e :: ds, _, .cons a b, k => by
    rw [List.all_cons, Bool.and_eq_true] at k
    obtain ⟨h1, h2⟩ := inV_of r h b k.2
    refine ⟨by rw [List.all_cons, flat_of a k.1, h1]; rfl, ?_⟩
    unfold inV at h2 ⊢
    rw [List.any_cons, List.any_cons, h2, eqV_of a r k.1 h]
/-- a in b, b a list or tuple of flat things, or a text and a one sign; or a dict -/
def inU (neg : Bool) : Cmp2 := fun a b M =>
  match a, b with
  | .d (.str x), .d (.str z) => match x.cps.toList with
    | [c] => some (neg != decide (c ∈ z.cps.toList))
    | _ => none
  | .d x, b => match seqU M b with
    | some (_, us) => match allD us with
      | some ds => if flatD x && ds.all flatD then some (neg != ds.any fun y => PyData.eqv y x) else none
      | none => none
    | none => none
  | _, _ => none
theorem one_sign {x : Str} {c : Nat} (h : x.cps.toList = [c]) : x = ⟨#[c]⟩ := by
  obtain ⟨⟨l⟩⟩ := x
  have h : l = [c] := h
  subst h
  rfl
theorem inU_ok {K : PySem.W.Frag} {x y : V} {H : Hp} {Q : VK} (neg : Bool) (h : rC2 K (inU neg) x y H Q) :
    (∃ (c : Nat) (z : Str), x = .str ⟨#[c]⟩ ∧ y = .str z ∧ Q (.bl (neg != decide (c ∈ z.cps.toList))) H) ∨ rIn K neg x y H Q := by
  obtain ⟨B, ι, M, a, b, c, s, ra, rb, e, q⟩ := h
  unfold inU at e
  split at e
  · split at e
    · rename_i h1
      cases e; cases ra; cases rb
      rw [one_sign h1]
      exact .inl ⟨_, _, rfl, rfl, q⟩
    · cases e
  · split at e
    · rename_i us h1
      split at e
      · rename_i ds h2
        split at e
        · rename_i hl
          cases e
          obtain ⟨z1, z2⟩ := Bool.and_eq_true_iff.mp hl
          obtain ⟨p, vs, rfl, qs, hsq⟩ := seqU_sq s rb h1
          obtain ⟨f1, f2⟩ := inV_of ra z1 (allD_rel h2 qs) z2
          refine .inr ⟨p, vs, rfl, hsq, flat_of ra z1, f1, ?_⟩
          rw [f2]
          cases neg
          · simpa using q
          · simpa using q
        · cases e
      · cases e
    · cases e
  · cases e
theorem op_inU {X : Cx} : OpR X (compareOp .In) (rC2 X.K (inU false)) := by
  refine opImp (OpR.or op_in_sign op_in_seq) fun x y H Q h => ?_
  rcases inU_ok false h with ⟨c, z, h1, h2, q⟩ | h
  · exact .inl ⟨c, z, h1, h2, by simpa using q⟩
  · exact .inr h
theorem op_notInU {X : Cx} : OpR X (compareOp .NotIn) (rC2 X.K (inU true)) := by
  refine opImp (OpR.or op_notIn_sign op_notIn_seq) fun x y H Q h => ?_
  rcases inU_ok true h with ⟨c, z, h1, h2, q⟩ | h
  · exact .inl ⟨c, z, h1, h2, by simpa using q⟩
  · exact .inr h
/-- a is None, a is True, a is False (both bools) -/
def isU (neg : Bool) : Cmp2 := fun a b _ =>
  match a, b with
  | .d .none, .d .none => some (neg != true)
  | _, .d .none => some (neg != false)
  | .d (.bool x), .d (.bool y) => some (neg != decide (x = y))
  | _, _ => none
theorem UR.nn {K : PySem.W.Frag} {B : Hp} {ι : List Addr} {a : U} {v : V} (r : UR K B ι a v) (h : a ≠ .d .none) : v ≠ .non := by
  rintro rfl
  cases a with
  | d x => cases r; exact h rfl
  | o n => obtain ⟨_, _, z⟩ := r; cases z
  | scr n => obtain ⟨_, z, _⟩ := r; cases z
theorem isU_ok {K : PySem.W.Frag} {x y : V} {H : Hp} {Q : VK} (neg : Bool) (h : rC2 K (isU neg) x y H Q) :
    (y = .non ∧ Q (.bl (neg != decide (x = .non))) H) ∨ (∃ a b : Bool, x = .bl a ∧ y = .bl b ∧ Q (.bl (neg != decide (a = b))) H) := by
  obtain ⟨B, ι, M, a, b, c, s, ra, rb, e, q⟩ := h
  unfold isU at e
  split at e
  · cases e; cases ra; cases rb
    exact .inl ⟨rfl, by simpa using q⟩
  · rename_i hn
    cases e; cases rb
    have : x ≠ .non := ra.nn fun z => hn z
    exact .inl ⟨rfl, by simpa [this] using q⟩
  · cases e; cases ra; cases rb
    exact .inr ⟨_, _, rfl, rfl, q⟩
  · cases e
theorem op_isU {X : Cx} : OpR X (compareOp .Is) (rC2 X.K (isU false)) := by
  refine opImp (OpR.or op_isN op_isBl) fun x y H Q h => ?_
  rcases isU_ok false h with ⟨h1, q⟩ | ⟨a, b, h1, h2, q⟩
  · exact .inl ⟨h1, by simpa using q⟩
  · exact .inr ⟨a, b, h1, h2, by simpa using q⟩
theorem op_isntU {X : Cx} : OpR X (compareOp .IsNot) (rC2 X.K (isU true)) := by
  refine opImp (OpR.or op_notN op_notBl) fun x y H Q h => ?_
  rcases isU_ok true h with ⟨h1, q⟩ | ⟨a, b, h1, h2, q⟩
  · exact .inl ⟨h1, by simpa using q⟩
  · exact .inr ⟨a, b, h1, h2, by simpa using q⟩
def cmpU (op : CmpOp) : Cmp2 :=
  match op with
  | .Eq => eqU false
  | .NotEq => eqU true
  | .Lt => ordU fun i j => decide (i < j)
  | .LtE => ordU fun i j => decide (i ≤ j)
  | .Gt => ordU fun i j => decide (i > j)
  | .GtE => ordU fun i j => decide (i ≥ j)
  | .In => inU false
  | .NotIn => inU true
  | .Is => isU false
  | .IsNot => isU true
theorem op_cmpU {X : Cx} (hu : X.A.units + 64 < cLine) (op : CmpOp) : OpR X (compareOp op) (rC2 X.K (cmpU op)) := by
  cases op with
  | Eq => exact op_eqU hu
  | NotEq => exact op_neU hu
  | Lt => exact op_ordU op_lt
  | LtE => exact op_ordU op_le
  | Gt => exact op_ordU op_gt
  | GtE => exact op_ordU op_ge
  | In => exact op_inU
  | NotIn => exact op_notInU
  | Is => exact op_isU
  | IsNot => exact op_isntU
end Mx

set_option Elab.async false
set_option linter.all false
set_option maxRecDepth 100000
set_option maxHeartbeats 4000000
/-! Mx3: dicts, subscripts, slices, truth, calls of built-ins. -/
namespace Mx
open PySem PySem.Spec PyProof.Rows L2

/-! ### tables by keys -/
section
variable {α β : Type}
def lookA (kvs : List (Key × α)) (k : Key) : Option α := (kvs.find? fun kv => decide (kv.1 = k)).map (·.2)
def putA (kvs : List (Key × α)) (k : Key) (v : α) : List (Key × α) :=
  if (kvs.any fun kv => decide (kv.1 = k)) = true then kvs.map (fun kv => if kv.1 = k then (kv.1, v) else kv) else kvs ++ [(k, v)]
def mergeA (kvs more : List (Key × α)) : List (Key × α) := more.foldl (fun acc kv => putA acc kv.1 kv.2) kvs
end
section
variable {K : PySem.W.Frag} {B H : Hp} {ι : List Addr}
theorem lookA_ok {k : Key} : ∀ {us : List (Key × U)} {vs : List (Key × V)}, URk K B ι us vs → match lookA us k, valV vs k with
    | some u, some v => UR K B ι u v
    | none, none => True
    | _, _ => False
  | _, _, .nil => trivial
  | (k1, u) :: us, (k2, v) :: vs, .cons ⟨e, r⟩ t => by
    have e : k1 = k2 := e
    subst e
    unfold lookA valV
    rw [List.find?_cons, List.find?_cons]
    by_cases h : k1 = k
    · simp only [h, decide_true, Option.map_some]
      exact r
    · simp only [h, decide_false]
      exact lookA_ok t
theorem any_key {k : Key} : ∀ {us : List (Key × U)} {vs : List (Key × V)}, URk K B ι us vs → (us.any fun kv => decide (kv.1 = k)) = vs.any fun kv => decide (kv.1 = k)
  | _, _, .nil => rfl
  | _, _, .cons a b => by rw [List.any_cons, List.any_cons, any_key b, a.1]
theorem map_key {k : Key} {x : U} {y : V} (r : UR K B ι x y) : ∀ {us : List (Key × U)} {vs : List (Key × V)}, URk K B ι us vs →
    URk K B ι (us.map fun kv => if kv.1 = k then (kv.1, x) else kv) (vs.map fun kv => if kv.1 = k then (kv.1, y) else kv)
  | _, _, .nil => .nil
  | p :: _, q :: _, .cons a b => by
    refine .cons ?_ (map_key r b)
    show (if p.1 = k then (p.1, x) else p).1 = (if q.1 = k then (q.1, y) else q).1 ∧ UR K B ι (if p.1 = k then (p.1, x) else p).2 (if q.1 = k then (q.1, y) else q).2
    by_cases h : q.1 = k
    · rw [if_pos h, if_pos (a.1.trans h)]; exact ⟨a.1, r⟩
    · rw [if_neg h, if_neg (fun z => h (a.1.symm.trans z))]; exact a
theorem putA_ok {k : Key} {x : U} {y : V} (r : UR K B ι x y) {us : List (Key × U)} {vs : List (Key × V)} (h : URk K B ι us vs) : URk K B ι (putA us k x) (putK vs k y) := by
  unfold putA putK
  rw [any_key h]
  split
  · exact map_key r h
  · exact paired_append h (.cons ⟨rfl, r⟩ .nil)
theorem mergeA_ok : ∀ {ms : List (Key × U)} {ws : List (Key × V)} {us : List (Key × U)} {vs : List (Key × V)}, URk K B ι ms ws → URk K B ι us vs → URk K B ι (mergeA us ms) (mergeK vs ws)
  | _, _, _, _, .nil, h => h
  | (k, x) :: ms, (k2, y) :: ws, us, vs, .cons ⟨e, r⟩ t, h => by
    have e : k = k2 := e
    subst e
    exact mergeA_ok (us := putA us k x) (vs := putK vs k y) t (putA_ok r h)
end
def keyD : PyData → Option Key
  | .int i => some (.inl i)
  | .str x => some (.inr x)
  | _ => none
def keyU : U → Option Key
  | .d x => keyD x
  | _ => none
theorem keyU_ok {K : PySem.W.Frag} {B : Hp} {ι : List Addr} {u : U} {v : V} {k : Key} (e : keyU u = some k) (r : UR K B ι u v) : v = kV k := by
  cases u with
  | d x =>
    cases x with
    | int i => cases e; cases r; rfl
    | str i => cases e; cases r; rfl
    | _ => cases e
  | o n => cases e
  | scr n => cases e
/-- the entries of a dict, locked or not -/
def dctU (M : Mem) : U → Option (List (Key × U))
  | .o n => match M[n]? with
    | some (.dct kvs) => some kvs
    | some (.lck kvs) => some kvs
    | _ => none
  | _ => none
theorem dctU_ok {K : PySem.W.Frag} {B H : Hp} {ι : List Addr} {M : Mem} {u : U} {v : V} (s : Sim K B ι M H) (r : UR K B ι u v) {kvs : List (Key × U)} (e : dctU M u = some kvs) :
    ∃ a vs, v = .ref a ∧ Rd H a (.dK vs) ∧ URk K B ι kvs vs := by
  cases u with
  | o n =>
    unfold dctU at e
    dsimp only at e
    split at e
    · rename_i h
      cases e
      obtain ⟨a, rfl, hi, _, vs, h1, q⟩ := s.at r h
      exact ⟨a, vs, rfl, .inl h1, q⟩
    · rename_i h
      cases e
      obtain ⟨a, rfl, hi, od, vs, h1, q⟩ := s.at r h
      exact ⟨a, vs, rfl, .inr ⟨od, s.sub _ _ h1⟩, q⟩
    · cases e
  | d x => cases e
  | scr ns => cases e

/-! ### subscripts -/
def atL {α : Type} (xs : List α) (i : Int) : Option α := atI xs i
theorem at_ok {K : PySem.W.Frag} {B : Hp} {ι : List Addr} {us : List U} {vs : List V} (r : URs K B ι us vs) {i : Int} {u : U} (e : atI us i = some u) : ∃ v, atI vs i = some v ∧ UR K B ι u v := by
  unfold atI at e ⊢
  rw [r.len] at e
  cases h : ixN vs.length i with
  | none => rw [h] at e; cases e
  | some j =>
    rw [h] at e
    have e : us[j]? = some u := e
    obtain ⟨v, h1, h2⟩ := paired_get r e
    exact ⟨v, h1, h2⟩
def idxU : U → U → Mem → Option U := fun x y M =>
  match x, y with
  | .scr ns, .d (.int i) => (atI ns i).map fun k => .d (.int k)
  | x, y =>
    match seqU M x with
    | some (_, us) => match y with
      | .d (.int i) => atI us i
      | _ => none
    | none => match dctU M x, keyU y with
      | some kvs, some k => lookA kvs k
      | _, _ => none
def rIxD : R2 := fun x y H Q => ∃ a v, x = .ref a ∧ DGet H a y (some v) ∧ Q v H
theorem ix_dict {X : Cx} (hu : X.A.units + 1 < cLine) : IxR X rIxD := by
  intro value slice pins s σ H x y v u Q I rx ry h hs
  obtain ⟨a, z, rfl, g, q⟩ := h
  cases rx
  have hT := dict_typeIs I g
  unfold subscriptTail
  refine wpAny_bind ?_
  rw [getitemInPython_of_ne hT.not_modules]
  refine wpAny_bind (wpAny_specialOf hT PySem.F.slot_dict_getitem.lookup ?_)
  have fin : wpAny (model X.prog X.w) X.A (subscripted slice false (.ref a) u) (fun r s₃ => wpAny (model X.prog X.w) X.A (letTemporaryGo value (.ref a) r >>= fun _ => pure r) (EP X pins σ Q) X.xe s₃) X.xe s := by
    rw [hs]
    exact wpAny_operating (d_getItem hu I g ry fun w' s3 I3 rw' => wpAny_bind (wpAny_letTemporaryGo (wpAny_pure ⟨z, H, I3, rw', q⟩)))
  first
    | exact wpAny_pure (wpAny_bind fin)
    | exact wpAny_bind (wpAny_pure (wpAny_bind fin))
    | exact wpAny_bind fin
def rIxU (K : PySem.W.Frag) : R2 := fun x y H Q => ∃ B ι M a b u, Sim K B ι M H ∧ UR K B ι a x ∧ UR K B ι b y ∧ idxU a b M = some u ∧ ∀ v, UR K B ι u v → Q v H
theorem ixImp {X : Cx} {r r' : R2} (h : IxR X r) (k : ∀ x y H Q, r' x y H Q → r x y H Q) : IxR X r' :=
  fun value slice pins s σ H x y v u Q I rx ry q hs => h value slice pins s σ H x y v u Q I rx ry (k x y H Q q) hs
theorem ix_U {X : Cx} (hu : X.A.units + 1 < cLine) : IxR X (rIxU X.K) := by
  refine ixImp (IxR.or ix_list (IxR.or ix_tup (ix_dict hu))) fun x y H Q h => ?_
  obtain ⟨B, ι, M, a, b, u, s, ra, rb, e, q⟩ := h
  unfold idxU at e
  split at e
  · rename_i ns i
    cases rb
    obtain ⟨p, rfl, hq⟩ := ra
    cases h : atI ns i with
    | none => rw [h] at e; cases e
    | some k =>
      rw [h] at e
      cases e
      refine .inl ⟨p, _, i, .int k, rfl, rfl, s.sub.seq hq, ?_, q _ (.int k)⟩
      unfold atI at h ⊢
      rw [List.length_map]
      cases h2 : ixN ns.length i with
      | none => rw [h2] at h; cases h
      | some j =>
        rw [h2] at h
        have h : ns[j]? = some k := h
        show (ns.map V.int)[j]? = _
        rw [List.getElem?_map, h]
        rfl
  · split at e
    · rename_i bb us h1
      obtain ⟨p, vs, rfl, qs, hh⟩ := seqU_ok s ra h1
      split at e
      · cases rb
        obtain ⟨v, h2, h3⟩ := at_ok qs e
        cases bb with
        | true => exact .inl ⟨p, vs, _, v, rfl, rfl, .inl (.inl hh), h2, q v h3⟩
        | false =>
          obtain ⟨ob, _, hh⟩ := hh
          exact .inr (.inl ⟨p, vs, _, v, rfl, rfl, .inl (.inr ⟨ob, hh⟩), h2, q v h3⟩)
      · cases e
    · split at e
      · rename_i kvs k h1 h2
        obtain ⟨p, vs, rfl, hd, qs⟩ := dctU_ok s ra h1
        have hk := keyU_ok h2 rb
        subst hk
        have hl := lookA_ok (k := k) qs
        rw [e] at hl
        cases h3 : valV vs k with
        | none => rw [h3] at hl; exact hl.elim
        | some v =>
          rw [h3] at hl
          exact .inr (.inr ⟨p, v, rfl, .inl ⟨vs, k, hd, rfl, h3.symm⟩, q v hl⟩)
      · cases e

/-! ### slices -/
def cutA {α : Type} (xs : List α) (lo hi : Option Int) : List α := (xs.drop (HT.sIx xs.length 0 lo)).take (HT.sIx xs.length xs.length hi - HT.sIx xs.length 0 lo)
theorem paired_drop {α β : Type} {G : α → β → Prop} : ∀ {l : List α} {m : List β} (n : Nat), Paired G l m → Paired G (l.drop n) (m.drop n)
  | _, _, 0, h => h
  | _, _, _ + 1, .nil => .nil
  | _, _, n + 1, .cons _ b => paired_drop n b
theorem paired_take {α β : Type} {G : α → β → Prop} : ∀ {l : List α} {m : List β} (n : Nat), Paired G l m → Paired G (l.take n) (m.take n)
  | _, _, 0, _ => .nil
  | _, _, _ + 1, .nil => .nil
  | _, _, n + 1, .cons a b => .cons a (paired_take n b)
theorem cutA_ok {K : PySem.W.Frag} {B : Hp} {ι : List Addr} {us : List U} {vs : List V} (r : URs K B ι us vs) (lo hi : Option Int) : URs K B ι (cutA us lo hi) (cutV vs lo hi) := by
  unfold cutA cutV
  rw [r.len]
  exact paired_take _ (paired_drop _ r)
def slU (m : Bool) (x : U) (lo hi : Option Int) (M : Mem) : Option (U × Mem) :=
  match seqU M x with
  | some (true, us) => some (mkL m (cutA us lo hi) M)
  | some (false, us) => mkT (cutA us lo hi) M
  | none => none
def rSlU (K : PySem.W.Frag) (m : Bool) : V → Option Int → Option Int → Hp → VK → Prop := fun x lo hi H Q => ∃ B ι M a u M', Sim K B ι M H ∧ UR K B ι a x ∧ slU m a lo hi M = some (u, M') ∧ Aft K B ι H u M' Q
theorem cut_whole {α : Type} {xs : List α} {lo hi : Option Int} (h : HT.sIx xs.length 0 lo = 0 ∧ HT.sIx xs.length xs.length hi = xs.length) : cutA xs lo hi = xs := by
  unfold cutA
  rw [h.1, h.2]
  simp
theorem sl_U {X : Cx} (m : Bool) : SlR X (rSlU X.K m) := by
  intro pins s σ H x v vl vu lo hi sl Q I rx hs pl pu h
  refine SlR.or sl_list sl_tupX pins s σ H x v vl vu lo hi sl Q I rx hs pl pu ?_
  obtain ⟨B, ι, M, a, u, M', s, ra, e, q⟩ := h
  unfold slU at e
  split at e
  · rename_i us h1
    obtain ⟨p, vs, rfl, qs, hh⟩ := seqU_L s ra h1
    refine .inl ⟨p, vs, rfl, .inl (.inl hh), fun p hp => ?_⟩
    obtain ⟨B', ι', t, s', r'⟩ := mkL_ok s m (cutA_ok qs lo hi) hp
    rw [Option.some.inj e] at s' r'
    exact q _ _ _ _ t s' r'
  · rename_i us h1
    obtain ⟨p, vs, rfl, qs, hh⟩ := seqU_T s ra h1
    refine .inr ⟨p, vs, rfl, hh, fun hw => ?_, fun _ p ob hd hp => ?_⟩
    · rw [← qs.len] at hw
      rw [cut_whole hw] at e
      obtain ⟨rfl, rfl⟩ := seqF_mkT h1 e
      exact q _ _ _ _ (Stp.refl _ _ _) s ra
    · obtain ⟨B', ι', t, s', r'⟩ := mkT_ok s (cutA_ok qs lo hi) e hp hd
      exact q _ _ _ _ t s' r'
  · cases e

/-! ### truth -/
def truU (M : Mem) : U → Option Bool
  | .d .none => some false
  | .d (.bool b) => some b
  | .d (.int i) => some (i != 0)
  | .d (.str x) => if x.length ≤ LIM then some ((x.length : Int) != 0) else none
  | u => match seqU M u with
    | some (_, us) => some (!us.isEmpty)
    | none => none
theorem empty_of {α β : Type} {G : α → β → Prop} {l : List α} {m : List β} (r : Paired G l m) : l.isEmpty = m.isEmpty := by cases r <;> rfl
theorem truU_ok {K : PySem.W.Frag} {B H : Hp} {ι : List Addr} {M : Mem} {u : U} {v : V} (s : Sim K B ι M H) (r : UR K B ι u v) {b : Bool} (e : truU M u = some b) : TruV K v H b := by
  have sq : (match seqU M u with | some (_, us) => some (!us.isEmpty) | none => none) = some b → TruV K v H b := fun e => by
    split at e
    · rename_i bb us h1
      obtain ⟨p, vs, rfl, qs, hh⟩ := seqU_ok s r h1
      cases e
      cases bb with
      | true => exact .inl ⟨vs, .inl (.inl hh), by rw [empty_of qs]⟩
      | false =>
        obtain ⟨ob, _, hh⟩ := hh
        exact .inr (.inl ⟨vs, .inl (.inr ⟨ob, hh⟩), by rw [empty_of qs]⟩)
    · cases e
  cases u with
  | d x =>
    cases x with
    | none => cases e; cases r; rfl
    | bool b => cases e; cases r; rfl
    | int b => cases e; cases r; rfl
    | str x =>
      unfold truU at e
      dsimp only at e
      split at e
      · rename_i h
        cases e; cases r
        exact ⟨by rw [← lim_eq]; exact h, rfl⟩
      · cases e
    | list ds => exact sq e
    | tuple ds => exact sq e
    | dict ds => exact sq e
  | o n => exact sq e
  | scr ns => exact sq e

/-! ### calls of built-ins -/
abbrev Opn := List U → Mem → Option (U × Mem)
def rDn (K : PySem.W.Frag) (g : Opn) : List V → Hp → VK → Prop := fun xs H Q => ∃ B ι M us u M', Sim K B ι M H ∧ URs K B ι us xs ∧ g us M = some (u, M') ∧ Aft K B ι H u M' Q
theorem callImp {X : Cx} {f : Value} {r r' : List V → Hp → VK → Prop} (h : CallR X f r) (k : ∀ xs H Q, r' xs H Q → r xs H Q) : CallR X f r' :=
  fun pins s σ H xs us Q I rx q => h pins s σ H xs us Q I rx (k xs H Q q)
theorem urs1 {K : PySem.W.Frag} {B : Hp} {ι : List Addr} {u : U} {vs : List V} (r : URs K B ι [u] vs) : ∃ v, vs = [v] ∧ UR K B ι u v := by
  cases r with | cons a b => cases b; exact ⟨_, rfl, a⟩
theorem urs2 {K : PySem.W.Frag} {B : Hp} {ι : List Addr} {u w : U} {vs : List V} (r : URs K B ι [u, w] vs) : ∃ v x, vs = [v, x] ∧ UR K B ι u v ∧ UR K B ι w x := by
  cases r with | cons a b => cases b with | cons c d => cases d; exact ⟨_, _, rfl, a, c⟩
theorem urs3 {K : PySem.W.Frag} {B : Hp} {ι : List Addr} {u w z : U} {vs : List V} (r : URs K B ι [u, w, z] vs) : ∃ v x y, vs = [v, x, y] ∧ UR K B ι u v ∧ UR K B ι w x ∧ UR K B ι z y := by
  cases r with | cons a b => cases b with | cons c d => cases d with | cons e f => cases f; exact ⟨_, _, _, rfl, a, c, e⟩
def lenU : Opn := fun us M =>
  match us with
  | [.d (.str x)] => if x.length ≤ LIM then some (.d (.int x.length), M) else none
  | [.scr ns] => some (.d (.int ns.length), M)
  | [u] => match seqU M u with
    | some (_, ws) => some (.d (.int ws.length), M)
    | none => none
  | _ => none
theorem call_lenU {X : Cx} : CallR X (.builtin "len") (rDn X.K lenU) := by
  refine callImp call_len fun xs H Q h => ?_
  obtain ⟨B, ι, M, us, u, M', s, r, e, q⟩ := h
  unfold lenU at e
  split at e
  · split at e
    · rename_i h
      cases e
      obtain ⟨v, rfl, rv⟩ := urs1 r
      cases rv
      exact ⟨_, _, rfl, ⟨by rw [← lim_eq]; exact h, rfl⟩, q.flat s (.int _)⟩
    · cases e
  · cases e
    obtain ⟨v, rfl, a, rfl, hq⟩ := urs1 r
    exact ⟨_, _, rfl, .inl ⟨_, s.sub.seq hq, rfl⟩, by rw [List.length_map]; exact q.flat s (.int _)⟩
  · obtain ⟨v, rfl, rv⟩ := urs1 r
    split at e
    · rename_i bb ws h1
      cases e
      obtain ⟨p, vs, rfl, qs, hh⟩ := seqU_ok s rv h1
      cases bb with
      | true => exact ⟨_, vs.length, rfl, .inl ⟨vs, .inl (.inl hh), rfl⟩, by rw [← qs.len]; exact q.flat s (.int _)⟩
      | false =>
        obtain ⟨ob, _, hh⟩ := hh
        exact ⟨_, vs.length, rfl, .inr ⟨vs, .inl (.inr ⟨ob, hh⟩), rfl⟩, by rw [← qs.len]; exact q.flat s (.int _)⟩
    · cases e
  · cases e
/-- lists of bools, of ints -/
def bools : List U → Option (List Bool)
  | [] => some []
  | .d (.bool b) :: r => (bools r).map (b :: ·)
  | _ :: _ => none
def ints' : List U → Option (List Int)
  | [] => some []
  | .d (.int i) :: r => (ints' r).map (i :: ·)
  | _ :: _ => none
theorem bools_ok {K : PySem.W.Frag} {B : Hp} {ι : List Addr} : ∀ {us : List U} {vs : List V} {bs : List Bool}, bools us = some bs → URs K B ι us vs → vs = bs.map V.bl
  | [], _, _, e, .nil => by cases e; rfl
  | .d (.bool b) :: us, _, bs, e, .cons a t => by
    unfold bools at e
    cases h : bools us with
    | none => rw [h] at e; cases e
    | some l =>
      rw [h] at e
      cases e
      cases a
      rw [bools_ok h t]
      rfl
  | .d .none :: _, _, _, e, _ => nomatch e
  | .d (.int _) :: _, _, _, e, _ => nomatch e
  | .d (.str _) :: _, _, _, e, _ => nomatch e
  | .d (.list _) :: _, _, _, e, _ => nomatch e
  | .d (.tuple _) :: _, _, _, e, _ => nomatch e
  | .d (.dict _) :: _, _, _, e, _ => nomatch e
  | .o _ :: _, _, _, e, _ => nomatch e
  | .scr _ :: _, _, _, e, _ => nomatch e
theorem ints_ok {K : PySem.W.Frag} {B : Hp} {ι : List Addr} : ∀ {us : List U} {vs : List V} {bs : List Int}, ints' us = some bs → URs K B ι us vs → vs = bs.map V.int
  | [], _, _, e, .nil => by cases e; rfl
  | .d (.int b) :: us, _, bs, e, .cons a t => by
    unfold ints' at e
    cases h : ints' us with
    | none => rw [h] at e; cases e
    | some l =>
      rw [h] at e
      cases e
      cases a
      rw [ints_ok h t]
      rfl
  | .d .none :: _, _, _, e, _ => nomatch e
  | .d (.bool _) :: _, _, _, e, _ => nomatch e
  | .d (.str _) :: _, _, _, e, _ => nomatch e
  | .d (.list _) :: _, _, _, e, _ => nomatch e
  | .d (.tuple _) :: _, _, _, e, _ => nomatch e
  | .d (.dict _) :: _, _, _, e, _ => nomatch e
  | .o _ :: _, _, _, e, _ => nomatch e
  | .scr _ :: _, _, _, e, _ => nomatch e
def boolsOf (us : List U) (M : Mem) : Option (List Bool) :=
  match us with
  | [u] => match seqU M u with
    | some (true, ws) => bools ws
    | _ => none
  | _ => none
def intsOf (us : List U) (M : Mem) : Option (List Int) :=
  match us with
  | [u] => match seqU M u with
    | some (true, ws) => ints' ws
    | _ => none
  | _ => none
section
variable {K : PySem.W.Frag} {B H : Hp} {ι : List Addr} {M : Mem} {us : List U} {xs : List V}
theorem boolsOf_ok (s : Sim K B ι M H) (r : URs K B ι us xs) {bs : List Bool} (e : boolsOf us M = some bs) : ∃ a, xs = [.ref a] ∧ SqL K H a (bs.map V.bl) := by
  unfold boolsOf at e
  split at e
  · obtain ⟨v, rfl, rv⟩ := urs1 r
    split at e
    · rename_i ws h1
      obtain ⟨p, vs, rfl, qs, hh⟩ := seqU_L s rv h1
      rw [bools_ok e qs] at hh
      exact ⟨p, rfl, .inl (.inl hh)⟩
    · cases e
  · cases e
theorem intsOf_ok (s : Sim K B ι M H) (r : URs K B ι us xs) {bs : List Int} (e : intsOf us M = some bs) : ∃ a, xs = [.ref a] ∧ SqL K H a (bs.map V.int) := by
  unfold intsOf at e
  split at e
  · obtain ⟨v, rfl, rv⟩ := urs1 r
    split at e
    · rename_i ws h1
      obtain ⟨p, vs, rfl, qs, hh⟩ := seqU_L s rv h1
      rw [ints_ok e qs] at hh
      exact ⟨p, rfl, .inl (.inl hh)⟩
    · cases e
  · cases e
end
def allU : Opn := fun us M => (boolsOf us M).map fun bs => (.d (.bool (bs.all id)), M)
def anyU : Opn := fun us M => (boolsOf us M).map fun bs => (.d (.bool (bs.any id)), M)
theorem call_allU {X : Cx} (hc : X.calm = true) : CallR X (.builtin "all") (rDn X.K allU) := by
  refine callImp (cr_all hc) fun xs H Q h => ?_
  obtain ⟨B, ι, M, us, u, M', s, r, e, q⟩ := h
  unfold allU at e
  cases h : boolsOf us M with
  | none => rw [h] at e; cases e
  | some bs =>
    rw [h] at e
    cases e
    obtain ⟨a, h1, h2⟩ := boolsOf_ok s r h
    exact ⟨a, bs, h1, h2, q.flat s (.bl _)⟩
theorem call_anyU {X : Cx} (hc : X.calm = true) : CallR X (.builtin "any") (rDn X.K anyU) := by
  refine callImp (cr_any hc) fun xs H Q h => ?_
  obtain ⟨B, ι, M, us, u, M', s, r, e, q⟩ := h
  unfold anyU at e
  cases h : boolsOf us M with
  | none => rw [h] at e; cases e
  | some bs =>
    rw [h] at e
    cases e
    obtain ⟨a, h1, h2⟩ := boolsOf_ok s r h
    exact ⟨a, bs, h1, h2, q.flat s (.bl _)⟩
/-! sum of a tuple of ints -/
section
variable {prog : Program} {w : World} {A : Around} {E : Value → Shared → Prop} {s : Shared} {l : Addr} {xs : Array (Int × Tok)} {its : List Value} {ns : List Int} {Q : Value → Shared → Prop}
theorem sum_intTupG (hh : A.handled = none) (hl : s.heap.IsTuple l (intItems xs))
    (h : ∀ h' tk t', (∀ b o, s.heap.get? b = some o → h'.get? b = some o) → Q (.int (preSum (numAt xs) xs.size) t') { s with heap := h', toks := tk }) :
    wpAny (model prog w) A (call (.builtin "sum") [.ref l]) Q E s := by
  have hlt : l < s.heap.objs.size := by obtain ⟨_, e, _⟩ := hl; exact Heap.lt_size e
  refine call_sum_walkG (wpAny_pyIter_tuple hl ?_)
  refine ⟨_, _, _, _, _, _, numAt xs, rfl, Walks.tuple (A := A.in1) hh _ l (Nat.ne_of_lt hlt) (intItems xs), ⟨⟨_, Heap.get?_push_size _ rfl, rfl, rfl⟩, hl.at fun o e => Heap.get?_push_of_some _ e⟩, fun b hb => ?_, (fun _ _ => intItems_at), fun h' tk t' hk => ?_⟩
  · show b < (s.heap.push _).objs.size
    rw [Heap.size_push]
    rcases List.mem_cons.mp hb with rfl | hb
    · exact Nat.lt_succ_self _
    · rcases List.mem_cons.mp hb with rfl | hb
      · exact Nat.lt_succ_of_lt hlt
      · cases hb
  · have := h h' tk t' fun b o e => hk b o (fun hm => absurd (Heap.lt_size e) (by rw [List.mem_singleton.mp hm]; exact Nat.lt_irrefl _)) (Heap.get?_push_of_some _ e)
    simpa [intItems] using this
theorem sumT_raw (hh : A.handled = none) (hl : s.heap.IsTuple l its.toArray) (hi : IntsAre its ns)
    (h : ∀ h' tk t', (∀ b o, s.heap.get? b = some o → h'.get? b = some o) → Q (.int ns.sum t') { s with heap := h', toks := tk }) : wpAny (model prog w) A (call (.builtin "sum") [.ref l]) Q E s := by
  obtain ⟨xs, e⟩ := hi.allInts.items
  have hn : numsOf (intItems xs).toList = ns := by rw [← e]; exact hi.numsOf
  rw [nums_intItems] at hn
  rw [e] at hl
  refine sum_intTupG hh hl fun h' tk t' hk => ?_
  have := h h' tk t' hk
  rw [preSum_eq, List.take_of_length_le (by simp), hn]; exact this
end
theorem cr_sumT {X : Cx} (hc : X.calm = true) : CallR X (.builtin "sum") (fun vs H Q => ∃ (a : Addr) (ns : List Int), vs = [V.ref a] ∧ SqT X.K H a (ns.map V.int) ∧ Q (.int ns.sum) H) := by
  intro pins s σ H vs us Q I r h
  obtain ⟨a, ns, rfl, hs, q⟩ := h
  obtain ⟨its, rv, hl, _⟩ := I.tuple hs
  rw [Vals.ref1 r]
  exact sumT_raw (I.ok.hd hc) hl rv.ints fun h' tk t' hk => ⟨.int _, H, I.kept hk, ⟨_, rfl⟩, q⟩
def sumU : Opn := fun us M =>
  match us with
  | [.d (.tuple ds)] => (ints' (ds.map U.d)).map fun bs => (.d (.int bs.sum), M)
  | us => (intsOf us M).map fun bs => (.d (.int bs.sum), M)
theorem call_sumU {X : Cx} (hc : X.calm = true) : CallR X (.builtin "sum") (rDn X.K sumU) := by
  refine callImp (CallR.or (cr_sum hc) (cr_sumT hc)) fun xs H Q h => ?_
  obtain ⟨B, ι, M, us, u, M', s, r, e, q⟩ := h
  unfold sumU at e
  split at e
  · rename_i ds
    cases h : ints' (ds.map U.d) with
    | none => rw [h] at e; cases e
    | some bs =>
      rw [h] at e
      cases e
      obtain ⟨v, rfl, rv⟩ := urs1 r
      cases rv with
      | tup z ha qs =>
        have ev := ints_ok h (rel_map (K := X.K) (ι := ι) qs)
        rw [ev] at ha
        exact .inr ⟨_, bs, rfl, .inl (.inr ⟨_, s.sub _ _ ha⟩), q.flat s (.int _)⟩
  · cases h : intsOf us M with
    | none => rw [h] at e; cases e
    | some bs =>
      rw [h] at e
      cases e
      obtain ⟨a, h1, h2⟩ := intsOf_ok s r h
      exact .inl ⟨a, bs, h1, h2, q.flat s (.int _)⟩
def big : List Int → Int
  | [] => 0
  | [x] => x
  | x :: r => if big r > x then big r else x
theorem big_mem : ∀ {l : List Int}, 0 < l.length → big l ∈ l
  | [x], _ => List.mem_singleton.mpr rfl
  | x :: y :: r, _ => by
    have h := big_mem (l := y :: r) (by simp)
    show (if big (y :: r) > x then big (y :: r) else x) ∈ _
    split
    · exact List.mem_cons_of_mem _ h
    · exact List.mem_cons_self
theorem big_le : ∀ {l : List Int} {y : Int}, y ∈ l → y ≤ big l
  | [x], y, h => by
    rw [List.mem_singleton.mp h]
    exact Int.le_refl _
  | x :: z :: r, y, h => by
    show y ≤ (if big (z :: r) > x then big (z :: r) else x)
    rcases List.mem_cons.mp h with h | h
    · subst h
      split <;> omega
    · have := big_le h
      split <;> omega
theorem big_is {l : List Int} {m : Int} (h : m ∈ l) (k : ∀ y, y ∈ l → y ≤ m) : m = big l := by
  have h1 : 0 < l.length := List.length_pos_of_mem h
  have h2 := k _ (big_mem h1)
  have h3 := big_le h
  omega
def maxU : Opn := fun us M =>
  match us with
  | [.d (.int i), .d (.int j)] => some (.d (.int (if j > i then j else i)), M)
  | us => match intsOf us M with
    | some bs => if 0 < bs.length then some (.d (.int (big bs)), M) else none
    | none => none
theorem call_maxU {X : Cx} (hc : X.calm = true) : CallR X (.builtin "max") (rDn X.K maxU) := by
  refine callImp (CallR.or (call_max2 hc) (cr_max hc)) fun xs H Q h => ?_
  obtain ⟨B, ι, M, us, u, M', s, r, e, q⟩ := h
  unfold maxU at e
  split at e
  · cases e
    obtain ⟨v, w, rfl, r1, r2⟩ := urs2 r
    cases r1; cases r2
    exact .inl ⟨_, _, rfl, q.flat s (.int _)⟩
  · split at e
    · rename_i bs h
      split at e
      · rename_i h3
        cases e
        obtain ⟨a, h1, h2⟩ := intsOf_ok s r h
        refine .inr ⟨a, bs, h1, h2, h3, fun m hm hk => ?_⟩
        rw [big_is hm hk]
        exact q.flat s (.int _)
      · cases e
    · cases e
def minU : Opn := fun us M =>
  match us with
  | [.d (.int i), .d (.int j)] => some (.d (.int (if j < i then j else i)), M)
  | [.d (.int i), .d (.int j), .d (.int k)] => some (.d (.int (if k < (if j < i then j else i) then k else (if j < i then j else i))), M)
  | _ => none
theorem call_min3 {X : Cx} (hc : X.calm = true) : CallR X (.builtin "min") (fun xs H Q => ∃ i j k, xs = [.int i, .int j, .int k] ∧ Q (.int (if k < (if j < i then j else i) then k else (if j < i then j else i))) H) := by
  intro pins s σ H xs us Q I r h
  obtain ⟨i, j, k, rfl, q⟩ := h
  obtain ⟨u1, u2, u3, rfl, ⟨t, rfl⟩, ⟨t', rfl⟩, ⟨t2, rfl⟩⟩ : ∃ u w t, us = [u, w, t] ∧ RelV (.int i) u ∧ RelV (.int j) w ∧ RelV (.int k) t := by
    cases r with | cons a b => cases b with | cons c d => cases d with | cons e f => cases f; exact ⟨_, _, _, rfl, a, c, e⟩
  refine min_three_ints (I.ok.hd hc) fun h' tk hk => ⟨_, H, I.kept hk, ?_, q⟩
  repeat' split
  all_goals first | exact ⟨_, rfl⟩ | omega
theorem call_minU {X : Cx} (hc : X.calm = true) : CallR X (.builtin "min") (rDn X.K minU) := by
  refine callImp (CallR.or (call_min2 hc) (call_min3 hc)) fun xs H Q h => ?_
  obtain ⟨B, ι, M, us, u, M', s, r, e, q⟩ := h
  unfold minU at e
  split at e
  · cases e
    obtain ⟨v, w, rfl, r1, r2⟩ := urs2 r
    cases r1; cases r2
    exact .inl ⟨_, _, rfl, q.flat s (.int _)⟩
  · cases e
    obtain ⟨v, w, z, rfl, r1, r2, r3⟩ := urs3 r
    cases r1; cases r2; cases r3
    exact .inr ⟨_, _, _, rfl, q.flat s (.int _)⟩
  · cases e
def toIntU : Opn := fun us M =>
  match us with
  | [.d (.int i)] => some (.d (.int i), M)
  | [.d (.bool b)] => some (.d (.int (if b then 1 else 0)), M)
  | _ => none
theorem call_toIntU {X : Cx} : CallR X (.type "int") (rDn X.K toIntU) := by
  refine callImp call_int1 fun xs H Q h => ?_
  obtain ⟨B, ι, M, us, u, M', s, r, e, q⟩ := h
  unfold toIntU at e
  split at e
  · cases e
    obtain ⟨v, rfl, r1⟩ := urs1 r
    cases r1
    exact .inl ⟨_, rfl, q.flat s (.int _)⟩
  · cases e
    obtain ⟨v, rfl, r1⟩ := urs1 r
    cases r1
    exact .inr ⟨_, rfl, q.flat s (.int _)⟩
  · cases e
def tupleU : Opn := fun us M =>
  match us with
  | [u] => match seqU M u with
    | some (_, ws) => mkT ws M
    | none => none
  | _ => none
theorem call_tupleU {X : Cx} : CallR X (.type "tuple") (rDn X.K tupleU) := by
  refine callImp call_tupleX fun xs H Q h => ?_
  obtain ⟨B, ι, M, us, u, M', s, r, e, q⟩ := h
  unfold tupleU at e
  split at e
  · obtain ⟨v, rfl, rv⟩ := urs1 r
    split at e
    · rename_i bb ws h1
      cases bb with
      | true =>
        obtain ⟨p, vs, rfl, qs, hh⟩ := seqU_L s rv h1
        refine ⟨p, vs, rfl, .inl ⟨.inl (.inl hh), fun l ob hd hl => ?_⟩⟩
        obtain ⟨B', ι', t, s', r'⟩ := mkT_ok s qs e hl hd
        exact q _ _ _ _ t s' r'
      | false =>
        obtain ⟨p, vs, rfl, qs, hh⟩ := seqU_T s rv h1
        obtain ⟨rfl, rfl⟩ := seqF_mkT h1 e
        exact ⟨p, vs, rfl, .inr ⟨hh, q _ _ _ _ (Stp.refl _ _ _) s rv⟩⟩
    · cases e
  · cases e
def listU (m : Bool) : Opn := fun us M =>
  match us with
  | [u] => match seqU M u with
    | some (_, ws) => some (mkL m ws M)
    | none => none
  | _ => none
theorem call_listU {X : Cx} (m : Bool) : CallR X (.type "list") (rDn X.K (listU m)) := by
  refine callImp call_list_of fun xs H Q h => ?_
  obtain ⟨B, ι, M, us, u, M', s, r, e, q⟩ := h
  unfold listU at e
  split at e
  · obtain ⟨v, rfl, rv⟩ := urs1 r
    split at e
    · rename_i bb ws h1
      obtain ⟨p, vs, rfl, qs, hsq⟩ := seqU_sq s rv h1
      refine ⟨p, vs, rfl, hsq, fun l hl => ?_⟩
      obtain ⟨B', ι', t, s', r'⟩ := mkL_ok s m qs hl
      rw [Option.some.inj e] at s' r'
      exact q _ _ _ _ t s' r'
    · cases e
  · cases e
end Mx

set_option Elab.async false
set_option linter.all false
set_option maxRecDepth 100000
set_option maxHeartbeats 4000000
/-! Mx4: rules for expressions whose reading is what they compute. -/
namespace Mx
open PySem PySem.Spec PyProof.Rows L2

theorem peImp {X : Cx} {e : Expr} {t t' : TE} (h : PE X e t) (k : ∀ σ H Q, t' σ H Q → t σ H Q) : PE X e t' := ⟨fun pins s σ H Q I q => h.run pins s σ H Q I (k σ H Q q)⟩
theorem ptImp {X : Cx} {e : Expr} {t t' : TT} (h : PT X e t) (k : ∀ σ H Q, t' σ H Q → t σ H Q) : PT X e t' := ⟨fun pins s σ H Q I q => h.run pins s σ H Q I (k σ H Q q)⟩
theorem pwImp {X : Cx} {e : Expr} {t t' : TT} (h : PW X e t) (k : ∀ σ H Q, t' σ H Q → t σ H Q) : PW X e t' := ⟨fun wh pins s σ H Q I q => h.run wh pins s σ H Q I (k σ H Q q)⟩
theorem paImp {X : Cx} {e : List Expr} {t t' : TA} (h : PA X e t) (k : ∀ σ H Q, t' σ H Q → t σ H Q) : PA X e t' := ⟨fun pos pins s σ H Q I q => h.run pos pins s σ H Q I (k σ H Q q)⟩
theorem piImp {X : Cx} {tg e : Expr} {t t' : TI} (h : PI X tg e t) (k : ∀ σ H Q, t' σ H Q → t σ H Q) : PI X tg e t' := ⟨fun pins s σ H Q I q => h.run pins s σ H Q I (k σ H Q q)⟩
theorem piOr {X : Cx} {tg e : Expr} {t t' : TI} (h : PI X tg e t) (h' : PI X tg e t') : PI X tg e (fun σ H Q => t σ H Q ∨ t' σ H Q) :=
  ⟨fun pins s σ H Q I q => q.elim (h.run pins s σ H Q I) (h'.run pins s σ H Q I)⟩
theorem psImp {X : Cx} {e : Stmt} {t t' : TS} (h : PS X e t) (k : ∀ D σ H, t' D σ H → t D σ H) : PS X e t' := ⟨fun pins s σ H D I q => h.run pins s σ H D I (k D σ H q)⟩
theorem pssImp {X : Cx} {e : List Stmt} {t t' : TS} (h : PSs X e t) (k : ∀ D σ H, t' D σ H → t D σ H) : PSs X e t' := ⟨fun pins s σ H D I q => h.run pins s σ H D I (k D σ H q)⟩
theorem pgImp {X : Cx} {e : Expr} {t t' : TG} (h : PG X e t) (k : ∀ v σ H Q, t' v σ H Q → t v σ H Q) : PG X e t' := ⟨fun pins s σ H v u Q I r q => h.run pins s σ H v u Q I r (k v σ H Q q)⟩
theorem pgOr {X : Cx} {e : Expr} {t t' : TG} (h : PG X e t) (h' : PG X e t') : PG X e (fun v σ H Q => t v σ H Q ∨ t' v σ H Q) :=
  ⟨fun pins s σ H v u Q I r q => q.elim (h.run pins s σ H v u Q I r) (h'.run pins s σ H v u Q I r)⟩
theorem pe_bad {X : Cx} {e : Expr} {K : PySem.W.Frag} {W : WD} {f : DEnv → Mem → R U} (h : ∀ ρ M, f ρ M = .bad) : PE X e (tD K W f) :=
  ⟨fun pins s σ H Q I ⟨ρ, M, B, ι, _, _, z⟩ => by rw [h ρ M] at z; exact z.elim⟩
theorem pt_bad {X : Cx} {e : Expr} {K : PySem.W.Frag} {W : WD} {f : DEnv → Mem → R Bool} (h : ∀ ρ M, f ρ M = .bad) : PT X e (tDb K W f) :=
  ⟨fun pins s σ H Q I ⟨ρ, M, B, ι, _, _, z⟩ => by rw [h ρ M] at z; exact z.elim⟩
theorem ps_bad {X : Cx} {e : Stmt} {K : PySem.W.Frag} {W : WD} {f : DEnv → Mem → RS} (h : ∀ ρ M, f ρ M = .bad) : PS X e (tDs K W f) :=
  ⟨fun pins s σ H D I ⟨ρ, M, B, ι, _, _, z⟩ => by rw [h ρ M] at z; exact z.elim⟩

def ofO {α : Type} : Option (α × Mem) → R α
  | some (a, M) => .ok a M
  | none => .bad
/-- an operation's outcome as an answer -/
theorem Wp.ofO {K : PySem.W.Frag} {W : WD} {σ : St} {B H : Hp} {ι : List Addr} {o : Option (U × Mem)} {Q : VK} (h : Wp K W σ B ι H (ofO o) fun u B' ι' M' H' => ∀ v, UR K B' ι' u v → Q v H') :
    ∃ u M', o = some (u, M') ∧ Aft K B ι H u M' Q := by
  cases o with
  | none => exact h.elim
  | some p => exact ⟨p.1, p.2, rfl, fun v B' ι' H' t s r => h B' ι' H' t s v r⟩

section
variable {X : Cx} {K : PySem.W.Frag} {W : WD} {a b c e : Expr} {fa fb fc : DEnv → Mem → R U} {pos : Pos}
/-- names and constants -/
theorem de_var {i : Nat} {x : Str} (hN : X.N[i]? = some x) (hv : Vis X.env.scope x) (hd : (x == ("__debug__" : Str)) = false) (hcd : (x == ("__classdict__" : Str)) = false) :
    PE X (.Name x pos) (tD K W fun ρ M => match ρ[i]? with | some (some u) => .ok u M | _ => .bad) := by
  refine peImp (pe_var hN hv hd hcd) fun σ H Q h => ?_
  obtain ⟨ρ, M, B, ι, s, sl, h⟩ := h
  dsimp only at h
  split at h
  · rename_i u e
    obtain ⟨v, e1, r⟩ := sl.get i u e
    exact ⟨v, e1, h.ok s v r⟩
  · exact h.elim
theorem de_const {v : V} {d : PyData} (h : PE X e (tC v)) (r : ∀ B, DR B v d) : PE X e (tD K W fun _ M => .ok (.d d) M) :=
  peImp h fun σ H Q ⟨ρ, M, B, ι, s, sl, h⟩ => h.ok s v (r B)
/-- two expressions, then an operation -/
theorem de_bin {op : Operator} {g : Op2} (hg : OpR X (binaryOp op) (rD2 K g)) (ha : PE X a (tD K W fa)) (hb : PE X b (tD K W fb)) :
    PE X (.BinOp a op b pos) (tD K W fun ρ M => (fa ρ M).bind fun x M => (fb ρ M).bind fun y M => ofO (g x y M)) := by
  refine peImp (pe_op hg ha hb) fun σ H Q h => ?_
  obtain ⟨ρ, M, B, ι, s, sl, h⟩ := h
  refine ⟨ρ, M, B, ι, s, sl, h.bind.imp fun u B1 ι1 M1 H1 t1 s1 h1 v r1 => ?_⟩
  refine ⟨ρ, M1, B1, ι1, s1, sl.mono t1.sub t1.pre, h1.bind.imp fun w B2 ι2 M2 H2 t2 s2 h2 v2 r2 => ?_⟩
  obtain ⟨z, M', e, q⟩ := h2.ofO
  exact ⟨B2, ι2, M2, u, w, z, M', s2, r1.mono t2.sub t2.pre, r2, e, q⟩
def cmpR (g : Cmp2) (fa fb : DEnv → Mem → R U) : DEnv → Mem → R Bool := fun ρ M => (fa ρ M).bind fun x M => (fb ρ M).bind fun y M => match g x y M with | some c => .ok c M | none => .bad
def boolR (r : R Bool) : R U := r.bind fun b M => .ok (.d (.bool b)) M
theorem cmp_mid {g : Cmp2} {op : CmpOp} {σ : St} {H : Hp} {R : Bool → Hp → Prop} (ρ : DEnv) (M : Mem) (B : Hp) (ι : List Addr) (s : Sim K B ι M H) (sl : Slots K B ι ρ σ)
    (h : Wp K W σ B ι H (cmpR g fa fb ρ M) fun c B' ι' M' H' => R c H') : tOp (rC2 K g) (tD K W fa) (tD K W fb) σ H fun x H' => ∃ k, x = .bl k ∧ R k H' := by
  refine ⟨ρ, M, B, ι, s, sl, h.bind.imp fun u B1 ι1 M1 H1 t1 s1 h1 v r1 => ?_⟩
  refine ⟨ρ, M1, B1, ι1, s1, sl.mono t1.sub t1.pre, h1.bind.imp fun w B2 ι2 M2 H2 t2 s2 h2 v2 r2 => ?_⟩
  cases e : g u w M2 with
  | none => rw [e] at h2; exact h2.elim
  | some c =>
    rw [e] at h2
    exact ⟨B2, ι2, M2, u, w, c, s2, r1.mono t2.sub t2.pre, r2, e, c, rfl, h2.ok s2⟩
theorem Wp.boolR {σ : St} {B H : Hp} {ι : List Addr} {r : R Bool} {Q : VK} (h : Wp K W σ B ι H (boolR r) fun u B' ι' M' H' => ∀ v, UR K B' ι' u v → Q v H') : Wp K W σ B ι H r fun c B' ι' M' H' => Q (.bl c) H' :=
  h.bind.imp fun c B1 ι1 M1 H1 t1 s1 h1 => h1.ok s1 _ (.bl c)
theorem de_cmp {op : CmpOp} {g : Cmp2} (hg : OpR X (compareOp op) (rC2 K g)) (ha : PE X a (tD K W fa)) (hb : PE X b (tD K W fb)) (hm : behindInMarks op b = false) :
    PE X (.Compare a [op] [b] pos) (tD K W fun ρ M => boolR (cmpR g fa fb ρ M)) := by
  refine peImp (pe_cmpR hg ha hb hm) fun σ H Q h => ?_
  obtain ⟨ρ, M, B, ι, s, sl, h⟩ := h
  have h2 := cmp_mid (op := op) (g := g) ρ M B ι s sl (R := fun c H' => Q (.bl c) H') h.boolR
  obtain ⟨ρ', M', B', ι', s', sl', w⟩ := h2
  refine ⟨ρ', M', B', ι', s', sl', w.imp fun u B1 ι1 M1 H1 t1 s1 h1 v r1 => ?_⟩
  obtain ⟨ρ2, M2, B2, ι2, s2, sl2, w2⟩ := h1 v r1
  refine ⟨ρ2, M2, B2, ι2, s2, sl2, w2.imp fun u B1 ι1 M1 H1 t1 s1 h1 v r1 => ?_⟩
  obtain ⟨B3, ι3, M3, x, y, c, q1, q2, q3, q4, k, e, q5⟩ := h1 v r1
  cases e
  exact ⟨B3, ι3, M3, x, y, c, q1, q2, q3, q4, q5⟩
theorem dt_cmp {op : CmpOp} {g : Cmp2} (hg : OpR X (compareOp op) (rC2 K g)) (ha : PE X a (tD K W fa)) (hb : PE X b (tD K W fb)) (hm : behindInMarks op b = false) :
    PT X (.Compare a [op] [b] pos) (tDb K W (cmpR g fa fb)) := by
  refine ptImp (pt_cmpR hg ha hb hm) fun σ H Q h => ?_
  obtain ⟨ρ, M, B, ι, s, sl, h⟩ := h
  exact cmp_mid (op := op) ρ M B ι s sl h
/-- a op b op' c -/
def chnR (g g' : Cmp2) (fa fb fc : DEnv → Mem → R U) : DEnv → Mem → R Bool := fun ρ M => (fa ρ M).bind fun x M => (fb ρ M).bind fun y M => match g x y M with
  | some true => (fc ρ M).bind fun z M => match g' y z M with | some c => .ok c M | none => .bad
  | some false => .ok false M
  | none => .bad
theorem chn_mid {g g' : Cmp2} {σ : St} {H : Hp} {R : Bool → Hp → Prop} (ρ : DEnv) (M : Mem) (B : Hp) (ι : List Addr) (s : Sim K B ι M H) (sl : Slots K B ι ρ σ)
    (h : Wp K W σ B ι H (chnR g g' fa fb fc ρ M) fun c B' ι' M' H' => R c H') : tChain (rC2 K g) (rC2 K g') (tD K W fa) (tD K W fb) (tD K W fc) σ H fun x H' => ∃ k, x = .bl k ∧ R k H' := by
  refine ⟨ρ, M, B, ι, s, sl, h.bind.imp fun u B1 ι1 M1 H1 t1 s1 h1 v r1 => ?_⟩
  refine ⟨ρ, M1, B1, ι1, s1, sl.mono t1.sub t1.pre, h1.bind.imp fun w B2 ι2 M2 H2 t2 s2 h2 v2 r2 => ?_⟩
  cases e : g u w M2 with
  | none => rw [e] at h2; exact h2.elim
  | some c =>
    rw [e] at h2
    refine ⟨B2, ι2, M2, u, w, c, s2, r1.mono t2.sub t2.pre, r2, e, c, rfl, ?_⟩
    cases c with
    | false => rw [if_neg Bool.false_ne_true]; exact ⟨false, rfl, h2.ok s2⟩
    | true =>
      rw [if_pos rfl]
      refine ⟨ρ, M2, B2, ι2, s2, (sl.mono t1.sub t1.pre).mono t2.sub t2.pre, h2.bind.imp fun z B3 ι3 M3 H3 t3 s3 h3 v3 r3 => ?_⟩
      cases e3 : g' w z M3 with
      | none => rw [e3] at h3; exact h3.elim
      | some c =>
        rw [e3] at h3
        exact ⟨B3, ι3, M3, w, z, c, s3, r2.mono t3.sub t3.pre, r3, e3, c, rfl, h3.ok s3⟩
theorem tChain_w {r r' : R2} {ta tb tc : TE} {σ : St} {H : Hp} {R : Bool → Hp → Prop} {Q : VK} (k : ∀ c H', R c H' → Q (.bl c) H')
    (m1 : ∀ σ H (P P' : VK), (∀ v H', P v H' → P' v H') → ta σ H P → ta σ H P') (m2 : ∀ σ H (P P' : VK), (∀ v H', P v H' → P' v H') → tb σ H P → tb σ H P') (m3 : ∀ σ H (P P' : VK), (∀ v H', P v H' → P' v H') → tc σ H P → tc σ H P')
    (m4 : ∀ x y H (P P' : VK), (∀ v H', P v H' → P' v H') → r x y H P → r x y H P') (m5 : ∀ x y H (P P' : VK), (∀ v H', P v H' → P' v H') → r' x y H P → r' x y H P')
    (h : tChain r r' ta tb tc σ H fun x H' => ∃ k, x = .bl k ∧ R k H') : tChain r r' ta tb tc σ H Q := by
  refine m1 _ _ _ _ (fun v H' h => ?_) h
  refine m2 _ _ _ _ (fun v H' h => ?_) h
  refine m4 _ _ _ _ _ (fun v H' h => ?_) h
  obtain ⟨c, e, h⟩ := h
  refine ⟨c, e, ?_⟩
  cases c with
  | false =>
    rw [if_neg Bool.false_ne_true] at h ⊢
    obtain ⟨c, e, h⟩ := h
    cases e
    exact k _ _ h
  | true =>
    rw [if_pos rfl] at h ⊢
    refine m3 _ _ _ _ (fun v H' h => ?_) h
    refine m5 _ _ _ _ _ (fun v H' h => ?_) h
    obtain ⟨c, rfl, h⟩ := h
    exact k _ _ h
theorem tD_mono {f : DEnv → Mem → R U} (σ : St) (H : Hp) (P P' : VK) (k : ∀ v H', P v H' → P' v H') (h : tD K W f σ H P) : tD K W f σ H P' := by
  obtain ⟨ρ, M, B, ι, s, sl, h⟩ := h
  exact ⟨ρ, M, B, ι, s, sl, h.imp fun u B1 ι1 M1 H1 t1 s1 h1 v r1 => k _ _ (h1 v r1)⟩
theorem rC2_mono {g : Cmp2} (x y : V) (H : Hp) (P P' : VK) (k : ∀ v H', P v H' → P' v H') (h : rC2 K g x y H P) : rC2 K g x y H P' := by
  obtain ⟨B, ι, M, a, b, c, s, r1, r2, e, q⟩ := h
  exact ⟨B, ι, M, a, b, c, s, r1, r2, e, k _ _ q⟩
theorem de_chain {op op' : CmpOp} {g g' : Cmp2} (hg : OpR X (compareOp op) (rC2 K g)) (hg' : OpR X (compareOp op') (rC2 K g')) (ha : PE X a (tD K W fa)) (hb : PE X b (tD K W fb)) (hc : PE X c (tD K W fc)) (hm : lastMarks [op, op'] [b, c] = false) :
    PE X (.Compare a [op, op'] [b, c] pos) (tD K W fun ρ M => boolR (chnR g g' fa fb fc ρ M)) := by
  refine peImp (pe_chain hg hg' ha hb hc hm) fun σ H Q h => ?_
  obtain ⟨ρ, M, B, ι, s, sl, h⟩ := h
  exact tChain_w (R := fun c H' => Q (.bl c) H') (fun _ _ h => h) tD_mono tD_mono tD_mono rC2_mono rC2_mono (chn_mid ρ M B ι s sl h.boolR)
theorem dt_chain {op op' : CmpOp} {g g' : Cmp2} (hg : OpR X (compareOp op) (rC2 K g)) (hg' : OpR X (compareOp op') (rC2 K g')) (ha : PE X a (tD K W fa)) (hb : PE X b (tD K W fb)) (hc : PE X c (tD K W fc)) (hm : lastMarks [op, op'] [b, c] = false) :
    PT X (.Compare a [op, op'] [b, c] pos) (tDb K W (chnR g g' fa fb fc)) := by
  refine ptImp (pt_chain hg hg' ha hb hc hm) fun σ H Q h => ?_
  obtain ⟨ρ, M, B, ι, s, sl, h⟩ := h
  exact chn_mid ρ M B ι s sl h
/-- the truth of a value -/
def truR (f : DEnv → Mem → R U) : DEnv → Mem → R Bool := fun ρ M => (f ρ M).bind fun u M => match truU M u with | some b => .ok b M | none => .bad
theorem dt_truth {f : DEnv → Mem → R U} (he : PE X e (tD X.K W f)) (hp : ∀ whole, isTrue e X.env whole = (do let v ← whole; standAt e.pos; holding [v] (truthy v))) : PT X e (tDb X.K W (truR f)) := by
  refine ptImp (pt_truth he hp) fun σ H Q h => ?_
  obtain ⟨ρ, M, B, ι, s, sl, h⟩ := h
  refine ⟨ρ, M, B, ι, s, sl, h.bind.imp fun u B1 ι1 M1 H1 t1 s1 h1 v r1 => ?_⟩
  cases e : truU M1 u with
  | none => rw [e] at h1; exact h1.elim
  | some b =>
    rw [e] at h1
    exact ⟨b, truU_ok s1 r1 e, h1.ok s1⟩
/-- not, as a value and as a test -/
theorem de_not {f : DEnv → Mem → R U} (he : PE X e (tD X.K W f)) : PE X (.UnaryOp .Not e pos) (tD X.K W fun ρ M => boolR ((truR f ρ M).bind fun b M => .ok (!b) M)) := by
  refine peImp (pe_notT he) fun σ H Q h => ?_
  obtain ⟨ρ, M, B, ι, s, sl, h⟩ := h
  have h := h.boolR.bind
  refine ⟨ρ, M, B, ι, s, sl, h.bind.imp fun u B1 ι1 M1 H1 t1 s1 h1 v r1 => ?_⟩
  cases e : truU M1 u with
  | none => rw [e] at h1; exact h1.elim
  | some b =>
    rw [e] at h1
    exact ⟨b, truU_ok s1 r1 e, (h1.ok s1).ok s1⟩
theorem dt_not {f : DEnv → Mem → R Bool} (he : PT X e (tDb K W f)) : PT X (.UnaryOp .Not e pos) (tDb K W fun ρ M => (f ρ M).bind fun b M => .ok (!b) M) := by
  refine ptImp (pt_not he) fun σ H Q h => ?_
  obtain ⟨ρ, M, B, ι, s, sl, h⟩ := h
  exact ⟨ρ, M, B, ι, s, sl, h.bind.imp fun b B1 ι1 M1 H1 t1 s1 h1 => h1.ok s1⟩
theorem de_neg {f : DEnv → Mem → R U} (he : PE X e (tD K W f)) : PE X (.UnaryOp .USub e pos) (tD K W fun ρ M => (f ρ M).bind fun u M => match u with | .d (.int i) => .ok (.d (.int (-i))) M | _ => .bad) := by
  refine peImp (pe_un un_neg he) fun σ H Q h => ?_
  obtain ⟨ρ, M, B, ι, s, sl, h⟩ := h
  refine ⟨ρ, M, B, ι, s, sl, h.bind.imp fun u B1 ι1 M1 H1 t1 s1 h1 v r1 => ?_⟩
  split at h1
  · cases r1
    exact ⟨_, rfl, h1.ok s1 _ (.int _)⟩
  · exact h1.elim
/-- a if t else b -/
theorem de_if {t : Expr} {ft : DEnv → Mem → R Bool} (ht : PT X t (tDb K W ft)) (ha : PE X a (tD K W fa)) (hb : PE X b (tD K W fb)) :
    PE X (.IfExp t a b pos) (tD K W fun ρ M => (ft ρ M).bind fun c M => if c then fa ρ M else fb ρ M) := by
  refine peImp (pe_ifExp ht ha hb) fun σ H Q h => ?_
  obtain ⟨ρ, M, B, ι, s, sl, h⟩ := h
  refine ⟨ρ, M, B, ι, s, sl, h.bind.imp fun b B1 ι1 M1 H1 t1 s1 h1 => ?_⟩
  cases b with
  | true => rw [if_pos rfl] at h1 ⊢; exact ⟨ρ, M1, B1, ι1, s1, sl.mono t1.sub t1.pre, h1⟩
  | false => rw [if_neg Bool.false_ne_true] at h1 ⊢; exact ⟨ρ, M1, B1, ι1, s1, sl.mono t1.sub t1.pre, h1⟩
/-- and, or: as tests -/
def bopT (op : BoolOp) (f : Expr → DEnv → Mem → R Bool) : List Expr → DEnv → Mem → R Bool
  | [], _, _ => .bad
  | [e], ρ, M => f e ρ M
  | e :: r, ρ, M => (f e ρ M).bind fun b M => if b = (match op with | .And => true | .Or => false) then bopT op f r ρ M else .ok b M
theorem dw_bop {op : BoolOp} {f : Expr → DEnv → Mem → R Bool} (hf : ∀ e, PT X e (tDb K W (f e))) : ∀ es : List Expr, PW X (.BoolOp op es pos) (tDb K W (bopT op f es))
  | [] => ⟨fun wh pins s σ H Q I ⟨ρ, M, B, ι, _, _, z⟩ => z.elim⟩
  | [e] => by
    cases op with
    | And => exact pw_and1 (hf e)
    | Or => exact pw_or1 (hf e)
  | e :: e2 :: r => by
    have ih := dw_bop (op := op) hf (e2 :: r)
    cases op with
    | And =>
      refine pwImp (pw_and (hf e) ih) fun σ H Q h => ?_
      obtain ⟨ρ, M, B, ι, s, sl, h⟩ := h
      refine ⟨ρ, M, B, ι, s, sl, (Wp.bind (r := f e ρ M) h).imp fun b B1 ι1 M1 H1 t1 s1 h1 => ?_⟩
      cases b with
      | true => rw [if_pos rfl]; exact ⟨ρ, M1, B1, ι1, s1, sl.mono t1.sub t1.pre, h1⟩
      | false => rw [if_neg Bool.false_ne_true]; exact Wp.ok (α := Bool) h1 s1
    | Or =>
      refine pwImp (pw_or (hf e) ih) fun σ H Q h => ?_
      obtain ⟨ρ, M, B, ι, s, sl, h⟩ := h
      refine ⟨ρ, M, B, ι, s, sl, (Wp.bind (r := f e ρ M) h).imp fun b B1 ι1 M1 H1 t1 s1 h1 => ?_⟩
      cases b with
      | false => rw [if_neg Bool.false_ne_true]; exact ⟨ρ, M1, B1, ι1, s1, sl.mono t1.sub t1.pre, h1⟩
      | true => rw [if_pos rfl]; exact Wp.ok (α := Bool) h1 s1
/-- .. as values -/
def bopE (op : BoolOp) (f : Expr → DEnv → Mem → R U) : List Expr → DEnv → Mem → R U
  | [], _, _ => .bad
  | [e], ρ, M => f e ρ M
  | e :: r, ρ, M => (f e ρ M).bind fun u M => match truU M u with
    | some b => if b = (match op with | .And => true | .Or => false) then bopE op f r ρ M else .ok u M
    | none => .bad
theorem de_bop {op : BoolOp} {f : Expr → DEnv → Mem → R U} (hf : ∀ e, PE X e (tD X.K W (f e))) : ∀ es : List Expr, PE X (.BoolOp op es pos) (tD X.K W (bopE op f es))
  | [] => pe_bad fun _ _ => rfl
  | [e] => pe_one (hf e)
  | e :: e2 :: r => by
    have ih := de_bop (op := op) hf (e2 :: r)
    cases op with
    | And =>
      refine peImp (pe_andT (hf e) ih) fun σ H Q h => ?_
      obtain ⟨ρ, M, B, ι, s, sl, h⟩ := h
      refine ⟨ρ, M, B, ι, s, sl, (Wp.bind (r := f e ρ M) h).imp fun u B1 ι1 M1 H1 t1 s1 h1 v r1 => ?_⟩
      cases e : truU M1 u with
      | none => rw [e] at h1; exact False.elim h1
      | some b =>
        rw [e] at h1
        refine ⟨b, truU_ok s1 r1 e, ?_⟩
        cases b with
        | true => rw [if_pos rfl]; exact ⟨ρ, M1, B1, ι1, s1, sl.mono t1.sub t1.pre, h1⟩
        | false => rw [if_neg Bool.false_ne_true]; exact Wp.ok (α := U) h1 s1 v r1
    | Or =>
      refine peImp (pe_orT (hf e) ih) fun σ H Q h => ?_
      obtain ⟨ρ, M, B, ι, s, sl, h⟩ := h
      refine ⟨ρ, M, B, ι, s, sl, (Wp.bind (r := f e ρ M) h).imp fun u B1 ι1 M1 H1 t1 s1 h1 v r1 => ?_⟩
      cases e : truU M1 u with
      | none => rw [e] at h1; exact False.elim h1
      | some b =>
        rw [e] at h1
        refine ⟨b, truU_ok s1 r1 e, ?_⟩
        cases b with
        | false => rw [if_neg Bool.false_ne_true]; exact ⟨ρ, M1, B1, ι1, s1, sl.mono t1.sub t1.pre, h1⟩
        | true => rw [if_pos rfl]; exact Wp.ok (α := U) h1 s1 v r1
end
end Mx

set_option Elab.async false
set_option linter.all false
set_option maxRecDepth 100000
set_option maxHeartbeats 4000000
/-! Mx5: arguments, displays, subscripts, calls. -/
namespace Mx
open PySem PySem.Spec PyProof.Rows L2

def noStar : Expr → Bool
  | .Starred _ _ => false
  | _ => true
theorem star_cons {e : Expr} {es : List Expr} {env : Env} (h : noStar e = true) : starEach (e :: es) env = (false, eval e env) :: starEach es env := by
  cases e <;> first | rfl | cases h
theorem star_any {env : Env} {pos : Pos} : ∀ {es : List Expr}, es.all noStar = true → (backTo pos (starEach es env)).any (·.1) = false
  | [], _ => rfl
  | e :: r, h => by
    rw [List.all_cons, Bool.and_eq_true] at h
    rw [star_cons h.1]
    exact star_any (es := r) h.2
theorem star_all {env : Env} {pos : Pos} : ∀ {es : List Expr}, es.all noStar = true → (backTo pos (starEach es env)).all (fun x => !x.1) = true
  | [], _ => rfl
  | e :: r, h => by
    rw [List.all_cons, Bool.and_eq_true] at h
    rw [star_cons h.1]
    exact star_all (es := r) h.2
def evL (f : Expr → DEnv → Mem → R U) : List Expr → DEnv → Mem → R (List U)
  | [], _, M => .ok [] M
  | e :: r, ρ, M => (f e ρ M).bind fun u M => (evL f r ρ M).bind fun us M => .ok (u :: us) M
section
variable {X : Cx} {K : PySem.W.Frag} {W : WD} {a b e : Expr} {es : List Expr} {pos : Pos} {f : Expr → DEnv → Mem → R U}
theorem da_list (hf : ∀ e, PE X e (tD K W (f e))) : ∀ es : List Expr, es.all noStar = true → PA X es (tDa K W (evL f es))
  | [], _ => paImp pa_nil fun σ H Q ⟨ρ, M, B, ι, s, sl, h⟩ => Wp.ok (α := List U) h s [] .nil
  | e :: r, h => by
    rw [List.all_cons, Bool.and_eq_true] at h
    refine paImp (pa_cons (hf e) (da_list hf r h.2) (star_cons h.1)) fun σ H Q hq => ?_
    obtain ⟨ρ, M, B, ι, s, sl, w⟩ := hq
    refine ⟨ρ, M, B, ι, s, sl, (Wp.bind (r := f e ρ M) w).imp fun u B1 ι1 M1 H1 t1 s1 h1 v r1 => ?_⟩
    refine ⟨ρ, M1, B1, ι1, s1, sl.mono t1.sub t1.pre, (Wp.bind (r := evL f r ρ M1) h1).imp fun us B2 ι2 M2 H2 t2 s2 h2 vs r2 => ?_⟩
    exact Wp.ok (α := List U) h2 s2 (v :: vs) (.cons (r1.mono t2.sub t2.pre) r2)
def mkTz (us : List U) (M : Mem) : Option (U × Mem) := if us.length ≤ LIM then mkT us M else none
theorem de_tuple {k} (ha : PA X es (tDa K W (evL f es))) : PE X (.Tuple es k pos) (tD K W fun ρ M => (evL f es ρ M).bind fun us M => ofO (mkTz us M)) := by
  refine peImp (pe_tupX ha) fun σ H Q h => ?_
  obtain ⟨ρ, M, B, ι, s, sl, h⟩ := h
  refine ⟨ρ, M, B, ι, s, sl, h.bind.imp fun us B1 ι1 M1 H1 t1 s1 h1 vs r1 => ?_⟩
  obtain ⟨u, M', e, q⟩ := h1.ofO
  unfold mkTz at e
  split at e
  · rename_i hl
    refine ⟨by rw [← r1.len, ← lim_eq]; exact hl, fun p ob hd hp => ?_⟩
    obtain ⟨B', ι', t, s', r'⟩ := mkT_ok s1 r1 e hp hd
    exact q _ _ _ _ t s' r'
  · cases e
theorem de_lst (m : Bool) (ha : PA X es (tDa K W (evL f es))) : PE X (.List es pos) (tD K W fun ρ M => (evL f es ρ M).bind fun us M => ofO (if us.length ≤ LIM then some (mkL m us M) else none)) := by
  refine peImp (pe_lst ha) fun σ H Q h => ?_
  obtain ⟨ρ, M, B, ι, s, sl, h⟩ := h
  refine ⟨ρ, M, B, ι, s, sl, h.bind.imp fun us B1 ι1 M1 H1 t1 s1 h1 vs r1 => ?_⟩
  obtain ⟨u, M', e, q⟩ := h1.ofO
  split at e
  · rename_i hl
    refine ⟨by rw [← r1.len, ← lim_eq]; exact hl, fun p hp => ?_⟩
    obtain ⟨B', ι', t, s', r'⟩ := mkL_ok s1 m r1 hp
    rw [Option.some.inj e] at s' r'
    exact q _ _ _ _ t s' r'
  · cases e
theorem dct_new {B H : Hp} {ι : List Addr} {M : Mem} (s : Sim K B ι M H) {us : List (Key × U)} {vs : List (Key × V)} (r : URk K B ι us vs) {p : Addr} (hp : H p = none) :
    ∃ B' ι', Stp B ι H B' ι' (upd H p (.dK vs)) ∧ Sim K B' ι' (M ++ [.dct us]) (upd H p (.dK vs)) ∧ UR K B' ι' (.o M.length) (.ref p) := by
  have hb := (s.fresh hp).1
  obtain ⟨h1, h2⟩ := s.made (p := p) hp (o := .dK vs) (m := .dct us) ⟨hb, vs, upd_same, r.mono (Same.refl B) (List.prefix_append _ _)⟩
  exact ⟨B, ι ++ [p], h2, h1, p, by rw [← s.len]; simp, rfl⟩
theorem de_dict : PE X (.Dict [] [] pos) (tD K W fun _ M => .ok (.o M.length) (M ++ [.dct []])) := by
  refine peImp pe_dnewK fun σ H Q h => ?_
  obtain ⟨ρ, M, B, ι, s, sl, h⟩ := h
  intro p hp
  obtain ⟨B', ι', t, s', r'⟩ := dct_new s (us := []) (vs := []) .nil hp
  exact h B' ι' _ t s' _ r'
/-- a[b] -/
def noSlice : Expr → Bool
  | .Slice _ _ _ _ => false
  | _ => true
theorem plainIx {b : Expr} (h : noSlice b = true) : PlainIx b := by
  cases b <;> first | exact fun _ _ => rfl | cases h
theorem de_sub {fa fb : DEnv → Mem → R U} (hu : X.A.units + 1 < cLine) (ha : PE X a (tD X.K W fa)) (hb : PE X b (tD X.K W fb)) (hs : noSlice b = true) :
    PE X (.Subscript a b pos) (tD X.K W fun ρ M => (fa ρ M).bind fun x M => (fb ρ M).bind fun y M => match idxU x y M with | some u => .ok u M | none => .bad) := by
  refine peImp (pe_ix (ix_U hu) ha hb (plainIx hs)) fun σ H Q h => ?_
  obtain ⟨ρ, M, B, ι, s, sl, h⟩ := h
  refine ⟨ρ, M, B, ι, s, sl, h.bind.imp fun u B1 ι1 M1 H1 t1 s1 h1 v r1 => ?_⟩
  refine ⟨ρ, M1, B1, ι1, s1, sl.mono t1.sub t1.pre, h1.bind.imp fun w B2 ι2 M2 H2 t2 s2 h2 v2 r2 => ?_⟩
  cases e : idxU u w M2 with
  | none => rw [e] at h2; exact h2.elim
  | some z =>
    rw [e] at h2
    exact ⟨B2, ι2, M2, u, w, z, s2, r1.mono t2.sub t2.pre, r2, e, fun v r => h2.ok s2 v r⟩
/-- the parts of a slice -/
def evO (f : Expr → DEnv → Mem → R U) : Option Expr → DEnv → Mem → R (Option Int)
  | none, _, M => .ok none M
  | some e, ρ, M => (f e ρ M).bind fun u M => match u with | .d (.int i) => .ok (some i) M | _ => .bad
def tDo (K : PySem.W.Frag) (W : WD) (f : DEnv → Mem → R (Option Int)) : TO := fun σ H Q => ∃ ρ M B ι, Sim K B ι M H ∧ Slots K B ι ρ σ ∧ Wp K W σ B ι H (f ρ M) fun o B' ι' M' H' => Q o H'
theorem poImp {o : Option Expr} {t t' : TO} (h : PO X o t) (k : ∀ σ H Q, t' σ H Q → t σ H Q) : PO X o t' := ⟨fun pins s σ H Q I q => h.run pins s σ H Q I (k σ H Q q)⟩
theorem do_part (hf : ∀ e, PE X e (tD K W (f e))) : ∀ o : Option Expr, PO X o (tDo K W (evO f o))
  | none => poImp po_none fun σ H Q ⟨ρ, M, B, ι, s, sl, h⟩ => Wp.ok (α := Option Int) h s
  | some e => by
    refine poImp (po_some (hf e)) fun σ H Q h => ?_
    obtain ⟨ρ, M, B, ι, s, sl, h⟩ := h
    refine ⟨ρ, M, B, ι, s, sl, (Wp.bind (r := f e ρ M) h).imp fun u B1 ι1 M1 H1 t1 s1 h1 v r1 => ?_⟩
    split at h1
    · cases r1
      exact ⟨_, rfl, Wp.ok (α := Option Int) h1 s1⟩
    · exact False.elim h1
theorem de_slice {lo hi : Option Expr} {fa : DEnv → Mem → R U} {p2 : Pos} (m : Bool) (ha : PE X a (tD X.K W fa)) (hl : PO X lo (tDo X.K W (evO f lo))) (hh : PO X hi (tDo X.K W (evO f hi))) :
    PE X (.Subscript a (.Slice lo hi none p2) pos) (tD X.K W fun ρ M => (fa ρ M).bind fun x M => (evO f lo ρ M).bind fun l M => (evO f hi ρ M).bind fun u M => ofO (slU m x l u M)) := by
  refine peImp (pe_slice (sl_U m) ha hl hh) fun σ H Q h => ?_
  obtain ⟨ρ, M, B, ι, s, sl, h⟩ := h
  refine ⟨ρ, M, B, ι, s, sl, h.bind.imp fun u B1 ι1 M1 H1 t1 s1 h1 v r1 => ?_⟩
  refine ⟨ρ, M1, B1, ι1, s1, sl.mono t1.sub t1.pre, h1.bind.imp fun l B2 ι2 M2 H2 t2 s2 h2 => ?_⟩
  refine ⟨ρ, M2, B2, ι2, s2, (sl.mono t1.sub t1.pre).mono t2.sub t2.pre, h2.bind.imp fun u2 B3 ι3 M3 H3 t3 s3 h3 => ?_⟩
  obtain ⟨z, M', e, q⟩ := h3.ofO
  exact ⟨B3, ι3, M3, u, z, M', s3, (r1.mono t2.sub t2.pre).mono t3.sub t3.pre, e, q⟩
/-! ### calls of built-ins by name -/
theorem de_callB {x : Str} {id : String} {g : Opn} {p : Pos} (hc : CallR X (.builtin id) (rDn K g)) (hg : Gl X x) (hm : X.mg x = none) (hv : bootBuiltins x = some (.builtin id)) (ha : PA X (e :: es) (tDa K W (evL f (e :: es)))) (hs : (e :: es).all noStar = true) (hn : x ≠ "__name__") (hdb : (x == ("__debug__" : Str)) = false) :
    PE X (.Call (.Name x p) (e :: es) [] pos) (tD K W fun ρ M => (evL f (e :: es) ρ M).bind fun us M => ofO (g us M)) := by
  rw [List.all_cons, Bool.and_eq_true] at hs
  refine peImp (pe_callB hc hg hm hv ha hn hdb (star_cons hs.1) (star_any hs.2)) fun σ H Q h => ?_
  obtain ⟨ρ, M, B, ι, s, sl, h⟩ := h
  refine ⟨ρ, M, B, ι, s, sl, h.bind.imp fun us B1 ι1 M1 H1 t1 s1 h1 vs r1 => ?_⟩
  obtain ⟨z, M', e, q⟩ := h1.ofO
  exact ⟨B1, ι1, M1, us, z, M', s1, r1, e, q⟩
theorem de_callT {x : Str} {T : String} {g : Opn} {p : Pos} (hc : CallR X (.type T) (rDn K g)) (hg : Gl X x) (hm : X.mg x = none) (hv : bootBuiltins x = some (.type T)) (ha : PA X (e :: es) (tDa K W (evL f (e :: es)))) (hs : (e :: es).all noStar = true) (hn : x ≠ "__name__") (hdb : (x == ("__debug__" : Str)) = false) :
    PE X (.Call (.Name x p) (e :: es) [] pos) (tD K W fun ρ M => (evL f (e :: es) ρ M).bind fun us M => ofO (g us M)) := by
  rw [List.all_cons, Bool.and_eq_true] at hs
  refine peImp (pe_callTy hc hg hm hv ha hn hdb (star_cons hs.1) (star_any hs.2)) fun σ H Q h => ?_
  obtain ⟨ρ, M, B, ι, s, sl, h⟩ := h
  refine ⟨ρ, M, B, ι, s, sl, h.bind.imp fun us B1 ι1 M1 H1 t1 s1 h1 vs r1 => ?_⟩
  obtain ⟨z, M', e, q⟩ := h1.ofO
  exact ⟨B1, ι1, M1, us, z, M', s1, r1, e, q⟩
end
/-! ### calls of the program's own defs -/
/-- what a def promises, from what it computes -/
def spU (K : PySem.W.Frag) (mg : Str → Option Value) (n : Nat) (F : List U → Mem → R U) : Sp := fun vs H Q E => vs.length = n ∧ ∃ us M B ι, Sim K B ι M H ∧ URs K B ι us vs ∧
  Wp K (fun c _ H' => ∀ C, mg c = some (.ref C) → E (.ref C) none H') [] B ι H (F us M) fun u B' ι' M' H' => ∀ v, UR K B' ι' u v → Q v H'
/-- the wish of a context about classes by their names -/
def wd (mg : Str → Option Value) (Wx : WX) : WD := fun c σ H => ∀ C, mg c = some (.ref C) → Wx (.ref C) none σ H
theorem Wp.wish {α : Type} {K : PySem.W.Frag} {W W' : WD} {σ σ' : St} {B H : Hp} {ι : List Addr} {r : R α} {Q : α → Hp → List Addr → Mem → Hp → Prop} (h : Wp K W σ B ι H r Q) (k : ∀ c H', W c σ H' → W' c σ' H') : Wp K W' σ' B ι H r Q := by
  cases r with
  | ok a M => exact h
  | exc c M => exact fun B' ι' H' t s => k _ _ (h B' ι' H' t s)
  | bad => exact h
section
variable {X : Cx} {Wx : WX} {e : Expr} {es : List Expr} {pos p : Pos} {f : Expr → DEnv → Mem → R U} {x : Str}
theorem evL_len {f : Expr → DEnv → Mem → R U} {ρ : DEnv} : ∀ {es : List Expr} {M M' : Mem} {us : List U}, evL f es ρ M = .ok us M' → us.length = es.length
  | [], _, _, _, h => by cases h; rfl
  | e :: r, M, M', us, h => by
    unfold evL at h
    cases h1 : f e ρ M with
    | bad => rw [h1] at h; cases h
    | exc c M1 => rw [h1] at h; cases h
    | ok u M1 =>
      rw [h1] at h
      have h : (evL f r ρ M1).bind (fun us M => .ok (u :: us) M) = .ok us M' := h
      cases h2 : evL f r ρ M1 with
      | bad => rw [h2] at h; cases h
      | exc c M1 => rw [h2] at h; cases h
      | ok ws M2 =>
        rw [h2] at h
        cases h
        rw [List.length_cons, List.length_cons, evL_len h2]
theorem de_call {F : List U → Mem → R U} {k : Nat} {fa : Addr} {fd : FuncData} {ps : List Str} (tk : Takes X Wx) (G : FnOk X.prog X.w X.K X.mg X.base (L2.CX X.prog X.w) k fa fd ps (spU X.K X.mg ps.length F)) (hr : Room k X.A) (hg : Gl X x) (hm : X.mg x = some (.ref fa)) (hk : PySem.W.keepIn X.K (.ref fa) = true)
    (hb : Binds X.K fd ps []) (ha : PA X (e :: es) (tDa X.K (wd X.mg Wx) (evL f (e :: es)))) (hs : (e :: es).all noStar = true) (hl : (e :: es).length = ps.length) (hdb : (x == ("__debug__" : Str)) = false) :
    PE X (.Call (.Name x p) (e :: es) [] pos) (tD X.K (wd X.mg Wx) fun ρ M => (evL f (e :: es) ρ M).bind fun us M => F us M) := by
  rw [List.all_cons, Bool.and_eq_true] at hs
  refine peImp (pe_callS (E := WE Wx) G hr hg hm hk hb (fun σ => passAt tk σ) ha hdb (star_cons hs.1) (star_any hs.2)) fun σ H Q h => ?_
  obtain ⟨ρ, M, B, ι, s, sl, h⟩ := h
  refine ⟨ρ, M, B, ι, s, sl, ?_⟩
  dsimp only at h
  cases he : evL f (e :: es) ρ M with
  | bad => rw [he] at h; exact h.elim
  | exc c M1 => rw [he] at h; exact h
  | ok us M1 =>
    rw [he] at h
    intro B1 ι1 H1 t1 s1 vs r1
    refine ⟨by rw [← r1.len, evL_len he, hl], us, M1, B1, ι1, s1, r1, ?_⟩
    have h : Wp X.K (wd X.mg Wx) σ B ι H (F us M1) _ := h
    exact (h.shift t1).wish fun c H' z => z
end
/-! ### isinstance with a built-in class -/
def tyU (M : Mem) : U → Option String
  | .d .none => some "NoneType"
  | .d (.bool _) => some "bool"
  | .d (.int _) => some "int"
  | .d (.str _) => some "str"
  | .d (.list _) => some "list"
  | .d (.tuple _) => some "tuple"
  | .d (.dict _) => none
  | .scr _ => none
  | .o n => match M[n]? with
    | some (.lst _) => some "list"
    | some (.fz _) => some "list"
    | some (.dct _) => some "dict"
    | _ => none
theorem tyU_ok {K : PySem.W.Frag} {B H : Hp} {ι : List Addr} {M : Mem} {u : U} {v : V} (s : Sim K B ι M H) (r : UR K B ι u v) {t : String} (e : tyU M u = some t) : TyX K H v (.type t) := by
  cases u with
  | d x =>
    cases x with
    | none => cases e; cases r; exact .base .non
    | bool b => cases e; cases r; exact .base (.bl _)
    | int b => cases e; cases r; exact .base (.int _)
    | str b => cases e; cases r; exact .base (.str _)
    | list b => cases e; cases r with | lst h q => exact .base (.lst (s.sub _ _ h))
    | tuple b => cases e; cases r with | tup z h q => exact .fTuple (s.sub _ _ h)
    | dict b => cases e
  | o n =>
    unfold tyU at e
    dsimp only at e
    split at e
    · rename_i h
      cases e
      obtain ⟨a, rfl, hi, _, vs, h1, q⟩ := s.at r h
      exact .base (.lst h1)
    · rename_i h
      cases e
      obtain ⟨a, rfl, hi, vs, h1, q⟩ := s.at r h
      exact .base (.lst (s.sub _ _ h1))
    · rename_i h
      cases e
      obtain ⟨a, rfl, hi, _, vs, h1, q⟩ := s.at r h
      exact .base (.dK h1)
    · cases e
  | scr ns => cases e
/-- is a value of the type a an instance of b? -/
def isiT (a b : String) : Option Bool :=
  if ["NoneType", "bool", "int", "str", "list", "tuple", "dict"].contains a && ["bool", "int", "str", "list", "tuple"].contains b then some (a == b || (a == "bool" && b == "int")) else none
theorem isiT_ok {K : PySem.W.Frag} {a b : String} {r : Bool} (h : isiT a b = some r) : PySem.W.kitOne K (.type a) (.type b) = some r := by
  unfold isiT at h
  split at h
  · rename_i hc
    rw [Bool.and_eq_true] at hc
    obtain ⟨h1, h2⟩ := hc
    cases h
    have h1 : a ∈ ["NoneType", "bool", "int", "str", "list", "tuple", "dict"] := by simpa using h1
    have h2 : b ∈ ["bool", "int", "str", "list", "tuple"] := by simpa using h2
    simp only [List.mem_cons, List.not_mem_nil, or_false] at h1 h2
    rcases h1 with rfl | rfl | rfl | rfl | rfl | rfl | rfl <;> rcases h2 with rfl | rfl | rfl | rfl | rfl <;> exact kit_ty (by decide +kernel)
  · cases h
theorem de_isi {X : Cx} {W : WD} {e : Expr} {fe : DEnv → Mem → R U} {y : Str} {b : String} {p p2 pos : Pos} (hg : Gl X "isinstance") (hm : X.mg "isinstance" = none) (hg2 : Gl X y) (hm2 : X.mg y = none) (hv : bootBuiltins y = some (.type b)) (hn : y ≠ "__name__") (hdb : (y == ("__debug__" : Str)) = false)
    (he : PE X e (tD X.K W fe)) (hs : noStar e = true) : PE X (.Call (.Name "isinstance" p) [e, .Name y p2] [] pos) (tD X.K W fun ρ M => (fe ρ M).bind fun u M => match tyU M u with
      | some t => match isiT t b with | some r => .ok (.d (.bool r)) M | none => .bad
      | none => .bad) := by
  have hs2 : starEach [.Name y p2] X.env = (false, eval (.Name y p2) X.env) :: starEach [] X.env := rfl
  refine peImp (pe_callB call_isi hg hm (by decide +kernel) (pa_cons he (pa_cons (pe_bltn (v := .ty b) hg2 hm2 hv rfl hn hdb) pa_nil hs2) (star_cons hs)) (by decide) (by decide) (star_cons hs) (star_any (es := [.Name y p2]) rfl)) fun σ H Q h => ?_
  obtain ⟨ρ, M, B, ι, s, sl, h⟩ := h
  refine ⟨ρ, M, B, ι, s, sl, h.bind.imp fun u B1 ι1 M1 H1 t1 s1 h1 v r1 => ?_⟩
  cases e1 : tyU M1 u with
  | none => rw [e1] at h1; exact h1.elim
  | some t =>
    rw [e1] at h1
    dsimp only at h1
    cases e2 : isiT t b with
    | none => rw [e2] at h1; exact h1.elim
    | some r =>
      rw [e2] at h1
      exact ⟨v, .ty b, .type t, .type b, r, rfl, .ty b, tyU_ok s1 r1 e1, isiT_ok e2, h1.ok s1 _ (.bl r)⟩
end Mx

set_option Elab.async false
set_option linter.all false
set_option maxRecDepth 100000
set_option maxHeartbeats 4000000
/-! MxI: enumerate(x), zip(x, y), zip(x, y, z) over lists and tuples in any mix, walked by a target of several names. -/
namespace Mx
open PySem PySem.Spec PyProof.Rows L2

/-- a source: its address, whether it is a list -/
abbrev Src := Addr × Bool
def sqB (K : PySem.W.Frag) (H : Hp) (c : Src) (xs : List V) : Prop := if c.2 then SqL K H c.1 xs else SqT K H c.1 xs
def seqB (h : Heap) (c : Src) (items : Array Value) : Prop := if c.2 then h.IsList c.1 items else h.IsTuple c.1 items
def iterB (h : Heap) (it : Addr) (c : Src) (i : Nat) : Prop := if c.2 then h.IsListIter it c.1 i else h.IsTupleIter it c.1 i
def iobB (c : Src) : Obj := if c.2 then { cls := .type "list_iterator", data := .fields #[.ref c.1, .int 0 0] } else { cls := .type "tuple_iterator", data := .fields #[.ref c.1, .int 0 0] }
theorem iterB.at {h h' : Heap} {it : Addr} {c : Src} {i : Nat} (x : iterB h it c i) (k : ∀ o, h.get? it = some o → h'.get? it = some o) : iterB h' it c i := by
  obtain ⟨a, b⟩ := c
  cases b with
  | true => exact Heap.IsListIter.at (show h.IsListIter it a i from x) k
  | false => exact Heap.IsTupleIter.at (show h.IsTupleIter it a i from x) k
theorem iterB.obj {h : Heap} {it : Addr} {c : Src} {i : Nat} (x : iterB h it c i) : ∃ o, h.get? it = some o ∧ ∀ v, o.data ≠ .cell v := by
  obtain ⟨a, b⟩ := c
  cases b with
  | true =>
    obtain ⟨o, e, _, d⟩ := (show h.IsListIter it a i from x)
    exact ⟨o, e, fun v z => by rw [d] at z; cases z⟩
  | false =>
    obtain ⟨o, e, _, d⟩ := (show h.IsTupleIter it a i from x)
    exact ⟨o, e, fun v z => by rw [d] at z; cases z⟩
theorem iterB.new {h : Heap} {it : Addr} {c : Src} (e : h.get? it = some (iobB c)) : iterB h it c 0 := by
  obtain ⟨a, b⟩ := c
  cases b with
  | true => exact ⟨_, e, rfl, rfl⟩
  | false => exact ⟨_, e, rfl, rfl⟩
theorem drawsB {prog : Program} {w : World} {A : Around} (hh : A.handled = none) (it : Addr) (c : Src) (hne : c.1 ≠ it) (items : Array Value) :
    Draws prog w A it [it, c.1] items.size (fun i v => items[i]? = some v) (fun i h => iterB h it c i ∧ seqB h c items) := by
  obtain ⟨a, b⟩ := c
  cases b with
  | true => exact Draws.list hh it a hne items
  | false => exact Draws.tuple hh it a hne items
theorem beginsB (c : Src) (items : Array Value) : Begins (.ref c.1) (iobB c) fun h => seqB h c items := by
  obtain ⟨a, b⟩ := c
  cases b with
  | true => exact begins_list a items
  | false => exact begins_tuple a items
section
variable {X : Cx} {pins : List (Addr × Obj)} {σ : St} {H : Hp} {s : Shared}
theorem seqOf (I : Inv X pins σ H s) {c : Src} {xs : List V} (h : sqB X.K H c xs) : ∃ its : List Value, Vals xs its ∧ seqB s.heap c its.toArray ∧ xs.length ≤ sizeLine ∧ c.1 < s.heap.objs.size := by
  obtain ⟨a, b⟩ := c
  cases b with
  | true =>
    obtain ⟨its, r, p, z⟩ := I.list (show SqL X.K H a xs from h)
    exact ⟨its, r, p.isList, z, p.lt⟩
  | false =>
    obtain ⟨its, r, p, z⟩ := I.tuple (show SqT X.K H a xs from h)
    exact ⟨its, r, p, z, p.lt⟩
theorem sqB_inj (I : Inv X pins σ H s) {c : Src} {xs ys : List V} (h : sqB X.K H c xs) (h' : sqB X.K H c ys) : xs = ys := by
  obtain ⟨a, b⟩ := c
  cases b with
  | true => exact I.list_inj (show SqL X.K H a xs from h) h'
  | false => exact I.tuple_inj (show SqT X.K H a xs from h) h'
end
theorem tup_new {P : Program} {w : World} {H : Hp} {h : Heap} {T : Addr} {vs : List V} {its : List Value} (hz : vs.length ≤ sizeLine) (r : Vals vs its) (ht : h.IsTuple T its.toArray) : ObjOk P w (upd H T (.tup vs)) h T (.tup vs) := ⟨hz, its, r, ht⟩

/-! ### enumerate -/
set_option maxHeartbeats 8000000 in
theorem meets_enumerate_newB1 {v : Value} {o : Obj} {H : Heap → Prop} (B : Begins v o H) :
    Meets (Builtin.«enumerate.__new__» ⟨[.type "enumerate", v], []⟩) (fun _ R s => H s.heap ∧
      R (.ok (.ret (.ref (s.heap.push o).objs.size))) { s with heap := (s.heap.push o).push { cls := .type "enumerate", data := .fields #[.none, .bool false, .ref s.heap.objs.size, rawInt 0, .none, .none] } }) :=
  .of_wp fun prog w A R s h => by
    obtain ⟨hp, g, d, tk, os⟩ := s; obtain ⟨h1, h⟩ := h
    have hsub := sub_enumerate
    have q1 : ∀ {A' : Around} {E : Value → Shared → Prop} {Q : Value → Shared → Prop}, Q (.ref hp.objs.size) ⟨hp.push o, g, d, tk, os⟩ → wpAny (model prog w) A' (pyIter v) Q E ⟨hp, g, d, tk, os⟩ :=
      fun q => B.iter prog w _ _ ⟨hp, g, d, tk, os⟩ _ h1 q
    wp_walk using q1
    refine wpAny_stack_any fun st => wpAny_pure ?_
    split
    · rename_i c _ _ _ _ _
      cases (c == Value.type "enumerate")
      · wp_walk using q1
        exact ⟨_, rfl, h⟩
      · wp_walk using q1
        exact ⟨_, rfl, h⟩
    · wp_walk using q1
      exact ⟨_, rfl, h⟩
theorem call_enumB {prog : Program} {w : World} {A : Around} {E : Value → Shared → Prop} {s : Shared} {v : Value} {o : Obj} {H : Heap → Prop} {Q : Value → Shared → Prop} (B : Begins v o H) (h1 : H s.heap)
    (h : ∀ h', IsEnum h' (s.heap.objs.size + 1) s.heap.objs.size 0 .none → h'.get? s.heap.objs.size = some o → h'.objs.size = s.heap.objs.size + 2 →
      (∀ b o, s.heap.get? b = some o → h'.get? b = some o) → Q (.ref (s.heap.objs.size + 1)) { s with heap := h' }) :
    wpAny (model prog w) A (call (.type "enumerate") [v]) Q E s := by
  refine callType_new F.called_enumerate (by decide) (F.typeCall_enumerate_1 _) (F.newCall_enumerate_1 _) (fun obj => F.args_object_init_2 obj _) F.entry_enumerate_new
    (meets_enumerate_newB1 B) ⟨h1, ?_⟩
  have hz : (s.heap.push o).objs.size = s.heap.objs.size + 1 := Heap.size_push ..
  show _ ∧ _
  rw [hz]
  have he : IsEnum ((s.heap.push o).push { cls := .type "enumerate", data := .fields #[.none, .bool false, .ref s.heap.objs.size, rawInt 0, .none, .none] }) (s.heap.objs.size + 1) s.heap.objs.size 0 .none := by
    rw [← hz]
    exact Heap.get?_push_size _ rfl
  refine ⟨⟨_, he, rfl⟩, h _ he ?_ (by rw [Heap.size_push, hz]) fun b ob e => Heap.get?_push_of_some _ (Heap.get?_push_of_some _ e)⟩
  exact Heap.get?_push_of_some _ (Heap.get?_push_size _ B.free)
def IteB (K : PySem.W.Frag) (c : Src) : It :=
  ⟨fun i H => ∃ (xs : List V) (x : V), sqB K H c xs ∧ xs[i]? = some x, fun i H v H' => ∃ T x, v = .ref T ∧ H T = none ∧ H' = upd H T (.tup [.int (i : Nat), x]) ∧ ∀ xs, sqB K H c xs → xs[i]? = some x, fun i H => ∃ xs : List V, sqB K H c xs ∧ xs.length = i⟩
theorem turn_enumB {P : Program} {w : World} {K : PySem.W.Frag} {elts : List Expr} {kk : Nat} {tpos : Pos} (c : Src) (e it : Addr) (hci : c.1 ≠ it) (hce : c.1 ≠ e) :
    Turn P w K (.Tuple elts kk tpos) (IteB K c) [e, it] e (fun i h => (∃ old, IsEnum h e it (0 + ((i : Nat) : Int)) old) ∧ iterB h it c i ∧ e ≠ it) where
  mem := by simp
  obj := fun i h st b hb => by
    obtain ⟨⟨old, he⟩, hi, _⟩ := st
    have e' : b = e ∨ b = it := by simpa using hb
    rcases e' with z | z
    · rw [z]; exact ⟨_, he, fun v q => nomatch q⟩
    · rw [z]; exact hi.obj
  keep := fun i h h' st k => let ⟨⟨old, he⟩, hi, hne⟩ := st; ⟨⟨old, k e (by simp) _ he⟩, hi.at fun o q => k it (by simp) o q, hne⟩
  item := by
    intro X hP hw hK hc i pins s σ H E I hf st hg
    subst hP hw hK
    obtain ⟨hen, hit, hne⟩ := st
    obtain ⟨xs, x, hq, hx⟩ := hg
    obtain ⟨its, rv, p, hz, hlt⟩ := seqOf I hq
    obtain ⟨u, hu, ru⟩ := rv.get hx
    have hsz : i < its.toArray.size := by
      rw [List.size_toArray]
      exact (List.getElem?_eq_some_iff.mp hu).1
    have G := GoesN.enumFrom (elts := elts) (x1 := kk) (pos := tpos) (A := X.A) 0 (drawsB (prog := X.prog) (w := X.w) (A := X.A.in1) (I.ok.hd hc) it c hci its.toArray) e hne (by
      simp only [List.mem_cons, List.not_mem_nil, or_false, not_or]
      exact ⟨hne, fun z => hce z.symm⟩) (by simp)
    refine wpAny_mono (G.goes i s (fun v s2 => ∃ x H', Inv X pins σ H' s2 ∧ RelV x v ∧ (IteB X.K c).yld i H x H' ∧ ((∃ old, IsEnum s2.heap e it (0 + ((i + 1 : Nat) : Int)) old) ∧ iterB s2.heap it c (i + 1) ∧ e ≠ it) ∧ ∀ b ∈ [e, it], H' b = none) E hsz ⟨hen, hit, p⟩ fun v h' tk hY st' hk htk => ?_) (fun r s1 ⟨v, hr, h1⟩ => ⟨v, hr, h1⟩) fun _ _ z => z
    obtain ⟨T, t, y, rfl, hT, hP, hTup⟩ := hY
    have ey : y = u := by
      rw [show its.toArray[i]? = its[i]? by simp, hu] at hP
      exact (Option.some.inj hP).symm
    subst ey
    have hn : H T = none := I.hok.fresh hT
    refine ⟨.ref T, upd H T (.tup [.int (i : Nat), x]), I.turnedNew (ch := [e, it]) hk hf hT (tup_new (its := [.int (0 + (i : Int)) t, y]) (by show 2 ≤ sizeLine; decide) (.cons ⟨t, by rw [Int.zero_add]⟩ (.cons ru .nil)) hTup), rfl, ⟨T, x, rfl, hn, rfl, fun ys hy => by rw [sqB_inj I hy hq]; exact hx⟩, ⟨st'.1, st'.2.1, hne⟩, fun b hb => ?_⟩
    have nb : b ≠ T := fun z => by
      obtain ⟨⟨old, he⟩, hi, _⟩ : _ ∧ _ ∧ e ≠ it := ⟨hen, hit, hne⟩
      have e' : b = e ∨ b = it := by simpa using hb
      have hbl : b < s.heap.objs.size := by
        rcases e' with z | z
        · rw [z]; exact Heap.lt_size he
        · rw [z]; obtain ⟨o, q, _⟩ := hi.obj; exact Heap.lt_size q
      exact absurd (Nat.lt_of_lt_of_le hbl hT) (by rw [z]; exact Nat.lt_irrefl _)
    rw [upd_ne nb]
    exact (hf b hb).1
  done := by
    intro X hP hw hK hc i pins s σ H E I hf st hg
    subst hP hw hK
    obtain ⟨hen, hit, hne⟩ := st
    obtain ⟨xs, hq, hx⟩ := hg
    obtain ⟨its, rv, p, hz, hlt⟩ := seqOf I hq
    have G := GoesN.enumFrom (elts := elts) (x1 := kk) (pos := tpos) (A := X.A) 0 (drawsB (prog := X.prog) (w := X.w) (A := X.A.in1) (I.ok.hd hc) it c hci its.toArray) e hne (by
      simp only [List.mem_cons, List.not_mem_nil, or_false, not_or]
      exact ⟨hne, fun z => hce z.symm⟩) (by simp)
    have en : its.toArray.size = i := by rw [List.size_toArray, ← rv.length, hx]
    rw [en] at G
    refine wpAny_mono (G.stops s (fun s1 => Inv X pins σ H s1) E ⟨hen, hit, p⟩ fun h' tk hk htk => ?_) (fun r s1 h => h) fun _ _ z => z
    exact I.turnedL (ch := [e, it]) hk hf
  self := fun A i s Q E st h => let ⟨⟨_, he⟩, _⟩ := st; wpAny_pyIter_enum he h
def iEnumB (K : PySem.W.Frag) (ta : TA) : TI := fun σ H R => ta σ H fun vs H1 => ∃ c xs, vs = [.ref c.1] ∧ sqB K H1 c xs ∧ R (IteB K c) H1
theorem pi_enumB {X : Cx} {e : Expr} {ta : TA} {p pos tpos : Pos} {elts : List Expr} {kk : Nat} (hg : Gl X "enumerate") (hm : X.mg "enumerate" = none) (ha : PA X [e] ta) (hs : starEach [e] X.env = [(false, eval e X.env)]) :
    PI X (.Tuple elts kk tpos) (.Call (.Name "enumerate" p) [e] [] pos) (iEnumB X.K ta) := by
  refine ⟨fun pins s σ H R I h => ?_⟩
  refine Call_ (ld_blt I hg hm boot_enumerate (PyProof.Rows.callWith_type1 (thn (ha.run pos pins s σ H _ I h) fun us s1 ⟨vs, H1, I1, r1, q1⟩ => ?_) hs rfl))
  obtain ⟨c, xs, ex, hq, q⟩ := q1
  subst ex
  cases r1 with
  | cons r rr =>
    cases rr
    cases r
    obtain ⟨its, rv, p', hz, hlt⟩ := seqOf I1 hq
    refine call_enumB (beginsB c its.toArray) p' fun h' he hit hsz hk => wpAny_pyIter_enum he ?_
    have I2 : Inv X pins σ H1 { s1 with heap := h' } := I1.kept (t' := s1.toks) hk
    refine ⟨s1.heap.objs.size + 1, [s1.heap.objs.size + 1, s1.heap.objs.size], _, _, H1, rfl, I2, turn_enumB c (s1.heap.objs.size + 1) s1.heap.objs.size (Nat.ne_of_lt hlt) (Nat.ne_of_lt (Nat.lt_succ_of_lt hlt)), ⟨⟨.none, he⟩, iterB.new hit, Nat.succ_ne_self _⟩, fun b hb => ?_, q⟩
    have e' : b = s1.heap.objs.size + 1 ∨ b = s1.heap.objs.size := by simpa using hb
    have hle : s1.heap.objs.size ≤ b := by
      rcases e' with z | z
      · rw [z]; exact Nat.le_add_right _ _
      · rw [z]; exact Nat.le_refl _
    exact I1.fpOk hle (I1.hok.fresh hle)
/-! ### zip of 2 -/
def ItzB2 (K : PySem.W.Frag) (c1 c2 : Src) : It :=
  ⟨fun i H => ∃ (xs ys : List V) (x y : V), sqB K H c1 xs ∧ sqB K H c2 ys ∧ xs[i]? = some x ∧ ys[i]? = some y,
    fun i H v H' => ∃ (T : Addr) (x y : V), v = .ref T ∧ H T = none ∧ H' = upd H T (.tup [x, y]) ∧ (∀ l, sqB K H c1 l → l[i]? = some x) ∧ (∀ l, sqB K H c2 l → l[i]? = some y),
    fun i H => ∃ xs ys : List V, sqB K H c1 xs ∧ sqB K H c2 ys ∧ min xs.length ys.length = i⟩
theorem turn_zipB2 {P : Program} {w : World} {K : PySem.W.Frag} {elts : List Expr} {kk : Nat} {tpos : Pos} (c1 c2 : Src) (z TI TO i1 i2 : Addr) (S : ZipSep2 z TI TO i1 i2 [i1, c1.1] [i2, c2.1]) (n1 : c1.1 ≠ i1) (n2 : c2.1 ≠ i2) :
    Turn P w K (.Tuple elts kk tpos) (ItzB2 K c1 c2) [z, TI, TO, i1, i2] z (fun i h => IsZip h z TI TO .none ∧ IsTupOf2 h TI (.ref i1) (.ref i2) ∧ (∃ a1 a2, IsTupOf2 h TO a1 a2) ∧ iterB h i1 c1 i ∧ iterB h i2 c2 i) where
  mem := by simp
  obj := fun i h st b hb => by
    obtain ⟨hz, hTI, ⟨a1, a2, hTO⟩, h1, h2⟩ := st
    have e' : b = z ∨ b = TI ∨ b = TO ∨ b = i1 ∨ b = i2 := by simpa using hb
    rcases e' with q | q | q | q | q
    · rw [q]; exact ⟨_, hz, fun v q => nomatch q⟩
    · rw [q]; exact ⟨_, hTI, fun v q => nomatch q⟩
    · rw [q]; exact ⟨_, hTO, fun v q => nomatch q⟩
    · rw [q]; exact h1.obj
    · rw [q]; exact h2.obj
  keep := fun i h h' st k => by
    obtain ⟨hz, hTI, ⟨a1, a2, hTO⟩, h1, h2⟩ := st
    exact ⟨k z (by simp) _ hz, k TI (by simp) _ hTI, ⟨a1, a2, k TO (by simp) _ hTO⟩, h1.at fun o q => k i1 (by simp) o q, h2.at fun o q => k i2 (by simp) o q⟩
  item := by
    intro X hP hw hK hc i pins s σ H E I hf st hg
    subst hP hw hK
    have st0 := st
    obtain ⟨hz, hTI, hTO, h1, h2⟩ := st
    obtain ⟨xs, ys, x, y, hq1, hq2, hx1, hx2⟩ := hg
    obtain ⟨its1, rv1, p1, _, _⟩ := seqOf I hq1
    obtain ⟨u1, hu1, ru1⟩ := rv1.get hx1
    have l1 := (List.getElem?_eq_some_iff.mp hu1).1
    obtain ⟨its2, rv2, p2, _, _⟩ := seqOf I hq2
    obtain ⟨u2, hu2, ru2⟩ := rv2.get hx2
    have l2 := (List.getElem?_eq_some_iff.mp hu2).1
    have G := GoesN.zip2 (elts := elts) (x1 := kk) (pos := tpos) (A := X.A) S (drawsB (prog := X.prog) (w := X.w) (A := X.A.in1) (I.ok.hd hc) i1 c1 n1 its1.toArray) (drawsB (prog := X.prog) (w := X.w) (A := X.A.in1) (I.ok.hd hc) i2 c2 n2 its2.toArray)
    have hsz : i < min its1.toArray.size its2.toArray.size := by
      simp only [List.size_toArray]
      omega
    refine wpAny_mono (G.goes i s (fun v s2 => ∃ x H', Inv X pins σ H' s2 ∧ RelV x v ∧ (ItzB2 X.K c1 c2).yld i H x H' ∧ (IsZip s2.heap z TI TO .none ∧ IsTupOf2 s2.heap TI (.ref i1) (.ref i2) ∧ (∃ a1 a2, IsTupOf2 s2.heap TO a1 a2) ∧ iterB s2.heap i1 c1 (i + 1) ∧ iterB s2.heap i2 c2 (i + 1)) ∧ ∀ b ∈ [z, TI, TO, i1, i2], H' b = none) E hsz ⟨hz, hTI, hTO, ⟨h1, p1⟩, ⟨h2, p2⟩⟩ fun v h' tk hY st' hk htk => ?_) (fun r s1 ⟨v, hr, h1⟩ => ⟨v, hr, h1⟩) fun _ _ z => z
    obtain ⟨T, w1, w2, rfl, hT, hP1, hP2, hTup⟩ := hY
    have e1 : w1 = u1 := by
      rw [show its1.toArray[i]? = its1[i]? by simp, hu1] at hP1
      exact (Option.some.inj hP1).symm
    subst e1
    have e2 : w2 = u2 := by
      rw [show its2.toArray[i]? = its2[i]? by simp, hu2] at hP2
      exact (Option.some.inj hP2).symm
    subst e2
    have hn : H T = none := I.hok.fresh hT
    refine ⟨.ref T, upd H T (.tup [x, y]), I.turnedNew (ch := [z, TI, TO, i1, i2]) (fun b o hb q => hk b o (fun hm => hb (by
        simp only [List.mem_cons, List.not_mem_nil, or_false] at hm ⊢
        rcases hm with q | q | q | q <;> simp [q])) q) hf hT (tup_new (its := [w1, w2]) (by show 2 ≤ sizeLine; decide) (.cons ru1 (.cons ru2 .nil)) hTup), rfl, ⟨T, x, y, rfl, hn, rfl, fun l hl => by rw [sqB_inj I hl hq1]; exact hx1, fun l hl => by rw [sqB_inj I hl hq2]; exact hx2⟩, ⟨st'.1, st'.2.1, st'.2.2.1, st'.2.2.2.1.1, st'.2.2.2.2.1⟩, fun b hb => ?_⟩
    have nb : b ≠ T := fun zz => by
      have hbl : b < s.heap.objs.size := by
        obtain ⟨a1, a2, ⟨b1, b2, a3⟩, g1, g2⟩ := st0
        have e' : b = z ∨ b = TI ∨ b = TO ∨ b = i1 ∨ b = i2 := by simpa using hb
        rcases e' with q | q | q | q | q
        · rw [q]; exact Heap.lt_size a1
        · rw [q]; exact Heap.lt_size a2
        · rw [q]; exact Heap.lt_size a3
        · rw [q]; obtain ⟨o, q, _⟩ := g1.obj; exact Heap.lt_size q
        · rw [q]; obtain ⟨o, q, _⟩ := g2.obj; exact Heap.lt_size q
      exact absurd (Nat.lt_of_lt_of_le hbl hT) (by rw [zz]; exact Nat.lt_irrefl _)
    rw [upd_ne nb]
    exact (hf b hb).1
  done := by
    intro X hP hw hK hc i pins s σ H E I hf st hg
    subst hP hw hK
    obtain ⟨hz, hTI, hTO, h1, h2⟩ := st
    obtain ⟨xs, ys, hq1, hq2, hx⟩ := hg
    obtain ⟨its1, rv1, p1, _, _⟩ := seqOf I hq1
    obtain ⟨its2, rv2, p2, _, _⟩ := seqOf I hq2
    have G := GoesN.zip2 (elts := elts) (x1 := kk) (pos := tpos) (A := X.A) S (drawsB (prog := X.prog) (w := X.w) (A := X.A.in1) (I.ok.hd hc) i1 c1 n1 its1.toArray) (drawsB (prog := X.prog) (w := X.w) (A := X.A.in1) (I.ok.hd hc) i2 c2 n2 its2.toArray)
    have en : min its1.toArray.size its2.toArray.size = i := by
      simp only [List.size_toArray]
      rw [← rv1.length, ← rv2.length, hx]
    rw [en] at G
    refine wpAny_mono (G.stops s (fun s1 => Inv X pins σ H s1) E ⟨hz, hTI, hTO, ⟨h1, p1⟩, ⟨h2, p2⟩⟩ fun h' tk hk htk => ?_) (fun r s1 h => h) fun _ _ z => z
    exact I.turnedL (ch := [z, TI, TO, i1, i2]) (fun b o hb q => hk b o (fun hm => hb (by
        simp only [List.mem_cons, List.not_mem_nil, or_false] at hm ⊢
        rcases hm with q | q | q | q <;> simp [q])) q) hf
  self := fun A i s Q E st h => wpAny_pyIter_zip st.1 h
def iZipB2 (K : PySem.W.Frag) (ta : TA) : TI := fun σ H R => ta σ H fun vs H1 => ∃ (c1 c2 : Src) (xs ys : List V), vs = [.ref c1.1, .ref c2.1] ∧ sqB K H1 c1 xs ∧ sqB K H1 c2 ys ∧ R (ItzB2 K c1 c2) H1
theorem pi_zipB2 {X : Cx} {e e2 : Expr} {ta : TA} {p pos tpos : Pos} {elts : List Expr} {kk : Nat} (hg : Gl X "zip") (hm : X.mg "zip" = none) (ha : PA X [e, e2] ta)
    (hs : starEach [e, e2] X.env = (false, eval e X.env) :: starEach [e2] X.env) (hpl : (backTo pos (starEach [e2] X.env)).any (·.1) = false) :
    PI X (.Tuple elts kk tpos) (.Call (.Name "zip" p) [e, e2] [] pos) (iZipB2 X.K ta) := by
  refine ⟨fun pins s σ H R I h => ?_⟩
  refine Call_ (ld_blt I hg hm PyProof.Rows.boot_zip (PyProof.Rows.callWith_type1 (thn (ha.run pos pins s σ H _ I h) fun us s1 ⟨vs, H1, I1, r1, q1⟩ => ?_) hs hpl))
  obtain ⟨c1, c2, xs, ys, ex, hq1, hq2, q⟩ := q1
  subst ex
  obtain rfl : us = [.ref c1.1, .ref c2.1] := by
    cases r1 with | cons r1 rr => cases rr with | cons r2 rr => cases rr; cases r1; cases r2; rfl
  obtain ⟨its1, rv1, p1, _, lt1⟩ := seqOf I1 hq1
  obtain ⟨its2, rv2, p2, _, lt2⟩ := seqOf I1 hq2
  refine zip_begins2 (beginsB c1 its1.toArray) (beginsB c2 its2.toArray) p1 p2 fun h' hz hTI hTO g1 g2 hsz hk => wpAny_pyIter_zip hz ?_
  have I2 : Inv X pins σ H1 { s1 with heap := h' } := I1.kept (t' := s1.toks) hk
  have S := zip_sep2 (N := s1.heap.objs.size) (fp1 := [c1.1]) (fp2 := [c2.1]) (fun b hb => by rw [List.mem_singleton.mp hb]; exact lt1) (fun b hb => by rw [List.mem_singleton.mp hb]; exact lt2)
  refine ⟨s1.heap.objs.size + 4, [s1.heap.objs.size + 4, s1.heap.objs.size + 2, s1.heap.objs.size + 3, s1.heap.objs.size, s1.heap.objs.size + 1], _, _, H1, rfl, I2, turn_zipB2 c1 c2 _ _ _ _ _ S (Nat.ne_of_lt lt1) (Nat.ne_of_lt (Nat.lt_of_lt_of_le lt2 (Nat.le_add_right _ _))), ⟨hz, hTI, ⟨_, _, hTO⟩, iterB.new g1, iterB.new g2⟩, fun b hb => ?_, q⟩
  have hle : s1.heap.objs.size ≤ b := by
    simp only [List.mem_cons, List.not_mem_nil, or_false] at hb
    rcases hb with z | z | z | z | z <;> rw [z] <;> first | exact Nat.le_add_right _ _ | exact Nat.le_refl _
  exact I1.fpOk hle (I1.hok.fresh hle)
/-! ### zip of 3 -/
def ItzB3 (K : PySem.W.Frag) (c1 c2 c3 : Src) : It :=
  ⟨fun i H => ∃ (xs ys zs : List V) (x y q : V), sqB K H c1 xs ∧ sqB K H c2 ys ∧ sqB K H c3 zs ∧ xs[i]? = some x ∧ ys[i]? = some y ∧ zs[i]? = some q,
    fun i H v H' => ∃ (T : Addr) (x y q : V), v = .ref T ∧ H T = none ∧ H' = upd H T (.tup [x, y, q]) ∧ (∀ l, sqB K H c1 l → l[i]? = some x) ∧ (∀ l, sqB K H c2 l → l[i]? = some y) ∧ (∀ l, sqB K H c3 l → l[i]? = some q),
    fun i H => ∃ xs ys zs : List V, sqB K H c1 xs ∧ sqB K H c2 ys ∧ sqB K H c3 zs ∧ min (min xs.length ys.length) zs.length = i⟩
theorem turn_zipB3 {P : Program} {w : World} {K : PySem.W.Frag} {elts : List Expr} {kk : Nat} {tpos : Pos} (c1 c2 c3 : Src) (z TI TO i1 i2 i3 : Addr) (S : ZipSep3 z TI TO i1 i2 i3 [i1, c1.1] [i2, c2.1] [i3, c3.1]) (n1 : c1.1 ≠ i1) (n2 : c2.1 ≠ i2) (n3 : c3.1 ≠ i3) :
    Turn P w K (.Tuple elts kk tpos) (ItzB3 K c1 c2 c3) [z, TI, TO, i1, i2, i3] z (fun i h => IsZip h z TI TO .none ∧ IsTupOf3 h TI (.ref i1) (.ref i2) (.ref i3) ∧ (∃ a1 a2 a3, IsTupOf3 h TO a1 a2 a3) ∧ iterB h i1 c1 i ∧ iterB h i2 c2 i ∧ iterB h i3 c3 i) where
  mem := by simp
  obj := fun i h st b hb => by
    obtain ⟨hz, hTI, ⟨a1, a2, a3, hTO⟩, h1, h2, h3⟩ := st
    have e' : b = z ∨ b = TI ∨ b = TO ∨ b = i1 ∨ b = i2 ∨ b = i3 := by simpa using hb
    rcases e' with q | q | q | q | q | q
    · rw [q]; exact ⟨_, hz, fun v q => nomatch q⟩
    · rw [q]; exact ⟨_, hTI, fun v q => nomatch q⟩
    · rw [q]; exact ⟨_, hTO, fun v q => nomatch q⟩
    · rw [q]; exact h1.obj
    · rw [q]; exact h2.obj
    · rw [q]; exact h3.obj
  keep := fun i h h' st k => by
    obtain ⟨hz, hTI, ⟨a1, a2, a3, hTO⟩, h1, h2, h3⟩ := st
    exact ⟨k z (by simp) _ hz, k TI (by simp) _ hTI, ⟨a1, a2, a3, k TO (by simp) _ hTO⟩, h1.at fun o q => k i1 (by simp) o q, h2.at fun o q => k i2 (by simp) o q, h3.at fun o q => k i3 (by simp) o q⟩
  item := by
    intro X hP hw hK hc i pins s σ H E I hf st hg
    subst hP hw hK
    have st0 := st
    obtain ⟨hz, hTI, hTO, h1, h2, h3⟩ := st
    obtain ⟨xs, ys, zs, x, y, q, hq1, hq2, hq3, hx1, hx2, hx3⟩ := hg
    obtain ⟨its1, rv1, p1, _, _⟩ := seqOf I hq1
    obtain ⟨u1, hu1, ru1⟩ := rv1.get hx1
    have l1 := (List.getElem?_eq_some_iff.mp hu1).1
    obtain ⟨its2, rv2, p2, _, _⟩ := seqOf I hq2
    obtain ⟨u2, hu2, ru2⟩ := rv2.get hx2
    have l2 := (List.getElem?_eq_some_iff.mp hu2).1
    obtain ⟨its3, rv3, p3, _, _⟩ := seqOf I hq3
    obtain ⟨u3, hu3, ru3⟩ := rv3.get hx3
    have l3 := (List.getElem?_eq_some_iff.mp hu3).1
    have G := GoesN.zip3 (elts := elts) (x1 := kk) (pos := tpos) (A := X.A) S (drawsB (prog := X.prog) (w := X.w) (A := X.A.in1) (I.ok.hd hc) i1 c1 n1 its1.toArray) (drawsB (prog := X.prog) (w := X.w) (A := X.A.in1) (I.ok.hd hc) i2 c2 n2 its2.toArray) (drawsB (prog := X.prog) (w := X.w) (A := X.A.in1) (I.ok.hd hc) i3 c3 n3 its3.toArray)
    have hsz : i < min (min its1.toArray.size its2.toArray.size) its3.toArray.size := by
      simp only [List.size_toArray]
      omega
    refine wpAny_mono (G.goes i s (fun v s2 => ∃ x H', Inv X pins σ H' s2 ∧ RelV x v ∧ (ItzB3 X.K c1 c2 c3).yld i H x H' ∧ (IsZip s2.heap z TI TO .none ∧ IsTupOf3 s2.heap TI (.ref i1) (.ref i2) (.ref i3) ∧ (∃ a1 a2 a3, IsTupOf3 s2.heap TO a1 a2 a3) ∧ iterB s2.heap i1 c1 (i + 1) ∧ iterB s2.heap i2 c2 (i + 1) ∧ iterB s2.heap i3 c3 (i + 1)) ∧ ∀ b ∈ [z, TI, TO, i1, i2, i3], H' b = none) E hsz ⟨hz, hTI, hTO, ⟨h1, p1⟩, ⟨h2, p2⟩, ⟨h3, p3⟩⟩ fun v h' tk hY st' hk htk => ?_) (fun r s1 ⟨v, hr, h1⟩ => ⟨v, hr, h1⟩) fun _ _ z => z
    obtain ⟨T, w1, w2, w3, rfl, hT, hP1, hP2, hP3, hTup⟩ := hY
    have e1 : w1 = u1 := by
      rw [show its1.toArray[i]? = its1[i]? by simp, hu1] at hP1
      exact (Option.some.inj hP1).symm
    subst e1
    have e2 : w2 = u2 := by
      rw [show its2.toArray[i]? = its2[i]? by simp, hu2] at hP2
      exact (Option.some.inj hP2).symm
    subst e2
    have e3 : w3 = u3 := by
      rw [show its3.toArray[i]? = its3[i]? by simp, hu3] at hP3
      exact (Option.some.inj hP3).symm
    subst e3
    have hn : H T = none := I.hok.fresh hT
    refine ⟨.ref T, upd H T (.tup [x, y, q]), I.turnedNew (ch := [z, TI, TO, i1, i2, i3]) (fun b o hb q => hk b o (fun hm => hb (by
        simp only [List.mem_cons, List.not_mem_nil, or_false] at hm ⊢
        rcases hm with q | q | q | q | q <;> simp [q])) q) hf hT (tup_new (its := [w1, w2, w3]) (by show 3 ≤ sizeLine; decide) (.cons ru1 (.cons ru2 (.cons ru3 .nil))) hTup), rfl, ⟨T, x, y, q, rfl, hn, rfl, fun l hl => by rw [sqB_inj I hl hq1]; exact hx1, fun l hl => by rw [sqB_inj I hl hq2]; exact hx2, fun l hl => by rw [sqB_inj I hl hq3]; exact hx3⟩, ⟨st'.1, st'.2.1, st'.2.2.1, st'.2.2.2.1.1, st'.2.2.2.2.1.1, st'.2.2.2.2.2.1⟩, fun b hb => ?_⟩
    have nb : b ≠ T := fun zz => by
      have hbl : b < s.heap.objs.size := by
        obtain ⟨a1, a2, ⟨b1, b2, b3, a3⟩, g1, g2, g3⟩ := st0
        have e' : b = z ∨ b = TI ∨ b = TO ∨ b = i1 ∨ b = i2 ∨ b = i3 := by simpa using hb
        rcases e' with q | q | q | q | q | q
        · rw [q]; exact Heap.lt_size a1
        · rw [q]; exact Heap.lt_size a2
        · rw [q]; exact Heap.lt_size a3
        · rw [q]; obtain ⟨o, q, _⟩ := g1.obj; exact Heap.lt_size q
        · rw [q]; obtain ⟨o, q, _⟩ := g2.obj; exact Heap.lt_size q
        · rw [q]; obtain ⟨o, q, _⟩ := g3.obj; exact Heap.lt_size q
      exact absurd (Nat.lt_of_lt_of_le hbl hT) (by rw [zz]; exact Nat.lt_irrefl _)
    rw [upd_ne nb]
    exact (hf b hb).1
  done := by
    intro X hP hw hK hc i pins s σ H E I hf st hg
    subst hP hw hK
    obtain ⟨hz, hTI, hTO, h1, h2, h3⟩ := st
    obtain ⟨xs, ys, zs, hq1, hq2, hq3, hx⟩ := hg
    obtain ⟨its1, rv1, p1, _, _⟩ := seqOf I hq1
    obtain ⟨its2, rv2, p2, _, _⟩ := seqOf I hq2
    obtain ⟨its3, rv3, p3, _, _⟩ := seqOf I hq3
    have G := GoesN.zip3 (elts := elts) (x1 := kk) (pos := tpos) (A := X.A) S (drawsB (prog := X.prog) (w := X.w) (A := X.A.in1) (I.ok.hd hc) i1 c1 n1 its1.toArray) (drawsB (prog := X.prog) (w := X.w) (A := X.A.in1) (I.ok.hd hc) i2 c2 n2 its2.toArray) (drawsB (prog := X.prog) (w := X.w) (A := X.A.in1) (I.ok.hd hc) i3 c3 n3 its3.toArray)
    have en : min (min its1.toArray.size its2.toArray.size) its3.toArray.size = i := by
      simp only [List.size_toArray]
      rw [← rv1.length, ← rv2.length, ← rv3.length, hx]
    rw [en] at G
    refine wpAny_mono (G.stops s (fun s1 => Inv X pins σ H s1) E ⟨hz, hTI, hTO, ⟨h1, p1⟩, ⟨h2, p2⟩, ⟨h3, p3⟩⟩ fun h' tk hk htk => ?_) (fun r s1 h => h) fun _ _ z => z
    exact I.turnedL (ch := [z, TI, TO, i1, i2, i3]) (fun b o hb q => hk b o (fun hm => hb (by
        simp only [List.mem_cons, List.not_mem_nil, or_false] at hm ⊢
        rcases hm with q | q | q | q | q <;> simp [q])) q) hf
  self := fun A i s Q E st h => wpAny_pyIter_zip st.1 h
def iZipB3 (K : PySem.W.Frag) (ta : TA) : TI := fun σ H R => ta σ H fun vs H1 => ∃ (c1 c2 c3 : Src) (xs ys zs : List V), vs = [.ref c1.1, .ref c2.1, .ref c3.1] ∧ sqB K H1 c1 xs ∧ sqB K H1 c2 ys ∧ sqB K H1 c3 zs ∧ R (ItzB3 K c1 c2 c3) H1
theorem pi_zipB3 {X : Cx} {e e2 e3 : Expr} {ta : TA} {p pos tpos : Pos} {elts : List Expr} {kk : Nat} (hg : Gl X "zip") (hm : X.mg "zip" = none) (ha : PA X [e, e2, e3] ta)
    (hs : starEach [e, e2, e3] X.env = (false, eval e X.env) :: starEach [e2, e3] X.env) (hpl : (backTo pos (starEach [e2, e3] X.env)).any (·.1) = false) :
    PI X (.Tuple elts kk tpos) (.Call (.Name "zip" p) [e, e2, e3] [] pos) (iZipB3 X.K ta) := by
  refine ⟨fun pins s σ H R I h => ?_⟩
  refine Call_ (ld_blt I hg hm PyProof.Rows.boot_zip (PyProof.Rows.callWith_type1 (thn (ha.run pos pins s σ H _ I h) fun us s1 ⟨vs, H1, I1, r1, q1⟩ => ?_) hs hpl))
  obtain ⟨c1, c2, c3, xs, ys, zs, ex, hq1, hq2, hq3, q⟩ := q1
  subst ex
  obtain rfl : us = [.ref c1.1, .ref c2.1, .ref c3.1] := by
    cases r1 with | cons r1 rr => cases rr with | cons r2 rr => cases rr with | cons r3 rr => cases rr; cases r1; cases r2; cases r3; rfl
  obtain ⟨its1, rv1, p1, _, lt1⟩ := seqOf I1 hq1
  obtain ⟨its2, rv2, p2, _, lt2⟩ := seqOf I1 hq2
  obtain ⟨its3, rv3, p3, _, lt3⟩ := seqOf I1 hq3
  refine zip_begins3 (beginsB c1 its1.toArray) (beginsB c2 its2.toArray) (beginsB c3 its3.toArray) p1 p2 p3 fun h' hz hTI hTO g1 g2 g3 hsz hk => wpAny_pyIter_zip hz ?_
  have I2 : Inv X pins σ H1 { s1 with heap := h' } := I1.kept (t' := s1.toks) hk
  have S := zip_sep3 (N := s1.heap.objs.size) (fp1 := [c1.1]) (fp2 := [c2.1]) (fp3 := [c3.1]) (fun b hb => by rw [List.mem_singleton.mp hb]; exact lt1) (fun b hb => by rw [List.mem_singleton.mp hb]; exact lt2) (fun b hb => by rw [List.mem_singleton.mp hb]; exact lt3)
  refine ⟨s1.heap.objs.size + 5, [s1.heap.objs.size + 5, s1.heap.objs.size + 3, s1.heap.objs.size + 4, s1.heap.objs.size, s1.heap.objs.size + 1, s1.heap.objs.size + 2], _, _, H1, rfl, I2, turn_zipB3 c1 c2 c3 _ _ _ _ _ _ S (Nat.ne_of_lt lt1) (Nat.ne_of_lt (Nat.lt_of_lt_of_le lt2 (Nat.le_add_right _ _))) (Nat.ne_of_lt (Nat.lt_of_lt_of_le lt3 (Nat.le_add_right _ _))), ⟨hz, hTI, ⟨_, _, _, hTO⟩, iterB.new g1, iterB.new g2, iterB.new g3⟩, fun b hb => ?_, q⟩
  have hle : s1.heap.objs.size ≤ b := by
    simp only [List.mem_cons, List.not_mem_nil, or_false] at hb
    rcases hb with z | z | z | z | z | z <;> rw [z] <;> first | exact Nat.le_add_right _ _ | exact Nat.le_refl _
  exact I1.fpOk hle (I1.hok.fresh hle)
end Mx

set_option Elab.async false
set_option linter.all false
set_option maxRecDepth 100000
set_option maxHeartbeats 4000000
/-! MxZ: dict(zip(x, y)) over lists and tuples in any mix. -/
namespace Mx
open PySem PySem.Spec PyProof.Rows L2
section
variable {prog : Program} {w : World} {A : Around} {E : Value → Shared → Prop} {s : Shared} {z TI TO i1 i2 : Addr} {fp1 fp2 : List Addr} {n1 n2 i : Nat} {P1 P2 : Nat → Value → Prop} {St1 St2 : Nat → Heap → Prop} {T : Addr} {f : Bool} {oT : Obj}
theorem zipD2_item_held {Q : Value → Shared → Prop} (S : ZipSep2 z TI TO i1 i2 fp1 fp2) (D1 : Draws prog w A i1 fp1 n1 P1 St1) (D2 : Draws prog w A i2 fp2 n2 P2 St2)
    (hz : IsZipHeld s.heap z TI TO T f) (hT : s.heap.get? T = some oT) (hTI : IsTupOf2 s.heap TI (.ref i1) (.ref i2)) (st1 : St1 i s.heap) (st2 : St2 i s.heap) (hlt1 : i < n1) (hlt2 : i < n2)
    (hQ : ∀ x1 x2 h' tk, P1 i x1 → P2 i x2 → IsZipHeld h' z TI TO T true → St1 (i + 1) h' → St2 (i + 1) h' → IsTupOf2 h' s.heap.objs.size x1 x2 → h'.objs.size = s.heap.objs.size + 1 →
      (∀ c o, c ≠ z → c ≠ i1 → c ≠ i2 → s.heap.get? c = some o → h'.get? c = some o) → Q (.ref s.heap.objs.size) { s with heap := h', toks := tk }) :
    wpAny (model prog w) A (Builtin.«zip.__next__» ⟨[.ref z], []⟩) (fun fin s' => ∃ v, fin = .done (.ret v) ∧ Q v s') E s := by
  obtain ⟨hp, g, d, tk0, os⟩ := s
  show wpAny _ _ (field (.ref z) 2 >>= _) _ _ _
  refine wpAny_bind (wpAny_field hz rfl (x := .bool false) rfl ?_)
  show wpAny _ _ (field (.ref z) 3 >>= _) _ _ _
  refine wpAny_bind (wpAny_field hz rfl (x := .ref TI) rfl ?_)
  refine wpAny_bind (wpAny_seqItems hTI rfl ?_)
  show wpAny _ _ (Builtin.SmallTypes.ownedTupleIsFree (.ref z) >>= _) _ _ _
  refine wpAny_bind (wpAny_tupleHeld_zip hz hT fun h₁ hz₁ hs₁ => ?_)
  replace hs₁ : Heap.SameBut z hp h₁ := hs₁
  simp only [Bool.false_eq_true, if_false]
  refine wpAny_bind ?_
  rw [← Array.forIn_toList]
  simp only [List.forIn_cons, List.forIn_nil]
  refine wpAny_bind (wpAny_bind (wpAny_holding ?_))
  show wpAny _ _ (Builtin.SmallTypes.nextOf (.ref i1) >>= _) _ _ ⟨h₁, g, d, tk0, os⟩
  refine wpAny_bind (D1.item i ⟨h₁, g, d, tk0, os⟩ _ _ hlt1 (D1.over st1 hs₁ S.zf1) fun x1 h₂ tk1 hx1 sn1 hs₂ => wpAny_pure ?_)
  replace hs₂ : Heap.SameBut i1 h₁ h₂ := hs₂
  refine wpAny_pure ?_
  refine wpAny_bind (wpAny_bind (wpAny_holding ?_))
  show wpAny _ _ (Builtin.SmallTypes.nextOf (.ref i2) >>= _) _ _ ⟨h₂, g, d, tk1, os⟩
  refine wpAny_bind (D2.item i ⟨h₂, g, d, tk1, os⟩ _ _ hlt2 (D2.over (D2.over st2 hs₁ S.zf2) hs₂ S.sep1_2) fun x2 h₃ tk2 hx2 sn2 hs₃ => wpAny_pure ?_)
  replace hs₃ : Heap.SameBut i2 h₂ h₃ := hs₃
  refine wpAny_pure (wpAny_pure ?_)
  show wpAny _ _ (newTuple [x1, x2] >>= _) _ _ ⟨h₃, g, d, tk2, os⟩
  refine wpAny_bind (wpAny_newTuple ?_)
  have hsz : h₃.objs.size = hp.objs.size := by rw [hs₃.1, hs₂.1, hs₁.1]
  have hz₃ : IsZipHeld h₃ z TI TO T true := hs₃.extBut _ _ S.zi2 (hs₂.extBut _ _ S.zi1 hz₁)
  have hk : ∀ c o, c ≠ z → c ≠ i1 → c ≠ i2 → hp.get? c = some o → h₃.get? c = some o := fun c o c1 c2 c3 e => hs₃.extBut _ _ c3 (hs₂.extBut _ _ c2 (hs₁.extBut _ _ c1 e))
  refine wpAny_pure ⟨_, rfl, ?_⟩
  show Q (.ref h₃.objs.size) ⟨h₃.push { cls := .type "tuple", data := .seq #[x1, x2] }, g, d, tk2, os⟩
  have hpr : IsTupOf2 (h₃.push { cls := .type "tuple", data := .seq #[x1, x2] }) h₃.objs.size x1 x2 := Heap.get?_push_size _ rfl
  have hz4 : (h₃.push { cls := .type "tuple", data := .seq #[x1, x2] }).objs.size = h₃.objs.size + 1 := Heap.size_push ..
  have j1 : St1 (i + 1) (h₃.push { cls := .type "tuple", data := .seq #[x1, x2] }) := D1.frame _ _ _ (D1.over sn1 hs₃ S.sep2_1) fun b hb o e => Heap.get?_push_of_some _ e
  have j2 : St2 (i + 1) (h₃.push { cls := .type "tuple", data := .seq #[x1, x2] }) := D2.frame _ _ _ sn2 fun b hb o e => Heap.get?_push_of_some _ e
  rw [hsz] at hpr hz4 ⊢
  exact hQ x1 x2 _ tk2 hx1 hx2 (Heap.get?_push_of_some _ hz₃) j1 j2 hpr hz4 fun c o c1 c2 c3 e => Heap.get?_push_of_some _ (hk c o c1 c2 c3 e)
theorem zipD2_end_held {Q : Fin → Shared → Prop} (S : ZipSep2 z TI TO i1 i2 fp1 fp2) (D1 : Draws prog w A i1 fp1 n1 P1 St1) (D2 : Draws prog w A i2 fp2 n2 P2 St2)
    (hz : IsZipHeld s.heap z TI TO T f) (hT : s.heap.get? T = some oT) (hTI : IsTupOf2 s.heap TI (.ref i1) (.ref i2)) (st1 : St1 i s.heap) (st2 : St2 i s.heap) (hle1 : i ≤ n1) (hle2 : i ≤ n2) (hend : i = n1 ∨ i = n2)
    (hE : ∀ h' tk e, (∀ c o, c ≠ z → c ≠ i1 → c ≠ i2 → s.heap.get? c = some o → h'.get? c = some o) → (∃ o, h'.get? e = some o ∧ o.cls = .type "StopIteration") → E (.ref e) { s with heap := h', toks := tk }) :
    wpAny (model prog w) A (Builtin.«zip.__next__» ⟨[.ref z], []⟩) Q E s := by
  obtain ⟨hp, g, d, tk0, os⟩ := s
  show wpAny _ _ (field (.ref z) 2 >>= _) _ _ _
  refine wpAny_bind (wpAny_field hz rfl (x := .bool false) rfl ?_)
  show wpAny _ _ (field (.ref z) 3 >>= _) _ _ _
  refine wpAny_bind (wpAny_field hz rfl (x := .ref TI) rfl ?_)
  refine wpAny_bind (wpAny_seqItems hTI rfl ?_)
  show wpAny _ _ (Builtin.SmallTypes.ownedTupleIsFree (.ref z) >>= _) _ _ _
  refine wpAny_bind (wpAny_tupleHeld_zip hz hT fun h₁ hz₁ hs₁ => ?_)
  replace hs₁ : Heap.SameBut z hp h₁ := hs₁
  simp only [Bool.false_eq_true, if_false]
  refine wpAny_bind ?_
  rw [← Array.forIn_toList]
  simp only [List.forIn_cons, List.forIn_nil]
  refine wpAny_bind (wpAny_bind (wpAny_holding ?_))
  show wpAny _ _ (Builtin.SmallTypes.nextOf (.ref i1) >>= _) _ _ ⟨h₁, g, d, tk0, os⟩
  by_cases hlt1 : i < n1
  · refine wpAny_bind (D1.item i ⟨h₁, g, d, tk0, os⟩ _ _ hlt1 (D1.over st1 hs₁ S.zf1) fun x1 h₂ tk1 hx1 sn1 hs₂ => wpAny_pure ?_)
    replace hs₂ : Heap.SameBut i1 h₁ h₂ := hs₂
    refine wpAny_pure ?_
    refine wpAny_bind (wpAny_bind (wpAny_holding ?_))
    show wpAny _ _ (Builtin.SmallTypes.nextOf (.ref i2) >>= _) _ _ ⟨h₂, g, d, tk1, os⟩
    have hi2 : i = n2 := by omega
    refine wpAny_bind (D2.done ⟨h₂, g, d, tk1, os⟩ _ _ (by rw [← hi2]; exact D2.over (D2.over st2 hs₁ S.zf2) hs₂ S.sep1_2) fun h₃ e hs₃ he => ?_)
    replace hs₃ : Heap.ExtBut i2 h₂ h₃ := hs₃
    exact hE h₃ tk1 e (fun c o c1 c2 c3 x => hs₃ _ _ c3 (hs₂.extBut _ _ c2 (hs₁.extBut _ _ c1 x))) he
  · have hi1 : i = n1 := by omega
    refine wpAny_bind (D1.done ⟨h₁, g, d, tk0, os⟩ _ _ (by rw [← hi1]; exact D1.over st1 hs₁ S.zf1) fun h₂ e hs₂ he => ?_)
    replace hs₂ : Heap.ExtBut i1 h₁ h₂ := hs₂
    exact hE h₂ tk0 e (fun c o c1 c2 _ x => hs₂ _ _ c2 (hs₁.extBut _ _ c1 x)) he
theorem pyNext_zip_held {Q : Option Value → Shared → Prop} (S : ZipSep2 z TI TO i1 i2 fp1 fp2) (D1 : Draws prog w A.in1 i1 fp1 n1 P1 St1) (D2 : Draws prog w A.in1 i2 fp2 n2 P2 St2)
    (hz : IsZipHeld s.heap z TI TO T f) (hT : s.heap.get? T = some oT) (hTI : IsTupOf2 s.heap TI (.ref i1) (.ref i2)) (st1 : St1 i s.heap) (st2 : St2 i s.heap) (hlt1 : i < n1) (hlt2 : i < n2)
    (hQ : ∀ x1 x2 h' tk, P1 i x1 → P2 i x2 → IsZipHeld h' z TI TO T true → St1 (i + 1) h' → St2 (i + 1) h' → IsTupOf2 h' s.heap.objs.size x1 x2 → h'.objs.size = s.heap.objs.size + 1 →
      (∀ c o, c ≠ z → c ≠ i1 → c ≠ i2 → s.heap.get? c = some o → h'.get? c = some o) → Q (some (.ref s.heap.objs.size)) { s with heap := h', toks := tk }) :
    wpAny (model prog w) A (pyNext (.ref z)) Q E s := by
  have hTy : s.TypeIs (.ref z) "zip" := ⟨_, hz, rfl⟩
  unfold pyNext
  exact wpAny_bind (wpAny_attempt (wpAny_callSpecial?_slot (name := Str.ofString "__next__") hTy F.slot_zip_next
    (wpAny_call_entry F.slot_zip_next hTy F.entry_zip_next
      (zipD2_item_held S D1 D2 hz hT hTI st1 st2 hlt1 hlt2 fun x1 x2 h' tk y1 y2 a1 a3 a4 a5 a6 a7 => wpAny_pure (hQ x1 x2 h' tk y1 y2 a1 a3 a4 a5 a6 a7)) (F.args_zip_next_1 _))))
theorem pyNext_zip_end_held {Q : Option Value → Shared → Prop} (S : ZipSep2 z TI TO i1 i2 fp1 fp2) (D1 : Draws prog w A.in1 i1 fp1 n1 P1 St1) (D2 : Draws prog w A.in1 i2 fp2 n2 P2 St2)
    (hz : IsZipHeld s.heap z TI TO T f) (hT : s.heap.get? T = some oT) (hTI : IsTupOf2 s.heap TI (.ref i1) (.ref i2)) (st1 : St1 i s.heap) (st2 : St2 i s.heap) (hle1 : i ≤ n1) (hle2 : i ≤ n2) (hend : i = n1 ∨ i = n2)
    (hQ : ∀ h' tk, (∀ c o, c ≠ z → c ≠ i1 → c ≠ i2 → s.heap.get? c = some o → h'.get? c = some o) → Q none { s with heap := h', toks := tk }) : wpAny (model prog w) A (pyNext (.ref z)) Q E s := by
  have hTy : s.TypeIs (.ref z) "zip" := ⟨_, hz, rfl⟩
  unfold pyNext
  refine wpAny_bind (wpAny_attempt (wpAny_callSpecial?_slot (name := Str.ofString "__next__") hTy F.slot_zip_next
    (wpAny_call_entry F.slot_zip_next hTy F.entry_zip_next (zipD2_end_held S D1 D2 hz hT hTI st1 st2 hle1 hle2 hend fun h' tk e hk he => ?_) (F.args_zip_next_1 _))))
  obtain ⟨o, ho, hc⟩ := he
  refine wpAny_bind (wpAny_isInstance (T := "StopIteration") (b := true) ⟨o, ho, hc⟩ isSubtype_stop ?_)
  exact wpAny_pure (hQ _ _ hk)
theorem pyNext_zip_end {Q : Option Value → Shared → Prop} {a1 a2 : Value} (S : ZipSep2 z TI TO i1 i2 fp1 fp2) (D1 : Draws prog w A.in1 i1 fp1 n1 P1 St1) (D2 : Draws prog w A.in1 i2 fp2 n2 P2 St2)
    (hz : IsZip s.heap z TI TO .none) (hTI : IsTupOf2 s.heap TI (.ref i1) (.ref i2)) (hTO : IsTupOf2 s.heap TO a1 a2) (st1 : St1 i s.heap) (st2 : St2 i s.heap) (hle1 : i ≤ n1) (hle2 : i ≤ n2) (hend : i = n1 ∨ i = n2)
    (hQ : ∀ h' tk, (∀ c o, c ≠ z → c ≠ TO → c ≠ i1 → c ≠ i2 → s.heap.get? c = some o → h'.get? c = some o) → Q none { s with heap := h', toks := tk }) : wpAny (model prog w) A (pyNext (.ref z)) Q E s := by
  have hTy : s.TypeIs (.ref z) "zip" := ⟨_, hz, rfl⟩
  unfold pyNext
  refine wpAny_bind (wpAny_attempt (wpAny_callSpecial?_slot (name := Str.ofString "__next__") hTy F.slot_zip_next
    (wpAny_call_entry F.slot_zip_next hTy F.entry_zip_next (zipD2_next_end S D1 D2 hz hTI hTO st1 st2 hle1 hle2 hend fun h' tk e hk he => ?_) (F.args_zip_next_1 _))))
  obtain ⟨o, ho, hc⟩ := he
  refine wpAny_bind (wpAny_isInstance (T := "StopIteration") (b := true) ⟨o, ho, hc⟩ isSubtype_stop ?_)
  exact wpAny_pure (hQ _ _ hk)
end
theorem seqB.at {h h' : Heap} {c : Src} {items : Array Value} (x : seqB h c items) (k : ∀ o, h.get? c.1 = some o → h'.get? c.1 = some o) : seqB h' c items := by
  obtain ⟨a, b⟩ := c
  cases b with
  | true => exact Heap.IsList.at (show h.IsList a items from x) k
  | false => exact Heap.IsTuple.at (show h.IsTuple a items from x) k
theorem seqB.there {h : Heap} {c : Src} {items : Array Value} (x : seqB h c items) : ∃ o, h.get? c.1 = some o := by
  obtain ⟨a, b⟩ := c
  cases b with
  | true => obtain ⟨o, e, _⟩ := (show h.IsList a items from x); exact ⟨o, e⟩
  | false => obtain ⟨o, e, _⟩ := (show h.IsTuple a items from x); exact ⟨o, e⟩
theorem pairArg_zipB {prog : Program} {w : World} (z TI TO i1 i2 : Addr) (c1 c2 : Src) (S : ZipSep2 z TI TO i1 i2 [i1, c1.1] [i2, c2.1]) (n1 : c1.1 ≠ i1) (n2 : c2.1 ≠ i2) (e1 : c1.1 ≠ z ∧ c1.1 ≠ TO ∧ c1.1 ≠ i2) (e2 : c2.1 ≠ z ∧ c2.1 ≠ TO ∧ c2.1 ≠ i1) (xs ys : Array Value) :
    PairArg prog w "zip" z [z, TI, TO, i1, i2, c1.1, c2.1] [z, TO, i1, i2] (min xs.size ys.size) (fun i k v => xs[i]? = some k ∧ ys[i]? = some v)
      (fun h => IsZip h z TI TO .none ∧ IsTupOf2 h TI (.ref i1) (.ref i2) ∧ (∃ a b, IsTupOf2 h TO a b) ∧ (iterB h i1 c1 0 ∧ seqB h c1 xs) ∧ iterB h i2 c2 0 ∧ seqB h c2 ys) where
  type := fun s ok => ⟨_, ok.1, rfl⟩
  notDict := by decide
  keep := fun h h' ok hk => by
    obtain ⟨hz, hTI, ⟨a, b, hTO⟩, ⟨h1, hl1⟩, h2, hl2⟩ := ok
    exact ⟨hk _ _ hz, hk _ _ hTI, ⟨a, b, hk _ _ hTO⟩, ⟨h1.at fun o e => hk _ o e, hl1.at fun o e => hk _ o e⟩, h2.at fun o e => hk _ o e, hl2.at fun o e => hk _ o e⟩
  there := fun h ok b hb => by
    obtain ⟨hz, hTI, ⟨a, c, hTO⟩, ⟨h1, hl1⟩, h2, hl2⟩ := ok
    obtain ⟨o1, g1, _⟩ := h1.obj
    obtain ⟨o2, g2, _⟩ := h2.obj
    obtain ⟨o3, g3⟩ := hl1.there
    obtain ⟨o4, g4⟩ := hl2.there
    simp only [List.mem_cons, List.not_mem_nil, or_false] at hb
    rcases hb with rfl | rfl | rfl | rfl | rfl | rfl | rfl
    · exact ⟨_, hz⟩
    · exact ⟨_, hTI⟩
    · exact ⟨_, hTO⟩
    · exact ⟨_, g1⟩
    · exact ⟨_, g2⟩
    · exact ⟨_, g3⟩
    · exact ⟨_, g4⟩
  sub := fun b hb => by simp at hb ⊢; rcases hb with rfl | rfl | rfl | rfl <;> simp
  noKeys := fun A s Q E hA ok h => getAttrOr_miss_zip ok.1 rfl rfl rfl zip_no_keys (by decide +kernel) hA h
  iter := fun A s d Q E hA ok hd hdf h => by
    obtain ⟨hz, hTI, ⟨a, b, hTO⟩, ⟨h1, hl1⟩, h2, hl2⟩ := ok
    simp only [List.mem_cons, List.not_mem_nil, or_false, not_or] at hdf
    obtain ⟨dz, dTI, dTO, di1, di2, dl1, dl2⟩ := hdf
    have D1 := drawsB (prog := prog) (w := w) (A := A.in1) hA i1 c1 n1 xs
    have D2 := drawsB (prog := prog) (w := w) (A := A.in1) hA i2 c2 n2 ys
    refine wpAny_pyIter_zip hz (h z [z, TO, i1, i2] (fun i h => IsTupOf2 h TI (.ref i1) (.ref i2) ∧ (iterB h i1 c1 i ∧ seqB h c1 xs) ∧ (iterB h i2 c2 i ∧ seqB h c2 ys) ∧
      ((IsZip h z TI TO .none ∧ ∃ a b, IsTupOf2 h TO a b) ∨ ∃ T f oT, IsZipHeld h z TI TO T f ∧ h.get? T = some oT ∧ T ≠ z ∧ T ≠ i1 ∧ T ≠ i2 ∧ T ≠ d)) s.heap s.toks ?_
      ⟨hTI, ⟨h1, hl1⟩, ⟨h2, hl2⟩, .inl ⟨hz, a, b, hTO⟩⟩ (fun _ _ e => e) fun b hb => .inl hb)
    exact {
      off := fun hm => by
        simp only [List.mem_cons, List.not_mem_nil, or_false] at hm
        rcases hm with e | e | e | e
        · exact dz e
        · exact dTO e
        · exact di1 e
        · exact di2 e
      frame := fun i h₁ h₂ st hk => by
        obtain ⟨hTI, ⟨h1, hl1⟩, ⟨h2, hl2⟩, hz⟩ := st
        refine ⟨hk _ _ (Ne.symm dTI) hTI, ⟨h1.at fun o e => hk _ o (Ne.symm di1) e, hl1.at fun o e => hk _ o (Ne.symm dl1) e⟩, ⟨h2.at fun o e => hk _ o (Ne.symm di2) e, hl2.at fun o e => hk _ o (Ne.symm dl2) e⟩, ?_⟩
        rcases hz with ⟨hz, a, b, hTO⟩ | ⟨T, f, oT, hz, hT, r1, r2, r3, r4⟩
        · exact .inl ⟨hk _ _ (Ne.symm dz) hz, a, b, hk _ _ (Ne.symm dTO) hTO⟩
        · exact .inr ⟨T, f, oT, hk _ _ (Ne.symm dz) hz, hk _ _ r4 hT, r1, r2, r3, r4⟩
      item := fun i s₁ Q₁ E₁ hi st hds hQ => by
        obtain ⟨hTI, g1, g2, hz⟩ := st
        have hix : i < xs.size := Nat.lt_of_lt_of_le hi (Nat.min_le_left ..)
        have hiy : i < ys.size := Nat.lt_of_lt_of_le hi (Nat.min_le_right ..)
        have lt : ∀ {c o}, s₁.heap.get? c = some o → s₁.heap.objs.size ≠ c := fun e => Nat.ne_of_gt (Heap.lt_size e)
        have m1 : s₁.heap.objs.size ≠ i1 := by obtain ⟨o, e, _⟩ := g1.1.obj; exact lt e
        have m2 : s₁.heap.objs.size ≠ i2 := by obtain ⟨o, e, _⟩ := g2.1.obj; exact lt e
        rcases hz with ⟨hz, a, b, hTO⟩ | ⟨T, f, oT, hz, hT, r1, r2, r3, r4⟩
        · refine wpAny_pyNext_zipD2_item S D1 D2 hz hTI hTO g1 g2 hix hiy fun x1 x2 h' tk y1 y2 a1 a2 a3 a4 a5 a6 hk => ?_
          exact hQ s₁.heap.objs.size _ _ h' tk ⟨y1, y2⟩ (.inl ⟨_, a5, rfl, _, rfl⟩)
            ⟨hk _ _ S.TIz S.TITO S.TIi1 S.TIi2 hTI, a3, a4, .inr ⟨s₁.heap.objs.size, false, _, a1, a5, lt hz, m1, m2, Nat.ne_of_gt hds⟩⟩
            fun c o hc e => hk c o (fun x => hc (by simp [x])) (fun x => hc (by simp [x])) (fun x => hc (by simp [x])) (fun x => hc (by simp [x])) e
        · refine pyNext_zip_held S D1 D2 hz hT hTI g1 g2 hix hiy fun x1 x2 h' tk y1 y2 a1 a3 a4 a5 a6 hk => ?_
          exact hQ s₁.heap.objs.size _ _ h' tk ⟨y1, y2⟩ (.inl ⟨_, a5, rfl, _, rfl⟩)
            ⟨hk _ _ S.TIz S.TIi1 S.TIi2 hTI, a3, a4, .inr ⟨T, true, oT, a1, hk _ _ r1 r2 r3 hT, r1, r2, r3, r4⟩⟩
            fun c o hc e => hk c o (fun x => hc (by simp [x])) (fun x => hc (by simp [x])) (fun x => hc (by simp [x])) e
      done := fun s₁ Q₁ E₁ st hQ => by
        obtain ⟨hTI, g1, g2, hz⟩ := st
        have hend : min xs.size ys.size = xs.size ∨ min xs.size ys.size = ys.size := by omega
        rcases hz with ⟨hz, a, b, hTO⟩ | ⟨T, f, oT, hz, hT, r1, r2, r3, r4⟩
        · exact pyNext_zip_end S D1 D2 hz hTI hTO g1 g2 (Nat.min_le_left ..) (Nat.min_le_right ..) hend fun h' tk hk => hQ h' tk fun c o hc e => hk c o (fun x => hc (by simp [x])) (fun x => hc (by simp [x])) (fun x => hc (by simp [x])) (fun x => hc (by simp [x])) e
        · exact pyNext_zip_end_held S D1 D2 hz hT hTI g1 g2 (Nat.min_le_left ..) (Nat.min_le_right ..) hend fun h' tk hk => hQ h' tk fun c o hc e => hk c o (fun x => hc (by simp [x])) (fun x => hc (by simp [x])) (fun x => hc (by simp [x])) e }
/-- dict(zip(x, y)), by values -/
def rDzip (K : PySem.W.Frag) : List V → Hp → VK → Prop := fun vs H Q => ∃ (c1 c2 : Src) (ks : List Key) (ys : List V), vs = [.ref c1.1, .ref c2.1] ∧ sqB K H c1 (ks.map kV) ∧ sqB K H c2 ys ∧ ∀ p, H p = none → Q (.ref p) (upd H p (.dK (mergeK [] (ks.zip ys))))
theorem zip_pairs {w : World} {prog : Program} : ∀ {ks : List Key} {us : List Value} {ys : List V} {ws : List Value}, Vals (ks.map kV) us → Vals ys ws → KV (ks.zip ys) (ks.zip ws) ∧ (ks.zip ws).length = min us.length ws.length ∧
    ∀ (i : Nat) (a b : Value), us[i]? = some a → ws[i]? = some b → ∃ k, (ks.zip ws)[i]? = some (k, b) ∧ (mixKind prog w).is k a = true
  | [], _, ys, ws, h, h' => by
    cases h
    refine ⟨.nil, by simp, fun i a b e => by simp at e⟩
  | k :: ks, _, ys, ws, h, h' => by
    cases h with
    | cons r t =>
      cases h' with
      | nil => exact ⟨.nil, by simp, fun i a b _ e => by simp at e⟩
      | cons r' t' =>
        obtain ⟨h1, h2, h3⟩ := zip_pairs (prog := prog) (w := w) t t'
        refine ⟨.cons ⟨rfl, r'⟩ h1, by simp only [List.zip_cons_cons, List.length_cons, h2]; omega, fun i a b ea eb => ?_⟩
        cases i with
        | zero =>
          cases ea
          cases eb
          exact ⟨k, rfl, kV_is r⟩
        | succ i => exact h3 i a b ea eb
theorem pe_dzip {X : Cx} {e e2 : Expr} {ta : TA} {p p2 pos pos2 : Pos} (hc : X.calm = true) (hg0 : Gl X "dict") (hm0 : X.mg "dict" = none) (hg : Gl X "zip") (hm : X.mg "zip" = none) (ha : PA X [e, e2] ta)
    (hs : starEach [e, e2] X.env = (false, eval e X.env) :: starEach [e2] X.env) (hpl : (backTo pos (starEach [e2] X.env)).any (·.1) = false) :
    PE X (.Call (.Name "dict" p2) [.Call (.Name "zip" p) [e, e2] [] pos] [] pos2) (fun σ H Q => ta σ H fun vs H1 => rDzip X.K vs H1 Q) := by
  refine ⟨fun pins s σ H Q I h => ?_⟩
  refine Call_ (ld_blt I hg0 hm0 (show bootBuiltins "dict" = some (.type "dict") by decide +kernel) ?_)
  refine PyProof.Rows.callWith_type1 (PyProof.Rows.args_cons ?_ rfl) rfl rfl
  refine Call_ (ld_blt I hg hm PyProof.Rows.boot_zip (PyProof.Rows.callWith_type1 (thn (ha.run pos pins s σ H _ I h) fun us s1 ⟨vs, H1, I1, r1, q1⟩ => ?_) hs hpl))
  obtain ⟨c1, c2, ks, ys, ex, hq1, hq2, q⟩ := q1
  subst ex
  obtain rfl : us = [.ref c1.1, .ref c2.1] := by
    cases r1 with | cons r1 rr => cases rr with | cons r2 rr => cases rr; cases r1; cases r2; rfl
  obtain ⟨its1, rv1, p1, z1, lt1⟩ := seqOf I1 hq1
  obtain ⟨its2, rv2, p2, z2, lt2⟩ := seqOf I1 hq2
  refine zip_begins2 (beginsB c1 its1.toArray) (beginsB c2 its2.toArray) p1 p2 fun h' hz hTI hTO g1 g2 hsz hk => ?_
  refine PyProof.Rows.args_nil ?_
  have I2 : Inv X pins σ H1 { s1 with heap := h' } := I1.kept (t' := s1.toks) hk
  have S := zip_sep2 (N := s1.heap.objs.size) (fp1 := [c1.1]) (fp2 := [c2.1]) (fun b hb => by rw [List.mem_singleton.mp hb]; exact lt1) (fun b hb => by rw [List.mem_singleton.mp hb]; exact lt2)
  obtain ⟨kv, kl, kp⟩ := zip_pairs (prog := X.prog) (w := X.w) rv1 rv2
  have PA' := pairArg_zipB (prog := X.prog) (w := X.w) _ _ _ _ _ c1 c2 S (Nat.ne_of_lt lt1) (Nat.ne_of_lt (Nat.lt_of_lt_of_le lt2 (Nat.le_add_right _ _)))
    ⟨Nat.ne_of_lt (Nat.lt_of_lt_of_le lt1 (Nat.le_add_right _ _)), Nat.ne_of_lt (Nat.lt_of_lt_of_le lt1 (Nat.le_add_right _ _)), Nat.ne_of_lt (Nat.lt_of_lt_of_le lt1 (Nat.le_add_right _ _))⟩
    ⟨Nat.ne_of_lt (Nat.lt_of_lt_of_le lt2 (Nat.le_add_right _ _)), Nat.ne_of_lt (Nat.lt_of_lt_of_le lt2 (Nat.le_add_right _ _)), Nat.ne_of_lt lt2⟩ its1.toArray its2.toArray
  have hlen1 : its1.length ≤ sizeLine := by rw [← rv1.length]; exact z1
  refine PySem.call_dict_pairs (knd := mixKind X.prog X.w) (kvs := ks.zip its2) PA' (I.ok.hd hc) ⟨hz, hTI, ⟨_, _, hTO⟩, ⟨iterB.new g1, p1.at fun o e => hk _ o e⟩, iterB.new g2, p2.at fun o e => hk _ o e⟩
    ⟨by simpa using kl, fun i key v rel => kp i key v (by simpa using rel.1) (by simpa using rel.2)⟩ (by simp only [List.size_toArray]; omega) fun h2 tk hd hk2 => ?_
  have fb : ∀ b o, s1.heap.get? b = some o → h2.get? b = some o := fun b o e => hk2 b o (by
    simp only [List.mem_cons, List.not_mem_nil, or_false, not_or]
    have := Heap.lt_size e
    exact ⟨Nat.ne_of_lt (Nat.lt_of_lt_of_le this (Nat.le_add_right _ _)), Nat.ne_of_lt (Nat.lt_of_lt_of_le this (Nat.le_add_right _ _)), Nat.ne_of_lt this, Nat.ne_of_lt (Nat.lt_of_lt_of_le this (Nat.le_add_right _ _))⟩) (hk b o e)
  have hfresh : H1 h'.objs.size = none := I2.hok.fresh (Nat.le_refl _)
  have hm : (h'.objs.size == sysModules) = false := beq_eq_false_iff_ne.mpr (Nat.ne_of_gt I2.big)
  have hlen : (mergeK [] (ks.zip ys)).length ≤ sizeLine := by
    refine Nat.le_trans (length_mergeK _ []) ?_
    rw [List.length_nil, Nat.zero_add, kv.length, kl]
    omega
  exact ⟨.ref h'.objs.size, upd H1 h'.objs.size (.dK (mergeK [] (ks.zip ys))), I1.laid (t' := tk) fb (by rw [hsz]; exact Nat.le_add_right _ _) (show ObjOk X.prog X.w _ _ _ (.dK (mergeK [] (ks.zip ys))) from ⟨hlen, hm, merged [] (ks.zip its2), KV.merge kv .nil, hd⟩), rfl, q _ hfresh⟩
end Mx

set_option Elab.async false
set_option linter.all false
set_option maxRecDepth 100000
set_option maxHeartbeats 4000000
/-! MxY: tuple(zip(x, y)) over lists and tuples in any mix. -/
namespace Mx
open PySem PySem.Spec PyProof.Rows L2
theorem nolen_zip : typeLookup (.type "zip") "__len__" = pure none := by rw [typeLookup_type, builtinLookup_eq_fast]; kernel_rfl
theorem nohint_zip : typeLookup (.type "zip") "__length_hint__" = pure none := by rw [typeLookup_type, builtinLookup_eq_fast]; kernel_rfl
/-- pairs laid one after another -/
inductive Laid : Hp → List (V × V) → List V → Hp → Prop
  | nil {H : Hp} : Laid H [] [] H
  | snoc {H H1 : Hp} {r : List (V × V)} {vs : List V} {x y : V} {T : Addr} {ob : Obj} : Laid H r vs H1 → H1 T = none → ob.dict = none → Laid H (r ++ [(x, y)]) (vs ++ [.ref T]) (upd H1 T (tpl ob [x, y]))
def ZSt (z TI TO i1 i2 S : Addr) (c1 c2 : Src) (xs ys : Array Value) (i : Nat) (h : Heap) : Prop :=
  IsTupOf2 h TI (.ref i1) (.ref i2) ∧ (iterB h i1 c1 i ∧ seqB h c1 xs) ∧ (iterB h i2 c2 i ∧ seqB h c2 ys) ∧
    ((IsZip h z TI TO .none ∧ ∃ a b, IsTupOf2 h TO a b) ∨ ∃ T f oT, IsZipHeld h z TI TO T f ∧ h.get? T = some oT ∧ T ≠ z ∧ T ≠ i1 ∧ T ≠ i2 ∧ T ≠ S)
section
variable {prog : Program} {w : World} {A : Around} {E : Value → Shared → Prop} {s : Shared} {z TI TO i1 i2 S : Addr} {c1 c2 : Src} {xs ys : Array Value} {i : Nat}
theorem ZSt.keep {h h' : Heap} (st : ZSt z TI TO i1 i2 S c1 c2 xs ys i h) (hS : S ∉ [z, TI, TO, i1, i2, c1.1, c2.1]) (hk : ∀ b o, b ≠ S → h.get? b = some o → h'.get? b = some o) : ZSt z TI TO i1 i2 S c1 c2 xs ys i h' := by
  simp only [List.mem_cons, List.not_mem_nil, or_false, not_or] at hS
  obtain ⟨dz, dTI, dTO, di1, di2, dl1, dl2⟩ := hS
  obtain ⟨hTI, ⟨h1, hl1⟩, ⟨h2, hl2⟩, hz⟩ := st
  refine ⟨hk _ _ (Ne.symm dTI) hTI, ⟨h1.at fun o e => hk _ o (Ne.symm di1) e, hl1.at fun o e => hk _ o (Ne.symm dl1) e⟩, ⟨h2.at fun o e => hk _ o (Ne.symm di2) e, hl2.at fun o e => hk _ o (Ne.symm dl2) e⟩, ?_⟩
  rcases hz with ⟨hz, a, b, hTO⟩ | ⟨T, f, oT, hz, hT, r1, r2, r3, r4⟩
  · exact .inl ⟨hk _ _ (Ne.symm dz) hz, a, b, hk _ _ (Ne.symm dTO) hTO⟩
  · exact .inr ⟨T, f, oT, hk _ _ (Ne.symm dz) hz, hk _ _ r4 hT, r1, r2, r3, r4⟩
theorem ZSt.type {h : Heap} (st : ZSt z TI TO i1 i2 S c1 c2 xs ys i h) : ∃ o, h.get? z = some o ∧ o.cls = .type "zip" := by
  obtain ⟨_, _, _, hz⟩ := st
  rcases hz with ⟨hz, _⟩ | ⟨T, f, oT, hz, _⟩
  · exact ⟨_, hz, rfl⟩
  · exact ⟨_, hz, rfl⟩
theorem zst_item {Q : Option Value → Shared → Prop} (hA : A.handled = none) (sep : ZipSep2 z TI TO i1 i2 [i1, c1.1] [i2, c2.1]) (n1 : c1.1 ≠ i1) (n2 : c2.1 ≠ i2) (st : ZSt z TI TO i1 i2 S c1 c2 xs ys i s.heap) (hi : i < min xs.size ys.size) (hds : S < s.heap.objs.size)
    (hQ : ∀ x1 x2 h' tk, xs[i]? = some x1 → ys[i]? = some x2 → IsTupOf2 h' s.heap.objs.size x1 x2 → ZSt z TI TO i1 i2 S c1 c2 xs ys (i + 1) h' → (∀ c o, c ∉ [z, TO, i1, i2] → s.heap.get? c = some o → h'.get? c = some o) → Q (some (.ref s.heap.objs.size)) { s with heap := h', toks := tk }) :
    wpAny (model prog w) A (pyNext (.ref z)) Q E s := by
  have D1 := drawsB (prog := prog) (w := w) (A := A.in1) hA i1 c1 n1 xs
  have D2 := drawsB (prog := prog) (w := w) (A := A.in1) hA i2 c2 n2 ys
  obtain ⟨hTI, g1, g2, hz⟩ := st
  have hix : i < xs.size := Nat.lt_of_lt_of_le hi (Nat.min_le_left ..)
  have hiy : i < ys.size := Nat.lt_of_lt_of_le hi (Nat.min_le_right ..)
  have lt : ∀ {c o}, s.heap.get? c = some o → s.heap.objs.size ≠ c := fun e => Nat.ne_of_gt (Heap.lt_size e)
  have m1 : s.heap.objs.size ≠ i1 := by obtain ⟨o, e, _⟩ := g1.1.obj; exact lt e
  have m2 : s.heap.objs.size ≠ i2 := by obtain ⟨o, e, _⟩ := g2.1.obj; exact lt e
  rcases hz with ⟨hz, a, b, hTO⟩ | ⟨T, f, oT, hz, hT, r1, r2, r3, r4⟩
  · refine wpAny_pyNext_zipD2_item sep D1 D2 hz hTI hTO g1 g2 hix hiy fun x1 x2 h' tk y1 y2 a1 a2 a3 a4 a5 a6 hk => ?_
    exact hQ x1 x2 h' tk y1 y2 a5 ⟨hk _ _ sep.TIz sep.TITO sep.TIi1 sep.TIi2 hTI, a3, a4, .inr ⟨s.heap.objs.size, false, _, a1, a5, lt hz, m1, m2, Nat.ne_of_gt hds⟩⟩
      fun c o hc e => hk c o (fun x => hc (by simp [x])) (fun x => hc (by simp [x])) (fun x => hc (by simp [x])) (fun x => hc (by simp [x])) e
  · refine pyNext_zip_held sep D1 D2 hz hT hTI g1 g2 hix hiy fun x1 x2 h' tk y1 y2 a1 a3 a4 a5 a6 hk => ?_
    exact hQ x1 x2 h' tk y1 y2 a5 ⟨hk _ _ sep.TIz sep.TIi1 sep.TIi2 hTI, a3, a4, .inr ⟨T, true, oT, a1, hk _ _ r1 r2 r3 hT, r1, r2, r3, r4⟩⟩
      fun c o hc e => hk c o (fun x => hc (by simp [x])) (fun x => hc (by simp [x])) (fun x => hc (by simp [x])) e
theorem zst_done {Q : Option Value → Shared → Prop} (hA : A.handled = none) (sep : ZipSep2 z TI TO i1 i2 [i1, c1.1] [i2, c2.1]) (n1 : c1.1 ≠ i1) (n2 : c2.1 ≠ i2) (st : ZSt z TI TO i1 i2 S c1 c2 xs ys (min xs.size ys.size) s.heap)
    (hQ : ∀ h' tk, (∀ c o, c ∉ [z, TO, i1, i2] → s.heap.get? c = some o → h'.get? c = some o) → Q none { s with heap := h', toks := tk }) :
    wpAny (model prog w) A (pyNext (.ref z)) Q E s := by
  have D1 := drawsB (prog := prog) (w := w) (A := A.in1) hA i1 c1 n1 xs
  have D2 := drawsB (prog := prog) (w := w) (A := A.in1) hA i2 c2 n2 ys
  obtain ⟨hTI, g1, g2, hz⟩ := st
  have hend : min xs.size ys.size = xs.size ∨ min xs.size ys.size = ys.size := by omega
  rcases hz with ⟨hz, a, b, hTO⟩ | ⟨T, f, oT, hz, hT, r1, r2, r3, r4⟩
  · exact pyNext_zip_end sep D1 D2 hz hTI hTO g1 g2 (Nat.min_le_left ..) (Nat.min_le_right ..) hend fun h' tk hk => hQ h' tk fun c o hc e => hk c o (fun x => hc (by simp [x])) (fun x => hc (by simp [x])) (fun x => hc (by simp [x])) (fun x => hc (by simp [x])) e
  · exact pyNext_zip_end_held sep D1 D2 hz hT hTI g1 g2 (Nat.min_le_left ..) (Nat.min_le_right ..) hend fun h' tk hk => hQ h' tk fun c o hc e => hk c o (fun x => hc (by simp [x])) (fun x => hc (by simp [x])) (fun x => hc (by simp [x])) e
end
section
variable {X : Cx} {pins : List (Addr × Obj)} {σ : St} {A : Around} {z TI TO i1 i2 S : Addr} {c1 c2 : Src} {us ws : List Value} {vx vy : List V} {H0 : Hp}
theorem vals_get {vs : List V} {us : List Value} (r : Vals vs us) {i : Nat} {u : Value} (h : us[i]? = some u) : ∃ v, vs[i]? = some v ∧ RelV v u := by
  induction r generalizing i with
  | nil => simp at h
  | cons a b ih =>
    cases i with
    | zero => cases h; exact ⟨_, rfl, a⟩
    | succ i => exact ih h
theorem vals_snoc {vs : List V} {us : List Value} (r : Vals vs us) {v : V} {u : Value} (h : RelV v u) : Vals (vs ++ [v]) (us ++ [u]) := by
  induction r with
  | nil => exact .cons h .nil
  | cons a b ih => exact .cons a ih
theorem zip_take {α β : Type} : ∀ (xs : List α) (ys : List β) (i : Nat) (x : α) (y : β), xs[i]? = some x → ys[i]? = some y → (xs.zip ys).take (i + 1) = (xs.zip ys).take i ++ [(x, y)]
  | [], _, _, _, _, h, _ => by cases h
  | _ :: _, [], _, _, _, _, h => by cases h
  | a :: r, b :: t, 0, x, y, h, k => by cases h; cases k; rfl
  | a :: r, b :: t, i + 1, x, y, h, k => by
    show (a, b) :: (r.zip t).take (i + 1) = (a, b) :: (r.zip t).take i ++ [(x, y)]
    rw [zip_take r t i x y h k]
    rfl
theorem tz_loop (hA : A.handled = none) (sep : ZipSep2 z TI TO i1 i2 [i1, c1.1] [i2, c2.1]) (n1 : c1.1 ≠ i1) (n2 : c2.1 ≠ i2) (hSn : S ∉ [z, TI, TO, i1, i2, c1.1, c2.1]) (rx : Vals vx us) (ry : Vals vy ws) (hsz : us.length ≤ sizeLine) (res : Value) {R : Result → Shared → Prop} :
    ∀ (k i : Nat) (s : Shared) (acc : Array Value) (c : Nat) (H : Hp) (as : List V), min us.length ws.length - i = k → i ≤ min us.length ws.length → ZSt z TI TO i1 i2 S c1 c2 us.toArray ws.toArray i s.heap →
    s.heap.get? S = some { cls := .type "list", dict := none, data := .seq acc c, slots := #[] } → acc.size = i → TO < s.heap.objs.size → Inv X pins σ H s → (∀ b ∈ [z, TO, i1, i2, S], FpOk X pins H b) → Laid H0 ((vx.zip vy).take i) as H → Vals as acc.toList →
    (∀ s' acc' c' H' as', s'.heap.get? S = some { cls := .type "list", dict := none, data := .seq acc' c', slots := #[] } → Inv X pins σ H' s' → Laid H0 (vx.zip vy) as' H' → Vals as' acc'.toList → acc'.size = min us.length ws.length → R (.ok (.ret res)) s') →
    codeAny (model X.prog X.w) A (.builtin "list.extend.loop" ⟨[.ref S, .ref z, res], []⟩) R s := by
  have hSw : S ∉ [z, TO, i1, i2] := fun h => hSn (by simp only [List.mem_cons, List.not_mem_nil, or_false] at h ⊢; rcases h with h | h | h | h <;> simp [h])
  have sub4 : ∀ b ∈ [z, TO, i1, i2], b ∈ [z, TO, i1, i2, S] := fun b h => by simp only [List.mem_cons, List.not_mem_nil, or_false] at h ⊢; rcases h with h | h | h | h <;> simp [h]
  intro k
  induction k with
  | zero =>
    intro i s acc c H as hk hi hst hS hacc hTO I hf la rv hR
    have hin : i = min us.length ws.length := by omega
    subst hin
    refine codeAny_builtin F.entry_extend_loop ?_
    rw [Around.under_plainId F.plain_extend_loop _]
    show wpAny _ A.in1 (pyNext (.ref z) >>= _) _ _ s
    refine wpAny_bind (zst_done (A := A.in1) (S := S) (xs := us.toArray) (ys := ws.toArray) hA sep n1 n2 hst fun h' tk hk' => ?_)
    have I2 : Inv X pins σ H { s with heap := h', toks := tk } := I.turnedL (t' := tk) hk' fun b hb => hf b (sub4 b hb)
    refine wpAny_pure (hR _ acc c H as (hk' S _ hSw hS) I2 ?_ rv hacc)
    rwa [List.take_of_length_le (by rw [List.length_zip, rx.length, ry.length]; exact Nat.le_refl _)] at la
  | succ k ih =>
    intro i s acc c H as hk hi hst hS hacc hTO I hf la rv hR
    have hlt : i < min us.length ws.length := by omega
    refine codeAny_builtin F.entry_extend_loop ?_
    rw [Around.under_plainId F.plain_extend_loop _]
    show wpAny _ A.in1 (pyNext (.ref z) >>= _) _ _ s
    refine wpAny_bind (zst_item (A := A.in1) hA sep n1 n2 hst (by simpa using hlt) (Heap.lt_size hS) fun x1 x2 h' tk e1 e2 hT hst' hk' => ?_)
    have e1 : us[i]? = some x1 := by simpa using e1
    have e2 : ws[i]? = some x2 := by simpa using e2
    obtain ⟨v1, g1, q1⟩ := vals_get rx e1
    obtain ⟨v2, g2, q2⟩ := vals_get ry e2
    have hS' := hk' S _ hSw hS
    have ltS : ∀ b ∈ [z, TO, i1, i2, S], b ≠ s.heap.objs.size := fun b hb => by
      have h1 : b = TO ∨ ∃ o, s.heap.get? b = some o := by
        obtain ⟨_, g1, g2, hz⟩ := hst
        simp only [List.mem_cons, List.not_mem_nil, or_false] at hb
        rcases hb with rfl | rfl | rfl | rfl | rfl
        · rcases hz with ⟨hz, _⟩ | ⟨T, f, oT, hz, _⟩
          · exact .inr ⟨_, hz⟩
          · exact .inr ⟨_, hz⟩
        · exact .inl rfl
        · obtain ⟨o, e, _⟩ := g1.1.obj; exact .inr ⟨_, e⟩
        · obtain ⟨o, e, _⟩ := g2.1.obj; exact .inr ⟨_, e⟩
        · exact .inr ⟨_, hS⟩
      rcases h1 with rfl | ⟨o, e⟩
      · exact Nat.ne_of_lt hTO
      · exact Nat.ne_of_lt (Heap.lt_size e)
    have hfr : H s.heap.objs.size = none := I.hok.fresh (Nat.le_refl _)
    have new : ObjOk X.prog X.w (upd H s.heap.objs.size (tpl { cls := .type "tuple", data := .seq #[x1, x2] } [v1, v2])) h' s.heap.objs.size (tpl { cls := .type "tuple", data := .seq #[x1, x2] } [v1, v2]) :=
      ⟨hT, by show 2 ≤ sizeLine; decide, [x1, x2], .cons q1 (.cons q2 .nil), ⟨_, hT, rfl, _, rfl⟩⟩
    have I1 : Inv X pins σ (upd H s.heap.objs.size (tpl { cls := .type "tuple", data := .seq #[x1, x2] } [v1, v2])) { s with heap := h', toks := tk } :=
      I.turnedNew (t' := tk) hk' (fun b hb => hf b (sub4 b hb)) (Nat.le_refl _) new
    have hf1 : ∀ b ∈ [z, TO, i1, i2, S], FpOk X pins (upd H s.heap.objs.size (tpl { cls := .type "tuple", data := .seq #[x1, x2] } [v1, v2])) b := fun b hb => by
      obtain ⟨a1, a2⟩ := hf b hb
      exact ⟨by rw [upd_ne (ltS b hb)]; exact a1, a2⟩
    show wpAny _ A.in1 (updateSeq S (·.push (.ref s.heap.objs.size)) >>= _) _ _ _
    refine wpAny_bind ?_
    refine wpAny_updateSeq (s := { s with heap := h', toks := tk }) hS' rfl (wpAny_pure ⟨plainId_quiet F.plain_extend_loop _, ih (i + 1) _ (acc.push (.ref s.heap.objs.size)) _ _ (as ++ [.ref s.heap.objs.size]) (by omega) hlt (hst'.keep hSn fun b o hb e => ?_) (Heap.get?_update_self _ hS' rfl) (by rw [Array.size_push, hacc]) (Nat.lt_trans hTO (Heap.lt_size ((Heap.get?_update_other _ _ (ltS S (by simp))).trans hT)))
      (I1.turnedL (ch := [S]) (t' := tk) (fun b o hb e => (Heap.get?_update_other _ _ (fun h : S = b => hb (by simp [h]))).trans e) fun b hb => hf1 b (by simp only [List.mem_singleton] at hb; simp [hb])) hf1 ?_ ?_ hR⟩)
      (by rw [hacc]; omega) (by show (acc.push _).size ≤ sizeLine + 1; rw [Array.size_push, hacc]; omega)
    · exact (Heap.get?_update_other _ _ (Ne.symm hb)).trans e
    · rw [zip_take vx vy i v1 v2 g1 g2]
      exact .snoc la hfr rfl
    · rw [Array.toList_push]
      exact vals_snoc rv rfl
theorem tz_collect (hA : A.handled = none) {s : Shared} {E : Value → Shared → Prop} {Q : List Value → Shared → Prop} (sep : ZipSep2 z TI TO i1 i2 [i1, c1.1] [i2, c2.1]) (n1 : c1.1 ≠ i1) (n2 : c2.1 ≠ i2) (hlt : ∀ b ∈ [z, TI, TO, i1, i2, c1.1, c2.1], b < s.heap.objs.size) (rx : Vals vx us) (ry : Vals vy ws) (hsz : us.length ≤ sizeLine) (hz0 : IsZip s.heap z TI TO .none)
    (hst : ∀ S, s.heap.objs.size ≤ S → ZSt z TI TO i1 i2 S c1 c2 us.toArray ws.toArray 0 s.heap) (I : Inv X pins σ H0 s) (hf : ∀ b ∈ [z, TO, i1, i2], FpOk X pins H0 b)
    (hQ : ∀ s' acc H' as, Inv X pins σ H' s' → Laid H0 (vx.zip vy) as H' → Vals as acc → acc.length = min us.length ws.length → Q acc s') : wpAny (model X.prog X.w) A (collect (.ref z)) Q E s := by
  have hSf : s.heap.objs.size ∉ [z, TI, TO, i1, i2, c1.1, c2.1] := fun hm => Nat.lt_irrefl _ (hlt _ hm)
  have hSI : s.heap.objs.size ≠ z := fun e => hSf (by simp [e])
  unfold collect
  refine wpAny_bind (wpAny_runValue (codeAny_builtin F.entry_proto_collect ?_))
  rw [Around.under_plainId F.plain_proto_collect _]
  show wpAny _ A.in1 (newList [] >>= fun l => again (.builtin "list.__iadd__" ⟨[l, .ref z], []⟩)) _ _ s
  refine wpAny_bind (wpAny_newObj_type ?_)
  refine wpAny_pure ⟨plainId_quiet F.plain_list_iadd _, codeAny_builtin F.entry_list_iadd ?_⟩
  rw [Around.under_plainId F.plain_list_iadd _]
  have hst₁ : ZSt z TI TO i1 i2 s.heap.objs.size c1 c2 us.toArray ws.toArray 0 (s.heap.push { cls := .type "list", data := .seq ([] : List Value).toArray }) := (hst _ (Nat.le_refl _)).keep hSf fun b o _ e => Heap.get?_push_of_some _ e
  have hT : ∀ {h : Heap}, ZSt z TI TO i1 i2 s.heap.objs.size c1 c2 us.toArray ws.toArray 0 h → ({ s with heap := h } : Shared).TypeIs (.ref z) "zip" := fun st => st.type
  show wpAny _ A.in1 (Builtin.List.listExtendWith (.ref s.heap.objs.size) (.ref z) (.ref s.heap.objs.size)) _ _ _
  unfold Builtin.List.listExtendWith
  refine wpAny_bind (wpAny_typeOf (hT hst₁) ?_)
  have h1 : Builtin.List.listSameRef (.ref s.heap.objs.size) (.ref z) = false := by simp [Builtin.List.listSameRef, hSI]
  have h2 : (Value.type "zip" == Value.type "list") = false := by decide
  have h3 : (Value.type "zip" == Value.type "tuple") = false := by decide
  simp only [h1, h2, h3, Bool.or_false, Bool.false_eq_true, if_false]
  refine wpAny_bind (wpAny_pyIter_zip (show IsZip (s.heap.push _) z TI TO .none from Heap.get?_push_of_some _ hz0) ?_)
  refine wpAny_bind (wpAny_holding ?_)
  unfold Builtin.List.listLengthHint
  refine wpAny_bind (wpAny_specialOf (hT hst₁) nolen_zip ?_)
  show wpAny _ A.in1 (specialOf (Value.ref z) (Str.ofString "__length_hint__") >>= _) _ _ _
  refine wpAny_bind (wpAny_specialOf (hT hst₁) nohint_zip ?_)
  refine wpAny_pure ?_
  show wpAny _ A.in1 (rule "list.extend.makes-room" >>= fun _ => Builtin.List.listTouch (.ref s.heap.objs.size) >>= fun _ =>
    again (.builtin "list.extend.loop" ⟨[.ref s.heap.objs.size, .ref z, .ref s.heap.objs.size], []⟩)) _ _ _
  refine wpAny_bind (wpAny_rule ?_)
  have hS₁ : (s.heap.push { cls := .type "list", data := .seq ([] : List Value).toArray }).get? s.heap.objs.size = some { cls := .type "list", data := .seq ([] : List Value).toArray } := Heap.get?_push_size _ rfl
  refine wpAny_bind ?_
  show wpAny _ A.in1 (updateSeq s.heap.objs.size (·.push .none) >>= fun _ => updateSeq s.heap.objs.size (·.pop)) _ _ _
  refine wpAny_bind (wpAny_updateSeq hS₁ rfl ?_)
  have hS₂ := Heap.get?_update_self (Obj.mapSeq (·.push Value.none)) hS₁ rfl
  refine wpAny_updateSeq hS₂ rfl ?_
  have hS₃ := Heap.get?_update_self (Obj.mapSeq (·.pop)) hS₂ rfl
  have oth : ∀ b o, b ≠ s.heap.objs.size → (s.heap.push { cls := .type "list", data := .seq ([] : List Value).toArray }).get? b = some o →
      (((s.heap.push { cls := .type "list", data := .seq ([] : List Value).toArray }).update s.heap.objs.size (Obj.mapSeq (·.push Value.none))).update s.heap.objs.size (Obj.mapSeq (·.pop))).get? b = some o :=
    fun b o hb e => (Heap.get?_update_other _ _ (Ne.symm hb)).trans ((Heap.get?_update_other _ _ (Ne.symm hb)).trans e)
  have ltn : ∀ b o, s.heap.get? b = some o → b ≠ s.heap.objs.size := fun b o e => Nat.ne_of_lt (Heap.lt_size e)
  have fpS : FpOk X pins H0 s.heap.objs.size := I.fpOk (Nat.le_refl _) (I.hok.fresh (Nat.le_refl _))
  refine wpAny_pure ⟨plainId_quiet F.plain_extend_loop _, tz_loop (H0 := H0) hA sep n1 n2 hSf rx ry hsz _ _ 0 _ _ _ H0 [] rfl (Nat.zero_le _)
    (hst₁.keep hSf fun b o hb e => oth b o hb e) hS₃ rfl (Nat.lt_trans (hlt TO (by simp)) (Heap.lt_size hS₃)) (I.kept (t' := s.toks) fun b o e => oth b o (ltn b o e) (Heap.get?_push_of_some _ e)) (fun b hb => ?_) .nil .nil fun s' acc' c' H' as' hS' I' la rv hl => ?_⟩
  · simp only [List.mem_cons, List.not_mem_nil, or_false] at hb
    rcases hb with rfl | rfl | rfl | rfl | rfl
    · exact hf _ (by simp)
    · exact hf _ (by simp)
    · exact hf _ (by simp)
    · exact hf _ (by simp)
    · exact fpS
  · show wpAny _ A (load s.heap.objs.size >>= _) _ _ s'
    refine wpAny_bind (wpAny_load hS' ?_)
    exact wpAny_pure (hQ s' acc'.toList H' as' I' la rv (by rw [Array.length_toList]; exact hl))
theorem tz_new (hA : A.handled = none) {s : Shared} {E : Value → Shared → Prop} {Q₁ : Value → Shared → Prop} (sep : ZipSep2 z TI TO i1 i2 [i1, c1.1] [i2, c2.1]) (n1 : c1.1 ≠ i1) (n2 : c2.1 ≠ i2) (hlt : ∀ b ∈ [z, TI, TO, i1, i2, c1.1, c2.1], b < s.heap.objs.size) (rx : Vals vx us) (ry : Vals vy ws) (hsz : us.length ≤ sizeLine) (hz0 : IsZip s.heap z TI TO .none)
    (hst : ∀ S, s.heap.objs.size ≤ S → ZSt z TI TO i1 i2 S c1 c2 us.toArray ws.toArray 0 s.heap) (I : Inv X pins σ H0 s) (hf : ∀ b ∈ [z, TO, i1, i2], FpOk X pins H0 b)
    (h : ∀ s' acc H' as, Inv X pins σ H' s' → Laid H0 (vx.zip vy) as H' → Vals as acc → acc.length = min us.length ws.length → Q₁ (.ref s'.heap.objs.size) { s' with heap := s'.heap.push { cls := .type "tuple", data := .seq acc.toArray } }) :
    codeAny (model X.prog X.w) A (.call (.builtin "tuple.__new__") ⟨[.type "tuple", .ref z], []⟩) (wants Q₁ E) s := by
  refine codeAny_of_tree ?_
  show wpAny _ A.in1 (do checkBuiltinCall "tuple.__new__" ⟨[.type "tuple", .ref z], []⟩; again (.builtin "tuple.__new__" ⟨[.type "tuple", .ref z], []⟩)) _ _ s
  refine wpAny_bind (wpAny_of_eq (F.newCall_tuple_1 _) (wpAny_pure ⟨plainId_quiet F.plain_tuple_new _, codeAny_builtin F.entry_tuple_new ?_⟩))
  rw [Around.under_plainId F.plain_tuple_new _]
  have hsub := sub_tuple_self
  have hinit := init_tuple_lookup
  have hmh := madeHere_tuple
  have hTI : s.TypeIs (.ref z) "zip" := ⟨_, hz0, rfl⟩
  wp_walk using wpAny_typeOf hTI, tz_collect (A := A.in1) hA sep n1 n2 hlt rx ry hsz hz0 hst I hf
  intro s' acc H' as I' la rv hl
  show wpAny _ _ (Builtin.Tuple.tupleExact acc.toArray >>= fun v => ret v) _ _ _
  unfold Builtin.Tuple.tupleExact
  refine wpAny_bind (wpAny_newObj_type ?_ (by show acc.toArray.size ≤ sizeLine; rw [List.size_toArray, hl]; omega))
  exact wpAny_pure (h s' acc H' as I' la rv hl)
theorem tz_call (hA : A.handled = none) {s : Shared} {E : Value → Shared → Prop} {Q : Value → Shared → Prop} (sep : ZipSep2 z TI TO i1 i2 [i1, c1.1] [i2, c2.1]) (n1 : c1.1 ≠ i1) (n2 : c2.1 ≠ i2) (hlt : ∀ b ∈ [z, TI, TO, i1, i2, c1.1, c2.1], b < s.heap.objs.size) (rx : Vals vx us) (ry : Vals vy ws) (hsz : us.length ≤ sizeLine) (hz0 : IsZip s.heap z TI TO .none)
    (hst : ∀ S, s.heap.objs.size ≤ S → ZSt z TI TO i1 i2 S c1 c2 us.toArray ws.toArray 0 s.heap) (I : Inv X pins σ H0 s) (hf : ∀ b ∈ [z, TO, i1, i2], FpOk X pins H0 b)
    (h : ∀ s' acc H' as, Inv X pins σ H' s' → Laid H0 (vx.zip vy) as H' → Vals as acc → acc.length = min us.length ws.length → Q (.ref s'.heap.objs.size) { s' with heap := s'.heap.push { cls := .type "tuple", data := .seq acc.toArray } }) :
    wpAny (model X.prog X.w) A (call (.type "tuple") [.ref z]) Q E s := by
  refine callType_codes (Q₁ := fun obj s₁ => s₁.TypeIs obj "tuple" ∧ Q obj s₁) F.called_tuple (F.typeCall_tuple_1 _) F.entry_object_init
    (tz_new (A := A.in1) hA sep n1 n2 hlt rx ry hsz hz0 hst I hf fun s' acc H' as I' la rv hl => ⟨⟨_, Heap.get?_push_size _ rfl, rfl⟩, h s' acc H' as I' la rv hl⟩) fun obj s₁ h₁ => ?_
  exact ⟨h₁.1, F.args_object_init_2 obj _, object_init_meets F.called_tuple.init.lookup F.called_tuple.made (by decide) X.prog X.w A.in1 _ s₁ ⟨h₁.1, rfl, h₁.2⟩⟩
end
/-- tuple(zip(x, y)), by values -/
def rTzip (K : PySem.W.Frag) : List V → Hp → VK → Prop := fun vs H Q => ∃ (c1 c2 : Src) (xs ys : List V), vs = [.ref c1.1, .ref c2.1] ∧ sqB K H c1 xs ∧ sqB K H c2 ys ∧ ∀ as H', Laid H (xs.zip ys) as H' → ∀ p ob, ob.dict = none → H' p = none → Q (.ref p) (upd H' p (tpl ob as))
theorem pe_tzip {X : Cx} {e e2 : Expr} {ta : TA} {p p2 pos pos2 : Pos} (hc : X.calm = true) (hg0 : Gl X "tuple") (hm0 : X.mg "tuple" = none) (hg : Gl X "zip") (hm : X.mg "zip" = none) (ha : PA X [e, e2] ta)
    (hs : starEach [e, e2] X.env = (false, eval e X.env) :: starEach [e2] X.env) (hpl : (backTo pos (starEach [e2] X.env)).any (·.1) = false) :
    PE X (.Call (.Name "tuple" p2) [.Call (.Name "zip" p) [e, e2] [] pos] [] pos2) (fun σ H Q => ta σ H fun vs H1 => rTzip X.K vs H1 Q) := by
  refine ⟨fun pins s σ H Q I h => ?_⟩
  refine Call_ (ld_blt I hg0 hm0 (show bootBuiltins "tuple" = some (.type "tuple") by decide +kernel) ?_)
  refine PyProof.Rows.callWith_type1 (PyProof.Rows.args_cons ?_ rfl) rfl rfl
  refine Call_ (ld_blt I hg hm PyProof.Rows.boot_zip (PyProof.Rows.callWith_type1 (thn (ha.run pos pins s σ H _ I h) fun us s1 ⟨vs, H1, I1, r1, q1⟩ => ?_) hs hpl))
  obtain ⟨c1, c2, xs, ys, ex, hq1, hq2, q⟩ := q1
  subst ex
  obtain rfl : us = [.ref c1.1, .ref c2.1] := by
    cases r1 with | cons r1 rr => cases rr with | cons r2 rr => cases rr; cases r1; cases r2; rfl
  obtain ⟨its1, rv1, p1, z1, lt1⟩ := seqOf I1 hq1
  obtain ⟨its2, rv2, p2, z2, lt2⟩ := seqOf I1 hq2
  refine zip_begins2 (beginsB c1 its1.toArray) (beginsB c2 its2.toArray) p1 p2 fun h' hz hTI hTO g1 g2 hsz hk => ?_
  refine PyProof.Rows.args_nil ?_
  have I2 : Inv X pins σ H1 { s1 with heap := h' } := I1.kept (t' := s1.toks) hk
  have S := zip_sep2 (N := s1.heap.objs.size) (fp1 := [c1.1]) (fp2 := [c2.1]) (fun b hb => by rw [List.mem_singleton.mp hb]; exact lt1) (fun b hb => by rw [List.mem_singleton.mp hb]; exact lt2)
  have hlen1 : its1.length ≤ sizeLine := by rw [← rv1.length]; exact z1
  refine tz_call (X := X) (pins := pins) (σ := σ) (H0 := H1) (us := its1) (ws := its2) (c1 := c1) (c2 := c2) (I.ok.hd hc) S (Nat.ne_of_lt lt1) (Nat.ne_of_lt (Nat.lt_of_lt_of_le lt2 (Nat.le_add_right _ _))) (fun b hb => ?_) rv1 rv2 hlen1 hz
    (fun S' hS' => ⟨hTI, ⟨iterB.new g1, p1.at fun o e => hk _ o e⟩, ⟨iterB.new g2, p2.at fun o e => hk _ o e⟩, .inl ⟨hz, _, _, hTO⟩⟩) I2 (fun b hb => ?_) fun s' acc H' as I' la rv hl => ?_
  · have gz := Heap.lt_size hz
    have gTI := Heap.lt_size hTI
    have gTO := Heap.lt_size hTO
    obtain ⟨o1, g1', _⟩ := (iterB.new g1).obj
    obtain ⟨o2, g2', _⟩ := (iterB.new g2).obj
    have gi1 := Heap.lt_size g1'
    have gi2 := Heap.lt_size g2'
    simp only [List.mem_cons, List.not_mem_nil, or_false] at hb
    show b < h'.objs.size
    rcases hb with rfl | rfl | rfl | rfl | rfl | rfl | rfl
    · exact gz
    · exact gTI
    · exact gTO
    · exact gi1
    · exact gi2
    · exact Nat.lt_of_lt_of_le lt1 (by rw [hsz]; exact Nat.le_add_right _ _)
    · exact Nat.lt_of_lt_of_le lt2 (by rw [hsz]; exact Nat.le_add_right _ _)
  · have hN : s1.heap.objs.size ≤ b := by
      simp only [List.mem_cons, List.not_mem_nil, or_false] at hb
      rcases hb with rfl | rfl | rfl | rfl
      · exact Nat.le_add_right _ _
      · exact Nat.le_add_right _ _
      · exact Nat.le_refl _
      · exact Nat.le_add_right _ _
    exact I1.fpOk hN (I1.hok.fresh hN)
  · obtain ⟨ob, hd, I3⟩ := laidT (t' := s'.toks) I' rv (by rw [rv.length, hl]; omega)
    exact ⟨.ref s'.heap.objs.size, _, I3, rfl, q _ _ la _ ob hd (I'.hok.fresh (Nat.le_refl _))⟩
end Mx

set_option Elab.async false
set_option linter.all false
set_option maxRecDepth 100000
set_option maxHeartbeats 4000000
/-! MxS: len(set(x)), x a list or a tuple of texts. -/
namespace Mx
open PySem PySem.Spec PyProof.Rows L2
def dedup : List Str → List Str → List Str
  | acc, [] => acc
  | acc, x :: r => if acc.any (· == x) then dedup acc r else dedup (acc ++ [x]) r
def stepS (acc : List Str) (x : Str) : List Str := if acc.any (· == x) then acc else acc ++ [x]
theorem dedup_step : ∀ (l acc : List Str) (x : Str), dedup acc (l ++ [x]) = stepS (dedup acc l) x
  | [], acc, x => by
    show (if acc.any (· == x) then dedup acc [] else dedup (acc ++ [x]) []) = _
    unfold stepS dedup
    rfl
  | y :: l, acc, x => by
    show (if acc.any (· == y) then dedup acc (l ++ [x]) else dedup (acc ++ [y]) (l ++ [x])) = stepS (if acc.any (· == y) then dedup acc l else dedup (acc ++ [y]) l) x
    split
    · exact dedup_step l acc x
    · exact dedup_step l (acc ++ [y]) x
theorem dedup_len : ∀ (l acc : List Str), (dedup acc l).length ≤ acc.length + l.length
  | [], acc => by show acc.length ≤ _; omega
  | y :: l, acc => by
    show (if acc.any (· == y) then dedup acc l else dedup (acc ++ [y]) l).length ≤ _
    have h1 := dedup_len l acc
    have h2 := dedup_len l (acc ++ [y])
    rw [List.length_append, List.length_singleton] at h2
    split
    · rw [List.length_cons]; omega
    · rw [List.length_cons]; omega
theorem stepS_any (acc : List Str) (v k : Str) : (stepS acc v).any (· == k) = (acc.any (· == k) || decide (k = v)) := by
  unfold stepS
  by_cases h : acc.any (· == v) = true
  · rw [if_pos h]
    by_cases e : k = v
    · subst e; rw [h]; simp
    · simp [e]
  · rw [if_neg h, List.any_append]
    by_cases e : k = v
    · subst e; simp
    · have hb : (v == k) = false := by simpa [beq_iff_eq] using (fun h' : v = k => e h'.symm)
      simp [hb, e]
theorem stepS_len (acc : List Str) (v : Str) : (stepS acc v).length = if acc.any (· == v) then acc.length else acc.length + 1 := by
  unfold stepS; split <;> simp
theorem take_more {α : Type} : ∀ {l : List α} {i : Nat} {x : α}, l[i]? = some x → l.take (i + 1) = l.take i ++ [x]
  | [], i, x, h => by simp at h
  | a :: l, 0, x, h => by cases h; rfl
  | a :: l, i + 1, x, h => by
    show a :: l.take (i + 1) = a :: l.take i ++ [x]
    rw [take_more (l := l) (i := i) (x := x) h]
    rfl
section
variable {prog : Program} {w : World} {A : Around} {R : Result → Shared → Prop} {I : Addr} {fp wr : List Addr} {G : Array GenState → Array GenState → Prop} {n : Nat} {P : Nat → Value → Prop} {St : Nat → Shared → Prop}
theorem loopTexts (W : WalksS prog w A.in1 I fp wr G n P St) (S : Addr) (hSf : S ∉ fp) (xs : List Str) (hsz : xs.length = n) (hb : n + 1 < scanBound)
    (hval : ∀ i v, P i v → ∃ t, v = .str (xs.getD i Str.empty) t) :
    ∀ (k i : Nat) (s : Shared), n - i = k → i ≤ n → St i s →
      s.heap.SetOf (PySem.strKind prog w) S (fun k' => (dedup [] (xs.take i)).any (· == k')) (dedup [] (xs.take i)).length →
      (∀ s', Moved (S :: wr) G s s' → s'.heap.SetOf (PySem.strKind prog w) S (fun k' => (dedup [] xs).any (· == k')) (dedup [] xs).length → R (.ok (.ret .none)) s') →
      codeAny (model prog w) A (.builtin "set.update.loop" ⟨[.ref S, .ref I], []⟩) R s := by
  have hSw : S ∉ wr := fun h => hSf (W.sub _ h)
  have hsub : ∀ b ∈ wr, b ∈ S :: wr := fun b hb => List.mem_cons_of_mem _ hb
  intro k
  induction k with
  | zero =>
    intro i s hk hi hst hS hR
    have hin : i = n := by omega
    subst hin
    refine codeAny_builtin PyProof.Rows.F.entry_set_update_loop ?_
    rw [Around.under_plainId PyProof.Rows.F.plain_set_update_loop _]
    show wpAny _ A.in1 (pyNext (.ref I) >>= _) _ _ s
    refine wpAny_bind (W.done s _ _ hst fun s' hm => ?_)
    show wpAny _ A.in1 (ret Value.none) _ _ s'
    rw [List.take_of_length_le (by omega)] at hS
    exact wpAny_pure (hR s' (hm.mono hsub) (by
      obtain ⟨o, es, ep, t, ho, rest⟩ := hS
      exact ⟨o, es, ep, t, hm.heap S _ hSw ho, rest⟩))
  | succ k ih =>
    intro i s hk hi hst hS hR
    have hlt : i < n := by omega
    have hix : i < xs.length := by omega
    refine codeAny_builtin PyProof.Rows.F.entry_set_update_loop ?_
    rw [Around.under_plainId PyProof.Rows.F.plain_set_update_loop _]
    show wpAny _ A.in1 (pyNext (.ref I) >>= _) _ _ s
    refine wpAny_bind (W.item i s _ _ hlt hst fun v s' hP hst' hm => ?_)
    obtain ⟨t, rfl⟩ := hval i v hP
    have hS' : s'.heap.SetOf (PySem.strKind prog w) S (fun k' => (dedup [] (xs.take i)).any (· == k')) (dedup [] (xs.take i)).length := by
      obtain ⟨o, es, ep, tb, ho, rest⟩ := hS
      exact ⟨o, es, ep, tb, hm.heap S _ hSw ho, rest⟩
    show wpAny _ A.in1 (holding [Value.str (xs.getD i Str.empty) t] (setAdd S (.str (xs.getD i Str.empty) t)) >>= _) _ _ s'
    refine wpAny_bind (wpAny_holding ?_)
    unfold setAdd
    refine wpAny_holding ?_
    refine wpAny_bind ((PySem.strKind prog w).pyHash (k := xs.getD i Str.empty) (strKind_is _ _ _ _) ?_)
    have hroom : (dedup [] (xs.take i)).length + 1 < scanBound := by
      have := dedup_len (xs.take i) []
      rw [List.length_take, List.length_nil] at this
      omega
    refine wpAny_setAddHashed_of (knd := PySem.strKind prog w) (s := { s' with toks := s'.toks + 1 }) (strKind_is _ _ _ _) rfl hS' hroom fun h' hsb hS2 => ?_
    have ex : xs.take (i + 1) = xs.take i ++ [xs.getD i Str.empty] := take_more (by rw [List.getD_eq_getElem?_getD, List.getElem?_eq_getElem hix]; rfl)
    have hSi : h'.SetOf (PySem.strKind prog w) S (fun k' => (dedup [] (xs.take (i + 1))).any (· == k')) (dedup [] (xs.take (i + 1))).length :=
      SetOf_congr hS2 (fun k' => by rw [ex, dedup_step, stepS_any]) (by rw [ex, dedup_step, stepS_len])
    refine wpAny_pure ⟨plainId_quiet PyProof.Rows.F.plain_set_update_loop _, ih (i + 1) _ (by omega) hlt (W.frame _ s' _ _ hst' (Nat.le_succ _) fun b hb o e => ?_) hSi fun s'' hm'' hS'' => ?_⟩
    · rw [hsb.2 b (fun h : b = S => hSf (by rw [← h]; exact hb))]; exact e
    · refine hR s'' (Moved.trans W.gtrans ((hm.mono hsub).then_heap (Nat.le_succ _) fun b o hb e => ?_) hm'') hS''
      rw [hsb.2 b (fun h : b = S => hb (by rw [h]; exact List.mem_cons_self))]; exact e
end
section
variable {prog : Program} {w : World} {A : Around} {E : Value → Shared → Prop} {s : Shared}
theorem set_of_list {l : Addr} {items : Array Value} {xs : List Str} {Q : Value → Shared → Prop}
    (hh : A.handled = none) (hl : s.heap.IsList l items) (hi : PyProof.Rows.StrsAre items.toList xs) (hn1 : xs.length ≤ 1000)
    (h : ∀ (h' : Heap) (tk : Nat), h'.SetOf (PySem.strKind prog w) s.heap.objs.size (fun k' => (dedup [] xs).any (· == k')) (dedup [] xs).length →
      (∀ b o, b < s.heap.objs.size → s.heap.get? b = some o → h'.get? b = some o) → Q (.ref s.heap.objs.size) { s with heap := h', toks := tk }) :
    wpAny (model prog w) A (call (.type "set") [.ref l]) Q E s := by
  obtain ⟨c, tl, hmro⟩ := PySem.F.called_set.mro
  have hmade := PySem.F.called_set.made
  have hsub := PySem.F.called_set.sub
  refine wpAny_call (codeAny_of_tree ?_)
  show wpAny _ _ (callAny (.type "set") _) _ _ _
  refine wpAny_pure ⟨Code.quiet_builtin _ (by decide +kernel), codeAny_builtin PySem.F.entry_type_call ?_⟩
  rw [Around.under_plain (weight_type_call_type "set" [.ref l] []) rfl]
  have h1 := PySem.F.called_set.notType
  have h2 := PySem.F.called_set.canCreate
  have hct := PySem.F.typeCall_set_1 (.ref l)
  repeat (any_goals (first | assumption | wp_step))
  refine codeAny_mono (code_set_new_1 (.ref l) (E := E) (Q₁ := fun obj s₁ => ∃ led : Bool, obj = .ref s.heap.objs.size ∧ s₁ = { s with heap := s.heap.push { cls := .type "set", dict := none, data := .set #[] 0 (.fresh 0 0 led) } }) fun led => ⟨led, rfl, rfl⟩) fun r s₁ hr => ?_
  cases r with
  | error e => exact hr
  | ok fl =>
    cases fl with
    | ret obj =>
      obtain ⟨led, rfl, rfl⟩ := hr
      have hS : (s.heap.push { cls := .type "set", dict := none, data := .set #[] 0 (.fresh 0 0 led) }).get? s.heap.objs.size = some { cls := .type "set", dict := none, data := .set #[] 0 (.fresh 0 0 led) } := Heap.get?_push_size _ rfl
      have hT : Shared.TypeIs { s with heap := s.heap.push { cls := .type "set", dict := none, data := .set #[] 0 (.fresh 0 0 led) } } (.ref s.heap.objs.size) "set" := ⟨_, hS, rfl⟩
      have hli := PySem.F.called_set.init.lookup
      have hbi := PySem.F.called_set.init.bind (.ref s.heap.objs.size)
      repeat (any_goals (first | assumption | wp_step))
      refine codeAny_mono (codeAny_call_builtin (R := wants (fun r s₂ => r = .none ∧ ∃ h' tk, s₂ = { s with heap := h', toks := tk } ∧
          h'.SetOf (PySem.strKind prog w) s.heap.objs.size (fun k' => (dedup [] xs).any (· == k')) (dedup [] xs).length ∧
          (∀ b o, b < s.heap.objs.size → s.heap.get? b = some o → h'.get? b = some o)) E) PySem.F.called_set.init.plain PySem.F.entry_set_init (check_set_init_1 hT ?_)) fun r₂ s₂ hr₂ => ?_
      · obtain ⟨ol, hol, hcl, nl, hdl⟩ := hl
        obtain ⟨ocls, odict, odata, oslots⟩ := ol
        simp only at hcl hdl
        subst hcl; subst hdl
        have hol' : (s.heap.push { cls := .type "set", dict := none, data := .set #[] 0 (.fresh 0 0 led) }).get? l = some { cls := .type "list", dict := odict, data := .seq items nl, slots := oslots } := Heap.get?_push_of_some _ hol
        have hsls := PySem.F.sub_list_set
        have hslf := PySem.F.sub_list_frozenset
        have hne : (Value.type "list" == Value.type "dict") = false := by decide
        have hl1 : (s.heap.push { cls := .type "set", dict := none, data := .set #[] 0 (.fresh 0 0 led) }).IsList l items := ⟨_, hol', rfl, nl, rfl⟩
        unfold Builtin.«set.__init__» noKeywords Builtin.Frozenset.updateFrom
        generalize hPI : pyIter = PI
        wp_walk
        subst hPI
        refine wpAny_pyIter_list hl1 ?_
        refine wpAny_bind (wpAny_runValue ?_)
        have hlS : l < s.heap.objs.size := Heap.lt_size hol
        have hh3 : A.in1.in1.in1.handled = none := by simp [hh]
        have hneI : l ≠ (s.heap.push { cls := .type "set", dict := none, data := .set #[] 0 (.fresh 0 0 led) }).objs.size := by
          rw [Heap.size_push]; exact Nat.ne_of_lt (Nat.lt_succ_of_lt hlS)
        have hSf : s.heap.objs.size ∉ [(s.heap.push { cls := .type "set", dict := none, data := .set #[] 0 (.fresh 0 0 led) }).objs.size, l] := by
          rw [Heap.size_push]; simp only [List.mem_cons, List.mem_singleton, List.not_mem_nil, or_false, not_or]
          exact ⟨Nat.ne_of_lt (Nat.lt_succ_self _), Nat.ne_of_gt hlS⟩
        have hsz : xs.length = items.size := by rw [← StrsAre.len_eq hi, Array.length_toList]
        have hval : ∀ (i : Nat) (v : Value), items[i]? = some v → ∃ t, v = .str (xs.getD i Str.empty) t := fun i v hv => SS.strs_at hi i v (by rw [Array.getElem?_toList]; exact hv)
        refine loopTexts ((Walks.list hh3 _ l hneI items).toS) s.heap.objs.size
          hSf xs hsz (by unfold scanBound; omega) hval (items.size - 0) 0 _ (by omega) (Nat.zero_le _)
          ⟨⟨_, Heap.get?_push_size _ rfl, rfl, rfl⟩, (hl1.push _)⟩ ?hS0 ?hR
        case hS0 =>
          have hget : ((s.heap.push { cls := .type "set", dict := none, data := .set #[] 0 (.fresh 0 0 led) }).push { cls := .type "list_iterator", data := .fields #[.ref l, .int 0 0] }).get? s.heap.objs.size
              = some { cls := .type "set", dict := none, data := .set #[] 0 (.fresh 0 0 led) } := Heap.get?_push_of_some _ hS
          exact PyProof.Rows.SetOf_congr ((PyProof.Rows.setObjOf_fresh (knd := PySem.strKind prog w) led).setOf hget (by unfold scanBound; omega)) (fun _ => rfl) rfl
        case hR =>
          intro s' hm hS'
          obtain ⟨h', g', d', tk', os'⟩ := s'
          have eg : g' = s.gens := hm.gens
          have ed : d' = s.drawn := hm.drawn
          have eo : os' = s.os := hm.os
          subst eg; subst ed; subst eo
          show wpAny _ _ _ _ _ _
          refine wpAny_pure ?_
          show wpAny _ _ (ret Value.none) _ _ _
          refine wpAny_pure ⟨rfl, h', tk', rfl, hS', fun b o hb e => ?_⟩
          have hb1 : b ≠ s.heap.objs.size := Nat.ne_of_lt hb
          have hb2 : b ≠ (s.heap.push { cls := .type "set", dict := none, data := .set #[] 0 (.fresh 0 0 led) }).objs.size := by
            rw [Heap.size_push]; exact Nat.ne_of_lt (Nat.lt_succ_of_lt hb)
          exact hm.heap b o (by simp only [List.mem_cons, List.mem_singleton, List.not_mem_nil, or_false, not_or]; exact ⟨hb1, hb2⟩) (Heap.get?_push_of_some _ (Heap.get?_push_of_some _ e))
      · cases r₂ with
        | error e => exact hr₂
        | ok fl₂ =>
          cases fl₂ with
          | ret r =>
            obtain ⟨rfl, h', tk, rfl, hS', hk'⟩ := hr₂
            repeat (any_goals (first | assumption | wp_step))
            exact h _ _ hS' hk'
          | _ => exact hr₂.elim
    | _ => exact hr.elim
theorem set_of_tuple {l : Addr} {items : Array Value} {xs : List Str} {Q : Value → Shared → Prop}
    (hh : A.handled = none) (hl : s.heap.IsTuple l items) (hi : PyProof.Rows.StrsAre items.toList xs) (hn1 : xs.length ≤ 1000)
    (h : ∀ (h' : Heap) (tk : Nat), h'.SetOf (PySem.strKind prog w) s.heap.objs.size (fun k' => (dedup [] xs).any (· == k')) (dedup [] xs).length →
      (∀ b o, b < s.heap.objs.size → s.heap.get? b = some o → h'.get? b = some o) → Q (.ref s.heap.objs.size) { s with heap := h', toks := tk }) :
    wpAny (model prog w) A (call (.type "set") [.ref l]) Q E s := by
  obtain ⟨c, tl, hmro⟩ := PySem.F.called_set.mro
  have hmade := PySem.F.called_set.made
  have hsub := PySem.F.called_set.sub
  refine wpAny_call (codeAny_of_tree ?_)
  show wpAny _ _ (callAny (.type "set") _) _ _ _
  refine wpAny_pure ⟨Code.quiet_builtin _ (by decide +kernel), codeAny_builtin PySem.F.entry_type_call ?_⟩
  rw [Around.under_plain (weight_type_call_type "set" [.ref l] []) rfl]
  have h1 := PySem.F.called_set.notType
  have h2 := PySem.F.called_set.canCreate
  have hct := PySem.F.typeCall_set_1 (.ref l)
  repeat (any_goals (first | assumption | wp_step))
  refine codeAny_mono (code_set_new_1 (.ref l) (E := E) (Q₁ := fun obj s₁ => ∃ led : Bool, obj = .ref s.heap.objs.size ∧ s₁ = { s with heap := s.heap.push { cls := .type "set", dict := none, data := .set #[] 0 (.fresh 0 0 led) } }) fun led => ⟨led, rfl, rfl⟩) fun r s₁ hr => ?_
  cases r with
  | error e => exact hr
  | ok fl =>
    cases fl with
    | ret obj =>
      obtain ⟨led, rfl, rfl⟩ := hr
      have hS : (s.heap.push { cls := .type "set", dict := none, data := .set #[] 0 (.fresh 0 0 led) }).get? s.heap.objs.size = some { cls := .type "set", dict := none, data := .set #[] 0 (.fresh 0 0 led) } := Heap.get?_push_size _ rfl
      have hT : Shared.TypeIs { s with heap := s.heap.push { cls := .type "set", dict := none, data := .set #[] 0 (.fresh 0 0 led) } } (.ref s.heap.objs.size) "set" := ⟨_, hS, rfl⟩
      have hli := PySem.F.called_set.init.lookup
      have hbi := PySem.F.called_set.init.bind (.ref s.heap.objs.size)
      repeat (any_goals (first | assumption | wp_step))
      refine codeAny_mono (codeAny_call_builtin (R := wants (fun r s₂ => r = .none ∧ ∃ h' tk, s₂ = { s with heap := h', toks := tk } ∧
          h'.SetOf (PySem.strKind prog w) s.heap.objs.size (fun k' => (dedup [] xs).any (· == k')) (dedup [] xs).length ∧
          (∀ b o, b < s.heap.objs.size → s.heap.get? b = some o → h'.get? b = some o)) E) PySem.F.called_set.init.plain PySem.F.entry_set_init (check_set_init_1 hT ?_)) fun r₂ s₂ hr₂ => ?_
      · obtain ⟨ol, hol, hcl, nl, hdl⟩ := hl
        obtain ⟨ocls, odict, odata, oslots⟩ := ol
        simp only at hcl hdl
        subst hcl; subst hdl
        have hol' : (s.heap.push { cls := .type "set", dict := none, data := .set #[] 0 (.fresh 0 0 led) }).get? l = some { cls := .type "tuple", dict := odict, data := .seq items nl, slots := oslots } := Heap.get?_push_of_some _ hol
        have hsls := PySem.F.sub_tuple_set
        have hslf := PySem.F.sub_tuple_frozenset
        have hne : (Value.type "tuple" == Value.type "dict") = false := by decide
        have hl1 : (s.heap.push { cls := .type "set", dict := none, data := .set #[] 0 (.fresh 0 0 led) }).IsTuple l items := ⟨_, hol', rfl, nl, rfl⟩
        unfold Builtin.«set.__init__» noKeywords Builtin.Frozenset.updateFrom
        generalize hPI : pyIter = PI
        wp_walk
        subst hPI
        refine wpAny_pyIter_tuple hl1 ?_
        refine wpAny_bind (wpAny_runValue ?_)
        have hlS : l < s.heap.objs.size := Heap.lt_size hol
        have hh3 : A.in1.in1.in1.handled = none := by simp [hh]
        have hneI : l ≠ (s.heap.push { cls := .type "set", dict := none, data := .set #[] 0 (.fresh 0 0 led) }).objs.size := by
          rw [Heap.size_push]; exact Nat.ne_of_lt (Nat.lt_succ_of_lt hlS)
        have hSf : s.heap.objs.size ∉ [(s.heap.push { cls := .type "set", dict := none, data := .set #[] 0 (.fresh 0 0 led) }).objs.size, l] := by
          rw [Heap.size_push]; simp only [List.mem_cons, List.mem_singleton, List.not_mem_nil, or_false, not_or]
          exact ⟨Nat.ne_of_lt (Nat.lt_succ_self _), Nat.ne_of_gt hlS⟩
        have hsz : xs.length = items.size := by rw [← StrsAre.len_eq hi, Array.length_toList]
        have hval : ∀ (i : Nat) (v : Value), items[i]? = some v → ∃ t, v = .str (xs.getD i Str.empty) t := fun i v hv => SS.strs_at hi i v (by rw [Array.getElem?_toList]; exact hv)
        refine loopTexts ((Walks.tuple hh3 _ l hneI items).toS) s.heap.objs.size
          hSf xs hsz (by unfold scanBound; omega) hval (items.size - 0) 0 _ (by omega) (Nat.zero_le _)
          ⟨⟨_, Heap.get?_push_size _ rfl, rfl, rfl⟩, (hl1.push _)⟩ ?hS0 ?hR
        case hS0 =>
          have hget : ((s.heap.push { cls := .type "set", dict := none, data := .set #[] 0 (.fresh 0 0 led) }).push { cls := .type "tuple_iterator", data := .fields #[.ref l, .int 0 0] }).get? s.heap.objs.size
              = some { cls := .type "set", dict := none, data := .set #[] 0 (.fresh 0 0 led) } := Heap.get?_push_of_some _ hS
          exact PyProof.Rows.SetOf_congr ((PyProof.Rows.setObjOf_fresh (knd := PySem.strKind prog w) led).setOf hget (by unfold scanBound; omega)) (fun _ => rfl) rfl
        case hR =>
          intro s' hm hS'
          obtain ⟨h', g', d', tk', os'⟩ := s'
          have eg : g' = s.gens := hm.gens
          have ed : d' = s.drawn := hm.drawn
          have eo : os' = s.os := hm.os
          subst eg; subst ed; subst eo
          show wpAny _ _ _ _ _ _
          refine wpAny_pure ?_
          show wpAny _ _ (ret Value.none) _ _ _
          refine wpAny_pure ⟨rfl, h', tk', rfl, hS', fun b o hb e => ?_⟩
          have hb1 : b ≠ s.heap.objs.size := Nat.ne_of_lt hb
          have hb2 : b ≠ (s.heap.push { cls := .type "set", dict := none, data := .set #[] 0 (.fresh 0 0 led) }).objs.size := by
            rw [Heap.size_push]; exact Nat.ne_of_lt (Nat.lt_succ_of_lt hb)
          exact hm.heap b o (by simp only [List.mem_cons, List.mem_singleton, List.not_mem_nil, or_false, not_or]; exact ⟨hb1, hb2⟩) (Heap.get?_push_of_some _ (Heap.get?_push_of_some _ e))
      · cases r₂ with
        | error e => exact hr₂
        | ok fl₂ =>
          cases fl₂ with
          | ret r =>
            obtain ⟨rfl, h', tk, rfl, hS', hk'⟩ := hr₂
            repeat (any_goals (first | assumption | wp_step))
            exact h _ _ hS' hk'
          | _ => exact hr₂.elim
    | _ => exact hr.elim
end
def tLenSetU (K : PySem.W.Frag) (ta : TE) : TE := fun σ H Q => ta σ H fun x H1 => ∃ l, ∃ xs : List Str, x = .ref l ∧ (SqL K H1 l (xs.map V.str) ∨ SqT K H1 l (xs.map V.str)) ∧ xs.length ≤ 1000 ∧ Q (.int ((dedup [] xs).length : Nat)) H1
theorem pe_lenSetU {X : Cx} {a : Expr} {ta : TE} {p p2 q pos : Pos} (hc : X.calm = true) (hg : Gl X "len") (hm : X.mg "len" = none) (hg2 : Gl X "set") (hm2 : X.mg "set" = none) (ha : PE X a ta)
    (na : starEach [a] X.env = (false, eval a X.env) :: starEach [] X.env) : PE X (.Call (.Name "len" p) [.Call (.Name "set" p2) [a] [] q] [] pos) (tLenSetU X.K ta) := by
  refine ⟨fun pins s σ H Q I h => ?_⟩
  refine Call_ (ld_blt I hg hm boot_len ?_)
  refine PyProof.Rows.callWith_builtin1 (PyProof.Rows.args_cons ?_ rfl) rfl rfl
  refine Call_ (ld_blt I hg2 hm2 boot_set ?_)
  refine PyProof.Rows.callWith_type1 (PyProof.Rows.args_cons (thn (ha.run pins s σ H _ I h) fun v s1 ⟨x, H1, I1, r1, q1⟩ => PyProof.Rows.args_nil ?_) na) na rfl
  obtain ⟨l, xs, rfl, hq, h1, q1⟩ := q1
  cases r1
  have fin : ∀ (h' : Heap) (tk : Nat), h'.SetOf (PySem.strKind X.prog X.w) s1.heap.objs.size (fun k' => (dedup [] xs).any (· == k')) (dedup [] xs).length →
      (∀ b o, b < s1.heap.objs.size → s1.heap.get? b = some o → h'.get? b = some o) →
      wpAny (model X.prog X.w) X.A (spliced (backTo pos (starEach [] X.env))) (fun vs s₂ => wpAny (model X.prog X.w) X.A (call (.builtin "len") (Value.ref s1.heap.objs.size :: vs)) (EP X pins σ Q) X.xe s₂) X.xe { s1 with heap := h', toks := tk } := fun h' tk hS hk => by
    refine PyProof.Rows.args_nil ?_
    obtain ⟨o, es, ep, t, ho, hex, hd, _, _, _, hf, hn⟩ := hS
    have I2 : Inv X pins σ H1 { s1 with heap := h', toks := tk } := I1.kept fun b o e => hk b o (Heap.lt_size e) e
    have hl := dedup_len xs []
    rw [List.length_nil] at hl
    refine call_len_set ho hex hd hf (by rw [hn] <;> omega) ⟨.int ((dedup [] xs).length : Nat), H1, I2.tok _, ⟨_, by rw [hn]⟩, q1⟩
  rcases hq with hq | hq
  · obtain ⟨its, r, pl, hz⟩ := I1.list hq
    exact set_of_list (I1.ok.hd hc) pl.isList (by simpa using strsAre_of r) h1 fin
  · obtain ⟨its, r, pl, hz⟩ := I1.tuple hq
    exact set_of_tuple (I1.ok.hd hc) pl (by simpa using strsAre_of r) h1 fin
end Mx

set_option Elab.async false
set_option linter.all false
set_option maxRecDepth 100000
set_option maxHeartbeats 4000000
/-! My0: a small language of resolved programs, and what its programs compute. -/
namespace Mx
open PySem PySem.Spec PyProof.Rows L2

/-! ### the language -/
mutual
/-- a target: a slot, or several targets -/
inductive Tg where
  | n (i : Nat)
  | t (ts : Tgs)
inductive Tgs where
  | nil
  | cons (g : Tg) (r : Tgs)
end
/-- built-in functions and classes that are called by name -/
inductive Bif where
  | len | all | any | sum | max | min | int | tuple | list | dict | sorted
  deriving DecidableEq
/-- methods -/
inductive Mth where
  | append | extend | popi | pop0 | get2 | count | index | insert | split
  deriving DecidableEq
/-- what is walked: a value, range, enumerate, zip, a dict by its keys -/
inductive ItK where
  | pl | r1 | r2 | en | z2 | z3 | ky
  deriving DecidableEq
mutual
inductive Ex where
  | v (i : Nat)
  | k (d : PyData)
  | bin (op : Operator) (m : Bool) (a b : Ex)
  | cmp (op : CmpOp) (a b : Ex)
  | chn (p q : CmpOp) (a b c : Ex)
  | and (a b : Ex)
  | or (a b : Ex)
  | not (a : Ex)
  | neg (a : Ex)
  | ite (t a b : Ex)
  | lst (m : Bool) (es : Exs)
  | tup (es : Exs)
  | dnew
  | sub (a b : Ex)
  | slc (m : Bool) (a : Ex) (lo hi : Exs)
  | rev (m : Bool) (a : Ex)
  | bif (b : Bif) (m : Bool) (es : Exs)
  | lset (a : Ex)
  | dzip (a b : Ex)
  | tzip (a b : Ex)
  | isi (a : Ex) (t : String)
  | call (f : Nat) (es : Exs) (ds : List PyData)
  | mth (b : Mth) (m : Bool) (a : Ex) (es : Exs)
  | lck (i : Nat) (e : Ex)
  | lc (m : Bool) (g : Tg) (ik : ItK) (is : Exs) (t : Exs) (vs : List Nat) (e : Ex)
  | lc2 (m : Bool) (g : Tg) (ik : ItK) (is : Exs) (t : Exs) (g1 : Tg) (ik1 : ItK) (is1 : Exs) (t1 : Exs) (vs vs1 : List Nat) (e : Ex)
inductive Exs where
  | nil
  | cons (e : Ex) (r : Exs)
end
mutual
inductive Sm where
  | ex (e : Ex)
  | asg (g : Tg) (e : Ex)
  | par (is : List Nat) (es : Exs)
  | put (a i e : Ex)
  | put2 (a i a2 i2 e e2 : Ex)
  | ite (t : Ex) (a b : Sms)
  | loop (g : Tg) (ik : ItK) (is : Exs) (b : Sms)
  | whl (n : Nat) (t : Ex) (b : Sms)
  | ret (e : Ex)
  | retn
  | rai (c : Str)
  | pass
inductive Sms where
  | nil
  | cons (s : Sm) (r : Sms)
end
/-- a def: its parameters, its slots, whether its result is frozen and the memory cut back, its body -/
structure Fn where
  np : Nat
  ns : Nat
  cl : Bool
  body : Sms

/-! ### targets -/
inductive Itm where
  | one (u : U)
  | row (us : List U)
mutual
def Tg.asg (M : Mem) : Tg → U → DEnv → Option DEnv
  | .n i, u, ρ => some (ρ.set i (some u))
  | .t ts, u, ρ => match seqU M u with
    | some (_, us) => Tgs.asg M ts us ρ
    | none => none
def Tgs.asg (M : Mem) : Tgs → List U → DEnv → Option DEnv
  | .nil, [], ρ => some ρ
  | .nil, _ :: _, _ => none
  | .cons _ _, [], _ => none
  | .cons g r, u :: us, ρ => match Tg.asg M g u ρ with
    | some ρ1 => Tgs.asg M r us ρ1
    | none => none
end
def Tg.asgI (g : Tg) (M : Mem) : Itm → DEnv → Option DEnv
  | .one u, ρ => g.asg M u ρ
  | .row us, ρ => match g with
    | .t ts => ts.asg M us ρ
    | .n _ => none
mutual
def Tg.slots : Tg → List Nat
  | .n i => [i]
  | .t ts => Tgs.slots ts
def Tgs.slots : Tgs → List Nat
  | .nil => []
  | .cons g r => Tg.slots g ++ Tgs.slots r
end

/-! ### operations -/
def mkLz (m : Bool) (us : List U) (M : Mem) : Option (U × Mem) := if us.length ≤ LIM then some (mkL m us M) else none
/-- a[::-1] -/
def revU (m : Bool) (u : U) (M : Mem) : Option (U × Mem) :=
  match seqU M u with
  | some (true, us) => some (mkL m us.reverse M)
  | _ => none
/-- texts -/
def texts' : List U → Option (List Str)
  | [] => some []
  | .d (.str x) :: r => (texts' r).map (x :: ·)
  | _ :: _ => none
/-- len(set(x)) of texts -/
def lsetU (u : U) (M : Mem) : Option (U × Mem) :=
  match seqU M u with
  | some (_, us) => match texts' us with
    | some xs => if xs.length ≤ 1000 then some (.d (.int (dedup [] xs).length), M) else none
    | none => none
  | none => none
/-- dict(zip(a, b)) -/
def keys' : List U → Option (List Key)
  | [] => some []
  | u :: r => match keyU u with
    | some k => (keys' r).map (k :: ·)
    | none => none
def dzipU (a b : U) (M : Mem) : Option (U × Mem) :=
  match seqU M a, seqU M b with
  | some (_, us), some (_, ws) => match keys' us with
    | some ks => some (.o M.length, M ++ [.dct (mergeA [] (ks.zip ws))])
    | none => none
  | _, _ => none
/-- tuple(zip(a, b)) -/
def zipD : List PyData → List PyData → List PyData
  | a :: r, b :: t => .tuple [a, b] :: zipD r t
  | _, _ => []
def tzipU (a b : U) (M : Mem) : Option (U × Mem) :=
  match seqU M a, seqU M b with
  | some (_, us), some (_, ws) => match allD us, allD ws with
    | some xs, some ys => some (.d (.tuple (zipD xs ys)), M)
    | _, _ => none
  | _, _ => none
/-- dict(x): of a dict, of a list of pairs -/
def pairsU : List U → Option (List (Key × U))
  | [] => some []
  | .d (.tuple [k, x]) :: r => match keyD k with
    | some k => (pairsU r).map ((k, .d x) :: ·)
    | none => none
  | _ :: _ => none
def dictU : Opn := fun us M =>
  match us with
  | [u] => match dctU M u with
    | some kvs => some (.o M.length, M ++ [.dct kvs])
    | none => match seqU M u with
      | some (true, ws) => match pairsU ws with
        | some kvs => some (.o M.length, M ++ [.dct (mergeA [] kvs)])
        | none => none
      | _ => none
  | _ => none
/-- sorted(x): data that are alike, no two of them equal -/
def insD (x : PyData) : List PyData → List PyData
  | [] => [x]
  | y :: r => if PySem.W.dataLt x y then x :: y :: r else y :: insD x r
def sortD : List PyData → List PyData
  | [] => []
  | x :: r => insD x (sortD r)
def strictD : List PyData → Bool
  | [] => true
  | x :: r => (r.all fun y => PySem.W.dataLt x y) && strictD r
def alikeD (ds : List PyData) : Bool := ds.all fun x => ds.all fun y => PySem.W.alike x y
def isTup1 : PyData → Bool
  | .tuple (_ :: _) => true
  | _ => false
def noTup : PyData → Bool
  | .none => false
  | .tuple _ => false
  | _ => true
def sortedU (m : Bool) : Opn := fun us M =>
  match us with
  | [u] => match seqU M u with
    | some (true, ws) => match allD ws with
      | some ds => if alikeD ds && (ds.all isTup1 || ds.all noTup) && strictD (sortD ds) && ds.all (fun d => decide (d.depth ≤ 60)) && decide (ds.length ≤ LIM) then some (mkL m ((sortD ds).map U.d) M) else none
      | none => none
    | _ => none
  | _ => none
def Bif.fn (m : Bool) : Bif → Opn
  | .len => lenU
  | .all => allU
  | .any => anyU
  | .sum => sumU
  | .max => maxU
  | .min => minU
  | .int => toIntU
  | .tuple => tupleU
  | .list => listU m
  | .dict => dictU
  | .sorted => sortedU m
/-! ### methods -/
def appendU (a : U) (us : List U) (M : Mem) : Option (U × Mem) :=
  match a, us with
  | .o n, [u] => match M[n]? with
    | some (.lst ws) => if ws.length < LIM then some (.d .none, M.set n (.lst (ws ++ [u]))) else none
    | _ => none
  | _, _ => none
def extendU (a : U) (us : List U) (M : Mem) : Option (U × Mem) :=
  match a, us with
  | .o n, [u] => match M[n]?, seqU M u with
    | some (.lst ws), some (true, zs) => if ws.length + zs.length ≤ LIM then some (.d .none, M.set n (.lst (ws ++ zs))) else none
    | _, _ => none
  | _, _ => none
def popiU (a : U) (us : List U) (M : Mem) : Option (U × Mem) :=
  match a, us with
  | .o n, [.d (.int i)] => match M[n]? with
    | some (.lst ws) => if small64 (2 * i) then match seqIndex? i ws.length with
        | some k => match ws[k]? with
          | some y => some (y, M.set n (.lst (ws.eraseIdx k)))
          | none => none
        | none => none
      else none
    | _ => none
  | _, _ => none
def pop0U (a : U) (us : List U) (M : Mem) : Option (U × Mem) :=
  match a, us with
  | .o n, [] => match M[n]? with
    | some (.lst ws) => match ws[ws.length - 1]? with
      | some y => some (y, M.set n (.lst ws.dropLast))
      | none => none
    | _ => none
  | _, _ => none
def get2U (a : U) (us : List U) (M : Mem) : Option (U × Mem) :=
  match us with
  | [y, z] => match dctU M a, keyU y with
    | some kvs, some k => some ((lookA kvs k).getD z, M)
    | _, _ => none
  | _ => none
/-- count, index by equality of data -/
def countU (a : U) (us : List U) (M : Mem) : Option (U × Mem) :=
  match us with
  | [.d x] => match seqU M a with
    | some (_, ws) => match allD ws with
      | some ds => if flatD x && ds.all flatD then some (.d (.int ((ds.filter fun y => PyData.eqv y x).length : Nat)), M) else none
      | none => none
    | none => none
  | _ => none
def findD (x : PyData) : Nat → List PyData → Option Nat
  | _, [] => none
  | i, y :: r => if PyData.eqv y x then some i else findD x (i + 1) r
def indexU (a : U) (us : List U) (M : Mem) : Option (U × Mem) :=
  match us with
  | [.d x] => match seqU M a with
    | some (true, ws) => match allD ws with
      | some ds => if SeqAt.shaped x && SeqAt.shaped (.list ds) then match findD x 0 ds with
          | some j => some (.d (.int (j : Nat)), M)
          | none => none
        else none
      | none => none
    | _ => none
  | _ => none
def insertU (a : U) (us : List U) (M : Mem) : Option (U × Mem) :=
  match a, us with
  | .o n, [.d (.int i), u] => match M[n]? with
    | some (.lst ws) => if 0 ≤ i && small64 (2 * i) && ws.length < LIM then some (.d .none, M.set n (.lst (ws.take i.toNat ++ [u] ++ ws.drop i.toNat))) else none
    | _ => none
  | _, _ => none
def splitU (m : Bool) (a : U) (us : List U) (M : Mem) : Option (U × Mem) :=
  match a, us with
  | .d (.str x), [.d (.str y)] => if (y.length == 0) = false ∧ x.length + 2 ≤ LIM then some (mkL m ((Txt.split x y).map fun z => .d (.str z)) M) else none
  | _, _ => none
def Mth.fn (m : Bool) : Mth → U → List U → Mem → Option (U × Mem)
  | .append => appendU
  | .extend => extendU
  | .popi => popiU
  | .pop0 => pop0U
  | .get2 => get2U
  | .count => countU
  | .index => indexU
  | .insert => insertU
  | .split => splitU m
/-- the types of its receiver -/
def Mth.ty : Mth → String → Bool
  | .get2, t => t == "dict"
  | .split, t => t == "str"
  | .count, t => t == "list" || t == "tuple"
  | _, t => t == "list"
def Mth.fnT (b : Mth) (m : Bool) (t : String) (x : U) (us : List U) (M : Mem) : Option (U × Mem) := if tyU M x = some t then b.fn m x us M else none
/-! ### a[i] = u -/
def putU (a i u : U) (M : Mem) : Option Mem :=
  match a with
  | .o n => match M[n]? with
    | some (.lst ws) => match i with
      | .d (.int k) => match ixN ws.length k with
        | some j => some (M.set n (.lst (ws.set j u)))
        | none => none
      | _ => none
    | some (.dct kvs) => match keyU i with
      | some k => if kvs.length < LIM then some (M.set n (.dct (putA kvs k u))) else none
      | none => none
    | _ => none
  | _ => none

/-! ### what is walked -/
def strItems (x : Str) : List Itm := x.cps.toList.map fun c => .one (.d (.str ⟨#[c]⟩))
def rngItems (lo : Int) (n : Nat) : List Itm := (List.range n).map fun i => .one (.d (.int (lo + (i : Nat))))
/-- a plain value walked: a list or tuple, a text; a mutable list is frozen by it -/
def itemsU (u : U) (M : Mem) : Option (List Itm × Mem) :=
  match u with
  | .d (.list ds) => some (ds.map fun d => .one (.d d), M)
  | .d (.tuple ds) => some (ds.map fun d => .one (.d d), M)
  | .d (.str x) => some (strItems x, M)
  | .o n => match M[n]? with
    | some (.lst us) => match allD us with
      | some ds => some (us.map Itm.one, M.set n (.fz ds))
      | none => none
    | some (.fz ds) => some (ds.map fun d => .one (.d d), M)
    | _ => none
  | _ => none
def okR (i : Int) : Bool := decide (-1152921504606846976 ≤ i) && decide (i ≤ 1152921504606846976)
def rangeI1 : List U → Option (List Itm)
  | [.d (.int j)] => if okR j then some (rngItems 0 j.toNat) else none
  | _ => none
def rangeI2 : List U → Option (List Itm)
  | [.d (.int i), .d (.int j)] => if okR i && okR j then some (rngItems i (j - i).toNat) else none
  | _ => none
def enumL : Nat → List U → List Itm
  | _, [] => []
  | i, u :: r => .row [.d (.int (i : Nat)), u] :: enumL (i + 1) r
def zip2L : List U → List U → List Itm
  | a :: r, b :: t => .row [a, b] :: zip2L r t
  | _, _ => []
def zip3L : List U → List U → List U → List Itm
  | a :: r, b :: t, c :: v => .row [a, b, c] :: zip3L r t v
  | _, _, _ => []
def fzU (u : U) (M : Mem) : Option (List U × Mem) :=
  match u with
  | .d (.list ds) => some (ds.map U.d, M)
  | .d (.tuple ds) => some (ds.map U.d, M)
  | .o n => match M[n]? with
    | some (.lst us) => match allD us with
      | some ds => some (us, M.set n (.fz ds))
      | none => none
    | some (.fz ds) => some (ds.map U.d, M)
    | _ => none
  | _ => none
def enumI (us : List U) (M : Mem) : Option (List Itm × Mem) :=
  match us with
  | [u] => match fzU u M with
    | some (ws, M) => some (enumL 0 ws, M)
    | none => none
  | _ => none
def zip2I (us : List U) (M : Mem) : Option (List Itm × Mem) :=
  match us with
  | [u, w] => match fzU u M with
    | some (a, M) => match fzU w M with
      | some (b, M) => some (zip2L a b, M)
      | none => none
    | none => none
  | _ => none
def zip3I (us : List U) (M : Mem) : Option (List Itm × Mem) :=
  match us with
  | [u, w, z] => match fzU u M with
    | some (a, M) => match fzU w M with
      | some (b, M) => match fzU z M with
        | some (c, M) => some (zip3L a b c, M)
        | none => none
      | none => none
    | none => none
  | _ => none
/-- the keys of a locked dict -/
def keyIt : Key → Itm
  | .inl i => .one (.d (.int i))
  | .inr x => .one (.d (.str x))
def keysI (us : List U) (M : Mem) : Option (List Itm × Mem) :=
  match us with
  | [.o n] => match M[n]? with
    | some (.lck kvs) => some (kvs.map fun p => keyIt p.1, M)
    | _ => none
  | _ => none
/-- a dict locked while f runs -/
def lckR (i : Nat) (f : DEnv → Mem → R U) (ρ : DEnv) (M : Mem) : R U :=
  match ρ[i]? with
  | some (some (.o n)) => match M[n]? with
    | some (.dct kvs) => match f ρ (M.set n (.lck kvs)) with
      | .ok u M1 => match M1[n]? with
        | some (.lck kvs1) => .ok u (M1.set n (.dct kvs1))
        | _ => .bad
      | _ => .bad
    | _ => .bad
  | _ => .bad
def ofI : Option (List Itm) → Mem → R (List Itm)
  | some l, M => .ok l M
  | none, _ => .bad
def walkI (ik : ItK) (us : List U) (M : Mem) : R (List Itm) :=
  match ik with
  | .pl => match us with
    | [u] => ofO (itemsU u M)
    | _ => .bad
  | .r1 => ofI (rangeI1 us) M
  | .r2 => ofI (rangeI2 us) M
  | .en => ofO (enumI us M)
  | .z2 => ofO (zip2I us M)
  | .z3 => ofO (zip3I us M)
  | .ky => ofO (keysI us M)

/-! ### comprehensions -/
def wipeD (ρ : DEnv) : List Nat → DEnv
  | [] => ρ
  | v :: vs => (wipeD ρ vs).set v none
def compL (asg : Mem → Itm → DEnv → Option DEnv) (tst : DEnv → Mem → R Bool) (elt : DEnv → Mem → R U) (ρ : DEnv) : List Itm → Mem → List U → R (List U)
  | [], M, acc => .ok acc M
  | it :: r, M, acc => match asg M it ρ with
    | some ρ1 => match tst ρ1 M with
      | .ok true M1 => match elt ρ1 M1 with
        | .ok u M2 => if acc.length < LIM then compL asg tst elt ρ r M2 (acc ++ [u]) else .bad
        | _ => .bad
      | .ok false M1 => compL asg tst elt ρ r M1 acc
      | _ => .bad
    | none => .bad
def compL2 (asg : Mem → Itm → DEnv → Option DEnv) (tst : DEnv → Mem → R Bool) (fi1 : DEnv → Mem → R (List Itm)) (asg1 : Mem → Itm → DEnv → Option DEnv) (tst1 : DEnv → Mem → R Bool) (elt : DEnv → Mem → R U) (vs1 : List Nat) (ρ : DEnv) : List Itm → Mem → List U → R (List U)
  | [], M, acc => .ok acc M
  | it :: r, M, acc => match asg M it ρ with
    | some ρ1 => match tst ρ1 M with
      | .ok true M1 => match fi1 ρ1 M1 with
        | .ok items M2 => (compL asg1 tst1 elt (wipeD ρ1 vs1) items M2 acc).bind fun acc M => compL2 asg tst fi1 asg1 tst1 elt vs1 ρ r M acc
        | _ => .bad
      | .ok false M1 => compL2 asg tst fi1 asg1 tst1 elt vs1 ρ r M1 acc
      | _ => .bad
    | none => .bad

/-! ### what expressions compute -/
abbrev Cb := Nat → List U → Mem → R U
def toI (u : U) (M : Mem) : R (Option Int) := match u with | .d (.int i) => .ok (some i) M | _ => .bad
mutual
def den (cb : Cb) : Ex → DEnv → Mem → R U
  | .v i, ρ, M => match ρ[i]? with | some (some u) => .ok u M | _ => .bad
  | .k d, _, M => .ok (.d d) M
  | .bin op m a b, ρ, M => (den cb a ρ M).bind fun x M => (den cb b ρ M).bind fun y M => ofO (binU op m x y M)
  | .cmp op a b, ρ, M => boolR ((den cb a ρ M).bind fun x M => (den cb b ρ M).bind fun y M => match cmpU op x y M with | some c => .ok c M | none => .bad)
  | .chn p q a b c, ρ, M => boolR ((den cb a ρ M).bind fun x M => (den cb b ρ M).bind fun y M => match cmpU p x y M with
    | some true => (den cb c ρ M).bind fun z M => match cmpU q y z M with | some c => .ok c M | none => .bad
    | some false => .ok false M
    | none => .bad)
  | .and a b, ρ, M => (den cb a ρ M).bind fun u M => match truU M u with
    | some true => den cb b ρ M
    | some false => .ok u M
    | none => .bad
  | .or a b, ρ, M => (den cb a ρ M).bind fun u M => match truU M u with
    | some true => .ok u M
    | some false => den cb b ρ M
    | none => .bad
  | .not a, ρ, M => boolR ((truR (den cb a) ρ M).bind fun b M => .ok (!b) M)
  | .neg a, ρ, M => (den cb a ρ M).bind fun u M => match u with | .d (.int i) => .ok (.d (.int (-i))) M | _ => .bad
  | .ite t a b, ρ, M => (truR (den cb t) ρ M).bind fun c M => if c then den cb a ρ M else den cb b ρ M
  | .lst m es, ρ, M => (denL cb es ρ M).bind fun us M => ofO (mkLz m us M)
  | .tup es, ρ, M => (denL cb es ρ M).bind fun us M => ofO (mkTz us M)
  | .dnew, _, M => .ok (.o M.length) (M ++ [.dct []])
  | .sub a b, ρ, M => (den cb a ρ M).bind fun x M => (den cb b ρ M).bind fun y M => match idxU x y M with | some u => .ok u M | none => .bad
  | .slc m a lo hi, ρ, M => (den cb a ρ M).bind fun x M => (denO cb lo ρ M).bind fun l M => (denO cb hi ρ M).bind fun h M => ofO (slU m x l h M)
  | .rev m a, ρ, M => (den cb a ρ M).bind fun x M => ofO (revU m x M)
  | .bif b m es, ρ, M => (denL cb es ρ M).bind fun us M => ofO (b.fn m us M)
  | .lset a, ρ, M => (den cb a ρ M).bind fun x M => ofO (lsetU x M)
  | .dzip a b, ρ, M => (den cb a ρ M).bind fun x M => (den cb b ρ M).bind fun y M => ofO (dzipU x y M)
  | .tzip a b, ρ, M => (den cb a ρ M).bind fun x M => (den cb b ρ M).bind fun y M => ofO (tzipU x y M)
  | .isi a t, ρ, M => (den cb a ρ M).bind fun u M => match tyU M u with
    | some s => match isiT s t with | some r => .ok (.d (.bool r)) M | none => .bad
    | none => .bad
  | .call f es ds, ρ, M => (denL cb es ρ M).bind fun us M => cb f (us ++ ds.map U.d) M
  | .mth b m a es, ρ, M => (den cb a ρ M).bind fun x M => match tyU M x with
    | some t => if b.ty t then (denL cb es ρ M).bind fun us M => ofO (b.fnT m t x us M) else .bad
    | none => .bad
  | .lck i e, ρ, M => lckR i (den cb e) ρ M
  | .lc m g ik is t vs e, ρ, M => ((denL cb is ρ M).bind (walkI ik)).bind fun items M => (compL g.asgI (denT cb t) (den cb e) (wipeD ρ vs) items M []).bind fun us M => .ok (mkL m us M).1 (mkL m us M).2
  | .lc2 m g ik is t g1 ik1 is1 t1 vs vs1 e, ρ, M => ((denL cb is ρ M).bind (walkI ik)).bind fun items M =>
      (compL2 g.asgI (denT cb t) (fun ρ M => (denL cb is1 ρ M).bind (walkI ik1)) g1.asgI (denT cb t1) (den cb e) vs1 (wipeD ρ vs) items M []).bind fun us M => .ok (mkL m us M).1 (mkL m us M).2
def denL (cb : Cb) : Exs → DEnv → Mem → R (List U)
  | .nil, _, M => .ok [] M
  | .cons e r, ρ, M => (den cb e ρ M).bind fun u M => (denL cb r ρ M).bind fun us M => .ok (u :: us) M
/-- a part of a slice -/
def denO (cb : Cb) : Exs → DEnv → Mem → R (Option Int)
  | .nil, _, M => .ok none M
  | .cons e _, ρ, M => (den cb e ρ M).bind toI
/-- tests -/
def denT (cb : Cb) : Exs → DEnv → Mem → R Bool
  | .nil, _, M => .ok true M
  | .cons e _, ρ, M => truR (den cb e) ρ M
end
/-! ### what statements do -/
def forL (asg : Mem → Itm → DEnv → Option DEnv) (body : DEnv → Mem → RS) : List Itm → DEnv → Mem → RS
  | [], ρ, M => .nx ρ M
  | it :: r, ρ, M => match asg M it ρ with
    | some ρ1 => match body ρ1 M with
      | .nx ρ2 M2 => forL asg body r ρ2 M2
      | .ct ρ2 M2 => forL asg body r ρ2 M2
      | .bk ρ2 M2 => .nx ρ2 M2
      | .rt u M2 => .rt u M2
      | .exc c ρ2 M2 => .exc c ρ2 M2
      | .bad => .bad
    | none => .bad
def whlN (t : DEnv → Mem → R Bool) (body : DEnv → Mem → RS) : Nat → DEnv → Mem → RS
  | 0, _, _ => .bad
  | n + 1, ρ, M => (t ρ M).toS ρ fun b M => if b then match body ρ M with
      | .nx ρ2 M2 => whlN t body n ρ2 M2
      | .ct ρ2 M2 => whlN t body n ρ2 M2
      | .bk ρ2 M2 => .nx ρ2 M2
      | .rt u M2 => .rt u M2
      | .exc c ρ2 M2 => .exc c ρ2 M2
      | .bad => .bad
    else .nx ρ M
def parD : List Nat → List U → DEnv → Option DEnv
  | [], [], ρ => some ρ
  | i :: is, u :: us, ρ => parD is us (ρ.set i (some u))
  | _, _, _ => none
mutual
def denS (cb : Cb) : Sm → DEnv → Mem → RS
  | .ex e, ρ, M => (den cb e ρ M).toS ρ fun _ M => .nx ρ M
  | .asg g e, ρ, M => (den cb e ρ M).toS ρ fun u M => match g.asg M u ρ with | some ρ1 => .nx ρ1 M | none => .bad
  | .par is es, ρ, M => (denL cb es ρ M).toS ρ fun us M => match parD is us ρ with | some ρ1 => .nx ρ1 M | none => .bad
  | .put a i e, ρ, M => (den cb e ρ M).toS ρ fun u M => (den cb a ρ M).toS ρ fun x M => (den cb i ρ M).toS ρ fun y M => match putU x y u M with | some M1 => .nx ρ M1 | none => .bad
  | .put2 a i a2 i2 e e2, ρ, M => (den cb e ρ M).toS ρ fun u M => (den cb e2 ρ M).toS ρ fun w M =>
      (den cb a ρ M).toS ρ fun x M => (den cb i ρ M).toS ρ fun y M => match putU x y u M with
        | some M => (den cb a2 ρ M).toS ρ fun x M => (den cb i2 ρ M).toS ρ fun y M => match putU x y w M with | some M1 => .nx ρ M1 | none => .bad
        | none => .bad
  | .ite t a b, ρ, M => (truR (den cb t) ρ M).toS ρ fun c M => if c then denSs cb a ρ M else denSs cb b ρ M
  | .loop g ik is b, ρ, M => ((denL cb is ρ M).bind (walkI ik)).toS ρ fun items M => forL g.asgI (denSs cb b) items ρ M
  | .whl n t b, ρ, M => whlN (truR (den cb t)) (denSs cb b) n ρ M
  | .ret e, ρ, M => (den cb e ρ M).toS ρ fun u M => .rt u M
  | .retn, _, M => .rt (.d .none) M
  | .rai c, ρ, M => .exc c ρ M
  | .pass, ρ, M => .nx ρ M
def denSs (cb : Cb) : Sms → DEnv → Mem → RS
  | .nil, ρ, M => .nx ρ M
  | .cons s r, ρ, M => match denS cb s ρ M with
    | .nx ρ1 M1 => denSs cb r ρ1 M1
    | .rt u M1 => .rt u M1
    | .bk ρ1 M1 => .bk ρ1 M1
    | .ct ρ1 M1 => .ct ρ1 M1
    | .exc c ρ1 M1 => .exc c ρ1 M1
    | .bad => .bad
end
/-! ### defs -/
def U.closed (n : Nat) : U → Bool
  | .o j => decide (j < n)
  | _ => true
def MO.closed (n : Nat) : MO → Bool
  | .lst us => us.all (U.closed n)
  | .dct kvs => kvs.all fun p => p.2.closed n
  | .lck kvs => kvs.all fun p => p.2.closed n
  | .fz _ => true
def closedM (n : Nat) (M : Mem) : Bool := M.all (MO.closed n)
/-- a result as data: what is made within may be frozen -/
def frzU (n : Nat) (u : U) (M : Mem) : Option PyData :=
  match u with
  | .d x => some x
  | .o j => if n ≤ j then match M[j]? with
      | some (.lst us) => (allD us).map .list
      | some (.fz ds) => some (.list ds)
      | _ => none
    else none
  | .scr _ => none
def clean (n : Nat) (u : U) (M : Mem) : R U :=
  if closedM n (M.take n) then match frzU n u M with
    | some d => .ok (.d d) (M.take n)
    | none => .bad
  else .bad
def fin (cl : Bool) (n : Nat) (r : RS) : R U :=
  match r with
  | .rt u M => if cl then clean n u M else .ok u M
  | .nx _ M => if cl then clean n (.d .none) M else .ok (.d .none) M
  | .exc c _ M => if cl then (if closedM n (M.take n) then .exc c (M.take n) else .bad) else .exc c M
  | _ => .bad
def startD (f : Fn) (us : List U) : DEnv := us.map some ++ List.replicate (f.ns - us.length) none
/-- values that hold no object -/
def pureU : List U → Bool
  | [] => true
  | .o _ :: _ => false
  | _ :: r => pureU r
/-- a run in a memory of its own -/
def liftM (r : R U) (M : Mem) : R U :=
  match r with
  | .ok u _ => .ok u M
  | .exc c _ => .exc c M
  | .bad => .bad
def runF (cb : Cb) (f : Fn) (us : List U) (M : Mem) : R U :=
  if us.length = f.np then
    if f.cl && pureU us then liftM (fin true 0 (denSs cb f.body (startD f us) [])) M
    else fin f.cl M.length (denSs cb f.body (startD f us) M)
  else .bad
def callN (T : Nat → Fn) : Nat → Cb
  | 0, _, _, _ => .bad
  | k + 1, f, us, M => runF (callN T k) (T f) us M
end Mx

set_option Elab.async false
set_option linter.all false
set_option maxRecDepth 100000
set_option maxHeartbeats 4000000
/-! My1: contexts; targets and the text they stand for. -/
namespace Mx
open PySem PySem.Spec PyProof.Rows L2

/-- the code that runs: its names by slot, its scope, whether it is a comprehension's block -/
structure Cf where
  N : List Str
  sc : Scope
  blk : Bool
def ixOf : List Str → Str → Option Nat
  | [], _ => none
  | y :: r, x => if y = x then some 0 else match ixOf r x with
    | some i => some (i + 1)
    | none => none
theorem ixOf_get : ∀ {N : List Str} {x : Str} {i : Nat}, ixOf N x = some i → N[i]? = some x
  | [], _, _, h => nomatch h
  | y :: r, x, i, h => by
    unfold ixOf at h
    split at h
    · rename_i e
      cases h
      rw [e]
      rfl
    · split at h
      · rename_i j e
        cases h
        exact ixOf_get (N := r) e
      · cases h
/-- the slot of a name that is read -/
def Cf.slot (c : Cf) (x : Str) : Option Nat :=
  match c.sc.names.lookup x with
  | some .local => ixOf c.N x
  | some .cell => ixOf c.N x
  | some .free => ixOf c.N x
  | _ => none
/-- the slot of a name that is stored -/
def Cf.store (c : Cf) (x : Str) : Option Nat :=
  match c.sc.names.lookup x with
  | some .local => ixOf c.N x
  | some .cell => if c.blk then none else ixOf c.N x
  | _ => none
def Cf.isGl (c : Cf) (x : Str) : Bool :=
  match c.sc.names.lookup x with
  | some .globalImplicit => true
  | _ => false
/-- what the module holds -/
structure Glob where
  cst : List (Str × PyData)
  fn : List (Str × Nat × List Str × List PyData)
  blt : List Str
  exc : List Str
/-- a class that may be raised -/
structure ExcAt (K : PySem.W.Frag) (C : Addr) : Prop where
  x : PySem.W.excIn K C [.type "ValueError", .type "Exception", .type "BaseException", .type "object"] "ValueError.__new__" = true
  k : PySem.W.keepIn K (.ref C) = true
  b : PySem.W.subIn K (.ref C) (.type "BaseException") = some true
  t : PySem.W.typeIn K (.ref C) = some (.type "type")
structure GOk (P : Program) (w : World) (K : PySem.W.Frag) (mg : Str → Option Value) (base : Heap) (G : Glob) (k : Nat) (cb : Cb) : Prop where
  cst : ∀ x d, G.cst.lookup x = some d → ∃ u v, mg x = some u ∧ RelV v u ∧ ∀ B, DR B v d
  blt : ∀ x, G.blt.contains x = true → mg x = none
  exc : ∀ x, G.exc.contains x = true → ∃ C, mg x = some (.ref C) ∧ ExcAt K C
  fn : ∀ x f ps dfl, G.fn.lookup x = some (f, ps, dfl) → ∃ a fd ds dvs, mg x = some (.ref a) ∧ PySem.W.keepIn K (.ref a) = true ∧ Vals dvs ds ∧ Binds K fd ps ds ∧ (∀ B, DRs B dvs dfl) ∧ FnOk P w K mg base (L2.CX P w) k a fd ps (spU K mg ps.length (cb f))
structure XOk (X : Cx) (c : Cf) (G : Glob) (k : Nat) (cb : Cb) (Wx : WX) : Prop where
  N : X.N = c.N
  sc : X.env.scope = c.sc
  nd : X.N.Nodup
  calm : X.calm = true
  fn : c.blk = false → ∀ x, X.fn x = true
  room : Room k X.A
  hp : PassesOwn (model X.prog X.w) X.A X.env X.xe
  tk : Takes X Wx
  kind : X.env.scope.kind = .function
  g : GOk X.prog X.w X.K X.mg X.base G k cb
section
variable {X : Cx} {c : Cf} {G : Glob} {k : Nat} {cb : Cb} {Wx : WX}
theorem XOk.slot (x : XOk X c G k cb Wx) {y : Str} {i : Nat} (h : c.slot y = some i) : X.N[i]? = some y ∧ Vis X.env.scope y := by
  unfold Cf.slot at h
  rw [x.N]
  have e := x.sc
  split at h
  · rename_i q
    exact ⟨ixOf_get h, .inl (by rw [e]; exact q)⟩
  · rename_i q
    exact ⟨ixOf_get h, .inr (.inl (by rw [e]; exact q))⟩
  · rename_i q
    exact ⟨ixOf_get h, .inr (.inr (by rw [e]; exact q))⟩
  · cases h
theorem XOk.store (x : XOk X c G k cb Wx) {y : Str} {i : Nat} (h : c.store y = some i) : X.N[i]? = some y ∧ Loc X.env.scope y ∧ (X.fn y = true ∨ X.env.scope.names.lookup y = some .local) := by
  unfold Cf.store at h
  rw [x.N]
  have e := x.sc
  split at h
  · rename_i q
    exact ⟨ixOf_get h, .inl (by rw [e]; exact q), .inr (by rw [e]; exact q)⟩
  · rename_i q
    split at h
    · cases h
    · rename_i hb
      exact ⟨ixOf_get h, .inr (by rw [e]; exact q), .inl (x.fn (by simpa using hb) y)⟩
  · cases h
theorem XOk.gl (x : XOk X c G k cb Wx) {y : Str} (h : c.isGl y = true) : Gl X y := by
  unfold Cf.isGl at h
  show X.env.scope.names.lookup y = _
  rw [x.sc]
  split at h
  · assumption
  · cases h
/-- a comprehension's block -/
def Cf.block (c : Cf) (scope : Scope) : Cf := ⟨c.N, relS scope c.sc, true⟩
theorem XOk.block (x : XOk X c G k cb Wx) (scope : Scope) (hk : scope.kind = .function) (s : Shared) (H : Hp) (C : Addr) (cl : List (Str × Addr)) (fp : List Addr) :
    XOk (X.blk s H scope (compEnvC scope cl C X.env) fp) (c.block scope) G k cb (fun _ _ _ _ => False) :=
  ⟨x.N, by show relS scope X.env.scope = _; rw [x.sc]; rfl, x.nd, x.calm, (fun h => Bool.noConfusion (show true = false from h)), x.room, PassesOwn.never, takes0, hk, x.g⟩
end

/-! ### targets -/
mutual
def chkG (c : Cf) : Tg → Expr → Bool
  | .n i, e => match e with
    | .Name y _ => match c.store y with
      | some j => i == j
      | none => false
    | _ => false
  | .t ts, e => match e with
    | .Tuple es _ _ => es.all noStar && chkGs c ts es
    | _ => false
def chkGs (c : Cf) : Tgs → List Expr → Bool
  | .nil, es => match es with
    | [] => true
    | _ :: _ => false
  | .cons g r, es => match es with
    | [] => false
    | e :: es => chkG c g e && chkGs c r es
end
/-- a step within a target: the memory stays -/
def gDr (K : PySem.W.Frag) (f : Mem → U → DEnv → Option DEnv) (vs : List Nat) : TG := fun v σ H Q => ∃ ρ M B ι u ρ', Sim K B ι M H ∧ Slots K B ι ρ σ ∧ UR K B ι u v ∧ f M u ρ = some ρ' ∧
  ∀ σ', Slots K B ι ρ' σ' → (∀ i, i ∉ vs → σ'[i]? = σ[i]?) → Q σ' H
def gDs (K : PySem.W.Frag) (f : Mem → List U → DEnv → Option DEnv) (vs : List Nat) : TGs := fun ws σ H Q => ∃ ρ M B ι us ρ', Sim K B ι M H ∧ Slots K B ι ρ σ ∧ URs K B ι us ws ∧ f M us ρ = some ρ' ∧
  ∀ σ', Slots K B ι ρ' σ' → (∀ i, i ∉ vs → σ'[i]? = σ[i]?) → Q σ' H
theorem asg_each {env : Env} : ∀ {ts : List Expr}, ts.all noStar = true → (assignEach ts env).length = ts.length ∧ (assignEach ts env).findIdx? (·.1) = none
  | [], _ => ⟨rfl, rfl⟩
  | t :: ts, h => by
    rw [List.all_cons, Bool.and_eq_true] at h
    obtain ⟨h1, h2⟩ := asg_each (env := env) h.2
    have e : assignEach (t :: ts) env = (false, assign t env) :: assignEach ts env := by
      cases t <;> first | rfl | cases h.1
    rw [e]
    refine ⟨by rw [List.length_cons, List.length_cons, h1], ?_⟩
    rw [List.findIdx?_cons, h2]
    rfl
theorem asg_cons {env : Env} {t : Expr} {ts : List Expr} (h : noStar t = true) : (assignEach (t :: ts) env).map (·.2) = assign t env :: (assignEach ts env).map (·.2) := by
  cases t <;> first | rfl | cases h
theorem gs_len {M : Mem} : ∀ {ts : Tgs} {es : List Expr} {c : Cf} {us : List U} {ρ ρ' : DEnv}, chkGs c ts es = true → Tgs.asg M ts us ρ = some ρ' → us.length = es.length
  | .nil, [], _, [], _, _, _, _ => rfl
  | .nil, [], _, _ :: _, _, _, _, h => by simp [Tgs.asg] at h
  | .nil, _ :: _, _, _, _, _, h, _ => by simp [chkGs] at h
  | .cons _ _, [], _, _, _, _, h, _ => by simp [chkGs] at h
  | .cons _ _, _ :: _, _, [], _, _, _, h => by simp [Tgs.asg] at h
  | .cons g r, e :: es, c, u :: us, ρ, ρ', h, k => by
    simp only [chkGs, Bool.and_eq_true] at h
    simp only [Tgs.asg] at k
    split at k
    · rw [List.length_cons, List.length_cons, gs_len h.2 k]
    · cases k
section
variable {X : Cx} {c : Cf} {G : Glob} {k : Nat} {cb : Cb} {Wx : WX}
mutual
theorem dg_target (x : XOk X c G k cb Wx) : ∀ (g : Tg) (t : Expr), chkG c g t = true → PG X t (gDr X.K (fun M => g.asg M) g.slots)
  | .n i, t, h => by
    cases t with
    | Name y p =>
      simp only [chkG] at h
      cases e : c.store y with
      | none => rw [e] at h; cases h
      | some j =>
        rw [e] at h
        have hj : i = j := by simpa using h
        subst hj
        obtain ⟨h1, h2, h3⟩ := x.store e
        refine pgImp (pg_name x.nd h1 h2 h3) fun v σ H Q h => ?_
        obtain ⟨ρ, M, B, ι, u, ρ', s, sl, r, q, z⟩ := h
        simp only [Tg.asg, Option.some.injEq] at q
        subst q
        refine z _ (sl.set r i) fun j hj => ?_
        have hj : i ≠ j := fun z => hj (by simp only [Tg.slots]; exact List.mem_singleton.mpr z.symm)
        exact List.getElem?_set_ne hj
    | _ => simp [chkG] at h
  | .t ts, t, h => by
    cases t with
    | Tuple es k2 p =>
      simp only [chkG, Bool.and_eq_true] at h
      obtain ⟨hs, h⟩ := h
      obtain ⟨a1, a2⟩ := asg_each (env := X.env) hs
      have hl := dgs_list x ts es hs h
      refine pgImp (pgOr (pg_tup (n := es.length) x.calm hl a1 a2) (pg_lst (n := es.length) x.calm hl a1 a2)) fun v σ H Q hq => ?_
      obtain ⟨ρ, M, B, ι, u, ρ', s, sl, r, q, z⟩ := hq
      simp only [Tg.asg] at q
      cases e : seqU M u with
      | none => rw [e] at q; cases q
      | some pr =>
        obtain ⟨b, us⟩ := pr
        rw [e] at q
        cases b with
        | true =>
          obtain ⟨a, vs, rfl, qs, hh⟩ := seqU_L s r e
          exact .inr ⟨a, vs, rfl, .inl (.inl hh), by rw [← qs.len]; exact gs_len h q, ρ, M, B, ι, us, ρ', s, sl, qs, q, z⟩
        | false =>
          obtain ⟨a, vs, rfl, qs, hh⟩ := seqU_T s r e
          exact .inl ⟨a, vs, rfl, hh, by rw [← qs.len]; exact gs_len h q, ρ, M, B, ι, us, ρ', s, sl, qs, q, z⟩
    | _ => simp [chkG] at h
theorem dgs_list (x : XOk X c G k cb Wx) : ∀ (ts : Tgs) (es : List Expr), es.all noStar = true → chkGs c ts es = true → PGs X es (gDs X.K (fun M => ts.asg M) ts.slots)
  | .nil, es, hs, h => by
    cases es with
    | cons a b => simp [chkGs] at h
    | nil =>
      refine ⟨fun pins s σ H ws us Q I r h => pgs_nil.run pins s σ H ws us Q I r ?_⟩
      obtain ⟨ρ, M, B, ι, ds, ρ', s, sl, rr, e, q⟩ := h
      cases ds with
      | nil => cases rr; simp only [Tgs.asg, Option.some.injEq] at e; subst e; exact ⟨rfl, q σ sl fun _ _ => rfl⟩
      | cons a b => simp [Tgs.asg] at e
  | .cons g ts, es, hs, h => by
    cases es with
    | nil => simp [chkGs] at h
    | cons t es =>
      simp only [chkGs, Bool.and_eq_true] at h
      rw [List.all_cons, Bool.and_eq_true] at hs
      have ih := dgs_list x ts es hs.2 h.2
      refine ⟨fun pins s σ H ws us Q I r hq => (pgs_cons (dg_target x g t h.1) ih (asg_cons hs.1)).run pins s σ H ws us Q I r ?_⟩
      obtain ⟨ρ, M, B, ι, ds, ρ', s, sl, rr, e, q⟩ := hq
      cases ds with
      | nil => simp [Tgs.asg] at e
      | cons d ds =>
        cases rr with
        | cons r1 r2 =>
          simp only [Tgs.asg] at e
          cases e1 : Tg.asg M g d ρ with
          | none => rw [e1] at e; cases e
          | some ρ1 =>
            rw [e1] at e
            refine ⟨_, _, rfl, ρ, M, B, ι, d, ρ1, s, sl, r1, e1, fun σ1 sl1 k1 => ?_⟩
            refine ⟨ρ1, M, B, ι, ds, ρ', s, sl1, r2, e, fun σ2 sl2 k2 => q σ2 sl2 fun i hi => ?_⟩
            simp only [Tgs.slots, List.mem_append, not_or] at hi
            exact (k2 i hi.2).trans (k1 i hi.1)
end
end
/-! ### items -/
def ItR (K : PySem.W.Frag) (B : Hp) (ι : List Addr) (H : Hp) : Itm → V → Prop
  | .one u, v => UR K B ι u v
  | .row us, v => ∃ T vs, v = .ref T ∧ H T = some (.tup vs) ∧ URs K B ι us vs
def gDi (K : PySem.W.Frag) (f : Mem → Itm → DEnv → Option DEnv) (vs : List Nat) : TG := fun v σ H Q => ∃ ρ M B ι it ρ', Sim K B ι M H ∧ Slots K B ι ρ σ ∧ ItR K B ι H it v ∧ f M it ρ = some ρ' ∧
  ∀ σ', Slots K B ι ρ' σ' → (∀ i, i ∉ vs → σ'[i]? = σ[i]?) → Q σ' H
section
variable {X : Cx} {c : Cf} {G : Glob} {k : Nat} {cb : Cb} {Wx : WX}
theorem dg_item (x : XOk X c G k cb Wx) (g : Tg) (t : Expr) (h : chkG c g t = true) : PG X t (gDi X.K g.asgI g.slots) := by
  cases g with
  | n i =>
    refine pgImp (dg_target x (.n i) t h) fun v σ H Q hq => ?_
    obtain ⟨ρ, M, B, ι, it, ρ', s, sl, r, q, z⟩ := hq
    cases it with
    | one u => exact ⟨ρ, M, B, ι, u, ρ', s, sl, r, q, z⟩
    | row us => simp [Tg.asgI] at q
  | t ts =>
    cases t with
    | Tuple es k2 p =>
      have h0 := h
      simp only [chkG, Bool.and_eq_true] at h
      obtain ⟨hs, h⟩ := h
      obtain ⟨a1, a2⟩ := asg_each (env := X.env) hs
      refine pgImp (pgOr (dg_target x (.t ts) (.Tuple es k2 p) h0) (pg_tup (n := es.length) x.calm (dgs_list x ts es hs h) a1 a2)) fun v σ H Q hq => ?_
      obtain ⟨ρ, M, B, ι, it, ρ', s, sl, r, q, z⟩ := hq
      cases it with
      | one u => exact .inl ⟨ρ, M, B, ι, u, ρ', s, sl, r, q, z⟩
      | row us =>
        obtain ⟨T, vs, rfl, hT, rr⟩ := r
        have q : Tgs.asg M ts us ρ = some ρ' := q
        refine .inr ⟨T, vs, rfl, .inl (.inl hT), by rw [← rr.len]; exact gs_len h q, ρ, M, B, ι, us, ρ', s, sl, rr, q, fun σ' hσ hk => z σ' hσ fun i hi => hk i fun hm => hi ?_⟩
        simpa only [Tg.slots] using hm
    | _ => simp [chkG] at h
end
mutual
theorem Tg.asg_len {M : Mem} : ∀ (g : Tg) (u : U) (ρ ρ' : DEnv), g.asg M u ρ = some ρ' → ρ'.length = ρ.length
  | .n i, u, ρ, ρ', h => by
    simp only [Tg.asg, Option.some.injEq] at h
    subst h
    rw [List.length_set]
  | .t ts, u, ρ, ρ', h => by
    simp only [Tg.asg] at h
    split at h
    · exact Tgs.asg_len ts _ _ _ h
    · cases h
theorem Tgs.asg_len {M : Mem} : ∀ (ts : Tgs) (us : List U) (ρ ρ' : DEnv), ts.asg M us ρ = some ρ' → ρ'.length = ρ.length
  | .nil, [], ρ, ρ', h => by
    simp only [Tgs.asg, Option.some.injEq] at h
    subst h
    rfl
  | .nil, _ :: _, _, _, h => by simp [Tgs.asg] at h
  | .cons _ _, [], _, _, h => by simp [Tgs.asg] at h
  | .cons g r, u :: us, ρ, ρ', h => by
    simp only [Tgs.asg] at h
    split at h
    · rename_i ρ1 e
      exact (Tgs.asg_len r _ _ _ h).trans (Tg.asg_len g _ _ _ e)
    · cases h
end
theorem Tg.asgI_len {g : Tg} {M : Mem} {it : Itm} {ρ ρ' : DEnv} (h : g.asgI M it ρ = some ρ') : ρ'.length = ρ.length := by
  cases it with
  | one u => exact Tg.asg_len _ _ _ _ h
  | row us =>
    cases g with
    | n i => simp [Tg.asgI] at h
    | t ts => exact Tgs.asg_len _ _ _ _ h
end Mx

set_option Elab.async false
set_option linter.all false
set_option maxRecDepth 100000
set_option maxHeartbeats 4000000
/-! My2: what is walked. -/
namespace Mx
open PySem PySem.Spec PyProof.Rows L2

/-! ### walks -/
def YD (K : PySem.W.Frag) (B : Hp) (ι : List Addr) (items : List Itm) : Nat → Hp → V → Hp → Prop := fun i H x H' => ∃ it, items[i]? = some it ∧ match it with
  | .one u => H' = H ∧ UR K B ι u x
  | .row us => ∃ T vs, x = .ref T ∧ H T = none ∧ H' = upd H T (.tup vs) ∧ URs K B ι us vs
def WalkD (K : PySem.W.Frag) (B : Hp) (ι : List Addr) (J : It) (items : List Itm) : Prop := Walk J items.length (fun H => Same B H) (YD K B ι items)
def iDr (K : PySem.W.Frag) (W : WD) (f : DEnv → Mem → R (List Itm)) : TI := fun σ H Rr => ∃ ρ M B ι, Sim K B ι M H ∧ Slots K B ι ρ σ ∧ Wp K W σ B ι H (f ρ M) fun items B' ι' M' H' => ∀ J, WalkD K B' ι' J items → Rr J H'
theorem Sim.aside {K : PySem.W.Frag} {B H : Hp} {ι : List Addr} {M : Mem} (s : Sim K B ι M H) {T : Addr} (hT : H T = none) (o : HO) : Sim K B ι M (upd H T o) ∧ Stp B ι H B ι (upd H T o) := by
  obtain ⟨bT, nT⟩ := s.fresh hT
  refine ⟨⟨s.sub.trans (same_upd hT), s.len, fun n a m e1 e2 => ?_, s.nd⟩, ⟨Same.refl B, List.prefix_refl _, fun a x e b n => ⟨b, n, ?_⟩⟩⟩
  · have na : a ≠ T := fun z => nT (z ▸ List.mem_of_getElem? e1)
    exact (s.ok n a m e1 e2).keep (Same.refl B) (List.prefix_refl _) (fun b => b) (upd_ne na)
  · rw [upd_ne (ne_of_none e hT)]
    exact e
theorem walk_at {K : PySem.W.Frag} {B : Hp} {ι : List Addr} {J : It} {us : List U} {vs : List V} {Gd : Hp → Prop} (w : Walk J vs.length Gd (YAt vs)) (r : URs K B ι us vs) (hG : ∀ H, Same B H → Gd H) : WalkD K B ι J (us.map Itm.one) := by
  unfold WalkD
  rw [List.length_map, r.len]
  refine w.mono hG fun i H x H' hi _ y => ?_
  obtain ⟨h1, h2⟩ := y
  have hi' : i < us.length := by rw [r.len]; exact hi
  obtain ⟨v, e1, e2⟩ := paired_get r (List.getElem?_eq_getElem hi')
  rw [h2] at e1
  cases e1
  exact ⟨.one us[i], by rw [List.getElem?_map, List.getElem?_eq_getElem hi']; rfl, h1, e2⟩
theorem walk_strD {K : PySem.W.Frag} {B : Hp} {ι : List Addr} {z : Str} : WalkD K B ι (Its z) (strItems z) := by
  have hl : (strItems z).length = z.cps.size := by
    unfold strItems
    rw [List.length_map, Array.length_toList]
  unfold WalkD
  rw [hl]
  refine (walk_str (z := z)).mono (fun _ _ => trivial) fun i H x H' hi _ y => ?_
  obtain ⟨h1, c, h2, h3⟩ := y
  subst h3
  refine ⟨.one (.d (.str ⟨#[c]⟩)), ?_, h1, .str _⟩
  unfold strItems
  rw [List.getElem?_map, show z.cps.toList[i]? = z.cps[i]? by simp, h2]
  rfl
theorem walk_rngD {K : PySem.W.Frag} {B : Hp} {ι : List Addr} {lo : Int} {n : Nat} : WalkD K B ι (Itr lo n) (rngItems lo n) := by
  have hl : (rngItems lo n).length = n := by
    unfold rngItems
    rw [List.length_map, List.length_range]
  unfold WalkD
  rw [hl]
  refine (walk_range (lo := lo) (n := n)).mono (fun _ _ => trivial) fun i H x H' hi _ y => ?_
  obtain ⟨h1, h2⟩ := y
  subst h2
  refine ⟨.one (.d (.int (lo + (i : Nat)))), ?_, h1, .int _⟩
  unfold rngItems
  rw [List.getElem?_map, List.getElem?_range hi]
  rfl
theorem allD_urs {K : PySem.W.Frag} {B B' : Hp} {ι ι' : List Addr} : ∀ {us : List U} {ds : List PyData} {vs : List V}, allD us = some ds → URs K B ι us vs → Same B B' → URs K B' ι' us vs
  | [], _, _, _, .nil, _ => .nil
  | .d x :: r, ds, _, e, .cons a b, h => by
    unfold allD at e
    cases h2 : allD r with
    | none => rw [h2] at e; cases e
    | some l => exact .cons (DR.mono h a) (allD_urs h2 b h)
  | .o _ :: _, _, _, e, _, _ => nomatch e
  | .scr _ :: _, _, _, e, _, _ => nomatch e
section
variable {X : Cx} {W : WD} {tg e : Expr} {fe : DEnv → Mem → R U}
theorem di_plain (he : PE X e (tD X.K W fe)) : PI X tg e (iDr X.K W fun ρ M => (fe ρ M).bind fun u M => ofO (itemsU u M)) := by
  refine piImp (piOr (pi_list he) (piOr (pi_tup he) (pi_str he))) fun σ H Q h => ?_
  obtain ⟨ρ, M, B, ι, s, sl, h⟩ := h
  dsimp only at h
  cases e1 : fe ρ M with
  | bad => rw [e1] at h; exact h.elim
  | exc c M1 =>
    rw [e1] at h
    refine .inl ⟨ρ, M, B, ι, s, sl, ?_⟩
    rw [e1]
    exact h
  | ok u M1 =>
    rw [e1] at h
    have h : Wp X.K W σ B ι H (ofO (itemsU u M1)) _ := h
    have fin : ∀ (P : V → Hp → Prop), (∀ B1 ι1 H1, Stp B ι H B1 ι1 H1 → Sim X.K B1 ι1 M1 H1 → ∀ v, UR X.K B1 ι1 u v → P v H1) → tD X.K W fe σ H P := fun P k => ⟨ρ, M, B, ι, s, sl, by
      rw [e1]
      exact fun B1 ι1 H1 t1 s1 v r => k B1 ι1 H1 t1 s1 v r⟩
    cases u with
    | d y =>
      cases y with
      | list ds =>
        refine .inl (fin _ fun B1 ι1 H1 t1 s1 v r => ?_)
        cases r with
        | lst ha q =>
          refine ⟨_, rfl, ⟨_, .inl (.inl (s1.sub _ _ ha))⟩, (h.shift t1).ok s1 _ ?_⟩
          have := walk_at (K := X.K) (ι := ι1) (walk_list (K := X.K)) (rel_map q) fun H hs => (show SqL X.K H _ _ from .inl (.inl (hs _ _ ha)))
          rwa [List.map_map] at this
      | tuple ds =>
        refine .inr (.inl (fin _ fun B1 ι1 H1 t1 s1 v r => ?_))
        cases r with
        | tup z ha q =>
          refine ⟨_, rfl, ⟨_, .inl (.inr ⟨_, s1.sub _ _ ha⟩)⟩, (h.shift t1).ok s1 _ ?_⟩
          have := walk_at (K := X.K) (ι := ι1) (walk_tup (K := X.K)) (rel_map q) fun H hs => (show SqT X.K H _ _ from .inl (.inr ⟨_, hs _ _ ha⟩))
          rwa [List.map_map] at this
      | str x =>
        refine .inr (.inr (fin _ fun B1 ι1 H1 t1 s1 v r => ?_))
        cases r
        exact ⟨x, rfl, (h.shift t1).ok s1 _ walk_strD⟩
      | none => exact h.elim
      | bool b => exact h.elim
      | int b => exact h.elim
      | dict b => exact h.elim
    | scr ns => exact h.elim
    | o n =>
      refine .inl (fin _ fun B1 ι1 H1 t1 s1 v r => ?_)
      have h : Wp X.K W σ B ι H (ofO (match M1[n]? with | some (.lst us) => (match allD us with | some ds => some (us.map Itm.one, M1.set n (.fz ds)) | none => none) | some (.fz ds) => some (ds.map fun d => .one (.d d), M1) | _ => none)) _ := h
      cases e2 : M1[n]? with
      | none => rw [e2] at h; exact h.elim
      | some m =>
        rw [e2] at h
        cases m with
        | lst us =>
          dsimp only at h
          cases e3 : allD us with
          | none => rw [e3] at h; exact h.elim
          | some ds =>
            rw [e3] at h
            obtain ⟨a, rfl, hi, hb, vs, h1, q⟩ := s1.at r e2
            obtain ⟨s2, t2⟩ := s1.seal hi hb h1 (allD_rel e3 q)
            refine ⟨a, rfl, ⟨vs, .inl (.inl h1)⟩, (h.shift (t1.trans t2)).ok s2 _ ?_⟩
            exact walk_at (K := X.K) (ι := ι1) (walk_list (K := X.K)) (allD_urs e3 q t2.sub) fun H hs => (show SqL X.K H _ _ from .inl (.inl (hs _ _ upd_same)))
        | fz ds =>
          obtain ⟨a, rfl, hi, vs, h1, q⟩ := s1.at r e2
          refine ⟨a, rfl, ⟨vs, .inl (.inl (s1.sub _ _ h1))⟩, (h.shift t1).ok s1 _ ?_⟩
          have := walk_at (K := X.K) (ι := ι1) (walk_list (K := X.K)) (rel_map q) fun H hs => (show SqL X.K H _ _ from .inl (.inl (hs _ _ h1)))
          rwa [List.map_map] at this
        | dct kvs => exact h.elim
        | lck kvs => exact h.elim
end
theorem okR_ok {i : Int} (h : okR i = true) : -(2 ^ 62) ≤ i ∧ i < 2 ^ 62 := by
  unfold okR at h
  simp only [Bool.and_eq_true, decide_eq_true_eq] at h
  omega
theorem enumL_len : ∀ (us : List U) (i : Nat), (enumL i us).length = us.length
  | [], _ => rfl
  | u :: r, i => by
    show (enumL (i + 1) r).length + 1 = r.length + 1
    rw [enumL_len r]
theorem enumL_get : ∀ (us : List U) (k i : Nat) (u : U), us[i]? = some u → (enumL k us)[i]? = some (.row [.d (.int ((k + i : Nat) : Int)), u])
  | [], _, _, _, h => by cases h
  | a :: r, k, 0, u, h => by cases h; rfl
  | a :: r, k, i + 1, u, h => by
    show (enumL (k + 1) r)[i]? = _
    rw [enumL_get r (k + 1) i u h]
    have e : k + 1 + i = k + (i + 1) := by omega
    rw [e]
theorem zip2L_len : ∀ (a b : List U), (zip2L a b).length = min a.length b.length
  | [], b => by cases b <;> simp [zip2L]
  | _ :: _, [] => by simp [zip2L]
  | _ :: r, _ :: t => by
    show (zip2L r t).length + 1 = _
    rw [zip2L_len r t, List.length_cons, List.length_cons]
    omega
theorem zip2L_get : ∀ (a b : List U) (i : Nat) (u w : U), a[i]? = some u → b[i]? = some w → (zip2L a b)[i]? = some (.row [u, w])
  | [], _, _, _, _, h, _ => by cases h
  | _ :: _, [], _, _, _, _, h => by cases h
  | _ :: r, _ :: t, 0, _, _, h, k => by cases h; cases k; rfl
  | _ :: r, _ :: t, i + 1, u, w, h, k => zip2L_get r t i u w h k
theorem zip3L_len : ∀ (a b c : List U), (zip3L a b c).length = min (min a.length b.length) c.length
  | [], b, c => by cases b <;> cases c <;> simp [zip3L]
  | _ :: _, [], c => by cases c <;> simp [zip3L]
  | _ :: _, _ :: _, [] => by simp [zip3L]
  | _ :: r, _ :: t, _ :: v => by
    show (zip3L r t v).length + 1 = _
    rw [zip3L_len r t v, List.length_cons, List.length_cons, List.length_cons]
    omega
theorem zip3L_get : ∀ (a b c : List U) (i : Nat) (u w z : U), a[i]? = some u → b[i]? = some w → c[i]? = some z → (zip3L a b c)[i]? = some (.row [u, w, z])
  | [], _, _, _, _, _, _, h, _, _ => by cases h
  | _ :: _, [], _, _, _, _, _, _, h, _ => by cases h
  | _ :: _, _ :: _, [], _, _, _, _, _, _, h => by cases h
  | _ :: r, _ :: t, _ :: v, 0, _, _, _, h, k, l => by cases h; cases k; cases l; rfl
  | _ :: r, _ :: t, _ :: v, i + 1, u, w, z, h, k, l => zip3L_get r t v i u w z h k l
/-- a sequence that is frozen: it stands in every heap above B -/
theorem seqU_B {K : PySem.W.Frag} {B H : Hp} {ι : List Addr} {M : Mem} {u : U} {v : V} (s : Sim K B ι M H) (r : UR K B ι u v) {b : Bool} {ds : List PyData} (e : u = .d (if b then .list ds else .tuple ds)) :
    ∃ (c : Src) (vs : List V), v = .ref c.1 ∧ URs K B ι (ds.map U.d) vs ∧ ∀ H', Same B H' → sqB K H' c vs := by
  subst e
  cases b with
  | true =>
    cases (show DR B v (.list ds) from r) with
    | lst h q => exact ⟨(_, true), _, rfl, rel_map q, fun H' hs => (show SqL K H' _ _ from .inl (.inl (hs _ _ h)))⟩
  | false =>
    cases (show DR B v (.tuple ds) from r) with
    | tup z h q => exact ⟨(_, false), _, rfl, rel_map q, fun H' hs => (show SqT K H' _ _ from .inl (.inr ⟨_, hs _ _ h⟩))⟩
theorem fzU_ok {K : PySem.W.Frag} {B H : Hp} {ι : List Addr} {M M' : Mem} {u : U} {v : V} {us : List U} (s : Sim K B ι M H) (r : UR K B ι u v) (e : fzU u M = some (us, M')) :
    ∃ B' c vs, Stp B ι H B' ι H ∧ Sim K B' ι M' H ∧ v = .ref (c : Src).1 ∧ URs K B' ι us vs ∧ ∀ H', Same B' H' → sqB K H' c vs := by
  cases u with
  | d y =>
    cases y with
    | list ds =>
      cases e
      obtain ⟨c, vs, h1, h2, h3⟩ := seqU_B (b := true) (ds := ds) s r rfl
      exact ⟨B, c, vs, Stp.refl _ _ _, s, h1, h2, h3⟩
    | tuple ds =>
      cases e
      obtain ⟨c, vs, h1, h2, h3⟩ := seqU_B (b := false) (ds := ds) s r rfl
      exact ⟨B, c, vs, Stp.refl _ _ _, s, h1, h2, h3⟩
    | none => cases e
    | bool _ => cases e
    | int _ => cases e
    | str _ => cases e
    | dict _ => cases e
  | scr ns => cases e
  | o n =>
    unfold fzU at e
    dsimp only at e
    split at e
    · rename_i ws e2
      split at e
      · rename_i ds e3
        cases e
        obtain ⟨a, rfl, hi, hb, vs, h1, q⟩ := s.at r e2
        obtain ⟨s2, t2⟩ := s.seal hi hb h1 (allD_rel e3 q)
        exact ⟨_, (a, true), vs, t2, s2, rfl, allD_urs e3 q t2.sub, fun H' hs => (show SqL K H' _ _ from .inl (.inl (hs _ _ upd_same)))⟩
      · cases e
    · rename_i ds e2
      cases e
      obtain ⟨a, rfl, hi, vs, h1, q⟩ := s.at r e2
      exact ⟨B, (a, true), vs, Stp.refl _ _ _, s, rfl, rel_map q, fun H' hs => (show SqL K H' _ _ from .inl (.inl (hs _ _ h1)))⟩
    · cases e
theorem get_vs {K : PySem.W.Frag} {B : Hp} {ι : List Addr} {us : List U} {vs : List V} (r : URs K B ι us vs) {i : Nat} {x : V} (h : vs[i]? = some x) : ∃ u, us[i]? = some u ∧ UR K B ι u x := by
  have hi : i < us.length := by rw [r.len]; exact (List.getElem?_eq_some_iff.mp h).1
  obtain ⟨v, e1, e2⟩ := paired_get r (List.getElem?_eq_getElem hi)
  rw [h] at e1
  cases e1
  exact ⟨_, List.getElem?_eq_getElem hi, e2⟩
theorem walk_enumD {K : PySem.W.Frag} {B : Hp} {ι : List Addr} {c : Src} {us : List U} {vs : List V} (r : URs K B ι us vs) (hs : ∀ H, Same B H → sqB K H c vs) : WalkD K B ι (IteB K c) (enumL 0 us) := by
  unfold WalkD
  rw [enumL_len, r.len]
  refine ⟨fun i H hi hB => ⟨vs, vs[i], hs H hB, List.getElem?_eq_getElem hi⟩, fun H hB => ⟨vs, hs H hB, rfl⟩, fun i H x H' hi hB y => ?_⟩
  obtain ⟨T, y, h1, h2, h3, h4⟩ := y
  obtain ⟨u, e1, e2⟩ := get_vs r (h4 vs (hs H hB))
  refine ⟨_, enumL_get us 0 i u e1, T, _, h1, h2, h3, .cons ?_ (.cons e2 .nil)⟩
  rw [Nat.zero_add]
  exact DR.int _
theorem walk_zip2D {K : PySem.W.Frag} {B : Hp} {ι : List Addr} {c1 c2 : Src} {us ws : List U} {vs ys : List V} (r : URs K B ι us vs) (q : URs K B ι ws ys) (hs : ∀ H, Same B H → sqB K H c1 vs) (ht : ∀ H, Same B H → sqB K H c2 ys) : WalkD K B ι (ItzB2 K c1 c2) (zip2L us ws) := by
  unfold WalkD
  rw [zip2L_len, r.len, q.len]
  refine ⟨fun i H hi hB => ⟨vs, ys, vs[i]'(by omega), ys[i]'(by omega), hs H hB, ht H hB, List.getElem?_eq_getElem _, List.getElem?_eq_getElem _⟩, fun H hB => ⟨vs, ys, hs H hB, ht H hB, rfl⟩, fun i H x H' hi hB y => ?_⟩
  obtain ⟨T, y1, y2, h1, h2, h3, h4, h5⟩ := y
  obtain ⟨u, e1, e2⟩ := get_vs r (h4 vs (hs H hB))
  obtain ⟨w, e3, e4⟩ := get_vs q (h5 ys (ht H hB))
  exact ⟨_, zip2L_get us ws i u w e1 e3, T, _, h1, h2, h3, .cons e2 (.cons e4 .nil)⟩
theorem walk_zip3D {K : PySem.W.Frag} {B : Hp} {ι : List Addr} {c1 c2 c3 : Src} {us ws ms : List U} {vs ys ns : List V} (r : URs K B ι us vs) (q : URs K B ι ws ys) (p : URs K B ι ms ns) (hs : ∀ H, Same B H → sqB K H c1 vs) (ht : ∀ H, Same B H → sqB K H c2 ys) (hk : ∀ H, Same B H → sqB K H c3 ns) : WalkD K B ι (ItzB3 K c1 c2 c3) (zip3L us ws ms) := by
  unfold WalkD
  rw [zip3L_len, r.len, q.len, p.len]
  refine ⟨fun i H hi hB => ⟨vs, ys, ns, vs[i]'(by omega), ys[i]'(by omega), ns[i]'(by omega), hs H hB, ht H hB, hk H hB, List.getElem?_eq_getElem _, List.getElem?_eq_getElem _, List.getElem?_eq_getElem _⟩, fun H hB => ⟨vs, ys, ns, hs H hB, ht H hB, hk H hB, rfl⟩, fun i H x H' hi hB y => ?_⟩
  obtain ⟨T, y1, y2, y3, h1, h2, h3, h4, h5, h6⟩ := y
  obtain ⟨u, e1, e2⟩ := get_vs r (h4 vs (hs H hB))
  obtain ⟨w, e3, e4⟩ := get_vs q (h5 ys (ht H hB))
  obtain ⟨z, e5, e6⟩ := get_vs p (h6 ns (hk H hB))
  exact ⟨_, zip3L_get us ws ms i u w z e1 e3 e5, T, _, h1, h2, h3, .cons e2 (.cons e4 (.cons e6 .nil))⟩
theorem wpOfI {K : PySem.W.Frag} {W : WD} {σ : St} {B H : Hp} {ι : List Addr} {o : Option (List Itm × Mem)} {Q : List Itm → Hp → List Addr → Mem → Hp → Prop} (h : Wp K W σ B ι H (ofO o) Q) :
    ∃ u M', o = some (u, M') ∧ ∀ B' ι' H', Stp B ι H B' ι' H' → Sim K B' ι' M' H' → Q u B' ι' M' H' := by
  cases o with
  | none => exact h.elim
  | some p => exact ⟨p.1, p.2, rfl, h⟩
section
variable {X : Cx} {W : WD} {tg a b : Expr} {fa : DEnv → Mem → R (List U)} {p pos tpos : Pos} {elts es : List Expr} {kk : Nat}
theorem di_range1 (hg : Gl X "range") (hm : X.mg "range" = none) (ha : PA X [a] (tDa X.K W fa)) (hs : noStar a = true) :
    PI X tg (.Call (.Name "range" p) [a] [] pos) (iDr X.K W fun ρ M => (fa ρ M).bind fun us M => ofI (rangeI1 us) M) := by
  refine piImp (pi_range1 hg hm ha (star_cons hs)) fun σ H Q h => ?_
  obtain ⟨ρ, M, B, ι, s, sl, h⟩ := h
  refine ⟨ρ, M, B, ι, s, sl, h.bind.imp fun us B1 ι1 M1 H1 t1 s1 h1 vs r1 => ?_⟩
  cases e : rangeI1 us with
  | none => rw [e] at h1; exact h1.elim
  | some l =>
    rw [e] at h1
    have hl := h1.ok s1
    unfold rangeI1 at e
    split at e
    · split at e
      · rename_i j hj
        cases e
        obtain ⟨v, rfl, r⟩ := urs1 r1
        cases r
        exact ⟨j, rfl, (okR_ok hj).1, (okR_ok hj).2, hl _ walk_rngD⟩
      · cases e
    · cases e
theorem di_range2 (hg : Gl X "range") (hm : X.mg "range" = none) (ha : PA X [a, b] (tDa X.K W fa)) (hs : noStar a = true) (hs2 : noStar b = true) :
    PI X tg (.Call (.Name "range" p) [a, b] [] pos) (iDr X.K W fun ρ M => (fa ρ M).bind fun us M => ofI (rangeI2 us) M) := by
  refine piImp (pi_range2 hg hm ha (by rw [star_cons hs, star_cons hs2]; rfl) (star_cons hs2)) fun σ H Q h => ?_
  obtain ⟨ρ, M, B, ι, s, sl, h⟩ := h
  refine ⟨ρ, M, B, ι, s, sl, h.bind.imp fun us B1 ι1 M1 H1 t1 s1 h1 vs r1 => ?_⟩
  cases e : rangeI2 us with
  | none => rw [e] at h1; exact h1.elim
  | some l =>
    rw [e] at h1
    have hl := h1.ok s1
    unfold rangeI2 at e
    split at e
    · split at e
      · rename_i i j hj
        cases e
        obtain ⟨v, x, rfl, r, r'⟩ := urs2 r1
        cases r
        cases r'
        obtain ⟨z1, z2⟩ := Bool.and_eq_true_iff.mp hj
        exact ⟨i, j, rfl, ⟨(okR_ok z1).1, (okR_ok z1).2, (okR_ok z2).1, (okR_ok z2).2⟩, hl _ walk_rngD⟩
      · cases e
    · cases e
theorem di_enum (hg : Gl X "enumerate") (hm : X.mg "enumerate" = none) (ha : PA X [a] (tDa X.K W fa)) (hs : noStar a = true) :
    PI X (.Tuple elts kk tpos) (.Call (.Name "enumerate" p) [a] [] pos) (iDr X.K W fun ρ M => (fa ρ M).bind fun us M => ofO (enumI us M)) := by
  refine piImp (pi_enumB hg hm ha (star_cons hs)) fun σ H Q h => ?_
  obtain ⟨ρ, M, B, ι, s, sl, h⟩ := h
  refine ⟨ρ, M, B, ι, s, sl, h.bind.imp fun us B1 ι1 M1 H1 t1 s1 h1 vs r1 => ?_⟩
  obtain ⟨l, M', e, q⟩ := wpOfI h1
  unfold enumI at e
  split at e
  · obtain ⟨v, rfl, r⟩ := urs1 r1
    split at e
    · rename_i ws M2 e2
      cases e
      obtain ⟨B2, c, ys, t2, s2, rfl, rr, hq⟩ := fzU_ok s1 r e2
      exact ⟨c, ys, rfl, hq _ s2.sub, q _ _ _ t2 s2 _ (walk_enumD rr hq)⟩
    · cases e
  · cases e
theorem di_zip2 (hg : Gl X "zip") (hm : X.mg "zip" = none) (ha : PA X [a, b] (tDa X.K W fa)) (hs : noStar a = true) (hs2 : noStar b = true) :
    PI X (.Tuple elts kk tpos) (.Call (.Name "zip" p) [a, b] [] pos) (iDr X.K W fun ρ M => (fa ρ M).bind fun us M => ofO (zip2I us M)) := by
  refine piImp (pi_zipB2 hg hm ha (star_cons hs) (star_any (es := [b]) (by rw [List.all_cons, hs2]; rfl))) fun σ H Q h => ?_
  obtain ⟨ρ, M, B, ι, s, sl, h⟩ := h
  refine ⟨ρ, M, B, ι, s, sl, h.bind.imp fun us B1 ι1 M1 H1 t1 s1 h1 vs r1 => ?_⟩
  obtain ⟨l, M', e, q⟩ := wpOfI h1
  unfold zip2I at e
  split at e
  · obtain ⟨v, x, rfl, r, r'⟩ := urs2 r1
    split at e
    · rename_i ws M2 e2
      obtain ⟨B2, c, ys, t2, s2, rfl, rr, hq⟩ := fzU_ok s1 r e2
      split at e
      · rename_i ws3 M3 e3
        cases e
        obtain ⟨B3, c3, ys3, t3, s3, rfl, rr3, hq3⟩ := fzU_ok s2 (r'.mono t2.sub t2.pre) e3
        exact ⟨c, c3, ys, ys3, rfl, hq _ s2.sub, hq3 _ s3.sub, q _ _ _ (t2.trans t3) s3 _ (walk_zip2D (rr.mono t3.sub t3.pre) rr3 (fun H hB => hq H (t3.sub.trans hB)) hq3)⟩
      · cases e
    · cases e
  · cases e
theorem di_zip3 {d : Expr} (hg : Gl X "zip") (hm : X.mg "zip" = none) (ha : PA X [a, b, d] (tDa X.K W fa)) (hs : noStar a = true) (hs2 : noStar b = true) (hs3 : noStar d = true) :
    PI X (.Tuple elts kk tpos) (.Call (.Name "zip" p) [a, b, d] [] pos) (iDr X.K W fun ρ M => (fa ρ M).bind fun us M => ofO (zip3I us M)) := by
  refine piImp (pi_zipB3 hg hm ha (star_cons hs) (star_any (es := [b, d]) (by rw [List.all_cons, List.all_cons, hs2, hs3]; rfl))) fun σ H Q h => ?_
  obtain ⟨ρ, M, B, ι, s, sl, h⟩ := h
  refine ⟨ρ, M, B, ι, s, sl, h.bind.imp fun us B1 ι1 M1 H1 t1 s1 h1 vs r1 => ?_⟩
  obtain ⟨l, M', e, q⟩ := wpOfI h1
  unfold zip3I at e
  split at e
  · obtain ⟨v, x, y, rfl, r, r', r''⟩ := urs3 r1
    split at e
    · rename_i ws M2 e2
      obtain ⟨B2, c, ys, t2, s2, rfl, rr, hq⟩ := fzU_ok s1 r e2
      split at e
      · rename_i ws3 M3 e3
        obtain ⟨B3, c3, ys3, t3, s3, rfl, rr3, hq3⟩ := fzU_ok s2 (r'.mono t2.sub t2.pre) e3
        split at e
        · rename_i ws4 M4 e4
          cases e
          obtain ⟨B4, c4, ys4, t4, s4, rfl, rr4, hq4⟩ := fzU_ok s3 ((r''.mono t2.sub t2.pre).mono t3.sub t3.pre) e4
          exact ⟨c, c3, c4, ys, ys3, ys4, rfl, hq _ s2.sub, hq3 _ s3.sub, hq4 _ s4.sub, q _ _ _ ((t2.trans t3).trans t4) s4 _
            (walk_zip3D ((rr.mono t3.sub t3.pre).mono t4.sub t4.pre) (rr3.mono t4.sub t4.pre) rr4 (fun H hB => hq H ((t3.sub.trans t4.sub).trans hB)) (fun H hB => hq3 H (t4.sub.trans hB)) hq4)⟩
        · cases e
      · cases e
    · cases e
  · cases e
end

section
variable {X : Cx} {W : WD} {tg a : Expr} {fa : DEnv → Mem → R U}
theorem keyIt_ok {K : PySem.W.Frag} {B : Hp} {ι : List Addr} (k : Key) : ∃ u, keyIt k = .one u ∧ UR K B ι u (kV k) := by
  cases k with
  | inl i => exact ⟨_, rfl, .int i⟩
  | inr x => exact ⟨_, rfl, .str x⟩
/-- for k in d, d locked -/
theorem di_keys (ha : PE X a (tD X.K W fa)) : PI X tg a (iDr X.K W fun ρ M => (fa ρ M).bind fun u M => ofO (keysI [u] M)) := by
  refine piImp (pi_keys ha) fun σ H Q h => ?_
  obtain ⟨ρ, M, B, ι, s, sl, h⟩ := h
  refine ⟨ρ, M, B, ι, s, sl, h.bind.imp fun u B1 ι1 M1 H1 t1 s1 h1 v r1 => ?_⟩
  obtain ⟨l, M', e, q⟩ := wpOfI h1
  unfold keysI at e
  split at e
  · rename_i n hn
    cases hn
    split at e
    · rename_i kvs hm
      cases e
      obtain ⟨d, rfl, hi, od, vs, hb, r⟩ := s1.at r1 hm
      refine ⟨d, od, rfl, .inl ⟨vs, s1.sub _ _ hb, q _ _ _ (Stp.refl _ _ _) s1 _ ?_⟩⟩
      unfold WalkD
      rw [List.length_map, r.length]
      refine ⟨fun i H hi hs => ⟨hs _ _ hb, hi⟩, fun H hs => ⟨hs _ _ hb, Nat.le_refl _⟩, fun i H x H' hi hs y => ?_⟩
      obtain ⟨rfl, k, w, e1, rfl⟩ := y
      have hi' : i < kvs.length := by rw [r.length]; exact hi
      obtain ⟨p, e2, e3⟩ := paired_get r (List.getElem?_eq_getElem hi')
      rw [e1] at e2
      cases e2
      obtain ⟨u, e4, e5⟩ := keyIt_ok (K := X.K) (B := B1) (ι := ι1) k
      refine ⟨_, by rw [List.getElem?_map, List.getElem?_eq_getElem hi']; rfl, ?_⟩
      dsimp only
      rw [show (kvs[i]).1 = k from e3.1, e4]
      exact ⟨rfl, e5⟩
    · cases e
  · cases e
/-- the dict in the slot i is locked while the expression runs -/
theorem de_lck {i : Nat} (ha : PE X a (tD X.K W fa)) : PE X a (tD X.K W (lckR i fa)) := by
  refine peImp (pe_lock ha) fun σ H Q h => ?_
  obtain ⟨ρ, M, B, ι, s, sl, h⟩ := h
  unfold lckR at h
  split at h
  · rename_i n hn
    split at h
    · rename_i kvs hm
      obtain ⟨v, _, r⟩ := sl.get i _ hn
      obtain ⟨d, rfl, hi, hb, vs, hd, rk⟩ := s.at r hm
      refine ⟨d, _, hd, trivial, fun od => ?_⟩
      refine ⟨ρ, M.set n (.lck kvs), _, ι, s.lock hi hb rk od, sl.mono (same_upd hb) (List.prefix_refl _), ?_⟩
      split at h
      · rename_i u M1 e1
        split at h
        · rename_i kvs1 hm1
          rw [e1]
          intro B' ι' H' t' s' v rv
          obtain ⟨g1, g2, s2, t2⟩ := Sim.unlock hi hb t' s' hm1
          exact ⟨g1, h _ _ _ t2 s2 v (rv.del g2)⟩
        · exact h.elim
      · exact h.elim
    · exact h.elim
  · exact h.elim
end
end Mx

set_option Elab.async false
set_option linter.all false
set_option maxRecDepth 100000
set_option maxHeartbeats 4000000
/-! My3: list comprehensions. -/
namespace Mx
open PySem PySem.Spec PyProof.Rows L2

theorem slots_wipe {K : PySem.W.Frag} {B : Hp} {ι : List Addr} {ρ : DEnv} {σ : St} (s : Slots K B ι ρ σ) : ∀ vs : List Nat, Slots K B ι (wipeD ρ vs) (wipe σ vs)
  | [] => s
  | v :: vs => by
    have h := slots_wipe s vs
    refine ⟨by show ((wipeD ρ vs).set v none).length = ((wipe σ vs).set v none).length; rw [List.length_set, List.length_set, h.len], fun i u e => ?_⟩
    have e : ((wipeD ρ vs).set v none)[i]? = some (some u) := e
    show ∃ x, ((wipe σ vs).set v none)[i]? = some (some x) ∧ _
    by_cases hv : v = i
    · subst hv
      by_cases hl : v < (wipeD ρ vs).length
      · rw [List.getElem?_set_self hl] at e; cases e
      · rw [List.getElem?_eq_none (by rw [List.length_set]; omega)] at e; cases e
    · rw [List.getElem?_set_ne hv] at e ⊢
      exact h.get i u e
/-- the block's own names with their slots -/
def ownOf (N : List Str) : List (Str × NameKind) → List (Str × Nat)
  | [] => []
  | (x, kd) :: r => match kd with
    | .local => match ixOf N x with
      | some i => (x, i) :: ownOf N r
      | none => ownOf N r
    | .cell => match ixOf N x with
      | some i => (x, i) :: ownOf N r
      | none => ownOf N r
    | _ => ownOf N r
def ownS (c : Cf) (scope : Scope) : List Nat := (ownOf c.N scope.names).map (·.2)
/-- may the block run so? -/
def blkOk (c : Cf) (scope : Scope) : Bool := blkC c.N c.sc scope (ownOf c.N scope.names)
def subL (a b : List Nat) : Bool := a.all fun i => b.contains i
/-- an object of the heap outside is taken in, as a list -/
theorem adopt {K : PySem.W.Frag} {B H B1 H1 : Hp} {ι ι1 : List Addr} {M : Mem} {D : Addr} {acc : List U} {vs : List V} (m : Bool) (t : Stp B ι H B1 ι1 H1) (hD : H D = none) (s : Sim K B1 ι1 M H1) (h : H1 D = some (.lst vs)) (hb : B1 D = none) (hn : D ∉ ι1) (r : URs K B1 ι1 acc vs) :
    ∃ B' ι', Stp B ι H B' ι' H1 ∧ Sim K B' ι' (mkL m acc M).2 H1 ∧ UR K B' ι' (mkL m acc M).1 (.ref D) := by
  have made : ∃ B' ι', Stp B ι H B' ι' H1 ∧ Sim K B' ι' (M ++ [.lst acc]) H1 ∧ UR K B' ι' (.o M.length) (.ref D) := by
    have hpre : ι1 <+: ι1 ++ [D] := List.prefix_append _ _
    refine ⟨B1, ι1 ++ [D], ⟨t.sub, t.pre.trans hpre, fun a o e b n => ?_⟩, ⟨s.sub, by rw [List.length_append, List.length_append, s.len]; rfl, fun n a x e1 e2 => ?_, ?_⟩, D, by rw [← s.len]; simp, rfl⟩
    · obtain ⟨h1, h2, h3⟩ := t.out a o e b n
      refine ⟨h1, fun hm => ?_, h3⟩
      rcases List.mem_append.mp hm with z | z
      · exact h2 z
      · rw [List.mem_singleton.mp z, hD] at e; cases e
    · by_cases hl : n < ι1.length
      · rw [List.getElem?_append_left hl] at e1
        rw [List.getElem?_append_left (s.len ▸ hl)] at e2
        exact (s.ok n a x e1 e2).keep (Same.refl B1) hpre (fun b => b) rfl
      · have hl' : n = ι1.length := by
          have := (List.getElem?_eq_some_iff.mp e1).1
          rw [List.length_append] at this
          simp at this
          omega
        subst hl'
        have e3 : (M ++ [MO.lst acc])[ι1.length]? = some (.lst acc) := by rw [s.len]; simp
        rw [e3] at e2
        cases e2
        have e4 : (ι1 ++ [D])[ι1.length]? = some D := by simp
        rw [e4] at e1
        cases e1
        exact ⟨hb, vs, h, r.mono (Same.refl B1) hpre⟩
    · rw [List.nodup_append]
      refine ⟨s.nd, by simp, fun a ha b hb => ?_⟩
      rw [List.mem_singleton] at hb
      subst hb
      exact fun z => hn (z ▸ ha)
  unfold mkL
  cases m with
  | true => exact made
  | false =>
    cases e : allD acc with
    | none => exact made
    | some ds =>
      have hB : Same B1 (upd B1 D (.lst vs)) := same_upd hb
      refine ⟨upd B1 D (.lst vs), ι1, ⟨t.sub.trans hB, t.pre, fun a o e b n => ?_⟩, ⟨fun a o e => ?_, s.len, fun n a x e1 e2 => ?_, s.nd⟩, .lst upd_same (DRs.mono hB (allD_rel e r))⟩
      · obtain ⟨h1, h2, h3⟩ := t.out a o e b n
        have na : a ≠ D := ne_of_none e hD
        exact ⟨by rw [upd_ne na]; exact h1, h2, h3⟩
      · by_cases z : a = D
        · subst z; rw [upd_same] at e; cases e; exact h
        · rw [upd_ne z] at e; exact s.sub _ _ e
      · have na : a ≠ D := fun z => hn (z ▸ List.mem_of_getElem? e1)
        exact (s.ok n a x e1 e2).keep hB (List.prefix_refl _) (fun b => by rw [upd_ne na]; exact b) rfl
/-- a write to an object outside -/
theorem outside {K : PySem.W.Frag} {B H B1 H1 : Hp} {ι ι1 : List Addr} {M : Mem} {D : Addr} {o : HO} (t : Stp B ι H B1 ι1 H1) (hD : H D = none) (s : Sim K B1 ι1 M H1) (hb : B1 D = none) (hn : D ∉ ι1) : Stp B ι H B1 ι1 (upd H1 D o) ∧ Sim K B1 ι1 M (upd H1 D o) := by
  refine ⟨⟨t.sub, t.pre, fun a x e b n => ?_⟩, ⟨fun a x e => ?_, s.len, fun n a x e1 e2 => ?_, s.nd⟩⟩
  · obtain ⟨h1, h2, h3⟩ := t.out a x e b n
    exact ⟨h1, h2, by rw [upd_ne (ne_of_none e hD)]; exact h3⟩
  · have na : a ≠ D := fun z => by rw [z, hb] at e; cases e
    rw [upd_ne na]
    exact s.sub _ _ e
  · have na : a ≠ D := fun z => hn (z ▸ List.mem_of_getElem? e1)
    exact (s.ok n a x e1 e2).keep (Same.refl B1) (List.prefix_refl _) (fun b => b) (upd_ne na)
theorem ItR.here {K : PySem.W.Frag} {B B1 H H' : Hp} {ι ι1 : List Addr} {M : Mem} {items : List Itm} {i : Nat} {x : V} (y : YD K B ι items i H x H') (hB : Same B B1) (hι : ι <+: ι1) (s : Sim K B1 ι1 M H) :
    ∃ it, items[i]? = some it ∧ ItR K B1 ι1 H' it x ∧ Sim K B1 ι1 M H' ∧ Stp B1 ι1 H B1 ι1 H' := by
  obtain ⟨it, e, h⟩ := y
  cases it with
  | one u =>
    obtain ⟨rfl, r⟩ := h
    exact ⟨.one u, e, r.mono hB hι, s, Stp.refl _ _ _⟩
  | row us =>
    obtain ⟨T, vs, rfl, hT, rfl, r⟩ := h
    obtain ⟨s1, t1⟩ := s.aside hT (.tup vs)
    exact ⟨.row us, e, ⟨T, vs, rfl, upd_same, r.mono hB hι⟩, s1, t1⟩
theorem wipe_eq {σ σ2 : St} {vs ts : List Nat} (hl : σ2.length = σ.length) (h : ∀ i, i ∉ ts → σ2[i]? = σ[i]?) (hs : ∀ i ∈ ts, i ∈ vs) : wipe σ2 vs = wipe σ vs := by
  apply List.ext_getElem?
  intro i
  by_cases hi : i ∈ vs
  · have z : ∀ τ : St, τ.length = σ.length → (wipe τ vs)[i]? = if i < σ.length then some none else none := fun τ ht => by
      have hw : (wipe τ vs).length = τ.length := wipe_length τ vs
      by_cases hlt : i < σ.length
      · rw [if_pos hlt]
        cases q : (wipe τ vs)[i]? with
        | none =>
          have := List.getElem?_eq_none_iff.mp q
          omega
        | some o =>
          cases o with
          | none => rfl
          | some v => exact absurd hi (wipe_some q).2
      · rw [if_neg hlt]
        exact List.getElem?_eq_none_iff.mpr (by omega)
    rw [z σ2 hl, z σ rfl]
  · rw [wipe_out hi, wipe_out hi]
    exact h i fun z => hi (hs i z)
section
variable {X : Cx} {c : Cf} {G : Glob} {k : Nat} {cb : Cb} {Wx : WX} {W : WD}
theorem lim_lt {n : Nat} (h : n < LIM) : n < sizeLine := by rw [← lim_eq]; exact h
/-- [elt for tg in iter if ..] -/
theorem de_lc {g : Tg} {tg iter elt : Expr} {ifs : List Expr} {scope : Scope} {pos : Pos} {fi : DEnv → Mem → R (List Itm)} {ft : DEnv → Mem → R Bool} {fe : DEnv → Mem → R U} {W' : WD} (m : Bool) (x : XOk X c G k cb Wx) (hgt : chkG (c.block scope) g tg = true) (hi : PI X tg iter (iDr X.K W fi)) (hb : blkOk c scope = true)
    (ht : ∀ (s : Shared) (H : Hp) (C : Addr) (cl : List (Str × Addr)) (fp : List Addr), PTs (X.blk s H scope (compEnvC scope cl C X.env) fp) ifs (tDb X.K W' ft)) (he : ∀ (s : Shared) (H : Hp) (C : Addr) (cl : List (Str × Addr)) (fp : List Addr), PE (X.blk s H scope (compEnvC scope cl C X.env) fp) elt (tD X.K W' fe))
    (hs : ∀ y, foldedSetIterable iter X.env y = pure y) :
    PE X (.ListComp elt [⟨tg, iter, ifs, 0⟩] scope pos) (tLc (iDr X.K W fi) (gDi X.K g.asgI (g.slots)) (tDb X.K W' ft) (tD X.K W' fe) (ownS c scope)) := by
  have ok : BlkOk X.N X.env.scope scope (ownOf c.N scope.names) := by
    have h := blkOk_by hb
    rw [← x.N, ← x.sc] at h
    rw [x.N] at h ⊢
    exact h
  exact pe_lc x.calm x.nd hi ok (fun s H C cl fp => dg_item (x.block scope ok.kind s H C cl fp) g tg hgt) ht he hs
theorem R.bind_assoc {α β γ : Type} (r : R α) (f : α → Mem → R β) (g : β → Mem → R γ) : (r.bind f).bind g = r.bind fun a M => (f a M).bind g := by
  cases r <;> rfl
/-- lc_it from any heap -/
theorem lc_it' {J : It} {n : Nat} {Gd : Hp → Prop} {Y : Nat → Hp → V → Hp → Prop} (w : Walk J n Gd Y) {g : TG} {tt : TT} {te : TE} {vs : List Nat} {σ : St} {H0 : Hp} {D : Addr} {Qd : Hp → Prop} (Pv : Nat → Hp → Prop) (h0 : Pv 0 H0) (hG : ∀ i H, i ≤ n → Pv i H → Gd H)
    (hs : ∀ i x H H', i < n → Pv i H → Y i H x H' → g x (wipe σ vs) H' fun σ2 H2 => wipe σ2 vs = wipe σ vs ∧ tt σ2 H2 fun b H3 =>
      if b = true then te σ2 H3 fun y H4 => ∃ acc, H4 D = some (.lst acc) ∧ acc.length < sizeLine ∧ Pv (i + 1) (upd H4 D (.lst (acc ++ [y]))) else Pv (i + 1) H3) (hd : ∀ H, Pv n H → Qd H) :
    ∃ W : Nat → Nat → Hp → Prop, (∃ m, W 0 m H0) ∧ ∀ i m H, W i m H →
      (J.stop i H ∧ Qd H) ∨ (J.go i H ∧ ∃ Nx : Hp → Prop, (∀ H', Nx H' → ∃ m', m' < m ∧ W (i + 1) m' H') ∧ ∀ x H', J.yld i H x H' → g x (wipe σ vs) H' fun σ2 H2 => wipe σ2 vs = wipe σ vs ∧ tt σ2 H2 fun b H3 =>
        if b = true then te σ2 H3 fun y H4 => ∃ acc, H4 D = some (.lst acc) ∧ acc.length < sizeLine ∧ Nx (upd H4 D (.lst (acc ++ [y]))) else Nx H3) := by
  refine ⟨fun i m H => m = n - i ∧ i ≤ n ∧ Pv i H, ⟨n, by simp, Nat.zero_le _, h0⟩, ?_⟩
  rintro i m H ⟨rfl, hi, p⟩
  have q := hG i H hi p
  by_cases hlt : i < n
  · refine .inr ⟨w.goes i H hlt q, Pv (i + 1), fun H' p' => ⟨n - (i + 1), by omega, rfl, hlt, p'⟩, fun x H' y => hs i x H H' hlt p (w.yields i H x H' hlt q y)⟩
  · have e : i = n := by omega
    subst e
    exact .inl ⟨w.stops H q, hd H p⟩
/-- the state within a comprehension: D the new list, outside of what is held; rest the turns to come -/
def LcAt {β : Type} (K : PySem.W.Frag) (W : WD) (σ : St) (B1 : Hp) (ι1 : List Addr) (H1 : Hp) (D : Addr) (P : β → Hp → List Addr → Mem → Hp → Prop) (rest : Mem → List U → R β) (Bs : Hp) (ιs : List Addr) (Hc : Hp) : Prop :=
  ∃ B2 ι2 M2 acc vs, Stp B1 ι1 H1 B2 ι2 Hc ∧ Same Bs B2 ∧ ιs <+: ι2 ∧ Sim K B2 ι2 M2 Hc ∧ Hc D = some (.lst vs) ∧ B2 D = none ∧ D ∉ ι2 ∧ URs K B2 ι2 acc vs ∧ Wp K W σ B1 ι1 H1 (rest M2 acc) P
theorem lc_loop {β : Type} {K : PySem.W.Frag} {W W' : WD} {σ τ : St} {B1 H1 Bs H0 : Hp} {ι1 ιs : List Addr} {D : Addr} {P : β → Hp → List Addr → Mem → Hp → Prop} {g : Tg} {ft : DEnv → Mem → R Bool} {fe : DEnv → Mem → R U} {ρw : DEnv} {vs0 : List Nat} {items : List Itm} {J : It} {Qd : Hp → Prop}
    (kont : List U → Mem → R β) (hsub : subL (g.slots) vs0 = true) (hD : H1 D = none) (wk : WalkD K Bs ιs J items) (slw : Slots K Bs ιs ρw (wipe τ vs0))
    (h0 : LcAt K W σ B1 ι1 H1 D P (fun M acc => (compL g.asgI ft fe ρw items M acc).bind kont) Bs ιs H0)
    (hd : ∀ Hc, LcAt K W σ B1 ι1 H1 D P (fun M acc => kont acc M) Bs ιs Hc → Qd Hc) :
    ∃ Wn : Nat → Nat → Hp → Prop, (∃ m, Wn 0 m H0) ∧ ∀ i m H, Wn i m H →
      (J.stop i H ∧ Qd H) ∨ (J.go i H ∧ ∃ Nx : Hp → Prop, (∀ H', Nx H' → ∃ m', m' < m ∧ Wn (i + 1) m' H') ∧ ∀ x H', J.yld i H x H' → gDi K g.asgI (g.slots) x (wipe τ vs0) H' fun σ2 H2 => wipe σ2 vs0 = wipe τ vs0 ∧ tDb K W' ft σ2 H2 fun b H3 =>
        if b = true then tD K W' fe σ2 H3 fun y H4 => ∃ acc, H4 D = some (.lst acc) ∧ acc.length < sizeLine ∧ Nx (upd H4 D (.lst (acc ++ [y]))) else Nx H3) := by
  refine lc_it' wk (fun i Hc => LcAt K W σ B1 ι1 H1 D P (fun M acc => (compL g.asgI ft fe ρw (items.drop i) M acc).bind kont) Bs ιs Hc) h0 ?_ ?_ ?_
  · rintro i Hc - ⟨B2, ι2, M2, acc, vs, t2, hBs, _, s2, _⟩
    exact hBs.trans s2.sub
  · rintro i y Hc Hy hlt ⟨B2, ι2, M2, acc, vs, t2, hBs, hιs, s2, hDl, hDb, hDn, ra, w⟩ hy
    obtain ⟨it, e1, r1, s3, t3⟩ := ItR.here hy hBs hιs s2
    obtain ⟨_, _, hD3⟩ := t3.out D _ hDl hDb hDn
    rw [List.drop_eq_getElem_cons hlt] at w
    have e2 : items[i] = it := by
      rw [List.getElem?_eq_getElem hlt] at e1
      exact Option.some.inj e1
    rw [e2] at w
    have w : Wp K W σ B1 ι1 H1 (R.bind (match g.asgI M2 it ρw with
      | some ρ1 => match ft ρ1 M2 with
        | .ok true M1 => match fe ρ1 M1 with
          | .ok u M2 => if acc.length < LIM then compL g.asgI ft fe ρw (items.drop (i + 1)) M2 (acc ++ [u]) else .bad
          | _ => .bad
        | .ok false M1 => compL g.asgI ft fe ρw (items.drop (i + 1)) M1 acc
        | _ => .bad
      | none => .bad) kont) _ := w
    cases ea : g.asgI M2 it ρw with
    | none => rw [ea] at w; exact w.elim
    | some ρ1 =>
      rw [ea] at w
      dsimp only at w
      refine ⟨_, M2, B2, ι2, it, ρ1, s3, slw.mono hBs hιs, r1, ea, fun σ2 sl2 k2 => ⟨?_, ?_⟩⟩
      · have hl2 : σ2.length = (wipe τ vs0).length := by
          have a1 := sl2.len
          have a2 := slw.len
          have a3 := Tg.asgI_len ea
          omega
        have hw : wipe σ2 vs0 = wipe (wipe τ vs0) vs0 := wipe_eq hl2 k2 fun i hi => by
          have := List.all_eq_true.mp hsub i hi
          simpa using this
        rw [hw]
        apply wipe_eq (by rw [wipe_length]) (ts := vs0) (fun i hi => wipe_out hi) (fun i hi => hi)
      · cases et : ft ρ1 M2 with
        | bad => rw [et] at w; exact w.elim
        | exc c M3 => rw [et] at w; exact w.elim
        | ok bb M3 =>
          rw [et] at w
          refine ⟨ρ1, M2, B2, ι2, s3, sl2, ?_⟩
          rw [et]
          intro B4 ι4 H4 t4 s4
          obtain ⟨b4, n4, h4⟩ := t4.out D _ hD3 hDb hDn
          have tt := (t2.trans t3).trans t4
          cases bb with
          | false =>
            rw [if_neg Bool.false_ne_true]
            exact ⟨B4, ι4, M3, acc, vs, tt, hBs.trans t4.sub, hιs.trans t4.pre, s4, h4, b4, n4, ra.mono t4.sub t4.pre, w⟩
          | true =>
            rw [if_pos rfl]
            dsimp only at w
            cases ee : fe ρ1 M3 with
            | bad => rw [ee] at w; exact w.elim
            | exc c M5 => rw [ee] at w; exact w.elim
            | ok u M5 =>
              rw [ee] at w
              dsimp only at w
              split at w
              · rename_i hlim
                refine ⟨ρ1, M3, B4, ι4, s4, sl2.mono t4.sub t4.pre, ?_⟩
                rw [ee]
                intro B5 ι5 H5 t5 s5 v rv
                obtain ⟨b5, n5, h5⟩ := t5.out D _ h4 b4 n4
                have ra5 : URs K B5 ι5 acc vs := (ra.mono t4.sub t4.pre).mono t5.sub t5.pre
                obtain ⟨t6, s6⟩ := outside (o := .lst (vs ++ [v])) (tt.trans t5) hD s5 b5 n5
                exact ⟨vs, h5, by rw [← ra5.len]; exact lim_lt hlim, B5, ι5, M5, acc ++ [u], vs ++ [v], t6, (hBs.trans t4.sub).trans t5.sub, (hιs.trans t4.pre).trans t5.pre, s6, upd_same, b5, n5, paired_append ra5 (.cons rv .nil), w⟩
              · exact w.elim
  · intro Hc h
    rw [List.drop_eq_nil_of_le (Nat.le_refl _)] at h
    exact hd Hc h
/-- the end: the new list is taken in -/
theorem lc_end {K : PySem.W.Frag} {W : WD} {σ : St} {B1 H1 Bs Hc : Hp} {ι1 ιs : List Addr} {D : Addr} {Q : VK} {m : Bool} (hD : H1 D = none)
    (h : LcAt K W σ B1 ι1 H1 D (fun (u : U) B' ι' M' H' => ∀ v, UR K B' ι' u v → Q v H') (fun M acc => .ok (mkL m acc M).1 (mkL m acc M).2) Bs ιs Hc) : Q (.ref D) Hc := by
  obtain ⟨B2, ι2, M2, acc, vs, t2, _, _, s2, hDl, hDb, hDn, ra, w⟩ := h
  obtain ⟨B', ι', t', s', r'⟩ := adopt m t2 hD s2 hDl hDb hDn ra
  exact w B' ι' Hc t' s' _ r'
/-- its reading, from what it computes -/
theorem lc_read {σ : St} {H : Hp} {Q : VK} {g : Tg} {scope : Scope} {fi : DEnv → Mem → R (List Itm)} {ft : DEnv → Mem → R Bool} {fe : DEnv → Mem → R U} {W' : WD} (m : Bool) (hsub : subL (g.slots) (ownS c scope) = true)
    (h : tD X.K W (fun ρ M => (fi ρ M).bind fun items M => (compL g.asgI ft fe (wipeD ρ (ownS c scope)) items M []).bind fun us M => .ok (mkL m us M).1 (mkL m us M).2) σ H Q) :
    tLc (iDr X.K W fi) (gDi X.K g.asgI (g.slots)) (tDb X.K W' ft) (tD X.K W' fe) (ownS c scope) σ H Q := by
  obtain ⟨ρ, M, B, ι, s, sl, h⟩ := h
  refine ⟨ρ, M, B, ι, s, sl, h.bind.imp fun items B1 ι1 M1 H1 t1 s1 h1 J wk D hD => ?_⟩
  obtain ⟨fb, fn⟩ := s1.fresh hD
  obtain ⟨s2, t2⟩ := s1.aside hD (.lst [])
  exact lc_loop (fun us M => .ok (mkL m us M).1 (mkL m us M).2) hsub hD wk (slots_wipe (sl.mono t1.sub t1.pre) (ownS c scope)) ⟨B1, ι1, M1, [], [], t2, Same.refl _, List.prefix_refl _, s2, upd_same, fb, fn, .nil, h1⟩ fun Hc hc => lc_end hD hc
/-! ### two clauses -/
theorem lc2_read {σ : St} {H : Hp} {Q : VK} {g g1 : Tg} {scope : Scope} {fi fi1 : DEnv → Mem → R (List Itm)} {ft ft1 : DEnv → Mem → R Bool} {fe : DEnv → Mem → R U} {W' : WD} (m : Bool) (hsub : subL (g.slots) (ownS c scope) = true)
    (h : tD X.K W (fun ρ M => (fi ρ M).bind fun items M => (compL2 g.asgI ft fi1 g1.asgI ft1 fe (g1.slots) (wipeD ρ (ownS c scope)) items M []).bind fun us M => .ok (mkL m us M).1 (mkL m us M).2) σ H Q) :
    tLc2 (iDr X.K W fi) (gDi X.K g.asgI (g.slots)) (tDb X.K W' ft) (iDr X.K W' fi1) (gDi X.K g1.asgI (g1.slots)) (tDb X.K W' ft1) (tD X.K W' fe) (ownS c scope) (g1.slots) σ H Q := by
  obtain ⟨ρ, M, B, ι, s, sl, h⟩ := h
  refine ⟨ρ, M, B, ι, s, sl, h.bind.imp fun items B1 ι1 M1 H1 t1 s1 h1 J wk D hD => ?_⟩
  obtain ⟨fb, fn⟩ := s1.fresh hD
  obtain ⟨s2, t2⟩ := s1.aside hD (.lst [])
  have slw := slots_wipe (sl.mono t1.sub t1.pre) (ownS c scope)
  have w1 : Walk J items.length (fun H => Same B1 H) (YD X.K B1 ι1 items) := wk
  let Pv : Nat → Hp → Prop := fun i Hc => LcAt X.K W σ B1 ι1 H1 D (fun (u : U) B' ι' M' H' => ∀ v, UR X.K B' ι' u v → Q v H') (fun M acc => (compL2 g.asgI ft fi1 g1.asgI ft1 fe (g1.slots) (wipeD ρ (ownS c scope)) (items.drop i) M acc).bind fun us M => .ok (mkL m us M).1 (mkL m us M).2) B1 ι1 Hc
  refine ⟨fun i mm Hc => mm = items.length - i ∧ i ≤ items.length ∧ Pv i Hc, ⟨_, rfl, Nat.zero_le _, B1, ι1, M1, [], [], t2, Same.refl _, List.prefix_refl _, s2, upd_same, fb, fn, .nil, h1⟩, ?_⟩
  rintro i mm Hc ⟨rfl, hi, p⟩
  have hG : Same B1 Hc := by
    obtain ⟨B2, ι2, M2, acc, vs, t2, hBs, _, s2, _⟩ := p
    exact hBs.trans s2.sub
  by_cases hlt : i < items.length
  · refine .inr ⟨w1.goes i Hc hlt hG, Pv (i + 1), fun H' p' => ⟨_, by omega, rfl, hlt, p'⟩, fun y Hy hy => ?_⟩
    have hy := w1.yields i Hc y Hy hlt hG hy
    obtain ⟨B2, ι2, M2, acc, vs, t2, hBs, hιs, s2, hDl, hDb, hDn, ra, w⟩ := p
    obtain ⟨it, e1, r1, s3, t3⟩ := ItR.here hy hBs hιs s2
    obtain ⟨_, _, hD3⟩ := t3.out D _ hDl hDb hDn
    rw [List.drop_eq_getElem_cons hlt] at w
    have e2 : items[i] = it := by
      rw [List.getElem?_eq_getElem hlt] at e1
      exact Option.some.inj e1
    rw [e2] at w
    have w : Wp X.K W σ B1 ι1 H1 (R.bind (match g.asgI M2 it (wipeD ρ (ownS c scope)) with
      | some ρ1 => match ft ρ1 M2 with
        | .ok true M1 => match fi1 ρ1 M1 with
          | .ok its M2 => (compL g1.asgI ft1 fe (wipeD ρ1 (g1.slots)) its M2 acc).bind fun acc M => compL2 g.asgI ft fi1 g1.asgI ft1 fe (g1.slots) (wipeD ρ (ownS c scope)) (items.drop (i + 1)) M acc
          | _ => .bad
        | .ok false M1 => compL2 g.asgI ft fi1 g1.asgI ft1 fe (g1.slots) (wipeD ρ (ownS c scope)) (items.drop (i + 1)) M1 acc
        | _ => .bad
      | none => .bad) fun us M => .ok (mkL m us M).1 (mkL m us M).2) _ := w
    cases ea : g.asgI M2 it (wipeD ρ (ownS c scope)) with
    | none => rw [ea] at w; exact w.elim
    | some ρ1 =>
      rw [ea] at w
      dsimp only at w
      refine ⟨_, M2, B2, ι2, it, ρ1, s3, slw.mono hBs hιs, r1, ea, fun σ2 sl2 k2 => ⟨?_, ?_⟩⟩
      · have hl2 : σ2.length = (wipe σ (ownS c scope)).length := by
          have a1 := sl2.len
          have a2 := slw.len
          have a3 := Tg.asgI_len ea
          omega
        have hw : wipe σ2 (ownS c scope) = wipe (wipe σ (ownS c scope)) (ownS c scope) := wipe_eq hl2 k2 fun i hi => by
          have := List.all_eq_true.mp hsub i hi
          simpa using this
        rw [hw]
        apply wipe_eq (by rw [wipe_length]) (ts := ownS c scope) (fun i hi => wipe_out hi) (fun i hi => hi)
      · cases et : ft ρ1 M2 with
        | bad => rw [et] at w; exact w.elim
        | exc c M3 => rw [et] at w; exact w.elim
        | ok bb M3 =>
          rw [et] at w
          refine ⟨ρ1, M2, B2, ι2, s3, sl2, ?_⟩
          rw [et]
          intro B4 ι4 H4 t4 s4
          obtain ⟨b4, n4, h4⟩ := t4.out D _ hD3 hDb hDn
          have tt := (t2.trans t3).trans t4
          cases bb with
          | false =>
            rw [if_neg Bool.false_ne_true]
            exact ⟨B4, ι4, M3, acc, vs, tt, hBs.trans t4.sub, hιs.trans t4.pre, s4, h4, b4, n4, ra.mono t4.sub t4.pre, w⟩
          | true =>
            rw [if_pos rfl]
            dsimp only at w
            cases ee : fi1 ρ1 M3 with
            | bad => rw [ee] at w; exact w.elim
            | exc c M5 => rw [ee] at w; exact w.elim
            | ok its M5 =>
              rw [ee] at w
              dsimp only at w
              rw [R.bind_assoc] at w
              refine ⟨ρ1, M3, B4, ι4, s4, sl2.mono t4.sub t4.pre, ?_⟩
              rw [ee]
              intro B5 ι5 H5 t5 s5 J1 wk1
              obtain ⟨b5, n5, h5⟩ := t5.out D _ h4 b4 n4
              have ra5 : URs X.K B5 ι5 acc vs := (ra.mono t4.sub t4.pre).mono t5.sub t5.pre
              refine lc_loop (τ := σ2) (g := g1) (ft := ft1) (fe := fe) (vs0 := g1.slots) _ (List.all_eq_true.mpr fun i hi => by simpa using hi) hD wk1 (slots_wipe ((sl2.mono t4.sub t4.pre).mono t5.sub t5.pre) _) ⟨B5, ι5, M5, acc, vs, tt.trans t5, Same.refl _, List.prefix_refl _, s5, h5, b5, n5, ra5, w⟩ fun Hc hc => ?_
              obtain ⟨B6, ι6, M6, acc6, vs6, t6, hBs6, hι6, rest⟩ := hc
              exact ⟨B6, ι6, M6, acc6, vs6, t6, ((hBs.trans t4.sub).trans t5.sub).trans hBs6, ((hιs.trans t4.pre).trans t5.pre).trans hι6, rest⟩
  · have e : i = items.length := by omega
    subst e
    refine .inl ⟨w1.stops Hc hG, ?_⟩
    have p : LcAt _ _ _ _ _ _ _ _ _ _ _ _ := p
    rw [List.drop_eq_nil_of_le (Nat.le_refl _)] at p
    exact lc_end hD p
theorem de_lc2 {g g1 : Tg} {tg iter tg1 iter1 elt : Expr} {ifs ifs1 : List Expr} {scope : Scope} {pos : Pos} {fi fi1 : DEnv → Mem → R (List Itm)} {ft ft1 : DEnv → Mem → R Bool} {fe : DEnv → Mem → R U} {W' : WD} (x : XOk X c G k cb Wx) (hgt : chkG (c.block scope) g tg = true) (hgt1 : chkG (c.block scope) g1 tg1 = true) (hi : PI X tg iter (iDr X.K W fi)) (hb : blkOk c scope = true) (hsub1 : subL (g1.slots) (ownS c scope) = true)
    (ht : ∀ (s : Shared) (H : Hp) (C : Addr) (cl : List (Str × Addr)) (fp : List Addr), PTs (X.blk s H scope (compEnvC scope cl C X.env) fp) ifs (tDb X.K W' ft)) (he : ∀ (s : Shared) (H : Hp) (C : Addr) (cl : List (Str × Addr)) (fp : List Addr), PE (X.blk s H scope (compEnvC scope cl C X.env) fp) elt (tD X.K W' fe))
    (hi1 : ∀ (s : Shared) (H : Hp) (C : Addr) (cl : List (Str × Addr)) (fp : List Addr), PI (X.blk s H scope (compEnvC scope cl C X.env) fp) tg1 iter1 (iDr X.K W' fi1)) (ht1 : ∀ (s : Shared) (H : Hp) (C : Addr) (cl : List (Str × Addr)) (fp : List Addr), PTs (X.blk s H scope (compEnvC scope cl C X.env) fp) ifs1 (tDb X.K W' ft1))
    (hs : ∀ y, foldedSetIterable iter X.env y = pure y) (hs1 : ∀ env y, foldedSetIterable iter1 env y = pure y) :
    PE X (.ListComp elt [⟨tg, iter, ifs, 0⟩, ⟨tg1, iter1, ifs1, 0⟩] scope pos) (tLc2 (iDr X.K W fi) (gDi X.K g.asgI (g.slots)) (tDb X.K W' ft) (iDr X.K W' fi1) (gDi X.K g1.asgI (g1.slots)) (tDb X.K W' ft1) (tD X.K W' fe) (ownS c scope) (g1.slots)) := by
  have ok : BlkOk X.N X.env.scope scope (ownOf c.N scope.names) := by
    have h := blkOk_by hb
    rw [← x.N, ← x.sc] at h
    rw [x.N] at h ⊢
    exact h
  exact pe_lc2 x.calm x.nd hi ok (fun i hi => show i ∈ ownS c scope from by have := List.all_eq_true.mp hsub1 i hi; simpa using this) (fun s H C cl fp => dg_item (x.block scope ok.kind s H C cl fp) g tg hgt) ht hi1 (fun s H C cl fp => dg_item (x.block scope ok.kind s H C cl fp) g1 tg1 hgt1) ht1 he hs hs1
end
end Mx

set_option Elab.async false
set_option linter.all false
set_option maxRecDepth 100000
set_option maxHeartbeats 4000000
/-! My4: methods. -/
namespace Mx
open PySem PySem.Spec PyProof.Rows L2

theorem mtImp {X : Cx} {id : String} {r r' : V → List V → Hp → VK → Prop} (h : MtR X id r) (k : ∀ x xs H Q, r' x xs H Q → r x xs H Q) : MtR X id r' :=
  fun pins s σ H x xs v us Q I rx rv q => h pins s σ H x xs v us Q I rx rv (k x xs H Q q)
def rMU (K : PySem.W.Frag) (b : Mth) (m : Bool) (t : String) : V → List V → Hp → VK → Prop := fun x xs H Q => ∃ B ι M u us z M', Sim K B ι M H ∧ UR K B ι u x ∧ URs K B ι us xs ∧ b.fnT m t u us M = some (z, M') ∧ Aft K B ι H z M' Q
theorem fnT_of {b : Mth} {m : Bool} {t : String} {x : U} {us : List U} {M : Mem} {r : U × Mem} (h : b.fnT m t x us M = some r) : tyU M x = some t ∧ b.fn m x us M = some r := by
  unfold Mth.fnT at h
  split at h
  · exact ⟨by assumption, h⟩
  · cases h
section
variable {X : Cx}
theorem lstWrote {K : PySem.W.Frag} {B H : Hp} {ι : List Addr} {M : Mem} (s : Sim K B ι M H) {n : Nat} {a : Addr} (hi : ι[n]? = some a) (hb : B a = none) {us : List U} {vs : List V} (r : URs K B ι us vs) :
    Sim K B ι (M.set n (.lst us)) (upd H a (.lst vs)) ∧ Stp B ι H B ι (upd H a (.lst vs)) := s.wrote hi hb ⟨hb, vs, upd_same, r⟩
theorem mt_appendU {m : Bool} : MtR X "list.append" (rMU X.K .append m "list") := by
  refine mtImp (mt_append (X := X)) fun x xs H Q h => ?_
  obtain ⟨B, ι, M, u, us, z, M', s, ru, rs, e, q⟩ := h
  replace e : appendU u us M = some (z, M') := (fnT_of e).2
  unfold appendU at e
  split at e
  · rename_i n w
    obtain ⟨v, rfl, rv⟩ := urs1 rs
    split at e
    · rename_i ws hM
      split at e
      · rename_i hl
        cases e
        obtain ⟨a, rfl, hi, hb, vs, ha, rr⟩ := s.at ru hM
        obtain ⟨s', t'⟩ := lstWrote s hi hb (paired_append rr (.cons rv .nil))
        exact ⟨a, vs, v, rfl, rfl, ha, by rw [← rr.len]; exact lim_lt hl, q _ _ _ _ t' s' .non⟩
      · cases e
    · cases e
  · cases e
theorem mt_extendU {m : Bool} : MtR X "list.extend" (rMU X.K .extend m "list") := by
  refine mtImp (mt_extend (X := X)) fun x xs H Q h => ?_
  obtain ⟨B, ι, M, u, us, z, M', s, ru, rs, e, q⟩ := h
  replace e : extendU u us M = some (z, M') := (fnT_of e).2
  unfold extendU at e
  split at e
  · rename_i n w
    obtain ⟨v, rfl, rv⟩ := urs1 rs
    split at e
    · rename_i ws zs hM hz
      split at e
      · rename_i hl
        cases e
        obtain ⟨a, rfl, hi, hb, vs, ha, rr⟩ := s.at ru hM
        obtain ⟨b, ys, rfl, rz, hbz⟩ := seqU_L s rv hz
        obtain ⟨s', t'⟩ := lstWrote s hi hb (paired_append rr rz)
        exact ⟨a, b, vs, ys, rfl, rfl, ha, hbz, by rw [← rr.len, ← rz.len, ← lim_eq]; exact hl, q _ _ _ _ t' s' .non⟩
      · cases e
    · cases e
  · cases e
theorem paired_erase {α β : Type} {G : α → β → Prop} : ∀ {l : List α} {m : List β} (n : Nat), Paired G l m → Paired G (l.eraseIdx n) (m.eraseIdx n)
  | _, _, _, .nil => .nil
  | _, _, 0, .cons _ b => b
  | _, _, n + 1, .cons a b => .cons a (paired_erase n b)
theorem paired_dropLast {α β : Type} {G : α → β → Prop} : ∀ {l : List α} {m : List β}, Paired G l m → Paired G l.dropLast m.dropLast
  | _, _, .nil => .nil
  | _, _, .cons a .nil => .nil
  | _, _, .cons a (.cons b r) => .cons a (paired_dropLast (.cons b r))
theorem mt_popiU {m : Bool} : MtR X "list.pop" (rMU X.K .popi m "list") := by
  refine mtImp (mt_popAt (X := X)) fun x xs H Q h => ?_
  obtain ⟨B, ι, M, u, us, z, M', s, ru, rs, e, q⟩ := h
  replace e : popiU u us M = some (z, M') := (fnT_of e).2
  unfold popiU at e
  split at e
  · rename_i n i
    obtain ⟨v, rfl, rv⟩ := urs1 rs
    cases rv
    split at e
    · rename_i ws hM
      split at e
      · rename_i hs
        split at e
        · rename_i k hk
          split at e
          · rename_i y hy
            cases e
            obtain ⟨a, rfl, hi, hb, vs, ha, rr⟩ := s.at ru hM
            obtain ⟨v, hv, rv⟩ := paired_get rr hy
            obtain ⟨s', t'⟩ := lstWrote s hi hb (paired_erase k rr)
            have := small64_ok hs
            exact ⟨a, vs, i, k, v, rfl, rfl, ha, by omega, by omega, by rw [← rr.len]; exact hk, hv, q _ _ _ _ t' s' rv⟩
          · cases e
        · cases e
      · cases e
    · cases e
  · cases e
theorem mt_pop0U {m : Bool} : MtR X "list.pop" (rMU X.K .pop0 m "list") := by
  refine mtImp (mt_pop (X := X)) fun x xs H Q h => ?_
  obtain ⟨B, ι, M, u, us, z, M', s, ru, rs, e, q⟩ := h
  replace e : pop0U u us M = some (z, M') := (fnT_of e).2
  unfold pop0U at e
  split at e
  · rename_i n
    cases rs
    split at e
    · rename_i ws hM
      split at e
      · rename_i y hy
        cases e
        obtain ⟨a, rfl, hi, hb, vs, ha, rr⟩ := s.at ru hM
        obtain ⟨v, hv, rv⟩ := paired_get rr hy
        obtain ⟨s', t'⟩ := lstWrote s hi hb (paired_dropLast rr)
        exact ⟨a, vs, v, rfl, rfl, ha, by rw [← rr.len]; exact hv, q _ _ _ _ t' s' rv⟩
      · cases e
    · cases e
  · cases e
theorem mt_insertU {m : Bool} : MtR X "list.insert" (rMU X.K .insert m "list") := by
  refine mtImp (mt_insert (X := X)) fun x xs H Q h => ?_
  obtain ⟨B, ι, M, u, us, z, M', s, ru, rs, e, q⟩ := h
  replace e : insertU u us M = some (z, M') := (fnT_of e).2
  unfold insertU at e
  split at e
  · rename_i n i w
    obtain ⟨v, y, rfl, rv, ry⟩ := urs2 rs
    cases rv
    split at e
    · rename_i ws hM
      split at e
      · rename_i hs
        cases e
        simp only [Bool.and_eq_true, decide_eq_true_eq] at hs
        obtain ⟨⟨h0, h1⟩, h2⟩ := hs
        obtain ⟨a, rfl, hi, hb, vs, ha, rr⟩ := s.at ru hM
        have := small64_ok h1
        obtain ⟨s', t'⟩ := lstWrote s hi hb (paired_append (paired_append (paired_take i.toNat rr) (.cons ry .nil)) (paired_drop i.toNat rr))
        exact ⟨a, vs, i, y, rfl, rfl, ha, by rw [← rr.len]; exact lim_lt h2, h0, by omega, q _ _ _ _ t' s' .non⟩
      · cases e
    · cases e
  · cases e
theorem mt_get2U {m : Bool} (hu : X.A.units + 1 < cLine) : MtR X "dict.get" (rMU X.K .get2 m "dict") := by
  intro pins s σ H x xs v us Q I rx rv h
  obtain ⟨B, ι, M, u, ws, z, M', sm, ru, rs, e, q⟩ := h
  replace e : get2U u ws M = some (z, M') := (fnT_of e).2
  unfold get2U at e
  split at e
  · rename_i y w
    obtain ⟨yv, wv, rfl, ry, rw'⟩ := urs2 rs
    split at e
    · rename_i kvs k hd hk
      cases e
      obtain ⟨a, vs, rfl, hr, rk⟩ := dctU_ok sm ru hd
      have ek := keyU_ok hk ry
      subst ek
      obtain ⟨u1, u2, rfl, r1, r2⟩ := rv.two
      cases rx
      refine d_get2 hu I (.inl ⟨vs, k, hr, rfl, rfl⟩) r1 r2 fun w' s' I' rw'' => ⟨_, H, I', rw'', q _ _ _ _ (Stp.refl _ _ _) sm ?_⟩
      have := lookA_ok (k := k) rk
      revert this
      cases lookA kvs k <;> cases valV vs k <;> intro this
      · exact rw'
      · exact this.elim
      · exact this.elim
      · exact this
    · cases e
  · cases e
theorem flat_plain : ∀ {d : PyData}, flatD d = true → d.plain = true ∧ d.depth = 0
  | .none, _ => ⟨rfl, rfl⟩
  | .bool _, _ => ⟨rfl, rfl⟩
  | .int _, _ => ⟨rfl, rfl⟩
  | .str _, _ => ⟨rfl, rfl⟩
theorem flat_plainAll : ∀ {ds : List PyData}, ds.all flatD = true → PyData.plainAll ds = true
  | [], _ => rfl
  | d :: ds, h => by
    rw [List.all_cons, Bool.and_eq_true] at h
    show (d.plain && PyData.plainAll ds) = true
    rw [(flat_plain h.1).1, flat_plainAll h.2]
    rfl
theorem countP_len (p : PyData → Bool) : ∀ ds : List PyData, ds.countP p = (ds.filter p).length := fun ds => List.countP_eq_length_filter
theorem mt_countL {m : Bool} (hu : X.A.units + 1 < cLine) : MtR X "list.count" (rMU X.K .count m "list") := by
  intro pins s σ H x xs v us Q I rx rv h
  obtain ⟨B, ι, M, u, ws, z, M', sm, ru, rs, e, q⟩ := h
  have ty := (fnT_of e).1
  replace e : countU u ws M = some (z, M') := (fnT_of e).2
  unfold countU at e
  split at e
  · rename_i y
    obtain ⟨yv, rfl, ry⟩ := urs1 rs
    split at e
    · rename_i b ws hq
      split at e
      · rename_i ds hds
        split at e
        · rename_i hf
          cases e
          obtain ⟨f1, f2⟩ := Bool.and_eq_true_iff.mp hf
          have hb : b = true := by
            cases b with
            | true => rfl
            | false =>
              cases u with
              | d x => cases x <;> first | (simp [tyU] at ty; done) | cases hq
              | o n =>
                unfold seqU at hq
                dsimp only at hq
                split at hq <;> cases hq
              | scr ns => cases hq
          subst hb
          obtain ⟨a, vs, rfl, qs, ha⟩ := seqU_L sm ru hq
          cases rx
          obtain ⟨uy, rfl, ruy⟩ := rv.one
          obtain ⟨its, rits, pl, hz⟩ := I.list (show SqL X.K H a vs from .inl (.inl ha))
          obtain ⟨bs, r1⟩ := Dp.reads I y yv uy (DR.dpH sm.sub ry) ruy
          obtain ⟨as, h4⟩ := Dp.readsAll I ds _ its (DRs.dpH sm.sub (allD_rel hds qs)) rits
          refine SeqAt.count_list_data pl.isList (show ReadsAll s.heap its.toArray.toList ds as from h4) r1 (flat_plainAll f2) (flat_plain f1).1 (by rw [(flat_plain f1).2]; omega) ?_
          rw [countP_len]
          exact ⟨.int _, H, I.tok _, ⟨_, rfl⟩, q.flat sm (.int _)⟩
        · cases e
      · cases e
    · cases e
  · cases e
theorem mt_countT {m : Bool} (hu : X.A.units + 1 < cLine) : MtR X "tuple.count" (rMU X.K .count m "tuple") := by
  intro pins s σ H x xs v us Q I rx rv h
  obtain ⟨B, ι, M, u, ws, z, M', sm, ru, rs, e, q⟩ := h
  have ty := (fnT_of e).1
  replace e : countU u ws M = some (z, M') := (fnT_of e).2
  unfold countU at e
  split at e
  · rename_i y
    obtain ⟨yv, rfl, ry⟩ := urs1 rs
    split at e
    · rename_i b ws hq
      split at e
      · rename_i ds hds
        split at e
        · rename_i hf
          cases e
          obtain ⟨f1, f2⟩ := Bool.and_eq_true_iff.mp hf
          have hb : b = false := by
            cases b with
            | false => rfl
            | true =>
              cases u with
              | d x => cases x <;> first | (simp [tyU] at ty; done) | cases hq
              | o n =>
                unfold seqU at hq
                unfold tyU at ty
                dsimp only at hq ty
                split at hq
                · rename_i hm; rw [hm] at ty; simp at ty
                · rename_i hm; rw [hm] at ty; simp at ty
                · cases hq
              | scr ns => cases hq
          subst hb
          obtain ⟨a, vs, rfl, qs, ha⟩ := seqU_T sm ru hq
          cases rx
          obtain ⟨uy, rfl, ruy⟩ := rv.one
          obtain ⟨its, rits, pl, hz⟩ := I.tuple ha
          obtain ⟨bs, r1⟩ := Dp.reads I y yv uy (DR.dpH sm.sub ry) ruy
          obtain ⟨as, h4⟩ := Dp.readsAll I ds _ its (DRs.dpH sm.sub (allD_rel hds qs)) rits
          refine SeqAt.count_tuple_data pl (show ReadsAll s.heap its.toArray.toList ds as from h4) r1 (flat_plainAll f2) (flat_plain f1).1 (by rw [(flat_plain f1).2]; omega) ?_
          rw [countP_len]
          exact ⟨.int _, H, I.tok _, ⟨_, rfl⟩, q.flat sm (.int _)⟩
        · cases e
      · cases e
    · cases e
  · cases e
end
theorem findD_some {x : PyData} : ∀ {ds : List PyData} {i j : Nat}, findD x i ds = some j → i ≤ j ∧ ∃ z, ds[j - i]? = some z ∧ PyData.eqv z x = true ∧ ∀ m z', m < j - i → ds[m]? = some z' → PyData.eqv z' x = false
  | [], _, _, h => nomatch h
  | y :: r, i, j, h => by
    unfold findD at h
    split at h
    · rename_i e
      cases h
      refine ⟨Nat.le_refl _, y, by simp, e, fun m z' hm => by omega⟩
    · rename_i e
      obtain ⟨h1, z, h2, h3, h4⟩ := findD_some h
      refine ⟨by omega, z, ?_, h3, fun m z' hm hz => ?_⟩
      · have : j - i = (j - (i + 1)) + 1 := by omega
        rw [this, List.getElem?_cons_succ]
        exact h2
      · cases m with
        | zero =>
          cases hz
          simpa using e
        | succ m =>
          rw [List.getElem?_cons_succ] at hz
          exact h4 m z' (by omega) hz
theorem shaped_list : ∀ {ds : List PyData}, SeqAt.shaped (.list ds) = true → True := fun _ => trivial
section
variable {X : Cx}
theorem mt_indexU {m : Bool} (hu : X.A.units + 65 < cLine) : MtR X "list.index" (rMU X.K .index m "list") := by
  refine mtImp (mt_indexD hu) fun x xs H Q h => ?_
  obtain ⟨B, ι, M, u, us, z, M', s, ru, rs, e, q⟩ := h
  replace e : indexU u us M = some (z, M') := (fnT_of e).2
  unfold indexU at e
  split at e
  · rename_i y
    obtain ⟨v, rfl, rv⟩ := urs1 rs
    split at e
    · rename_i ws hq
      split at e
      · rename_i ds hds
        split at e
        · rename_i hs
          obtain ⟨h1, h2⟩ := Bool.and_eq_true_iff.mp hs
          split at e
          · rename_i j hj
            cases e
            obtain ⟨a, vs, rfl, qs, ha⟩ := seqU_L s ru hq
            obtain ⟨_, w, g1, g2, g3⟩ := findD_some hj
            exact ⟨a, v, y, ds, j, w, rfl, rfl, .lst (.inl (.inl ha)) (DRs.dpH s.sub (allD_rel hds qs)), DR.dpH s.sub rv, h2, h1, g1, g2, fun m z' hm hz => g3 m z' hm hz, q.flat s (.int _)⟩
          · cases e
        · cases e
      · cases e
    · cases e
  · cases e
theorem mt_splitU {m : Bool} : MtR X "str.split" (rMU X.K .split m "str") := by
  refine mtImp (mt_split (X := X)) fun x xs H Q h => ?_
  obtain ⟨B, ι, M, u, us, z, M', s, ru, rs, e, q⟩ := h
  replace e : splitU m u us M = some (z, M') := (fnT_of e).2
  unfold splitU at e
  split at e
  · rename_i a b
    obtain ⟨v, rfl, rv⟩ := urs1 rs
    cases rv
    cases ru
    split at e
    · rename_i hl
      refine ⟨a, b, rfl, rfl, hl.1, by rw [← lim_eq]; exact hl.2, fun p hp => ?_⟩
      have rr : ∀ l : List Str, URs X.K B ι (l.map fun z => U.d (.str z)) (l.map V.str) := fun l => by
        induction l with
        | nil => exact .nil
        | cons y r ih => exact .cons (.str y) ih
      obtain ⟨B', ι', t, s', r'⟩ := mkL_ok s m (rr (Txt.split a b)) hp
      rw [Option.some.inj e] at s' r'
      exact q _ _ _ _ t s' r'
    · cases e
  · cases e
end
end Mx

set_option Elab.async false
set_option linter.all false
set_option maxRecDepth 100000
set_option maxHeartbeats 4000000
/-! My5: expressions beyond Mx4, Mx5: arguments, displays, built-ins, methods, by what the language computes. -/
namespace Mx
open PySem PySem.Spec PyProof.Rows L2

/-- lists of arguments, from their denotations -/
def evF : List (DEnv → Mem → R U) → DEnv → Mem → R (List U)
  | [], _, M => .ok [] M
  | f :: r, ρ, M => (f ρ M).bind fun u M => (evF r ρ M).bind fun us M => .ok (u :: us) M
section
variable {X : Cx} {K : PySem.W.Frag} {W : WD} {a b e : Expr} {es : List Expr} {pos apos p p2 : Pos} {fa fb : DEnv → Mem → R U} {fl : DEnv → Mem → R (List U)}
theorem da_nil : PA X [] (tDa K W fun _ M => .ok [] M) := paImp pa_nil fun σ H Q ⟨ρ, M, B, ι, s, sl, h⟩ => Wp.ok (α := List U) h s [] .nil
theorem da_cons (hs : noStar e = true) (he : PE X e (tD K W fa)) (hr : PA X es (tDa K W fl)) : PA X (e :: es) (tDa K W fun ρ M => (fa ρ M).bind fun u M => (fl ρ M).bind fun us M => .ok (u :: us) M) := by
  refine paImp (pa_cons he hr (star_cons hs)) fun σ H Q hq => ?_
  obtain ⟨ρ, M, B, ι, s, sl, w⟩ := hq
  refine ⟨ρ, M, B, ι, s, sl, w.bind.imp fun u B1 ι1 M1 H1 t1 s1 h1 v r1 => ?_⟩
  refine ⟨ρ, M1, B1, ι1, s1, sl.mono t1.sub t1.pre, h1.bind.imp fun us B2 ι2 M2 H2 t2 s2 h2 vs r2 => ?_⟩
  exact Wp.ok (α := List U) h2 s2 (v :: vs) (.cons (r1.mono t2.sub t2.pre) r2)
/-- displays, from the arguments' denotation -/
theorem de_tupF {k} (ha : PA X es (tDa K W fl)) : PE X (.Tuple es k pos) (tD K W fun ρ M => (fl ρ M).bind fun us M => ofO (mkTz us M)) := by
  refine peImp (pe_tupX ha) fun σ H Q h => ?_
  obtain ⟨ρ, M, B, ι, s, sl, h⟩ := h
  refine ⟨ρ, M, B, ι, s, sl, h.bind.imp fun us B1 ι1 M1 H1 t1 s1 h1 vs r1 => ?_⟩
  obtain ⟨u, M', e, q⟩ := h1.ofO
  unfold mkTz at e
  split at e
  · rename_i hl
    refine ⟨by rw [← r1.len, ← lim_eq]; exact hl, fun p ob hd hp => ?_⟩
    obtain ⟨B', ι', t, s', r'⟩ := mkT_ok s1 r1 e hp hd
    exact q _ _ _ _ t s' r'
  · cases e
theorem de_lstF (m : Bool) (ha : PA X es (tDa K W fl)) : PE X (.List es pos) (tD K W fun ρ M => (fl ρ M).bind fun us M => ofO (mkLz m us M)) := by
  refine peImp (pe_lst ha) fun σ H Q h => ?_
  obtain ⟨ρ, M, B, ι, s, sl, h⟩ := h
  refine ⟨ρ, M, B, ι, s, sl, h.bind.imp fun us B1 ι1 M1 H1 t1 s1 h1 vs r1 => ?_⟩
  obtain ⟨u, M', e, q⟩ := h1.ofO
  unfold mkLz at e
  split at e
  · rename_i hl
    refine ⟨by rw [← r1.len, ← lim_eq]; exact hl, fun p hp => ?_⟩
    obtain ⟨B', ι', t, s', r'⟩ := mkL_ok s1 m r1 hp
    rw [Option.some.inj e] at s' r'
    exact q _ _ _ _ t s' r'
  · cases e
/-- and, or: as values, as tests -/
theorem de_andF {rest : List Expr} (ha : PE X a (tD X.K W fa)) (hb : PE X (.BoolOp .And (b :: rest) pos) (tD X.K W fb)) :
    PE X (.BoolOp .And (a :: b :: rest) pos) (tD X.K W fun ρ M => (fa ρ M).bind fun u M => match truU M u with | some true => fb ρ M | some false => .ok u M | none => .bad) := by
  refine peImp (pe_andT ha hb) fun σ H Q h => ?_
  obtain ⟨ρ, M, B, ι, s, sl, h⟩ := h
  refine ⟨ρ, M, B, ι, s, sl, h.bind.imp fun u B1 ι1 M1 H1 t1 s1 h1 v r1 => ?_⟩
  cases e : truU M1 u with
  | none => rw [e] at h1; exact h1.elim
  | some c =>
    rw [e] at h1
    refine ⟨c, truU_ok s1 r1 e, ?_⟩
    cases c with
    | true => rw [if_pos rfl]; exact ⟨ρ, M1, B1, ι1, s1, sl.mono t1.sub t1.pre, h1⟩
    | false => rw [if_neg Bool.false_ne_true]; exact Wp.ok (α := U) h1 s1 v r1
theorem de_orF {rest : List Expr} (ha : PE X a (tD X.K W fa)) (hb : PE X (.BoolOp .Or (b :: rest) pos) (tD X.K W fb)) :
    PE X (.BoolOp .Or (a :: b :: rest) pos) (tD X.K W fun ρ M => (fa ρ M).bind fun u M => match truU M u with | some true => .ok u M | some false => fb ρ M | none => .bad) := by
  refine peImp (pe_orT ha hb) fun σ H Q h => ?_
  obtain ⟨ρ, M, B, ι, s, sl, h⟩ := h
  refine ⟨ρ, M, B, ι, s, sl, h.bind.imp fun u B1 ι1 M1 H1 t1 s1 h1 v r1 => ?_⟩
  cases e : truU M1 u with
  | none => rw [e] at h1; exact h1.elim
  | some c =>
    rw [e] at h1
    refine ⟨c, truU_ok s1 r1 e, ?_⟩
    cases c with
    | false => rw [if_neg Bool.false_ne_true]; exact ⟨ρ, M1, B1, ι1, s1, sl.mono t1.sub t1.pre, h1⟩
    | true => rw [if_pos rfl]; exact Wp.ok (α := U) h1 s1 v r1
theorem dw_andF {rest : List Expr} {ga gb : DEnv → Mem → R Bool} (ha : PT X a (tDb K W ga)) (hb : PW X (.BoolOp .And (b :: rest) pos) (tDb K W gb)) :
    PW X (.BoolOp .And (a :: b :: rest) pos) (tDb K W fun ρ M => (ga ρ M).bind fun c M => if c then gb ρ M else .ok false M) := by
  refine pwImp (pw_and ha hb) fun σ H Q h => ?_
  obtain ⟨ρ, M, B, ι, s, sl, h⟩ := h
  refine ⟨ρ, M, B, ι, s, sl, h.bind.imp fun c B1 ι1 M1 H1 t1 s1 h1 => ?_⟩
  cases c with
  | true => rw [if_pos rfl] at h1 ⊢; exact ⟨ρ, M1, B1, ι1, s1, sl.mono t1.sub t1.pre, h1⟩
  | false => rw [if_neg Bool.false_ne_true] at h1 ⊢; exact Wp.ok (α := Bool) h1 s1
theorem dw_orF {rest : List Expr} {ga gb : DEnv → Mem → R Bool} (ha : PT X a (tDb K W ga)) (hb : PW X (.BoolOp .Or (b :: rest) pos) (tDb K W gb)) :
    PW X (.BoolOp .Or (a :: b :: rest) pos) (tDb K W fun ρ M => (ga ρ M).bind fun c M => if c then .ok true M else gb ρ M) := by
  refine pwImp (pw_or ha hb) fun σ H Q h => ?_
  obtain ⟨ρ, M, B, ι, s, sl, h⟩ := h
  refine ⟨ρ, M, B, ι, s, sl, h.bind.imp fun c B1 ι1 M1 H1 t1 s1 h1 => ?_⟩
  cases c with
  | false => rw [if_neg Bool.false_ne_true] at h1 ⊢; exact ⟨ρ, M1, B1, ι1, s1, sl.mono t1.sub t1.pre, h1⟩
  | true => rw [if_pos rfl] at h1 ⊢; exact Wp.ok (α := Bool) h1 s1
/-- slices -/
theorem do_none : PO X none (tDo K W fun _ M => .ok none M) := poImp po_none fun σ H Q ⟨ρ, M, B, ι, s, sl, h⟩ => Wp.ok (α := Option Int) h s
theorem do_some (he : PE X e (tD K W fa)) : PO X (some e) (tDo K W fun ρ M => (fa ρ M).bind toI) := by
  refine poImp (po_some he) fun σ H Q h => ?_
  obtain ⟨ρ, M, B, ι, s, sl, h⟩ := h
  refine ⟨ρ, M, B, ι, s, sl, h.bind.imp fun u B1 ι1 M1 H1 t1 s1 h1 v r1 => ?_⟩
  unfold toI at h1
  split at h1
  · cases r1
    exact ⟨_, rfl, Wp.ok (α := Option Int) h1 s1⟩
  · exact h1.elim
theorem de_slcF {lo hi : Option Expr} {flo fhi : DEnv → Mem → R (Option Int)} (m : Bool) (ha : PE X a (tD X.K W fa)) (hl : PO X lo (tDo X.K W flo)) (hh : PO X hi (tDo X.K W fhi)) :
    PE X (.Subscript a (.Slice lo hi none p2) pos) (tD X.K W fun ρ M => (fa ρ M).bind fun x M => (flo ρ M).bind fun l M => (fhi ρ M).bind fun u M => ofO (slU m x l u M)) := by
  refine peImp (pe_slice (sl_U m) ha hl hh) fun σ H Q h => ?_
  obtain ⟨ρ, M, B, ι, s, sl, h⟩ := h
  refine ⟨ρ, M, B, ι, s, sl, h.bind.imp fun u B1 ι1 M1 H1 t1 s1 h1 v r1 => ?_⟩
  refine ⟨ρ, M1, B1, ι1, s1, sl.mono t1.sub t1.pre, h1.bind.imp fun l B2 ι2 M2 H2 t2 s2 h2 => ?_⟩
  refine ⟨ρ, M2, B2, ι2, s2, (sl.mono t1.sub t1.pre).mono t2.sub t2.pre, h2.bind.imp fun u2 B3 ι3 M3 H3 t3 s3 h3 => ?_⟩
  obtain ⟨z, M', e, q⟩ := h3.ofO
  exact ⟨B3, ι3, M3, u, z, M', s3, (r1.mono t2.sub t2.pre).mono t3.sub t3.pre, e, q⟩
theorem paired_rev {α β : Type} {G : α → β → Prop} : ∀ {l : List α} {m : List β}, Paired G l m → Paired G l.reverse m.reverse
  | _, _, .nil => .nil
  | _, _, .cons a b => by rw [List.reverse_cons, List.reverse_cons]; exact paired_append (paired_rev b) (.cons a .nil)
theorem de_revF {k : Nat} {q1 q2 q3 : Pos} (m : Bool) (ha : PE X a (tD X.K W fa)) :
    PE X (.Subscript a (.Slice none none (some (.UnaryOp .USub (.Constant (.int 1) k q1) q2)) q3) pos) (tD X.K W fun ρ M => (fa ρ M).bind fun x M => ofO (revU m x M)) := by
  refine peImp (pe_revL ha) fun σ H Q h => ?_
  obtain ⟨ρ, M, B, ι, s, sl, h⟩ := h
  refine ⟨ρ, M, B, ι, s, sl, h.bind.imp fun u B1 ι1 M1 H1 t1 s1 h1 v r1 => ?_⟩
  obtain ⟨z, M', e, q⟩ := h1.ofO
  unfold revU at e
  split at e
  · rename_i us hq
    obtain ⟨pa, va, rfl, qa, hh⟩ := seqU_L s1 r1 hq
    refine ⟨pa, va, rfl, .inl (.inl hh), fun p hp => ?_⟩
    obtain ⟨B', ι', t, s', r'⟩ := mkL_ok s1 m (paired_rev qa) hp
    rw [Option.some.inj e] at s' r'
    exact q _ _ _ _ t s' r'
  · cases e
/-- calls of built-ins by name -/
theorem de_callBF {x : Str} {id : String} {g : Opn} (hc : CallR X (.builtin id) (rDn K g)) (hg : Gl X x) (hm : X.mg x = none) (hv : bootBuiltins x = some (.builtin id)) (ha : PA X (e :: es) (tDa K W fl)) (hs : (e :: es).all noStar = true) (hn : x ≠ "__name__") (hdb : (x == ("__debug__" : Str)) = false) :
    PE X (.Call (.Name x p) (e :: es) [] pos) (tD K W fun ρ M => (fl ρ M).bind fun us M => ofO (g us M)) := by
  rw [List.all_cons, Bool.and_eq_true] at hs
  refine peImp (pe_callB hc hg hm hv ha hn hdb (star_cons hs.1) (star_any hs.2)) fun σ H Q h => ?_
  obtain ⟨ρ, M, B, ι, s, sl, h⟩ := h
  refine ⟨ρ, M, B, ι, s, sl, h.bind.imp fun us B1 ι1 M1 H1 t1 s1 h1 vs r1 => ?_⟩
  obtain ⟨z, M', e, q⟩ := h1.ofO
  exact ⟨B1, ι1, M1, us, z, M', s1, r1, e, q⟩
theorem de_callTF {x : Str} {T : String} {g : Opn} (hc : CallR X (.type T) (rDn K g)) (hg : Gl X x) (hm : X.mg x = none) (hv : bootBuiltins x = some (.type T)) (ha : PA X (e :: es) (tDa K W fl)) (hs : (e :: es).all noStar = true) (hn : x ≠ "__name__") (hdb : (x == ("__debug__" : Str)) = false) :
    PE X (.Call (.Name x p) (e :: es) [] pos) (tD K W fun ρ M => (fl ρ M).bind fun us M => ofO (g us M)) := by
  rw [List.all_cons, Bool.and_eq_true] at hs
  refine peImp (pe_callTy hc hg hm hv ha hn hdb (star_cons hs.1) (star_any hs.2)) fun σ H Q h => ?_
  obtain ⟨ρ, M, B, ι, s, sl, h⟩ := h
  refine ⟨ρ, M, B, ι, s, sl, h.bind.imp fun us B1 ι1 M1 H1 t1 s1 h1 vs r1 => ?_⟩
  obtain ⟨z, M', e, q⟩ := h1.ofO
  exact ⟨B1, ι1, M1, us, z, M', s1, r1, e, q⟩
end
/-- calls of the program's own defs, the lacking arguments filled up -/
theorem de_callF {X : Cx} {Wx : WX} {e : Expr} {es : List Expr} {pos p : Pos} {fl : DEnv → Mem → R (List U)} {x : Str} {F : List U → Mem → R U} {k : Nat} {fa : Addr} {fd : FuncData} {ps : List Str} {ds : List Value} {dvs : List V} {dfl : List PyData} (tk : Takes X Wx) (G : FnOk X.prog X.w X.K X.mg X.base (L2.CX X.prog X.w) k fa fd ps (spU X.K X.mg ps.length F)) (hr : Room k X.A) (hg : Gl X x) (hm : X.mg x = some (.ref fa)) (hk : PySem.W.keepIn X.K (.ref fa) = true)
    (hv : Vals dvs ds) (hb : Binds X.K fd ps ds) (hdr : ∀ B, DRs B dvs dfl) (ha : PA X (e :: es) (tDa X.K (wd X.mg Wx) fl)) (hs : (e :: es).all noStar = true) (hl : ∀ ρ M us M', fl ρ M = .ok us M' → us.length + dfl.length = ps.length) (hdb : (x == ("__debug__" : Str)) = false) :
    PE X (.Call (.Name x p) (e :: es) [] pos) (tD X.K (wd X.mg Wx) fun ρ M => (fl ρ M).bind fun us M => F (us ++ dfl.map U.d) M) := by
  rw [List.all_cons, Bool.and_eq_true] at hs
  refine peImp (pe_callSD (E := WE Wx) G hr hg hm hk hb hv (fun σ => passAt tk σ) ha hdb (star_cons hs.1) (star_any hs.2)) fun σ H Q h => ?_
  obtain ⟨ρ, M, B, ι, s, sl, h⟩ := h
  refine ⟨ρ, M, B, ι, s, sl, ?_⟩
  dsimp only at h
  cases he : fl ρ M with
  | bad => rw [he] at h; exact h.elim
  | exc c M1 => rw [he] at h; exact h
  | ok us M1 =>
    rw [he] at h
    intro B1 ι1 H1 t1 s1 vs r1
    have rr : URs X.K B1 ι1 (us ++ dfl.map U.d) (vs ++ dvs) := paired_append r1 (rel_map (hdr B1))
    refine ⟨by rw [← rr.len, List.length_append, List.length_map, hl _ _ _ _ he], us ++ dfl.map U.d, M1, B1, ι1, s1, rr, ?_⟩
    have h : Wp X.K (wd X.mg Wx) σ B ι H (F (us ++ dfl.map U.d) M1) _ := h
    exact (h.shift t1).wish fun c H' z => z
/-- len(set(x)) -/
theorem texts_ok {K : PySem.W.Frag} {B : Hp} {ι : List Addr} : ∀ {us : List U} {vs : List V} {xs : List Str}, texts' us = some xs → URs K B ι us vs → vs = xs.map V.str
  | [], _, _, e, .nil => by cases e; rfl
  | .d (.str b) :: us, _, bs, e, .cons a t => by
    unfold texts' at e
    cases h : texts' us with
    | none => rw [h] at e; cases e
    | some l =>
      rw [h] at e
      cases e
      cases a
      rw [texts_ok h t]
      rfl
  | .d .none :: _, _, _, e, _ => nomatch e
  | .d (.bool _) :: _, _, _, e, _ => nomatch e
  | .d (.int _) :: _, _, _, e, _ => nomatch e
  | .d (.list _) :: _, _, _, e, _ => nomatch e
  | .d (.tuple _) :: _, _, _, e, _ => nomatch e
  | .d (.dict _) :: _, _, _, e, _ => nomatch e
  | .o _ :: _, _, _, e, _ => nomatch e
  | .scr _ :: _, _, _, e, _ => nomatch e
section
variable {X : Cx} {W : WD} {a b : Expr} {p p2 q pos : Pos} {fa fb : DEnv → Mem → R U}
theorem de_lsetF (hc : X.calm = true) (hg : Gl X "len") (hm : X.mg "len" = none) (hg2 : Gl X "set") (hm2 : X.mg "set" = none) (ha : PE X a (tD X.K W fa)) (hs : noStar a = true) :
    PE X (.Call (.Name "len" p) [.Call (.Name "set" p2) [a] [] q] [] pos) (tD X.K W fun ρ M => (fa ρ M).bind fun x M => ofO (lsetU x M)) := by
  refine peImp (pe_lenSetU hc hg hm hg2 hm2 ha (star_cons hs)) fun σ H Q h => ?_
  obtain ⟨ρ, M, B, ι, s, sl, h⟩ := h
  refine ⟨ρ, M, B, ι, s, sl, h.bind.imp fun u B1 ι1 M1 H1 t1 s1 h1 v r1 => ?_⟩
  obtain ⟨z, M', e, qq⟩ := h1.ofO
  unfold lsetU at e
  split at e
  · rename_i bb us hq
    split at e
    · rename_i xs hx
      split at e
      · rename_i hl
        cases e
        obtain ⟨l, vs, rfl, qs, hsq⟩ := seqU_sq s1 r1 hq
        have ev := texts_ok hx qs
        subst ev
        exact ⟨l, xs, rfl, hsq, hl, qq.flat s1 (.int _)⟩
      · cases e
    · cases e
  · cases e
/-- dict(zip(a, b)) -/
theorem keys_ok {K : PySem.W.Frag} {B : Hp} {ι : List Addr} : ∀ {us : List U} {vs : List V} {ks : List Key}, keys' us = some ks → URs K B ι us vs → vs = ks.map kV
  | [], _, _, e, .nil => by cases e; rfl
  | u :: us, _, bs, e, .cons a t => by
    unfold keys' at e
    split at e
    · rename_i k hk
      cases h : keys' us with
      | none => rw [h] at e; cases e
      | some l =>
        rw [h] at e
        cases e
        rw [keys_ok h t, keyU_ok hk a]
        rfl
    · cases e
theorem zip_rel {K : PySem.W.Frag} {B : Hp} {ι : List Addr} : ∀ {ks : List Key} {us : List U} {vs : List V}, URs K B ι us vs → URk K B ι (ks.zip us) (ks.zip vs)
  | [], _, _, _ => .nil
  | k :: ks, _, _, .nil => .nil
  | k :: ks, _, _, .cons a t => .cons ⟨rfl, a⟩ (zip_rel t)
theorem seqU_src {K : PySem.W.Frag} {B H : Hp} {ι : List Addr} {M : Mem} {u : U} {v : V} (s : Sim K B ι M H) (r : UR K B ι u v) {b : Bool} {us : List U} (e : seqU M u = some (b, us)) :
    ∃ (c : Src) (vs : List V), v = .ref c.1 ∧ URs K B ι us vs ∧ sqB K H c vs := by
  obtain ⟨a, vs, h1, h2, h3⟩ := seqU_ok s r e
  cases b with
  | true => exact ⟨(a, true), vs, h1, h2, (show SqL K H a vs from .inl (.inl h3))⟩
  | false =>
    obtain ⟨ob, _, h3⟩ := h3
    exact ⟨(a, false), vs, h1, h2, (show SqT K H a vs from .inl (.inr ⟨ob, h3⟩))⟩
theorem de_dzipF (hc : X.calm = true) (hg0 : Gl X "dict") (hm0 : X.mg "dict" = none) (hg : Gl X "zip") (hm : X.mg "zip" = none) (ha : PE X a (tD X.K W fa)) (hb : PE X b (tD X.K W fb)) (hs : noStar a = true) (hs2 : noStar b = true) :
    PE X (.Call (.Name "dict" p2) [.Call (.Name "zip" p) [a, b] [] q] [] pos) (tD X.K W fun ρ M => (fa ρ M).bind fun x M => (fb ρ M).bind fun y M => ofO (dzipU x y M)) := by
  refine peImp (pe_dzip hc hg0 hm0 hg hm (da_cons hs ha (da_cons hs2 hb da_nil)) (star_cons hs) (star_any (es := [b]) (by rw [List.all_cons, hs2]; rfl))) fun σ H Q h => ?_
  obtain ⟨ρ, M, B, ι, s, sl, h⟩ := h
  refine ⟨ρ, M, B, ι, s, sl, ?_⟩
  dsimp only at h ⊢
  rw [show ∀ (r : R U), (r.bind fun u M => ((fb ρ M).bind fun u M => (R.ok [] M : R (List U)).bind fun us M => .ok (u :: us) M).bind fun us M => .ok (u :: us) M) = r.bind fun x M => (fb ρ M).bind fun y M => .ok [x, y] M from fun r => by
    cases r with
    | ok x M1 =>
      show ((fb ρ M1).bind fun u M => (R.ok [] M : R (List U)).bind fun us M => .ok (u :: us) M).bind (fun us M => .ok (x :: us) M) = (fb ρ M1).bind fun y M => .ok [x, y] M
      cases fb ρ M1 <;> rfl
    | exc c M1 => rfl
    | bad => rfl]
  cases e1 : fa ρ M with
  | bad => rw [e1] at h; exact h.elim
  | exc c M1 => rw [e1] at h; exact h
  | ok x M1 =>
    rw [e1] at h
    have h : Wp X.K W σ B ι H ((fb ρ M1).bind fun y M => ofO (dzipU x y M)) _ := h
    show Wp X.K W σ B ι H ((fb ρ M1).bind fun y M => .ok [x, y] M) _
    cases e2 : fb ρ M1 with
    | bad => rw [e2] at h; exact h.elim
    | exc c M2 => rw [e2] at h; exact h
    | ok y M2 =>
      rw [e2] at h
      have h : Wp X.K W σ B ι H (ofO (dzipU x y M2)) _ := h
      intro B1 ι1 H1 t1 s1 vs r1
      obtain ⟨z, M', e, qq⟩ := (h.shift t1).ofO
      obtain ⟨vx, vy, rfl, rx, ry⟩ := urs2 r1
      unfold dzipU at e
      split at e
      · rename_i b1 us b2 ws hx hy
        split at e
        · rename_i ks hk
          cases e
          obtain ⟨c1, vs1, rfl, q1, g1⟩ := seqU_src s1 rx hx
          obtain ⟨c2, vs2, rfl, q2, g2⟩ := seqU_src s1 ry hy
          have ev := keys_ok hk q1
          subst ev
          refine ⟨c1, c2, ks, vs2, rfl, g1, g2, fun p hp => ?_⟩
          obtain ⟨B', ι', t, s', r'⟩ := dct_new s1 (mergeA_ok (zip_rel (ks := ks) q2) .nil) hp
          exact qq _ _ _ _ t s' r'
        · cases e
      · cases e
theorem paired_split {α β : Type} {G : α → β → Prop} : ∀ {l₁ l₂ : List α} {m : List β}, Paired G (l₁ ++ l₂) m → ∃ m₁ m₂, m = m₁ ++ m₂ ∧ Paired G l₁ m₁ ∧ Paired G l₂ m₂
  | [], _, m, p => ⟨[], m, rfl, .nil, p⟩
  | a :: l, _, _, .cons h p => by
    obtain ⟨m1, m2, rfl, p1, p2⟩ := paired_split p
    exact ⟨_ :: m1, m2, rfl, .cons h p1, p2⟩
theorem drs_append {B : Hp} : ∀ {xs ys : List PyData} {vs ws : List V}, DRs B vs xs → DRs B ws ys → DRs B (vs ++ ws) (xs ++ ys)
  | [], _, _, _, .nil, h => h
  | _ :: _, _, _, _, .cons a b, h => .cons a (drs_append b h)
/-- tuple(zip(a, b)) -/
theorem laid_sim {K : PySem.W.Frag} {ι : List Addr} {M : Mem} {H H' : Hp} {r : List (V × V)} {vs : List V} (l : Laid H r vs H') : ∀ {B : Hp} (s : Sim K B ι M H) (ds : List (PyData × PyData)), Paired (fun p q => DR B p.1 q.1 ∧ DR B p.2 q.2) r ds →
    ∃ B', Sim K B' ι M H' ∧ Stp B ι H B' ι H' ∧ DRs B' vs (ds.map fun p => .tuple [p.1, p.2]) := by
  induction l with
  | nil => intro B s ds p; cases p; exact ⟨B, s, Stp.refl _ _ _, .nil⟩
  | snoc l hT hd ih =>
    intro B s ds p
    obtain ⟨d1, d2, rfl, p1, p2⟩ := paired_split p
    cases p2 with
    | cons a b =>
      cases b
      obtain ⟨B1, s1, t1, q1⟩ := ih s _ p1
      obtain ⟨s2, t2⟩ := s1.froze hT (tpl _ _)
      refine ⟨_, s2, t1.trans t2, ?_⟩
      rw [List.map_append]
      refine drs_append (DRs.mono t2.sub q1) (.cons (.tup hd upd_same ?_) .nil)
      exact .cons (DR.mono (t1.sub.trans t2.sub) a.1) (.cons (DR.mono (t1.sub.trans t2.sub) a.2) .nil)
theorem zipD_eq : ∀ (xs ys : List PyData), zipD xs ys = (xs.zip ys).map fun p => .tuple [p.1, p.2]
  | [], ys => by cases ys <;> rfl
  | _ :: _, [] => rfl
  | x :: r, y :: t => by
    show .tuple [x, y] :: zipD r t = _
    rw [zipD_eq r t]
    rfl
theorem zip_drs {B : Hp} : ∀ {xs ys : List PyData} {vs ws : List V}, DRs B vs xs → DRs B ws ys → Paired (fun (p : V × V) (q : PyData × PyData) => DR B p.1 q.1 ∧ DR B p.2 q.2) (vs.zip ws) (xs.zip ys)
  | [], _, _, _, .nil, _ => .nil
  | _ :: _, [], _, _, .cons _ _, .nil => .nil
  | _ :: _, _ :: _, _, _, .cons a b, .cons c d => .cons ⟨a, c⟩ (zip_drs b d)
theorem de_tzipF (hc : X.calm = true) (hg0 : Gl X "tuple") (hm0 : X.mg "tuple" = none) (hg : Gl X "zip") (hm : X.mg "zip" = none) (ha : PE X a (tD X.K W fa)) (hb : PE X b (tD X.K W fb)) (hs : noStar a = true) (hs2 : noStar b = true) :
    PE X (.Call (.Name "tuple" p2) [.Call (.Name "zip" p) [a, b] [] q] [] pos) (tD X.K W fun ρ M => (fa ρ M).bind fun x M => (fb ρ M).bind fun y M => ofO (tzipU x y M)) := by
  refine peImp (pe_tzip hc hg0 hm0 hg hm (da_cons hs ha (da_cons hs2 hb da_nil)) (star_cons hs) (star_any (es := [b]) (by rw [List.all_cons, hs2]; rfl))) fun σ H Q h => ?_
  obtain ⟨ρ, M, B, ι, s, sl, h⟩ := h
  refine ⟨ρ, M, B, ι, s, sl, ?_⟩
  dsimp only at h ⊢
  rw [show ∀ (r : R U), (r.bind fun u M => ((fb ρ M).bind fun u M => (R.ok [] M : R (List U)).bind fun us M => .ok (u :: us) M).bind fun us M => .ok (u :: us) M) = r.bind fun x M => (fb ρ M).bind fun y M => .ok [x, y] M from fun r => by
    cases r with
    | ok x M1 =>
      show ((fb ρ M1).bind fun u M => (R.ok [] M : R (List U)).bind fun us M => .ok (u :: us) M).bind (fun us M => .ok (x :: us) M) = (fb ρ M1).bind fun y M => .ok [x, y] M
      cases fb ρ M1 <;> rfl
    | exc c M1 => rfl
    | bad => rfl]
  cases e1 : fa ρ M with
  | bad => rw [e1] at h; exact h.elim
  | exc c M1 => rw [e1] at h; exact h
  | ok x M1 =>
    rw [e1] at h
    have h : Wp X.K W σ B ι H ((fb ρ M1).bind fun y M => ofO (tzipU x y M)) _ := h
    show Wp X.K W σ B ι H ((fb ρ M1).bind fun y M => .ok [x, y] M) _
    cases e2 : fb ρ M1 with
    | bad => rw [e2] at h; exact h.elim
    | exc c M2 => rw [e2] at h; exact h
    | ok y M2 =>
      rw [e2] at h
      have h : Wp X.K W σ B ι H (ofO (tzipU x y M2)) _ := h
      intro B1 ι1 H1 t1 s1 vs r1
      obtain ⟨z, M', e, qq⟩ := (h.shift t1).ofO
      obtain ⟨vx, vy, rfl, rx, ry⟩ := urs2 r1
      unfold tzipU at e
      split at e
      · rename_i b1 us b2 ws hx hy
        split at e
        · rename_i ds1 ds2 hd1 hd2
          cases e
          obtain ⟨c1, vs1, rfl, q1, g1⟩ := seqU_src s1 rx hx
          obtain ⟨c2, vs2, rfl, q2, g2⟩ := seqU_src s1 ry hy
          refine ⟨c1, c2, vs1, vs2, rfl, g1, g2, fun as H' la p ob hob hp => ?_⟩
          obtain ⟨B', s', t', r'⟩ := laid_sim la s1 _ (zip_drs (allD_rel hd1 q1) (allD_rel hd2 q2))
          obtain ⟨s2, t2⟩ := s'.froze hp (tpl ob as)
          refine qq _ _ _ _ (t'.trans t2) s2 (DR.tup hob upd_same ?_)
          rw [zipD_eq]
          exact DRs.mono t2.sub r'
        · cases e
      · cases e
/-- dict(x) -/
theorem pairs_ok {K : PySem.W.Frag} {B H : Hp} {ι : List Addr} (hs : Same B H) : ∀ {us : List U} {vs : List V} {kvs : List (Key × U)}, pairsU us = some kvs → URs K B ι us vs →
    ∃ (ps : List Addr) (ws : List (Key × V)), vs = ps.map V.ref ∧ Paired (fun p kv => SqT K H p [kV kv.1, kv.2]) ps ws ∧ URk K B ι kvs ws
  | [], _, _, e, .nil => by cases e; exact ⟨[], [], rfl, .nil, .nil⟩
  | .d (.tuple [k, x]) :: us, _, bs, e, .cons a t => by
    unfold pairsU at e
    split at e
    · rename_i kk hk
      cases h : pairsU us with
      | none => rw [h] at e; cases e
      | some l =>
        rw [h] at e
        cases e
        obtain ⟨ps, ws, rfl, h2, h3⟩ := pairs_ok hs h t
        cases a with
        | tup hd hb hr =>
          cases hr with
          | cons r1 hr =>
            cases hr with
            | cons r2 hr =>
              cases hr
              rename_i a0 ob v1 v2
              have e1 : v1 = kV kk := keyU_ok (K := K) (B := B) (ι := ι) (u := .d k) hk r1
              subst e1
              exact ⟨a0 :: ps, (kk, v2) :: ws, rfl, .cons (.inl (.inr ⟨ob, hs _ _ hb⟩)) h2, .cons ⟨rfl, r2⟩ h3⟩
    · cases e
theorem call_dictU {X : Cx} (hc : X.calm = true) : CallR X (.type "dict") (rDn X.K dictU) := by
  refine callImp (CallR.or (call_dictP hc) call_dictD) fun xs H Q h => ?_
  obtain ⟨B, ι, M, us, u, M', s, r, e, q⟩ := h
  unfold dictU at e
  split at e
  · obtain ⟨v, rfl, rv⟩ := urs1 r
    split at e
    · rename_i kvs hd
      cases e
      obtain ⟨a, vs, rfl, hr, rk⟩ := dctU_ok s rv hd
      refine .inr ⟨a, vs, rfl, hr, fun p hp => ?_⟩
      obtain ⟨B', ι', t, s', r'⟩ := dct_new s rk hp
      exact q _ _ _ _ t s' r'
    · split at e
      · rename_i ws hq
        split at e
        · rename_i kvs hp
          cases e
          obtain ⟨a, vs, rfl, qs, ha⟩ := seqU_L s rv hq
          obtain ⟨ps, prs, rfl, h2, h3⟩ := pairs_ok s.sub hp qs
          refine .inl ⟨a, ps, prs, rfl, .inl (.inl ha), h2, fun p hp => ?_⟩
          obtain ⟨B', ι', t, s', r'⟩ := dct_new s (mergeA_ok h3 .nil) hp
          exact q _ _ _ _ t s' r'
        · cases e
      · cases e
  · cases e
end
end Mx

set_option Elab.async false
set_option linter.all false
set_option maxRecDepth 100000
set_option maxHeartbeats 4000000
/-! My6: sorted; method calls. -/
namespace Mx
open PySem PySem.Spec PyProof.Rows L2

theorem insD_perm (x : PyData) : ∀ l : List PyData, (insD x l).Perm (x :: l)
  | [] => List.Perm.refl _
  | y :: r => by
    unfold insD
    split
    · exact List.Perm.refl _
    · exact ((insD_perm x r).cons y).trans (List.Perm.swap x y r)
theorem sortD_perm : ∀ l : List PyData, (sortD l).Perm l
  | [] => List.Perm.refl _
  | x :: r => (insD_perm x (sortD r)).trans ((sortD_perm r).cons x)
theorem strictD_pw : ∀ {l : List PyData}, strictD l = true → l.Pairwise fun a b => PySem.W.dataLt a b = true
  | [], _ => .nil
  | x :: r, h => by
    unfold strictD at h
    rw [Bool.and_eq_true] at h
    exact .cons (fun y hy => List.all_eq_true.mp h.1 y hy) (strictD_pw h.2)
def leD (a b : PyData) : Bool := PySem.W.dataLe false (fun d : PyData => d) a b
theorem leD_eq (a b : PyData) : leD a b = !PySem.W.dataLt b a := rfl
theorem ltD_trans {a b c : PyData} (h : PySem.W.dataLt a b = true) (k : PySem.W.dataLt b c = true) : PySem.W.dataLt a c = true := (listOrd itemOrd).trans _ _ _ h k
theorem ltD_irr (a : PyData) : PySem.W.dataLt a a = false := (listOrd itemOrd).irrefl _
theorem ltD_asymm {a b : PyData} (h : PySem.W.dataLt a b = true) : PySem.W.dataLt b a = false := by
  cases e : PySem.W.dataLt b a with
  | false => rfl
  | true =>
    have := ltD_trans h e
    rw [ltD_irr] at this
    cases this
theorem same_sorted : ∀ {l m : List PyData}, l.Perm m → (l.Pairwise fun a b => PySem.W.dataLt a b = true) → (m.Pairwise fun a b => leD a b = true) → l = m
  | [], m, h, _, _ => (List.Perm.nil_eq h)
  | x :: r, [], h, _, _ => by cases h.length_eq
  | x :: r, y :: t, h, hl, hm => by
    have hl' := List.pairwise_cons.mp hl
    have hm' := List.pairwise_cons.mp hm
    have e : x = y := by
      have hx : x ∈ y :: t := h.subset List.mem_cons_self
      have hy : y ∈ x :: r := h.symm.subset List.mem_cons_self
      rcases List.mem_cons.mp hx with hx | hx
      · exact hx
      · rcases List.mem_cons.mp hy with hy | hy
        · exact hy.symm
        · have a1 := hl'.1 y hy
          have a2 := hm'.1 x hx
          rw [leD_eq, a1] at a2
          cases a2
    subst e
    rw [same_sorted (List.perm_cons x |>.mp h) hl'.2 hm'.2]
theorem sortD_is {ds : List PyData} (h : strictD (sortD ds) = true) : sortD ds = ds.mergeSort (PySem.W.dataLe false fun d : PyData => d) :=
  same_sorted ((sortD_perm ds).trans (List.mergeSort_perm ds _).symm) (strictD_pw h) (PySem.W.sort_pairwise (PySem.W.sortLe_total (listOrd itemOrd) false fun d : PyData => PySem.W.keyToks d) ds)
theorem each_of {B : Hp} : ∀ {ds : List PyData} {vs : List V} {us : List Value}, DRs B vs ds → Vals vs us → PySem.W.EachIs (fun v d => ∃ x, RelV x v ∧ DR B x d) us ds
  | [], _, _, .nil, .nil => .nil
  | _ :: _, _, _, .cons a b, .cons c d => .cons ⟨_, c, a⟩ (each_of b d)
theorem of_each {B : Hp} : ∀ {ds : List PyData} {us : List Value}, PySem.W.EachIs (fun v d => ∃ x, RelV x v ∧ DR B x d) us ds → ∃ vs, DRs B vs ds ∧ Vals vs us
  | [], _, .nil => ⟨[], .nil, .nil⟩
  | _ :: _, _, .cons ⟨x, a, b⟩ t => by
    obtain ⟨vs, h1, h2⟩ := of_each t
    exact ⟨x :: vs, .cons b h1, .cons a h2⟩
theorem each_reads {X : Cx} {pins : List (Addr × Obj)} {σ : L2.St} {B H : Hp} {s : Shared} (I : Inv X pins σ H s) (hs : Same B H) : ∀ {ds : List PyData} {vs : List V} {us : List Value}, DRs B vs ds → Vals vs us → PySem.W.EachIs (fun v d => ∃ as, Reads s.heap v d as) us ds
  | [], _, _, .nil, .nil => .nil
  | d :: _, _, _, .cons a b, .cons c e => .cons (Dp.reads I d _ _ (DR.dpH hs a) c) (each_reads I hs b e)
theorem call_sortedU {X : Cx} (hu : X.A.units + 64 < cLine) (m : Bool) : CallR X (.builtin "sorted") (rDn X.K (sortedU m)) := by
  intro pins s σ H xs us Q I rx h
  obtain ⟨B, ι, M, ws, z, M', sm, r, e, q⟩ := h
  unfold sortedU at e
  split at e
  · rename_i u
    obtain ⟨v, rfl, rv⟩ := urs1 r
    split at e
    · rename_i items hq
      split at e
      · rename_i ds hds
        split at e
        · rename_i hc
          simp only [Bool.and_eq_true, decide_eq_true_eq] at hc
          obtain ⟨⟨⟨⟨h1, h2⟩, h3⟩, h4⟩, h5⟩ := hc
          obtain ⟨a, vs, rfl, qs, ha⟩ := seqU_L sm rv hq
          obtain rfl := Vals.ref1 rx
          obtain ⟨its, rits, pl, hz⟩ := I.list (show SqL X.K H a vs from .inl (.inl ha))
          have hdr := allD_rel hds qs
          have hal : PySem.W.AllAlike (ds.map fun d : PyData => d) := by
            rw [List.map_id']
            exact fun d hd d' hd' => List.all_eq_true.mp (List.all_eq_true.mp h1 d hd) d' hd'
          have hsort : PySem.W.Sortable (ds.map fun d : PyData => d) := by
            rw [List.map_id']
            rcases Bool.or_eq_true_iff.mp h2 with k | k
            · refine .inl fun d hd => ?_
              have := List.all_eq_true.mp k d hd
              unfold isTup1 at this
              split at this
              · exact ⟨_, _, rfl⟩
              · cases this
            · refine .inr fun d hd => ?_
              have := List.all_eq_true.mp k d hd
              unfold noTup at this
              split at this
              · cases this
              · cases this
              · rename_i n1 n2
                exact ⟨fun e => n1 e, fun xs e => n2 xs e⟩
          refine PySem.W.sorted_data (enc := fun d : PyData => d) pl.isList (each_of hdr rits) (each_reads I sm.sub hdr rits) hal hsort (by rw [← lim_eq]; exact h5) (fun d hd => ?_) fun out hlen he => ?_
          · have := List.all_eq_true.mp h4 d hd
            simp only [decide_eq_true_eq] at this
            omega
          · rw [← sortD_is h3] at he
            obtain ⟨ws, g1, g2⟩ := of_each he
            obtain ⟨ep, he'⟩ := PyProof.Rows.sortedAll_at s.heap its out.toArray
            have hl2 : ws.length ≤ sizeLine := by
              rw [g1.length, (sortD_perm ds).length_eq, ← lim_eq]
              exact h5
            have fr : H (s.heap.objs.size + 1) = none := I.hok.fresh (Nat.le_succ _)
            have rr : URs X.K B ι ((sortD ds).map U.d) ws := rel_map g1
            obtain ⟨B', ι', t, s', r'⟩ := mkL_ok sm m rr fr
            rw [Option.some.inj e] at s' r'
            exact ⟨.ref _, upd H (s.heap.objs.size + 1) (.lst ws), I.laid (t' := s.toks) (fun _ _ => PyProof.Rows.sortedAll_old) (Nat.le_succ _) ⟨hl2, out, ep, g2, he'⟩, rfl, q _ _ _ _ t s' r'⟩
        · cases e
      · cases e
    · cases e
  · cases e

/-! ### built-ins by name -/
def Bif.name : Bif → Str
  | .len => "len" | .all => "all" | .any => "any" | .sum => "sum" | .max => "max" | .min => "min" | .int => "int" | .tuple => "tuple" | .list => "list" | .dict => "dict" | .sorted => "sorted"
theorem de_bifF {X : Cx} {W : WD} {e : Expr} {es : List Expr} {p pos : Pos} {fl : DEnv → Mem → R (List U)} {k : Nat} (b : Bif) (m : Bool) (hc : X.calm = true) (hr : Room k X.A) (hg : Gl X b.name) (hm : X.mg b.name = none) (ha : PA X (e :: es) (tDa X.K W fl)) (hs : (e :: es).all noStar = true) :
    PE X (.Call (.Name b.name p) (e :: es) [] pos) (tD X.K W fun ρ M => (fl ρ M).bind fun us M => ofO (b.fn m us M)) := by
  cases b with
  | len => exact de_callBF (id := "len") call_lenU hg hm (by decide +kernel) ha hs (by decide) (by decide)
  | all => exact de_callBF (id := "all") (call_allU hc) hg hm (by decide +kernel) ha hs (by decide) (by decide)
  | any => exact de_callBF (id := "any") (call_anyU hc) hg hm (by decide +kernel) ha hs (by decide) (by decide)
  | sum => exact de_callBF (id := "sum") (call_sumU hc) hg hm (by decide +kernel) ha hs (by decide) (by decide)
  | max => exact de_callBF (id := "max") (call_maxU hc) hg hm (by decide +kernel) ha hs (by decide) (by decide)
  | min => exact de_callBF (id := "min") (call_minU hc) hg hm (by decide +kernel) ha hs (by decide) (by decide)
  | int => exact de_callTF (T := "int") call_toIntU hg hm (by decide +kernel) ha hs (by decide) (by decide)
  | tuple => exact de_callTF (T := "tuple") call_tupleU hg hm (by decide +kernel) ha hs (by decide) (by decide)
  | list => exact de_callTF (T := "list") (call_listU m) hg hm (by decide +kernel) ha hs (by decide) (by decide)
  | dict => exact de_callTF (T := "dict") (call_dictU hc) hg hm (by decide +kernel) ha hs (by decide) (by decide)
  | sorted => exact de_callBF (id := "sorted") (call_sortedU hr.units m) hg hm (by decide +kernel) ha hs (by decide) (by decide)

/-! ### methods -/
def Mth.name : Mth → Str
  | .append => "append" | .extend => "extend" | .popi => "pop" | .pop0 => "pop" | .get2 => "get" | .count => "count" | .index => "index" | .insert => "insert" | .split => "split"
theorem bm_ty {X : Cx} {pins : List (Addr × Obj)} {σ : L2.St} {B H : Hp} {ι : List Addr} {M : Mem} {s : Shared} {u : U} {v : V} {w : Value} {t : String} (I : Inv X pins σ H s) (sm : Sim X.K B ι M H) (r : UR X.K B ι u v) (rv : RelV v w) (e : tyU M u = some t) (ht : t = "list" ∨ t = "tuple" ∨ t = "str" ∨ t = "dict") :
    s.TypeIs w t ∧ ∀ a, w = .ref a → ∃ ob, s.heap.get? a = some ob ∧ ob.dict = none := by
  have lst : ∀ a vs, H a = some (.lst vs) → s.TypeIs (.ref a) "list" ∧ ∀ b, Value.ref a = .ref b → ∃ ob, s.heap.get? b = some ob ∧ ob.dict = none := fun a vs ha => by
    obtain ⟨_, its, n, _, hg⟩ := I.hok a _ ha
    refine ⟨⟨_, hg, rfl⟩, fun b e => ?_⟩
    cases e
    exact ⟨_, hg, rfl⟩
  cases u with
  | d x =>
    cases x with
    | none => cases e; simp at ht
    | bool b => cases e; simp at ht
    | int b => cases e; simp at ht
    | str b =>
      cases e
      cases r
      obtain ⟨tk, rfl⟩ := rv
      exact ⟨typeIs_str s _ _, fun _ e => nomatch e⟩
    | list ds =>
      cases e
      cases r with
      | lst ha _ =>
        cases rv
        exact lst _ _ (sm.sub _ _ ha)
    | tuple ds =>
      cases e
      cases r with
      | tup hd ha _ =>
        cases rv
        obtain ⟨hg, hz, its, _, ob, ho, hc, _⟩ := I.hok _ _ (sm.sub _ _ ha)
        refine ⟨⟨_, ho, hc⟩, fun b e => ?_⟩
        cases e
        exact ⟨_, hg, hd⟩
    | dict b => cases e
  | o n =>
    unfold tyU at e
    dsimp only at e
    split at e
    · rename_i hM
      cases e
      obtain ⟨a, rfl, hi, _, vs, h1, q⟩ := sm.at r hM
      cases rv
      exact lst _ _ h1
    · rename_i hM
      cases e
      obtain ⟨a, rfl, hi, vs, h1, q⟩ := sm.at r hM
      cases rv
      exact lst _ _ (sm.sub _ _ h1)
    · rename_i hM
      cases e
      obtain ⟨a, rfl, hi, _, vs, h1, q⟩ := sm.at r hM
      cases rv
      obtain ⟨t1, t2, _⟩ := isD_at I (.inl ⟨vs, .inl h1⟩)
      exact ⟨t1, t2⟩
    · cases e
  | scr ns => cases e
/-- the method's slot, by the type of its receiver -/
structure MRow (X : Cx) (b : Mth) (m : Bool) (t : String) : Prop where
  ex : ∃ id, PlainAttrs t ∧ Slot t b.name id ∧ typeOf (.builtin id) = pure (.type "method_descriptor") ∧ MtR X id (rMU X.K b m t)
  ty : t = "list" ∨ t = "tuple" ∨ t = "str" ∨ t = "dict"
theorem mrow {X : Cx} {k : Nat} (hr : Room k X.A) (b : Mth) (m : Bool) (t : String) (h : b.ty t = true) : MRow X b m t := by
  have hu : X.A.units + 1 < cLine := hu_of hr
  have hu2 : X.A.units + 65 < cLine := by have := hr.un; omega
  cases b with
  | append => obtain rfl : t = "list" := by simpa [Mth.ty] using h
              exact ⟨⟨_, PySem.F.plainAttrs_list, PySem.F.slot_list_append, PySem.F.type_list_append, mt_appendU⟩, .inl rfl⟩
  | extend => obtain rfl : t = "list" := by simpa [Mth.ty] using h
              exact ⟨⟨_, PySem.F.plainAttrs_list, PySem.F.slot_list_extend, PySem.F.type_list_extend, mt_extendU⟩, .inl rfl⟩
  | popi => obtain rfl : t = "list" := by simpa [Mth.ty] using h
            exact ⟨⟨_, PySem.F.plainAttrs_list, PySem.F.slot_list_pop, PySem.F.type_list_pop, mt_popiU⟩, .inl rfl⟩
  | pop0 => obtain rfl : t = "list" := by simpa [Mth.ty] using h
            exact ⟨⟨_, PySem.F.plainAttrs_list, PySem.F.slot_list_pop, PySem.F.type_list_pop, mt_pop0U⟩, .inl rfl⟩
  | insert => obtain rfl : t = "list" := by simpa [Mth.ty] using h
              exact ⟨⟨_, PySem.F.plainAttrs_list, PySem.F.slot_list_insert, PySem.F.type_list_insert, mt_insertU⟩, .inl rfl⟩
  | index => obtain rfl : t = "list" := by simpa [Mth.ty] using h
             exact ⟨⟨_, PySem.F.plainAttrs_list, PySem.F.slot_list_index, PySem.F.type_list_index, mt_indexU hu2⟩, .inl rfl⟩
  | get2 => obtain rfl : t = "dict" := by simpa [Mth.ty] using h
            exact ⟨⟨_, PySem.F.plainAttrs_dict, PySem.F.slot_dict_get, PySem.F.type_dict_get, mt_get2U hu⟩, .inr (.inr (.inr rfl))⟩
  | split => obtain rfl : t = "str" := by simpa [Mth.ty] using h
             exact ⟨⟨_, PySem.F.plainAttrs_str, PySem.F.slot_str_split, PySem.F.type_str_split, mt_splitU⟩, .inr (.inr (.inl rfl))⟩
  | count =>
    have h : t = "list" ∨ t = "tuple" := by simpa [Mth.ty] using h
    rcases h with rfl | rfl
    · exact ⟨⟨_, PySem.F.plainAttrs_list, PySem.F.slot_list_count, PySem.F.type_list_count, mt_countL hu⟩, .inl rfl⟩
    · exact ⟨⟨_, PySem.F.plainAttrs_tuple, PySem.F.slot_tuple_count, PySem.F.type_tuple_count, mt_countT hu⟩, .inr (.inl rfl)⟩
/-- not a call of super() -/
def noSup : Expr → Bool
  | .Call (.Name _ _) [] [] _ => false
  | _ => true
theorem base_of {o : Expr} {name : Str} {env : Env} (h : noSup o = true) : attributeBase o name env (eval o env) = eval o env := by
  unfold attributeBase
  cases o with
  | Call f as ks pos =>
    cases f with
    | Name id p =>
      cases as with
      | nil =>
        cases ks with
        | nil => cases h
        | cons a b => rfl
      | cons a b => rfl
    | _ => rfl
  | _ => rfl
theorem tD_type {X : Cx} {b : Mth} {t : String} : True := trivial
section
variable {X : Cx} {W : WD} {o e : Expr} {es : List Expr} {apos cpos : Pos} {fo : DEnv → Mem → R U} {fl : DEnv → Mem → R (List U)} {k : Nat}
theorem de_mthF (b : Mth) (m : Bool) (hr : Room k X.A) (ho : PE X o (tD X.K W fo)) (ha : PA X (e :: es) (tDa X.K W fl)) (hb : noSup o = true) (hline : (apos.endLine == cpos.line) = true) (hs : (e :: es).all noStar = true) (hl : (e :: es).length < 20) :
    PE X (.Call (.Attribute o b.name apos) (e :: es) [] cpos) (tD X.K W fun ρ M => (fo ρ M).bind fun x M => match tyU M x with
      | some t => if b.ty t then (fl ρ M).bind fun us M => ofO (b.fnT m t x us M) else .bad
      | none => .bad) := by
  have hs' := hs
  rw [List.all_cons, Bool.and_eq_true] at hs'
  have hfew : ((backTo cpos (starEach (e :: es) X.env)).all (fun x => !x.1) && (backToKw cpos (keywordEach [] X.env)).all (fun x => x.1.isSome)
      && decide ((e :: es).length + ([] : List Keyword).length + (if ([] : List Keyword).isEmpty then 0 else 1) < 30)) = true := by
    rw [star_all hs, Bool.true_and]
    refine Bool.and_eq_true_iff.mpr ⟨rfl, decide_eq_true ?_⟩
    show (e :: es).length + 0 + 0 < 30
    omega
  refine ⟨fun pins s σ H Q I h => ?_⟩
  obtain ⟨ρ, M, B, ι, sm, sl, h⟩ := h
  refine wpAny_Call_method_late (base_of hb) hfew hline rfl (thn (ho.run pins s σ H _ I ⟨ρ, M, B, ι, sm, sl, (Wp.bind h).imp fun u B1 ι1 M1 H1 t1 s1 h1 v r1 =>
    (show ∃ B1 ι1 M1 u, Sim X.K B1 ι1 M1 H1 ∧ Slots X.K B1 ι1 ρ σ ∧ UR X.K B1 ι1 u v ∧ Wp X.K W σ B1 ι1 H1 (match tyU M1 u with | some t => if b.ty t then (fl ρ M1).bind fun us M => ofO (b.fnT m t u us M) else .bad | none => .bad) _ from ⟨B1, ι1, M1, u, s1, sl.mono t1.sub t1.pre, r1, h1⟩)⟩) fun v s1 hv => ?_)
  obtain ⟨x, H1, I1, r1, B1, ι1, M1, u, sm1, sl1, ru, w⟩ := hv
  cases et : tyU M1 u with
  | none => rw [et] at w; exact w.elim
  | some t =>
    rw [et] at w
    dsimp only at w
    split at w
    · rename_i hbt
      obtain ⟨⟨id, pa, slot, hty, hm⟩, hT⟩ := mrow hr b m t hbt
      obtain ⟨h1, h2⟩ := bm_ty I1 sm1 ru r1 et hT
      refine ⟨t, id, pa, slot, hty, h1, h2, ?_⟩
      have hA := ha.run cpos pins s1 σ H1 (fun vs H2 => rMU X.K b m t x vs H2 Q) I1 ⟨ρ, M1, B1, ι1, sm1, sl1, (Wp.bind w).imp fun us B2 ι2 M2 H2 t2 s2 h2 vs r2 => by
        obtain ⟨z, M', e, q⟩ := Wp.ofO h2
        exact ⟨B2, ι2, M2, u, us, z, M', s2, ru.mono t2.sub t2.pre, r2, e, q⟩⟩
      rw [star_cons hs'.1] at hA ⊢
      refine Calls.callWith_builtin (by show (false || (backTo cpos (starEach es X.env)).any (·.1)) = false; rw [star_any hs'.2] <;> rfl) (Calls.evalArgs_plain ?_)
      exact thn hA fun us s2 ⟨vs, H2, I2, r2, q2⟩ => hm pins s2 σ H2 x vs v us Q I2 r1 r2 q2
    · exact w.elim
end
end Mx

set_option Elab.async false
set_option linter.all false
set_option maxRecDepth 100000
set_option maxHeartbeats 8000000
/-! My7: a text and the program that stands for it: expressions. -/
namespace Mx
open PySem PySem.Spec PyProof.Rows L2

def okNm (y : Str) : Bool := !(y == ("__debug__" : Str)) && !(y == ("__classdict__" : Str))
def eqF : PyData → PyData → Bool
  | .none, .none => true
  | .bool a, .bool b => a == b
  | .int a, .int b => decide (a = b)
  | .str a, .str b => decide (a = b)
  | _, _ => false
theorem eqF_eq {a b : PyData} (h : eqF a b = true) : a = b := by
  cases a <;> cases b <;> simp_all [eqF]
def eqFs : List PyData → List PyData → Bool
  | [], [] => true
  | a :: r, b :: t => eqF a b && eqFs r t
  | _, _ => false
theorem eqFs_eq : ∀ {a b : List PyData}, eqFs a b = true → a = b
  | [], [], _ => rfl
  | [], _ :: _, h => nomatch h
  | _ :: _, [], h => nomatch h
  | a :: r, b :: t, h => by
    simp only [eqFs, Bool.and_eq_true] at h
    rw [eqF_eq h.1, eqFs_eq h.2]
def cstD : Const → Option PyData
  | .none => some .none
  | .bool b => some (.bool b)
  | .int i => some (.int i)
  | .str s => some (.str s)
  | _ => none
def isO (o : Option PyData) (d : PyData) : Bool := match o with | some x => eqF x d | none => false
theorem isO_eq {o : Option PyData} {d : PyData} (h : isO o d = true) : o = some d := by
  cases o with
  | none => cases h
  | some x => rw [eqF_eq h]
def noSet : Expr → Bool
  | .Set _ _ _ => false
  | _ => true
theorem noSet_marks {op : CmpOp} {e : Expr} (h : noSet e = true) : behindInMarks op e = false := by
  cases e <;> first | rfl | cases h
theorem noSet_fold {e : Expr} {env : Env} (h : noSet e = true) (x : Value) : foldedSetIterable e env x = pure x := by
  cases e <;> first | rfl | cases h
def isMinus1 : Expr → Bool
  | .UnaryOp .USub (.Constant (.int 1) _ _) _ => true
  | _ => false
def tyNames : List String := ["int", "str", "bool", "tuple", "list"]
def natsEq (a b : List Nat) : Bool := decide (a = b)
def blkOk' (G : Glob) (c : Cf) (x : Str) : Bool := c.isGl x && G.blt.contains x
def noLc : Expr → Bool
  | .ListComp _ _ _ _ => false
  | _ => true
/-- for a test's reading: the forms that Python tests in a way of their own -/
def plainT : Expr → Bool
  | .UnaryOp .Not _ _ => false
  | .BoolOp _ _ _ => false
  | .IfExp _ _ _ _ => false
  | .Compare _ _ _ _ => false
  | _ => true

mutual
def chkE (G : Glob) : Nat → Cf → Ex → Expr → Bool
  | 0, _, _, _ => false
  | n + 1, c, x, e => match x with
    | .v i => match e with
      | .Name y _ => (c.slot y == some i) && okNm y
      | _ => false
    | .k d => match e with
      | .Constant v _ _ => isO (cstD v) d
      | .Name y _ => c.isGl y && isO (G.cst.lookup y) d && okNm y
      | _ => false
    | .bin op _ a b => match e with
      | .BinOp ea op' eb _ => decide (op = op') && chkE G n c a ea && chkE G n c b eb
      | _ => false
    | .cmp op a b => match e with
      | .Compare ea [op'] [eb] _ => decide (op = op') && noSet eb && chkE G n c a ea && chkE G n c b eb
      | _ => false
    | .chn p q a b d => match e with
      | .Compare ea [p', q'] [eb, ed] _ => decide (p = p') && decide (q = q') && noSet ed && chkE G n c a ea && chkE G n c b eb && chkE G n c d ed
      | _ => false
    | .and a b => match e with
      | .BoolOp .And (ea :: eb :: r) pos => chkE G n c a ea && (match r with | [] => chkE G n c b eb | _ :: _ => chkE G n c b (.BoolOp .And (eb :: r) pos))
      | _ => false
    | .or a b => match e with
      | .BoolOp .Or (ea :: eb :: r) pos => chkE G n c a ea && (match r with | [] => chkE G n c b eb | _ :: _ => chkE G n c b (.BoolOp .Or (eb :: r) pos))
      | _ => false
    | .not a => match e with
      | .UnaryOp .Not ea _ => chkE G n c a ea
      | _ => false
    | .neg a => match e with
      | .UnaryOp .USub ea _ => chkE G n c a ea
      | _ => false
    | .ite t a b => match e with
      | .IfExp et ea eb _ => chkE G n c t et && chkE G n c a ea && chkE G n c b eb
      | _ => false
    | .lst _ es => match e with
      | .List l _ => l.all noStar && chkL G n c es l
      | _ => false
    | .tup es => match e with
      | .Tuple l _ _ => l.all noStar && chkL G n c es l
      | _ => false
    | .dnew => match e with
      | .Dict [] [] _ => true
      | _ => false
    | .sub a b => match e with
      | .Subscript ea eb _ => noSlice eb && chkE G n c a ea && chkE G n c b eb
      | _ => false
    | .slc _ a lo hi => match e with
      | .Subscript ea (.Slice l h none _) _ => chkE G n c a ea && chkO G n c lo l && chkO G n c hi h
      | _ => false
    | .rev _ a => match e with
      | .Subscript ea (.Slice none none (some s) _) _ => isMinus1 s && chkE G n c a ea
      | _ => false
    | .bif b _ es => match e with
      | .Call (.Name y _) (a :: r) [] _ => decide (y = b.name) && blkOk' G c y && (a :: r).all noStar && chkL G n c es (a :: r)
      | _ => false
    | .lset a => match e with
      | .Call (.Name y _) [.Call (.Name z _) [ea] [] _] [] _ => decide (y = "len") && decide (z = "set") && blkOk' G c y && blkOk' G c z && noStar ea && chkE G n c a ea
      | _ => false
    | .dzip a b => match e with
      | .Call (.Name y _) [.Call (.Name z _) [ea, eb] [] _] [] _ => decide (y = "dict") && decide (z = "zip") && blkOk' G c y && blkOk' G c z && noStar ea && noStar eb && chkE G n c a ea && chkE G n c b eb
      | _ => false
    | .tzip a b => match e with
      | .Call (.Name y _) [.Call (.Name z _) [ea, eb] [] _] [] _ => decide (y = "tuple") && decide (z = "zip") && blkOk' G c y && blkOk' G c z && noStar ea && noStar eb && chkE G n c a ea && chkE G n c b eb
      | _ => false
    | .lck _ a => noLc e && plainT e && chkE G n c a e
    | .isi a t => match e with
      | .Call (.Name y _) [ea, .Name z _] [] _ => decide (y = "isinstance") && decide (z = Str.ofString t) && tyNames.contains t && blkOk' G c y && blkOk' G c z && noStar ea && chkE G n c a ea
      | _ => false
    | .call f es ds => match e with
      | .Call (.Name y _) (a :: r) [] _ => match G.fn.lookup y with
        | some (f', ps, dfl) => decide (f = f') && (eqFs dfl ds || (ds.isEmpty && dfl.isEmpty)) && decide ((a :: r).length + dfl.length = ps.length) && c.isGl y && (a :: r).all noStar && okNm y && chkL G n c es (a :: r)
        | none => false
      | _ => false
    | .mth b _ a es => match e with
      | .Call (.Attribute o y apos) (e1 :: r) [] cpos => decide (y = b.name) && noSup o && (apos.endLine == cpos.line) && (e1 :: r).all noStar && decide ((e1 :: r).length < 20) && chkE G n c a o && chkL G n c es (e1 :: r)
      | _ => false
    | .lc _ g ik is t vs x => match e with
      | .ListComp elt [⟨tg, iter, ifs, 0⟩] scope _ => chkG (c.block scope) g tg && blkOk c scope && subL g.slots (ownS c scope) && natsEq vs (ownS c scope) && noSet iter && chkI G n c ik is tg iter && chkT G n (c.block scope) t ifs && chkE G n (c.block scope) x elt
      | _ => false
    | .lc2 _ g ik is t g1 ik1 is1 t1 vs vs1 x => match e with
      | .ListComp elt [⟨tg, iter, ifs, 0⟩, ⟨tg1, iter1, ifs1, 0⟩] scope _ => chkG (c.block scope) g tg && chkG (c.block scope) g1 tg1 && blkOk c scope && subL g.slots (ownS c scope) && subL g1.slots (ownS c scope) && natsEq vs (ownS c scope) && natsEq vs1 g1.slots && noSet iter && noSet iter1 &&
          chkI G n c ik is tg iter && chkT G n (c.block scope) t ifs && chkI G n (c.block scope) ik1 is1 tg1 iter1 && chkT G n (c.block scope) t1 ifs1 && chkE G n (c.block scope) x elt
      | _ => false
def chkL (G : Glob) : Nat → Cf → Exs → List Expr → Bool
  | 0, _, _, _ => false
  | _ + 1, _, .nil, [] => true
  | n + 1, c, .cons x r, e :: es => chkE G n c x e && chkL G n c r es
  | _ + 1, _, .nil, _ :: _ => false
  | _ + 1, _, .cons _ _, [] => false
def chkO (G : Glob) : Nat → Cf → Exs → Option Expr → Bool
  | 0, _, _, _ => false
  | _ + 1, _, .nil, none => true
  | n + 1, c, .cons x _, some e => chkE G n c x e
  | _ + 1, _, .nil, some _ => false
  | _ + 1, _, .cons _ _, none => false
def chkT (G : Glob) : Nat → Cf → Exs → List Expr → Bool
  | 0, _, _, _ => false
  | _ + 1, _, .nil, [] => true
  | n + 1, c, .cons x _, [e] => chkE G n c x e
  | _ + 1, _, _, _ => false
def chkI (G : Glob) : Nat → Cf → ItK → Exs → Expr → Expr → Bool
  | 0, _, _, _, _, _ => false
  | n + 1, c, ik, is, tg, iter => match ik with
    | .pl => match is with
      | .cons x .nil => chkE G n c x iter
      | _ => false
    | .r1 => match iter with
      | .Call (.Name y _) [a] [] _ => decide (y = "range") && blkOk' G c y && noStar a && chkL G n c is [a]
      | _ => false
    | .r2 => match iter with
      | .Call (.Name y _) [a, b] [] _ => decide (y = "range") && blkOk' G c y && noStar a && noStar b && chkL G n c is [a, b]
      | _ => false
    | .en => match iter, tg with
      | .Call (.Name y _) [a] [] _, .Tuple _ _ _ => decide (y = "enumerate") && blkOk' G c y && noStar a && chkL G n c is [a]
      | _, _ => false
    | .z2 => match iter, tg with
      | .Call (.Name y _) [a, b] [] _, .Tuple _ _ _ => decide (y = "zip") && blkOk' G c y && noStar a && noStar b && chkL G n c is [a, b]
      | _, _ => false
    | .z3 => match iter, tg with
      | .Call (.Name y _) [a, b, d] [] _, .Tuple _ _ _ => decide (y = "zip") && blkOk' G c y && noStar a && noStar b && noStar d && chkL G n c is [a, b, d]
      | _, _ => false
    | .ky => match is with
      | .cons x .nil => chkE G n c x iter
      | _ => false
end
end Mx

set_option Elab.async false
set_option linter.all false
set_option maxRecDepth 100000
set_option maxHeartbeats 8000000
/-! My8: expressions compute what their programs compute. -/
namespace Mx
open PySem PySem.Spec PyProof.Rows L2

def Exs.len : Exs → Nat
  | .nil => 0
  | .cons _ r => r.len + 1
theorem chkL_len {G : Glob} : ∀ {n : Nat} {c : Cf} {xs : Exs} {es : List Expr}, chkL G n c xs es = true → xs.len = es.length
  | 0, _, _, _, h => by simp [chkL] at h
  | n + 1, c, .nil, [], _ => rfl
  | n + 1, c, .nil, _ :: _, h => by simp [chkL] at h
  | n + 1, c, .cons _ _, [], h => by simp [chkL] at h
  | n + 1, c, .cons x r, e :: es, h => by
    simp only [chkL, Bool.and_eq_true] at h
    show r.len + 1 = es.length + 1
    rw [chkL_len h.2]
theorem denL_len {cb : Cb} {ρ : DEnv} : ∀ {xs : Exs} {M M' : Mem} {us : List U}, denL cb xs ρ M = .ok us M' → us.length = xs.len
  | .nil, M, M', us, h => by
    simp only [denL] at h
    cases h
    rfl
  | .cons x r, M, M', us, h => by
    simp only [denL] at h
    cases h1 : den cb x ρ M with
    | bad => rw [h1] at h; cases h
    | exc c M1 => rw [h1] at h; cases h
    | ok u M1 =>
      rw [h1] at h
      have h : (denL cb r ρ M1).bind (fun us M => .ok (u :: us) M) = .ok us M' := h
      cases h2 : denL cb r ρ M1 with
      | bad => rw [h2] at h; cases h
      | exc c M1 => rw [h2] at h; cases h
      | ok ws M2 =>
        rw [h2] at h
        cases h
        rw [List.length_cons, denL_len h2]
        rfl
/-- truth of a truth value -/
theorem truR_bool (f : DEnv → Mem → R Bool) : truR (fun ρ M => boolR (f ρ M)) = f := by
  funext ρ M
  unfold truR boolR
  dsimp only
  cases f ρ M with
  | ok b M1 => cases b <;> rfl
  | exc c M1 => rfl
  | bad => rfl
theorem pe_eq {X : Cx} {e : Expr} {K : PySem.W.Frag} {W : WD} {f g : DEnv → Mem → R U} (h : PE X e (tD K W f)) (k : f = g) : PE X e (tD K W g) := k ▸ h
theorem pt_eq {X : Cx} {e : Expr} {K : PySem.W.Frag} {W : WD} {f g : DEnv → Mem → R Bool} (h : PT X e (tDb K W f)) (k : f = g) : PT X e (tDb K W g) := k ▸ h
theorem plain_true {e : Expr} (h : plainT e = true) (env : Env) (whole : Sem Value) : isTrue e env whole = (do let v ← whole; standAt e.pos; holding [v] (truthy v)) := by
  cases e with
  | UnaryOp op a p => cases op <;> first | rfl | cases h
  | BoolOp _ _ _ => cases h
  | IfExp _ _ _ _ => cases h
  | Compare _ _ _ _ => cases h
  | _ => rfl
structure Snd (G : Glob) (k : Nat) (cb : Cb) (n : Nat) : Prop where
  e : ∀ {c : Cf} {x : Ex} {e : Expr} {X : Cx} {Wx : WX}, XOk X c G k cb Wx → chkE G n c x e = true → PE X e (tD X.K (wd X.mg Wx) (den cb x)) ∧ PT X e (tDb X.K (wd X.mg Wx) (truR (den cb x)))
  l : ∀ {c : Cf} {xs : Exs} {es : List Expr} {X : Cx} {Wx : WX}, XOk X c G k cb Wx → es.all noStar = true → chkL G n c xs es = true → PA X es (tDa X.K (wd X.mg Wx) (denL cb xs))
  o : ∀ {c : Cf} {xs : Exs} {e : Option Expr} {X : Cx} {Wx : WX}, XOk X c G k cb Wx → chkO G n c xs e = true → PO X e (tDo X.K (wd X.mg Wx) (denO cb xs))
  t : ∀ {c : Cf} {xs : Exs} {es : List Expr} {X : Cx} {Wx : WX}, XOk X c G k cb Wx → chkT G n c xs es = true → PTs X es (tDb X.K (wd X.mg Wx) (denT cb xs))
  i : ∀ {c : Cf} {ik : ItK} {is : Exs} {tg iter : Expr} {X : Cx} {Wx : WX}, XOk X c G k cb Wx → chkI G n c ik is tg iter = true → PI X tg iter (iDr X.K (wd X.mg Wx) fun ρ M => (denL cb is ρ M).bind (walkI ik))
section
variable {G : Glob} {k : Nat} {cb : Cb} {n : Nat} {X : Cx} {c : Cf} {Wx : WX}
theorem Snd.both {e : Expr} {x : Ex} (hp : plainT e = true) (h : PE X e (tD X.K (wd X.mg Wx) (den cb x))) : PE X e (tD X.K (wd X.mg Wx) (den cb x)) ∧ PT X e (tDb X.K (wd X.mg Wx) (truR (den cb x))) :=
  ⟨h, dt_truth h (plain_true hp X.env)⟩
theorem blt_of (ok : XOk X c G k cb Wx) {y : Str} (h : blkOk' G c y = true) : Gl X y ∧ X.mg y = none := by
  unfold blkOk' at h
  rw [Bool.and_eq_true] at h
  exact ⟨ok.gl h.1, ok.g.blt y h.2⟩
theorem okNm_of {y : Str} (h : okNm y = true) : (y == ("__debug__" : Str)) = false ∧ (y == ("__classdict__" : Str)) = false := by
  unfold okNm at h
  simpa using h
theorem chkL_succ (S : Snd G k cb n) {xs : Exs} {es : List Expr} (ok : XOk X c G k cb Wx) (hs : es.all noStar = true) (h : chkL G (n + 1) c xs es = true) : PA X es (tDa X.K (wd X.mg Wx) (denL cb xs)) := by
  cases xs with
  | nil =>
    cases es with
    | nil =>
      have e : denL cb .nil = fun _ M => .ok [] M := by funext ρ M; simp only [denL]
      rw [e]
      exact da_nil
    | cons a b => simp [chkL] at h
  | cons x r =>
    cases es with
    | nil => simp [chkL] at h
    | cons e es =>
      simp only [chkL, Bool.and_eq_true] at h
      rw [List.all_cons, Bool.and_eq_true] at hs
      have e1 : denL cb (.cons x r) = fun ρ M => (den cb x ρ M).bind fun u M => (denL cb r ρ M).bind fun us M => .ok (u :: us) M := by funext ρ M; simp only [denL]
      rw [e1]
      exact da_cons hs.1 (S.e ok h.1).1 (S.l ok hs.2 h.2)
theorem chkO_succ (S : Snd G k cb n) {xs : Exs} {o : Option Expr} (ok : XOk X c G k cb Wx) (h : chkO G (n + 1) c xs o = true) : PO X o (tDo X.K (wd X.mg Wx) (denO cb xs)) := by
  cases xs with
  | nil =>
    cases o with
    | none =>
      have e : denO cb .nil = fun _ M => .ok none M := by funext ρ M; simp only [denO]
      rw [e]
      exact do_none
    | some a => simp [chkO] at h
  | cons x r =>
    cases o with
    | none => simp [chkO] at h
    | some a =>
      simp only [chkO] at h
      have e1 : denO cb (.cons x r) = fun ρ M => (den cb x ρ M).bind toI := by funext ρ M; simp only [denO]
      rw [e1]
      exact do_some (S.e ok h).1
theorem tYes_of {K : PySem.W.Frag} {W : WD} : ∀ σ H Q, tDb K W (fun _ M => .ok true M) σ H Q → tYes σ H Q := fun σ H Q ⟨ρ, M, B, ι, s, sl, h⟩ => Wp.ok (α := Bool) h s
theorem chkT_succ (S : Snd G k cb n) {xs : Exs} {es : List Expr} (ok : XOk X c G k cb Wx) (h : chkT G (n + 1) c xs es = true) : PTs X es (tDb X.K (wd X.mg Wx) (denT cb xs)) := by
  cases xs with
  | nil =>
    cases es with
    | nil =>
      have e : denT cb .nil = fun _ M => .ok true M := by funext ρ M; simp only [denT]
      rw [e]
      exact ⟨fun pins s σ H Q I hw => pts_nil.run pins s σ H Q I (tYes_of σ H Q hw)⟩
    | cons a b => simp [chkT] at h
  | cons x r =>
    cases es with
    | nil => simp [chkT] at h
    | cons a b =>
      cases b with
      | cons a2 b2 => simp [chkT] at h
      | nil =>
        simp only [chkT] at h
        have e1 : denT cb (.cons x r) = truR (den cb x) := by funext ρ M; simp only [denT]
        rw [e1]
        exact pts_one (S.e ok h).2
theorem pi_eq {tg iter : Expr} {K : PySem.W.Frag} {W : WD} {f g : DEnv → Mem → R (List Itm)} (h : PI X tg iter (iDr K W f)) (k : f = g) : PI X tg iter (iDr K W g) := k ▸ h
theorem chkI_succ (S : Snd G k cb n) {ik : ItK} {is : Exs} {tg iter : Expr} (ok : XOk X c G k cb Wx) (h : chkI G (n + 1) c ik is tg iter = true) : PI X tg iter (iDr X.K (wd X.mg Wx) fun ρ M => (denL cb is ρ M).bind (walkI ik)) := by
  cases ik with
  | pl =>
    cases is with
    | nil => simp [chkI] at h
    | cons x r =>
      cases r with
      | cons y r => simp [chkI] at h
      | nil =>
        simp only [chkI] at h
        refine pi_eq (di_plain (S.e ok h).1) ?_
        funext ρ M
        simp only [denL, walkI]
        cases den cb x ρ M <;> rfl
  | r1 =>
    cases iter with
    | Call f es ks pos =>
      cases f with
      | Name y p =>
        cases es with
        | nil => simp [chkI] at h
        | cons a es =>
          cases es with
          | cons _ _ => simp [chkI] at h
          | nil =>
            cases ks with
            | cons _ _ => simp [chkI] at h
            | nil =>
              simp only [chkI, Bool.and_eq_true, decide_eq_true_eq] at h
              obtain ⟨⟨⟨rfl, h1⟩, h2⟩, h3⟩ := h
              obtain ⟨hg, hm⟩ := blt_of ok h1
              exact di_range1 hg hm (S.l ok (by rw [List.all_cons, h2]; rfl) h3) h2
      | _ => simp [chkI] at h
    | _ => simp [chkI] at h
  | r2 =>
    cases iter with
    | Call f es ks pos =>
      cases f with
      | Name y p =>
        match es, ks, h with
        | [a, b], [], h =>
          simp only [chkI, Bool.and_eq_true, decide_eq_true_eq] at h
          obtain ⟨⟨⟨⟨rfl, h1⟩, h2⟩, h3⟩, h4⟩ := h
          obtain ⟨hg, hm⟩ := blt_of ok h1
          exact di_range2 hg hm (S.l ok (by simp [h2, h3]) h4) h2 h3
        | [], _, h => simp [chkI] at h
        | [_], _, h => simp [chkI] at h
        | _ :: _ :: _ :: _, _, h => simp [chkI] at h
        | [_, _], _ :: _, h => simp [chkI] at h
      | _ => simp [chkI] at h
    | _ => simp [chkI] at h
  | en =>
    cases iter with
    | Call f es ks pos =>
      cases f with
      | Name y p =>
        cases tg with
        | Tuple elts kk tp =>
          match es, ks, h with
          | [a], [], h =>
            simp only [chkI, Bool.and_eq_true, decide_eq_true_eq] at h
            obtain ⟨⟨⟨rfl, h1⟩, h2⟩, h3⟩ := h
            obtain ⟨hg, hm⟩ := blt_of ok h1
            exact di_enum hg hm (S.l ok (by simp [h2]) h3) h2
          | [], _, h => simp [chkI] at h
          | _ :: _ :: _, _, h => simp [chkI] at h
          | [_], _ :: _, h => simp [chkI] at h
        | _ => simp [chkI] at h
      | _ => simp [chkI] at h
    | _ => simp [chkI] at h
  | z2 =>
    cases iter with
    | Call f es ks pos =>
      cases f with
      | Name y p =>
        cases tg with
        | Tuple elts kk tp =>
          match es, ks, h with
          | [a, b], [], h =>
            simp only [chkI, Bool.and_eq_true, decide_eq_true_eq] at h
            obtain ⟨⟨⟨⟨rfl, h1⟩, h2⟩, h3⟩, h4⟩ := h
            obtain ⟨hg, hm⟩ := blt_of ok h1
            exact di_zip2 hg hm (S.l ok (by simp [h2, h3]) h4) h2 h3
          | [], _, h => simp [chkI] at h
          | [_], _, h => simp [chkI] at h
          | _ :: _ :: _ :: _, _, h => simp [chkI] at h
          | [_, _], _ :: _, h => simp [chkI] at h
        | _ => simp [chkI] at h
      | _ => simp [chkI] at h
    | _ => simp [chkI] at h
  | z3 =>
    cases iter with
    | Call f es ks pos =>
      cases f with
      | Name y p =>
        cases tg with
        | Tuple elts kk tp =>
          match es, ks, h with
          | [a, b, d], [], h =>
            simp only [chkI, Bool.and_eq_true, decide_eq_true_eq] at h
            obtain ⟨⟨⟨⟨⟨rfl, h1⟩, h2⟩, h3⟩, h4⟩, h5⟩ := h
            obtain ⟨hg, hm⟩ := blt_of ok h1
            exact di_zip3 hg hm (S.l ok (by simp [h2, h3, h4]) h5) h2 h3 h4
          | [], _, h => simp [chkI] at h
          | [_], _, h => simp [chkI] at h
          | [_, _], _, h => simp [chkI] at h
          | _ :: _ :: _ :: _ :: _, _, h => simp [chkI] at h
          | [_, _, _], _ :: _, h => simp [chkI] at h
        | _ => simp [chkI] at h
      | _ => simp [chkI] at h
    | _ => simp [chkI] at h
  | ky =>
    cases is with
    | nil => simp [chkI] at h
    | cons x r =>
      cases r with
      | cons y r => simp [chkI] at h
      | nil =>
        simp only [chkI] at h
        refine pi_eq (di_keys (S.e ok h).1) ?_
        funext ρ M
        simp only [denL, walkI]
        cases den cb x ρ M <;> rfl
end
end Mx

set_option Elab.async false
set_option linter.all false
set_option maxRecDepth 100000
set_option maxHeartbeats 16000000
/-! My9: expressions compute what their programs compute, form by form. -/
namespace Mx
open PySem PySem.Spec PyProof.Rows L2
section
variable {G : Glob} {k : Nat} {cb : Cb} {n : Nat} {X : Cx} {c : Cf} {Wx : WX} {e : Expr}
abbrev Good (G : Glob) (k : Nat) (cb : Cb) (X : Cx) (Wx : WX) (x : Ex) (e : Expr) : Prop := PE X e (tD X.K (wd X.mg Wx) (den cb x)) ∧ PT X e (tDb X.K (wd X.mg Wx) (truR (den cb x)))
theorem ce_v {i : Nat} (ok : XOk X c G k cb Wx) (h : chkE G (n + 1) c (.v i) e = true) : Good G k cb X Wx (.v i) e := by
  cases e with
  | Name y p =>
    simp only [chkE, Bool.and_eq_true, beq_iff_eq] at h
    obtain ⟨h1, h2⟩ := ok.slot h.1
    obtain ⟨h3, h4⟩ := okNm_of h.2
    refine Snd.both rfl (pe_eq (de_var h1 h2 h3 h4) ?_)
    funext ρ M
    first | (simp only [den]; done) | (simp only [den]; rfl)
  | _ => simp [chkE] at h
theorem ce_k {d : PyData} (ok : XOk X c G k cb Wx) (h : chkE G (n + 1) c (.k d) e = true) : Good G k cb X Wx (.k d) e := by
  have fin : ∀ {e : Expr}, plainT e = true → PE X e (tD X.K (wd X.mg Wx) fun _ M => .ok (.d d) M) → Good G k cb X Wx (.k d) e := fun hp h => by
    refine Snd.both hp (pe_eq h ?_)
    funext ρ M
    first | (simp only [den]; done) | (simp only [den]; rfl)
  cases e with
  | Constant v j p =>
    simp only [chkE] at h
    have h := isO_eq h
    cases v with
    | none => cases h; exact fin rfl (de_const pe_non fun B => .non)
    | bool b => cases h; exact fin rfl (de_const pe_bl fun B => .bl b)
    | int i => cases h; exact fin rfl (de_const pe_int fun B => .int i)
    | str s => cases h; exact fin rfl (de_const pe_str fun B => .str s)
    | _ => cases h
  | Name y p =>
    simp only [chkE, Bool.and_eq_true] at h
    obtain ⟨⟨h1, h2⟩, h3⟩ := h
    obtain ⟨u, v, hm, hr, hd⟩ := ok.g.cst y d (isO_eq h2)
    exact fin rfl (de_const (pe_glob (ok.gl h1) hm hr (okNm_of h3).1) hd)
  | _ => simp [chkE] at h
theorem ce_bin (S : Snd G k cb n) {op : Operator} {m : Bool} {a b : Ex} (ok : XOk X c G k cb Wx) (h : chkE G (n + 1) c (.bin op m a b) e = true) : Good G k cb X Wx (.bin op m a b) e := by
  cases e with
  | BinOp ea op' eb p =>
    simp only [chkE, Bool.and_eq_true, decide_eq_true_eq] at h
    obtain ⟨⟨rfl, h1⟩, h2⟩ := h
    refine Snd.both rfl (pe_eq (de_bin (op_binU op m) (S.e ok h1).1 (S.e ok h2).1) ?_)
    funext ρ M
    first | (simp only [den]; done) | (simp only [den]; rfl)
  | _ => simp [chkE] at h
theorem ce_cmp (S : Snd G k cb n) {op : CmpOp} {a b : Ex} (ok : XOk X c G k cb Wx) (h : chkE G (n + 1) c (.cmp op a b) e = true) : Good G k cb X Wx (.cmp op a b) e := by
  have e0 : den cb (.cmp op a b) = fun ρ M => boolR (cmpR (cmpU op) (den cb a) (den cb b) ρ M) := by
    funext ρ M
    first | (simp only [den, cmpR]; done) | (simp only [den, cmpR]; rfl)
  cases e with
  | Compare ea ops es p =>
    match ops, es, h with
    | [op'], [eb], h =>
      simp only [chkE, Bool.and_eq_true, decide_eq_true_eq] at h
      obtain ⟨⟨⟨rfl, h1⟩, h2⟩, h3⟩ := h
      refine ⟨pe_eq (de_cmp (op_cmpU ok.room.units op) (S.e ok h2).1 (S.e ok h3).1 (noSet_marks h1)) e0.symm, ?_⟩
      rw [e0, truR_bool]
      exact dt_cmp (op_cmpU ok.room.units op) (S.e ok h2).1 (S.e ok h3).1 (noSet_marks h1)
    | [], _, h => simp [chkE] at h
    | _ :: _ :: _, _, h => simp [chkE] at h
    | [_], [], h => simp [chkE] at h
    | [_], _ :: _ :: _, h => simp [chkE] at h
  | _ => simp [chkE] at h
theorem ce_chn (S : Snd G k cb n) {p q : CmpOp} {a b d : Ex} (ok : XOk X c G k cb Wx) (h : chkE G (n + 1) c (.chn p q a b d) e = true) : Good G k cb X Wx (.chn p q a b d) e := by
  have e0 : den cb (.chn p q a b d) = fun ρ M => boolR (chnR (cmpU p) (cmpU q) (den cb a) (den cb b) (den cb d) ρ M) := by
    funext ρ M
    first | (simp only [den, chnR]; done) | (simp only [den, chnR]; rfl)
  cases e with
  | Compare ea ops es ps =>
    match ops, es, h with
    | [p', q'], [eb, ed], h =>
      simp only [chkE, Bool.and_eq_true, decide_eq_true_eq] at h
      obtain ⟨⟨⟨⟨⟨rfl, rfl⟩, h1⟩, h2⟩, h3⟩, h4⟩ := h
      have hl : lastMarks [p, q] [eb, ed] = false := noSet_marks (op := q) h1
      refine ⟨pe_eq (de_chain (op_cmpU ok.room.units p) (op_cmpU ok.room.units q) (S.e ok h2).1 (S.e ok h3).1 (S.e ok h4).1 hl) e0.symm, ?_⟩
      rw [e0, truR_bool]
      exact dt_chain (op_cmpU ok.room.units p) (op_cmpU ok.room.units q) (S.e ok h2).1 (S.e ok h3).1 (S.e ok h4).1 hl
    | [], _, h => simp [chkE] at h
    | [_], _, h => simp [chkE] at h
    | _ :: _ :: _ :: _, _, h => simp [chkE] at h
    | [_, _], [], h => simp [chkE] at h
    | [_, _], [_], h => simp [chkE] at h
    | [_, _], _ :: _ :: _ :: _, h => simp [chkE] at h
  | _ => simp [chkE] at h
theorem tru_and (f g : DEnv → Mem → R U) : (fun ρ M => (truR f ρ M).bind fun c M => if c then truR g ρ M else R.ok false M) = truR (fun ρ M => (f ρ M).bind fun u M => match truU M u with | some true => g ρ M | some false => .ok u M | none => .bad) := by
  funext ρ M
  unfold truR
  dsimp only
  cases f ρ M with
  | exc c M1 => rfl
  | bad => rfl
  | ok u M1 =>
    show (match truU M1 u with | some b => (R.ok b M1 : R Bool) | none => .bad).bind _ = (match truU M1 u with | some true => g ρ M1 | some false => .ok u M1 | none => .bad).bind _
    cases e : truU M1 u with
    | none => rfl
    | some b =>
      cases b with
      | true => rfl
      | false =>
        show R.ok false M1 = (match truU M1 u with | some b => (R.ok b M1 : R Bool) | none => .bad)
        rw [e]
theorem tru_or (f g : DEnv → Mem → R U) : (fun ρ M => (truR f ρ M).bind fun c M => if c then R.ok true M else truR g ρ M) = truR (fun ρ M => (f ρ M).bind fun u M => match truU M u with | some true => R.ok u M | some false => g ρ M | none => .bad) := by
  funext ρ M
  unfold truR
  dsimp only
  cases f ρ M with
  | exc c M1 => rfl
  | bad => rfl
  | ok u M1 =>
    show (match truU M1 u with | some b => (R.ok b M1 : R Bool) | none => .bad).bind _ = (match truU M1 u with | some true => R.ok u M1 | some false => g ρ M1 | none => .bad).bind _
    cases e : truU M1 u with
    | none => rfl
    | some b =>
      cases b with
      | false => rfl
      | true =>
        show R.ok true M1 = (match truU M1 u with | some b => (R.ok b M1 : R Bool) | none => .bad)
        rw [e]
theorem PT.one {op : BoolOp} {a : Expr} {t : TT} {pos : Pos} (h : PT X a t) : PW X (.BoolOp op [a] pos) t := by
  cases op with
  | And => exact pw_and1 h
  | Or => exact pw_or1 h
/-- a test by and, or is a test whatever the whole is -/
structure SndW (G : Glob) (k : Nat) (cb : Cb) (n : Nat) : Prop where
  w : ∀ {c : Cf} {x : Ex} {op : BoolOp} {es : List Expr} {pos : Pos} {X : Cx} {Wx : WX}, XOk X c G k cb Wx → chkE G n c x (.BoolOp op es pos) = true → PW X (.BoolOp op es pos) (tDb X.K (wd X.mg Wx) (truR (den cb x)))
theorem ce_and (S : Snd G k cb n) (SW : SndW G k cb n) {a b : Ex} (ok : XOk X c G k cb Wx) (h : chkE G (n + 1) c (.and a b) e = true) : Good G k cb X Wx (.and a b) e ∧ ∀ {op es pos}, e = .BoolOp op es pos → PW X e (tDb X.K (wd X.mg Wx) (truR (den cb (.and a b)))) := by
  have e0 : den cb (.and a b) = fun ρ M => (den cb a ρ M).bind fun u M => match truU M u with | some true => den cb b ρ M | some false => .ok u M | none => .bad := by
    funext ρ M
    first | (simp only [den]; done) | (simp only [den]; rfl)
  cases e with
  | BoolOp op es p =>
    cases op with
    | Or => simp [chkE] at h
    | And =>
      match es, h with
      | [], h => simp [chkE] at h
      | [_], h => simp [chkE] at h
      | ea :: eb :: r, h =>
        simp only [chkE, Bool.and_eq_true] at h
        obtain ⟨h1, h2⟩ := h
        have A := S.e ok h1
        have key : PE X (.BoolOp .And (eb :: r) p) (tD X.K (wd X.mg Wx) (den cb b)) ∧ PW X (.BoolOp .And (eb :: r) p) (tDb X.K (wd X.mg Wx) (truR (den cb b))) := by
          cases r with
          | nil => exact ⟨pe_one (S.e ok h2).1, PT.one (S.e ok h2).2⟩
          | cons d r => exact ⟨(S.e ok h2).1, SW.w ok h2⟩
        have W := dw_andF A.2 key.2
        rw [tru_and, ← e0] at W
        refine ⟨⟨pe_eq (de_andF A.1 key.1) e0.symm, W.pt⟩, fun _ => W⟩
  | _ => simp [chkE] at h
theorem ce_or (S : Snd G k cb n) (SW : SndW G k cb n) {a b : Ex} (ok : XOk X c G k cb Wx) (h : chkE G (n + 1) c (.or a b) e = true) : Good G k cb X Wx (.or a b) e ∧ ∀ {op es pos}, e = .BoolOp op es pos → PW X e (tDb X.K (wd X.mg Wx) (truR (den cb (.or a b)))) := by
  have e0 : den cb (.or a b) = fun ρ M => (den cb a ρ M).bind fun u M => match truU M u with | some true => .ok u M | some false => den cb b ρ M | none => .bad := by
    funext ρ M
    first | (simp only [den]; done) | (simp only [den]; rfl)
  cases e with
  | BoolOp op es p =>
    cases op with
    | And => simp [chkE] at h
    | Or =>
      match es, h with
      | [], h => simp [chkE] at h
      | [_], h => simp [chkE] at h
      | ea :: eb :: r, h =>
        simp only [chkE, Bool.and_eq_true] at h
        obtain ⟨h1, h2⟩ := h
        have A := S.e ok h1
        have key : PE X (.BoolOp .Or (eb :: r) p) (tD X.K (wd X.mg Wx) (den cb b)) ∧ PW X (.BoolOp .Or (eb :: r) p) (tDb X.K (wd X.mg Wx) (truR (den cb b))) := by
          cases r with
          | nil => exact ⟨pe_one (S.e ok h2).1, PT.one (S.e ok h2).2⟩
          | cons d r => exact ⟨(S.e ok h2).1, SW.w ok h2⟩
        have W := dw_orF A.2 key.2
        rw [tru_or, ← e0] at W
        refine ⟨⟨pe_eq (de_orF A.1 key.1) e0.symm, W.pt⟩, fun _ => W⟩
  | _ => simp [chkE] at h
theorem ce_not (S : Snd G k cb n) {a : Ex} (ok : XOk X c G k cb Wx) (h : chkE G (n + 1) c (.not a) e = true) : Good G k cb X Wx (.not a) e := by
  have e0 : den cb (.not a) = fun ρ M => boolR ((truR (den cb a) ρ M).bind fun b M => .ok (!b) M) := by
    funext ρ M
    first | (simp only [den]; done) | (simp only [den]; rfl)
  cases e with
  | UnaryOp op ea p =>
    cases op with
    | Not =>
      simp only [chkE] at h
      have A := S.e ok h
      refine ⟨pe_eq (de_not A.1) e0.symm, ?_⟩
      rw [e0, truR_bool]
      exact dt_not A.2
    | _ => simp [chkE] at h
  | _ => simp [chkE] at h
theorem ce_neg (S : Snd G k cb n) {a : Ex} (ok : XOk X c G k cb Wx) (h : chkE G (n + 1) c (.neg a) e = true) : Good G k cb X Wx (.neg a) e := by
  cases e with
  | UnaryOp op ea p =>
    cases op with
    | USub =>
      simp only [chkE] at h
      refine Snd.both rfl (pe_eq (de_neg (S.e ok h).1) ?_)
      funext ρ M
      first | (simp only [den]; done) | (simp only [den]; rfl)
    | _ => simp [chkE] at h
  | _ => simp [chkE] at h
/-- a if t else b, as a test -/
theorem pt_ifExp {t a b : Expr} {tt ta tb : TT} {pos : Pos} (ht : PT X t tt) (ha : PT X a ta) (hb : PT X b tb) : PT X (.IfExp t a b pos) (fun σ H Q => tt σ H fun c H1 => if c = true then ta σ H1 Q else tb σ H1 Q) := by
  refine ⟨fun pins s σ H Q I h => ?_⟩
  show wpAny _ _ (isTrue (.IfExp t a b pos) X.env _) _ _ _
  rw [PySem.isTrue]
  refine wpAny_bind (thn (ht.run pins s σ H _ I h) fun d s1 ⟨H1, I1, q1⟩ => ?_)
  cases d with
  | true => exact ha.run pins s1 σ H1 Q I1 q1
  | false => exact hb.run pins s1 σ H1 Q I1 q1
theorem ce_ite (S : Snd G k cb n) {t a b : Ex} (ok : XOk X c G k cb Wx) (h : chkE G (n + 1) c (.ite t a b) e = true) : Good G k cb X Wx (.ite t a b) e := by
  have e0 : den cb (.ite t a b) = fun ρ M => (truR (den cb t) ρ M).bind fun c M => if c then den cb a ρ M else den cb b ρ M := by
    funext ρ M
    first | (simp only [den]; done) | (simp only [den]; rfl)
  cases e with
  | IfExp et ea eb p =>
    simp only [chkE, Bool.and_eq_true] at h
    obtain ⟨⟨h1, h2⟩, h3⟩ := h
    refine ⟨pe_eq (de_if (S.e ok h1).2 (S.e ok h2).1 (S.e ok h3).1) e0.symm, ?_⟩
    refine ptImp (pt_ifExp (S.e ok h1).2 (S.e ok h2).2 (S.e ok h3).2) fun σ H Q hq => ?_
    obtain ⟨ρ, M, B, ι, s, sl, hw⟩ := hq
    rw [e0] at hw
    have e1 : truR (fun ρ M => (truR (den cb t) ρ M).bind fun c M => if c then den cb a ρ M else den cb b ρ M) ρ M = (truR (den cb t) ρ M).bind fun c M => if c then truR (den cb a) ρ M else truR (den cb b) ρ M := by
      show ((truR (den cb t) ρ M).bind _).bind _ = _
      rw [R.bind_assoc]
      congr 1
      funext c M
      cases c <;> rfl
    rw [e1] at hw
    refine ⟨ρ, M, B, ι, s, sl, hw.bind.imp fun d B1 ι1 M1 H1 t1 s1 w1 => ?_⟩
    cases d with
    | true => rw [if_pos rfl] at w1 ⊢; exact ⟨ρ, M1, B1, ι1, s1, sl.mono t1.sub t1.pre, w1⟩
    | false => rw [if_neg Bool.false_ne_true] at w1 ⊢; exact ⟨ρ, M1, B1, ι1, s1, sl.mono t1.sub t1.pre, w1⟩
  | _ => simp [chkE] at h
theorem ce_lst (S : Snd G k cb n) {m : Bool} {es : Exs} (ok : XOk X c G k cb Wx) (h : chkE G (n + 1) c (.lst m es) e = true) : Good G k cb X Wx (.lst m es) e := by
  cases e with
  | List l p =>
    simp only [chkE, Bool.and_eq_true] at h
    refine Snd.both rfl (pe_eq (de_lstF m (S.l ok h.1 h.2)) ?_)
    funext ρ M
    first | (simp only [den]; done) | (simp only [den]; rfl)
  | _ => simp [chkE] at h
theorem ce_tup (S : Snd G k cb n) {es : Exs} (ok : XOk X c G k cb Wx) (h : chkE G (n + 1) c (.tup es) e = true) : Good G k cb X Wx (.tup es) e := by
  cases e with
  | Tuple l j p =>
    simp only [chkE, Bool.and_eq_true] at h
    refine Snd.both rfl (pe_eq (de_tupF (S.l ok h.1 h.2)) ?_)
    funext ρ M
    first | (simp only [den]; done) | (simp only [den]; rfl)
  | _ => simp [chkE] at h
theorem ce_dnew (ok : XOk X c G k cb Wx) (h : chkE G (n + 1) c .dnew e = true) : Good G k cb X Wx .dnew e := by
  cases e with
  | Dict a b p =>
    match a, b, h with
    | [], [], h =>
      refine Snd.both rfl (pe_eq de_dict ?_)
      funext ρ M
      first | (simp only [den]; done) | (simp only [den]; rfl)
    | _ :: _, _, h => simp [chkE] at h
    | [], _ :: _, h => simp [chkE] at h
  | _ => simp [chkE] at h
theorem ce_sub (S : Snd G k cb n) {a b : Ex} (ok : XOk X c G k cb Wx) (h : chkE G (n + 1) c (.sub a b) e = true) : Good G k cb X Wx (.sub a b) e := by
  cases e with
  | Subscript ea eb p =>
    simp only [chkE, Bool.and_eq_true] at h
    obtain ⟨⟨h1, h2⟩, h3⟩ := h
    refine Snd.both rfl (pe_eq (de_sub (hu_of ok.room) (S.e ok h2).1 (S.e ok h3).1 h1) ?_)
    funext ρ M
    first | (simp only [den]; done) | (simp only [den]; rfl)
  | _ => simp [chkE] at h
theorem ce_slc (S : Snd G k cb n) {m : Bool} {a : Ex} {lo hi : Exs} (ok : XOk X c G k cb Wx) (h : chkE G (n + 1) c (.slc m a lo hi) e = true) : Good G k cb X Wx (.slc m a lo hi) e := by
  cases e with
  | Subscript ea eb p =>
    cases eb with
    | Slice l u st p2 =>
      cases st with
      | none =>
        simp only [chkE, Bool.and_eq_true] at h
        obtain ⟨⟨h1, h2⟩, h3⟩ := h
        refine Snd.both rfl (pe_eq (de_slcF m (S.e ok h1).1 (S.o ok h2) (S.o ok h3)) ?_)
        funext ρ M
        first | (simp only [den]; done) | (simp only [den]; rfl)
      | some _ => simp [chkE] at h
    | _ => simp [chkE] at h
  | _ => simp [chkE] at h
theorem ce_rev (S : Snd G k cb n) {m : Bool} {a : Ex} (ok : XOk X c G k cb Wx) (h : chkE G (n + 1) c (.rev m a) e = true) : Good G k cb X Wx (.rev m a) e := by
  cases e with
  | Subscript ea eb p =>
    cases eb with
    | Slice l u st p2 =>
      match l, u, st, h with
      | none, none, some s, h =>
        simp only [chkE, Bool.and_eq_true] at h
        obtain ⟨h1, h2⟩ := h
        unfold isMinus1 at h1
        split at h1
        · refine Snd.both rfl (pe_eq (de_revF m (S.e ok h2).1) ?_)
          funext ρ M
          first | (simp only [den]; done) | (simp only [den]; rfl)
        · cases h1
      | some _, _, _, h => simp [chkE] at h
      | none, some _, _, h => simp [chkE] at h
      | none, none, none, h => simp [chkE] at h
    | _ => simp [chkE] at h
  | _ => simp [chkE] at h
theorem ce_bif (S : Snd G k cb n) {b : Bif} {m : Bool} {es : Exs} (ok : XOk X c G k cb Wx) (h : chkE G (n + 1) c (.bif b m es) e = true) : Good G k cb X Wx (.bif b m es) e := by
  cases e with
  | Call f as ks p =>
    cases f with
    | Name y p2 =>
      match as, ks, h with
      | a :: r, [], h =>
        simp only [chkE, Bool.and_eq_true, decide_eq_true_eq] at h
        obtain ⟨⟨⟨rfl, h1⟩, h2⟩, h3⟩ := h
        obtain ⟨hg, hm⟩ := blt_of ok h1
        refine Snd.both rfl (pe_eq (de_bifF b m ok.calm ok.room hg hm (S.l ok (by simpa using h2) h3) (by simpa using h2)) ?_)
        funext ρ M
        first | (simp only [den]; done) | (simp only [den]; rfl)
      | [], _, h => simp [chkE] at h
      | _ :: _, _ :: _, h => simp [chkE] at h
    | _ => simp [chkE] at h
  | _ => simp [chkE] at h
theorem ce_lset (S : Snd G k cb n) {a : Ex} (ok : XOk X c G k cb Wx) (h : chkE G (n + 1) c (.lset a) e = true) : Good G k cb X Wx (.lset a) e := by
  unfold chkE at h
  dsimp only at h
  split at h
  · simp only [Bool.and_eq_true, decide_eq_true_eq] at h
    obtain ⟨⟨⟨⟨⟨rfl, rfl⟩, h1⟩, h2⟩, h3⟩, h4⟩ := h
    obtain ⟨hg, hm⟩ := blt_of ok h1
    obtain ⟨hg2, hm2⟩ := blt_of ok h2
    refine Snd.both rfl (pe_eq (de_lsetF ok.calm hg hm hg2 hm2 (S.e ok h4).1 h3) ?_)
    funext ρ M
    first | (simp only [den]; done) | (simp only [den]; rfl)
  · cases h
theorem ce_dzip (S : Snd G k cb n) {a b : Ex} (ok : XOk X c G k cb Wx) (h : chkE G (n + 1) c (.dzip a b) e = true) : Good G k cb X Wx (.dzip a b) e := by
  unfold chkE at h
  dsimp only at h
  split at h
  · simp only [Bool.and_eq_true, decide_eq_true_eq] at h
    obtain ⟨⟨⟨⟨⟨⟨⟨rfl, rfl⟩, h1⟩, h2⟩, h3⟩, h4⟩, h5⟩, h6⟩ := h
    obtain ⟨hg, hm⟩ := blt_of ok h1
    obtain ⟨hg2, hm2⟩ := blt_of ok h2
    refine Snd.both rfl (pe_eq (de_dzipF ok.calm hg hm hg2 hm2 (S.e ok h5).1 (S.e ok h6).1 h3 h4) ?_)
    funext ρ M
    first | (simp only [den]; done) | (simp only [den]; rfl)
  · cases h
theorem ce_tzip (S : Snd G k cb n) {a b : Ex} (ok : XOk X c G k cb Wx) (h : chkE G (n + 1) c (.tzip a b) e = true) : Good G k cb X Wx (.tzip a b) e := by
  unfold chkE at h
  dsimp only at h
  split at h
  · simp only [Bool.and_eq_true, decide_eq_true_eq] at h
    obtain ⟨⟨⟨⟨⟨⟨⟨rfl, rfl⟩, h1⟩, h2⟩, h3⟩, h4⟩, h5⟩, h6⟩ := h
    obtain ⟨hg, hm⟩ := blt_of ok h1
    obtain ⟨hg2, hm2⟩ := blt_of ok h2
    refine Snd.both rfl (pe_eq (de_tzipF ok.calm hg hm hg2 hm2 (S.e ok h5).1 (S.e ok h6).1 h3 h4) ?_)
    funext ρ M
    first | (simp only [den]; done) | (simp only [den]; rfl)
  · cases h
theorem ce_lck (S : Snd G k cb n) {i : Nat} {a : Ex} (ok : XOk X c G k cb Wx) (h : chkE G (n + 1) c (.lck i a) e = true) : Good G k cb X Wx (.lck i a) e := by
  unfold chkE at h
  dsimp only at h
  simp only [Bool.and_eq_true] at h
  refine Snd.both h.1.2 (pe_eq (de_lck (i := i) (S.e ok h.2).1) ?_)
  funext ρ M
  first | (simp only [den]; done) | (simp only [den]; rfl)
theorem ce_isi (S : Snd G k cb n) {a : Ex} {t : String} (ok : XOk X c G k cb Wx) (h : chkE G (n + 1) c (.isi a t) e = true) : Good G k cb X Wx (.isi a t) e := by
  unfold chkE at h
  dsimp only at h
  split at h
  · simp only [Bool.and_eq_true, decide_eq_true_eq] at h
    obtain ⟨⟨⟨⟨⟨⟨rfl, rfl⟩, h0⟩, h1⟩, h2⟩, h3⟩, h4⟩ := h
    obtain ⟨hg, hm⟩ := blt_of ok h1
    obtain ⟨hg2, hm2⟩ := blt_of ok h2
    have h0 : t ∈ ["int", "str", "bool", "tuple", "list"] := by simpa [tyNames] using h0
    have key : bootBuiltins (Str.ofString t) = some (.type t) ∧ Str.ofString t ≠ "__name__" ∧ (Str.ofString t == ("__debug__" : Str)) = false := by
      simp only [List.mem_cons, List.not_mem_nil, or_false] at h0
      rcases h0 with rfl | rfl | rfl | rfl | rfl <;> exact ⟨by decide +kernel, by decide, by decide⟩
    refine Snd.both rfl (pe_eq (de_isi hg hm hg2 hm2 key.1 key.2.1 key.2.2 (S.e ok h4).1 h3) ?_)
    funext ρ M
    first | (simp only [den]; done) | (simp only [den]; rfl)
  · cases h
theorem ce_call (S : Snd G k cb n) {f : Nat} {es : Exs} {ds : List PyData} (ok : XOk X c G k cb Wx) (h : chkE G (n + 1) c (.call f es ds) e = true) : Good G k cb X Wx (.call f es ds) e := by
  unfold chkE at h
  dsimp only at h
  split at h
  · split at h
    · rename_i y p a r pos oo f' ps dfl hf
      simp only [Bool.and_eq_true, decide_eq_true_eq] at h
      obtain ⟨⟨⟨⟨⟨⟨rfl, h1⟩, h2⟩, h3⟩, h4⟩, h5⟩, h6⟩ := h
      have h1 : dfl = ds := by
        rcases Bool.or_eq_true_iff.mp h1 with z | z
        · exact eqFs_eq z
        · rw [Bool.and_eq_true, List.isEmpty_iff, List.isEmpty_iff] at z
          rw [z.1, z.2]
      subst h1
      obtain ⟨fa, fd, dv, dvs, hm, hk, hv, hb, hd, F⟩ := ok.g.fn y f ps dfl hf
      refine Snd.both rfl (pe_eq (de_callF ok.tk F ok.room (ok.gl h3) hm hk hv hb hd (S.l ok h4 h6) h4 (fun ρ M us M' he => ?_) (okNm_of h5).1) ?_)
      · rw [denL_len he, chkL_len h6]
        exact h2
      · funext ρ M
        first | (simp only [den]; done) | (simp only [den]; rfl)
    · cases h
  · cases h
theorem ce_mth (S : Snd G k cb n) {b : Mth} {m : Bool} {a : Ex} {es : Exs} (ok : XOk X c G k cb Wx) (h : chkE G (n + 1) c (.mth b m a es) e = true) : Good G k cb X Wx (.mth b m a es) e := by
  unfold chkE at h
  dsimp only at h
  split at h
  · simp only [Bool.and_eq_true, decide_eq_true_eq] at h
    obtain ⟨⟨⟨⟨⟨⟨rfl, h1⟩, h2⟩, h3⟩, h4⟩, h5⟩, h6⟩ := h
    refine Snd.both rfl (pe_eq (de_mthF b m ok.room (S.e ok h5).1 (S.l ok h3 h6) h1 h2 h3 h4) ?_)
    funext ρ M
    first | (simp only [den]; done) | (simp only [den]; rfl)
  · cases h
theorem ce_lc (S : Snd G k cb n) {m : Bool} {g : Tg} {ik : ItK} {is t : Exs} {vs : List Nat} {x : Ex} (ok : XOk X c G k cb Wx) (h : chkE G (n + 1) c (.lc m g ik is t vs x) e = true) : Good G k cb X Wx (.lc m g ik is t vs x) e := by
  unfold chkE at h
  dsimp only at h
  split at h
  · simp only [Bool.and_eq_true, natsEq, decide_eq_true_eq] at h
    obtain ⟨⟨⟨⟨⟨⟨⟨h1, h2⟩, h3⟩, rfl⟩, h5⟩, h6⟩, h7⟩, h8⟩ := h
    have bk : BlkOk c.N c.sc _ _ := blkOk_by h2
    refine Snd.both rfl (peImp (de_lc (W' := wd X.mg fun _ _ _ _ => False) (ft := denT cb t) (fe := den cb x) m ok h1 (S.i ok h6) h2 (fun s H C cl fp => S.t (ok.block _ bk.kind s H C cl fp) h7) (fun s H C cl fp => (S.e (ok.block _ bk.kind s H C cl fp) h8).1) (noSet_fold h5)) fun σ H Q hq => lc_read m h3 ?_)
    obtain ⟨ρ, M, B, ι, s, sl, hw⟩ := hq
    refine ⟨ρ, M, B, ι, s, sl, ?_⟩
    simp only [den] at hw
    exact hw
  · cases h
theorem ce_lc2 (S : Snd G k cb n) {m : Bool} {g g1 : Tg} {ik ik1 : ItK} {is t is1 t1 : Exs} {vs vs1 : List Nat} {x : Ex} (ok : XOk X c G k cb Wx) (h : chkE G (n + 1) c (.lc2 m g ik is t g1 ik1 is1 t1 vs vs1 x) e = true) : Good G k cb X Wx (.lc2 m g ik is t g1 ik1 is1 t1 vs vs1 x) e := by
  unfold chkE at h
  dsimp only at h
  split at h
  · simp only [Bool.and_eq_true, natsEq, decide_eq_true_eq] at h
    obtain ⟨⟨⟨⟨⟨⟨⟨⟨⟨⟨⟨⟨⟨a1, a2⟩, a3⟩, a4⟩, a5⟩, rfl⟩, rfl⟩, a8⟩, a9⟩, b1⟩, b2⟩, b3⟩, b4⟩, b5⟩ := h
    have bk : BlkOk c.N c.sc _ _ := blkOk_by a3
    refine Snd.both rfl (peImp (de_lc2 (W' := wd X.mg fun _ _ _ _ => False) (ft := denT cb t) (ft1 := denT cb t1) (fi1 := fun ρ M => (denL cb is1 ρ M).bind (walkI ik1)) (fe := den cb x) ok a1 a2 (S.i ok b1) a3 a5 (fun s H C cl fp => S.t (ok.block _ bk.kind s H C cl fp) b2) (fun s H C cl fp => (S.e (ok.block _ bk.kind s H C cl fp) b5).1) (fun s H C cl fp => S.i (ok.block _ bk.kind s H C cl fp) b3) (fun s H C cl fp => S.t (ok.block _ bk.kind s H C cl fp) b4) (noSet_fold a8) fun env y => noSet_fold a9 y) fun σ H Q hq => lc2_read m a4 ?_)
    obtain ⟨ρ, M, B, ι, s, sl, hw⟩ := hq
    refine ⟨ρ, M, B, ι, s, sl, ?_⟩
    simp only [den] at hw
    exact hw
  · cases h
end
theorem snd_all (G : Glob) (k : Nat) (cb : Cb) : ∀ n, Snd G k cb n ∧ SndW G k cb n
  | 0 => ⟨⟨fun _ h => by simp [chkE] at h, fun _ _ h => by simp [chkL] at h, fun _ h => by simp [chkO] at h, fun _ h => by simp [chkT] at h, fun _ h => by simp [chkI] at h⟩, ⟨fun _ h => by simp [chkE] at h⟩⟩
  | n + 1 => by
    obtain ⟨S, SW⟩ := snd_all G k cb n
    refine ⟨⟨fun {c x e X Wx} ok h => ?_, fun ok hs h => chkL_succ S ok hs h, fun ok h => chkO_succ S ok h, fun ok h => chkT_succ S ok h, fun ok h => chkI_succ S ok h⟩, ⟨fun {c x op es pos X Wx} ok h => ?_⟩⟩
    · cases x with
      | v i => exact ce_v ok h
      | k d => exact ce_k ok h
      | bin op m a b => exact ce_bin S ok h
      | cmp op a b => exact ce_cmp S ok h
      | chn p q a b d => exact ce_chn S ok h
      | and a b => exact (ce_and S SW ok h).1
      | or a b => exact (ce_or S SW ok h).1
      | not a => exact ce_not S ok h
      | neg a => exact ce_neg S ok h
      | ite t a b => exact ce_ite S ok h
      | lst m es => exact ce_lst S ok h
      | tup es => exact ce_tup S ok h
      | dnew => exact ce_dnew ok h
      | sub a b => exact ce_sub S ok h
      | slc m a lo hi => exact ce_slc S ok h
      | rev m a => exact ce_rev S ok h
      | «bif» b m es => exact ce_bif S ok h
      | lset a => exact ce_lset S ok h
      | dzip a b => exact ce_dzip S ok h
      | tzip a b => exact ce_tzip S ok h
      | lck i a => exact ce_lck S ok h
      | isi a t => exact ce_isi S ok h
      | call f es ds => exact ce_call S ok h
      | mth b m a es => exact ce_mth S ok h
      | lc m g ik is t vs x => exact ce_lc S ok h
      | lc2 m g ik is t g1 ik1 is1 t1 vs vs1 x => exact ce_lc2 S ok h
    · cases x with
      | and a b => exact (ce_and S SW ok h).2 rfl
      | or a b => exact (ce_or S SW ok h).2 rfl
      | _ => simp [chkE, plainT] at h
end Mx

set_option Elab.async false
set_option linter.all false
set_option maxRecDepth 100000
set_option maxHeartbeats 8000000
/-! MyA: statements. -/
namespace Mx
open PySem PySem.Spec PyProof.Rows L2

/-! ### readings of loops and blocks -/
section
variable {K : PySem.W.Frag} {W : WD} {D : Ends} {σ : St} {H : Hp}
theorem seq_read {f g : DEnv → Mem → RS}
    (h : tDs K W (fun ρ M => match f ρ M with | .nx ρ1 M1 => g ρ1 M1 | .rt u M1 => .rt u M1 | .bk ρ1 M1 => .bk ρ1 M1 | .ct ρ1 M1 => .ct ρ1 M1 | .exc c ρ1 M1 => .exc c ρ1 M1 | .bad => .bad) D σ H) : tSeq (tDs K W f) (tDs K W g) D σ H := by
  obtain ⟨ρ, M, B, ι, s, sl, h⟩ := h
  refine ⟨ρ, M, B, ι, s, sl, ?_⟩
  dsimp only at h
  cases e : f ρ M with
  | nx ρ1 M1 => rw [e] at h; exact fun σ' B' ι' H' t s' sl' => ⟨ρ1, M1, B', ι', s', sl', Ws.shift (r := g ρ1 M1) h t⟩
  | rt u M1 => rw [e] at h; exact h
  | bk ρ1 M1 => rw [e] at h; exact h
  | ct ρ1 M1 => rw [e] at h; exact h
  | exc c ρ1 M1 => rw [e] at h; exact h
  | bad => rw [e] at h; exact h
theorem for_read {asg : Mem → Itm → DEnv → Option DEnv} {vs : List Nat} {fi : DEnv → Mem → R (List Itm)} {body : DEnv → Mem → RS}
    (h : tDs K W (fun ρ M => (fi ρ M).toS ρ fun items M => forL asg body items ρ M) D σ H) : tFor (iDr K W fi) (gDi K asg vs) (tDs K W body) D σ H := by
  obtain ⟨ρ, M, B, ι, s, sl, h⟩ := h
  refine ⟨ρ, M, B, ι, s, sl, (Ws.expr h sl).imp fun items B1 ι1 M1 H1 t1 s1 h1 J wk => ?_⟩
  have w1 : Walk J items.length (fun H => Same B1 H) (YD K B1 ι1 items) := wk
  let Pv : Nat → St → Hp → Prop := fun i σ' Hc => ∃ ρ' B2 ι2 M2, Stp B1 ι1 H1 B2 ι2 Hc ∧ Sim K B2 ι2 M2 Hc ∧ Slots K B2 ι2 ρ' σ' ∧ Ws K W D B1 ι1 H1 (forL asg body (items.drop i) ρ' M2)
  refine ⟨fun i m σ' Hc => m = items.length - i ∧ i ≤ items.length ∧ Pv i σ' Hc, ⟨_, rfl, Nat.zero_le _, ρ, B1, ι1, M1, Stp.refl _ _ _, s1, sl.mono t1.sub t1.pre, h1⟩, ?_⟩
  rintro i m σ' Hc ⟨rfl, hi, ρ', B2, ι2, M2, t2, s2, sl2, w⟩
  have hG : Same B1 Hc := t2.sub.trans s2.sub
  by_cases hlt : i < items.length
  · refine .inr ⟨w1.goes i Hc hlt hG, Pv (i + 1), fun σ'' H' p' => ⟨_, by omega, rfl, hlt, p'⟩, fun y Hy hy => ?_⟩
    have hy := w1.yields i Hc y Hy hlt hG hy
    obtain ⟨it, e1, r1, s3, t3⟩ := ItR.here hy t2.sub t2.pre s2
    rw [List.drop_eq_getElem_cons hlt] at w
    have e2 : items[i] = it := by
      rw [List.getElem?_eq_getElem hlt] at e1
      exact Option.some.inj e1
    rw [e2] at w
    simp only [forL] at w
    cases ea : asg M2 it ρ' with
    | none => rw [ea] at w; exact w.elim
    | some ρ1 =>
      rw [ea] at w
      dsimp only at w
      refine ⟨_, M2, B2, ι2, it, ρ1, s3, sl2, r1, ea, fun σ2 sl3 _ => ⟨ρ1, M2, B2, ι2, s3, sl3, ?_⟩⟩
      have tt := t2.trans t3
      cases eb : body ρ1 M2 with
      | nx ρ4 M4 => rw [eb] at w; exact fun σ4 B4 ι4 H4 t4 s4 sl4 => ⟨ρ4, B4, ι4, M4, tt.trans t4, s4, sl4, w⟩
      | ct ρ4 M4 => rw [eb] at w; exact fun σ4 B4 ι4 H4 t4 s4 sl4 => ⟨ρ4, B4, ι4, M4, tt.trans t4, s4, sl4, w⟩
      | bk ρ4 M4 => rw [eb] at w; exact fun σ4 B4 ι4 H4 t4 s4 sl4 => w σ4 B4 ι4 H4 (tt.trans t4) s4 sl4
      | rt u M4 => rw [eb] at w; exact fun v B4 ι4 H4 t4 s4 r4 => w v B4 ι4 H4 (tt.trans t4) s4 r4
      | exc c ρ4 M4 => rw [eb] at w; exact fun σ4 B4 ι4 H4 t4 s4 sl4 => w σ4 B4 ι4 H4 (tt.trans t4) s4 sl4
      | bad => rw [eb] at w; exact w.elim
  · have e : i = items.length := by omega
    subst e
    rw [List.drop_eq_nil_of_le (Nat.le_refl _)] at w
    exact .inl ⟨w1.stops Hc hG, w σ' B2 ι2 Hc t2 s2 sl2⟩
theorem whl_read {t : DEnv → Mem → R Bool} {body : DEnv → Mem → RS} {n : Nat} (h : tDs K W (whlN t body n) D σ H) : tWhile (tDb K W t) (tDs K W body) D σ H := by
  obtain ⟨ρ, M, B, ι, s, sl, h⟩ := h
  let Pv : Nat → St → Hp → Prop := fun m σ' Hc => ∃ ρ' B2 ι2 M2, Stp B ι H B2 ι2 Hc ∧ Sim K B2 ι2 M2 Hc ∧ Slots K B2 ι2 ρ' σ' ∧ Ws K W D B ι H (whlN t body m ρ' M2)
  refine ⟨Pv, ⟨n, ρ, B, ι, M, Stp.refl _ _ _, s, sl, h⟩, ?_⟩
  rintro m σ' Hc ⟨ρ', B2, ι2, M2, t2, s2, sl2, w⟩
  cases m with
  | zero => exact w.elim
  | succ m =>
    simp only [whlN] at w
    cases et : t ρ' M2 with
    | bad => rw [et] at w; exact w.elim
    | exc c M3 =>
      rw [et] at w
      refine ⟨ρ', M2, B2, ι2, s2, sl2, ?_⟩
      rw [et]
      exact fun B' ι' H' t3 s3 => w σ' B' ι' H' (t2.trans t3) s3 (sl2.mono t3.sub t3.pre)
    | ok b M3 =>
      rw [et] at w
      refine ⟨ρ', M2, B2, ι2, s2, sl2, ?_⟩
      rw [et]
      intro B3 ι3 H3 t3 s3
      have tt := t2.trans t3
      have sl3 := sl2.mono t3.sub t3.pre
      cases b with
      | false =>
        show D.nx σ' H3
        exact w σ' B3 ι3 H3 tt s3 sl3
      | true =>
        show ∃ N : St → Hp → Prop, (∀ σ' H', N σ' H' → ∃ m', m' < m + 1 ∧ Pv m' σ' H') ∧ tDs K W body { D with nx := N, ct := N, bk := D.nx } σ' H3
        refine ⟨Pv m, fun σ'' H' p' => ⟨m, Nat.lt_succ_self _, p'⟩, ρ', M3, B3, ι3, s3, sl3, ?_⟩
        have w : Ws K W D B ι H (match body ρ' M3 with | .nx ρ2 M2 => whlN t body m ρ2 M2 | .ct ρ2 M2 => whlN t body m ρ2 M2 | .bk ρ2 M2 => .nx ρ2 M2 | .rt u M2 => .rt u M2 | .exc c ρ2 M2 => .exc c ρ2 M2 | .bad => .bad) := w
        cases eb : body ρ' M3 with
        | nx ρ4 M4 => rw [eb] at w; exact fun σ4 B4 ι4 H4 t4 s4 sl4 => ⟨ρ4, B4, ι4, M4, tt.trans t4, s4, sl4, w⟩
        | ct ρ4 M4 => rw [eb] at w; exact fun σ4 B4 ι4 H4 t4 s4 sl4 => ⟨ρ4, B4, ι4, M4, tt.trans t4, s4, sl4, w⟩
        | bk ρ4 M4 => rw [eb] at w; exact fun σ4 B4 ι4 H4 t4 s4 sl4 => w σ4 B4 ι4 H4 (tt.trans t4) s4 sl4
        | rt u M4 => rw [eb] at w; exact fun v B4 ι4 H4 t4 s4 r4 => w v B4 ι4 H4 (tt.trans t4) s4 r4
        | exc c ρ4 M4 => rw [eb] at w; exact fun σ4 B4 ι4 H4 t4 s4 sl4 => w σ4 B4 ι4 H4 (tt.trans t4) s4 sl4
        | bad => rw [eb] at w; exact w.elim
end
/-! ### stores -/
def noComp : Expr → Bool
  | .ListComp _ _ _ _ => false
  | .SetComp _ _ _ _ => false
  | .DictComp _ _ _ _ _ => false
  | _ => true
theorem noComp_sw {e : Expr} {t : Option Expr} {l : Nat} {env : Env} (h : noComp e = true) : swapsWith e t l env = pure false := by
  cases e <;> first | rfl | cases h
def notTup : Expr → Bool
  | .Tuple _ _ _ => false
  | _ => true
theorem notTup_sw {tg e : Expr} {env : Env} (h : notTup e = true) : swappedStores [tg] e env = pure none := by
  cases e <;> first | (cases h; done) | (cases tg <;> rfl)
/-- one target that is not swapped with a display -/
def swOk : Expr → Expr → Bool
  | .Name _ _, _ => true
  | .Subscript _ _ _, _ => true
  | _, e => notTup e
theorem swOk_sw {tg e : Expr} {env : Env} (h : swOk tg e = true) : swappedStores [tg] e env = pure none := by
  cases tg with
  | Name x p => cases e <;> rfl
  | Subscript a b p => cases e <;> rfl
  | _ => exact notTup_sw h
section
variable {X : Cx} {K : PySem.W.Frag} {W : WD}
def rPutU (K : PySem.W.Frag) : TSet := fun o i v H Q => ∃ B ι M a b u M', Sim K B ι M H ∧ UR K B ι a o ∧ UR K B ι b i ∧ UR K B ι u v ∧ putU a b u M = some M' ∧ ∀ B' ι' H', Stp B ι H B' ι' H' → Sim K B' ι' M' H' → Q H'
theorem paired_set {α β : Type} {G : α → β → Prop} {x : α} {y : β} (r : G x y) : ∀ {l : List α} {m : List β} (i : Nat), Paired G l m → Paired G (l.set i x) (m.set i y)
  | _, _, _, .nil => .nil
  | _, _, 0, .cons _ b => .cons r b
  | _, _, i + 1, .cons a b => .cons a (paired_set r i b)
theorem set_U (hu : X.A.units + 1 < cLine) : PSet X (rPutU X.K) := by
  intro pins s σ H o i v ov iv u Q I ro ri rv h
  obtain ⟨B, ι, M, a, b, w, M', sm, ra, rb, rw', e, q⟩ := h
  unfold putU at e
  split at e
  · rename_i n
    split at e
    · rename_i ws hM
      split at e
      · rename_i k
        split at e
        · rename_i j hj
          cases e
          cases rb
          obtain ⟨p, rfl, hi, hb, vs, ha, rr⟩ := sm.at ra hM
          obtain ⟨s', t'⟩ := lstWrote sm hi hb (paired_set rw' j rr)
          exact set_list pins s σ H _ _ v ov iv u Q I ro ri rv ⟨p, vs, k, j, rfl, rfl, ha, by rw [← rr.len]; exact hj, q _ _ _ t' s'⟩
        · cases e
      · cases e
    · rename_i kvs hM
      split at e
      · rename_i k hk
        split at e
        · rename_i hl
          cases e
          have ek := keyU_ok hk rb
          subst ek
          obtain ⟨p, rfl, hi, hb, vs, ha, rr⟩ := sm.at ra hM
          obtain ⟨s', t'⟩ := sm.wrote (m := .dct (putA kvs k w)) hi hb (o := .dK (putK vs k v)) ⟨hb, _, upd_same, putA_ok rw' rr⟩
          exact set_dict hu pins s σ H _ _ v ov iv u Q I ro ri rv ⟨p, _, rfl, DPut.k ha (by rw [← Paired.length rr]; exact lim_lt hl), q _ _ _ t' s'⟩
        · cases e
      · cases e
    · cases e
  · cases e
theorem sub_assign {o i : Expr} {pos : Pos} {env : Env} (h : noSlice i = true) (v : Value) : assign (.Subscript o i pos) env v = (do
      let ov ← holding [v] (eval o env)
      let iv ← holding [v, ov] (eval i env)
      standAt pos
      holding [v, ov, iv] (setItem ov iv v)
      release [v, ov, iv] []) := by
  cases i <;> first | rfl | cases h
end
end Mx

set_option Elab.async false
set_option linter.all false
set_option maxRecDepth 100000
set_option maxHeartbeats 8000000
/-! MyB: several names stored at once. -/
namespace Mx
open PySem PySem.Spec PyProof.Rows L2
def localN (sc : Scope) (y : Str) : Bool := match sc.names.lookup y with | some .local => true | _ => false
theorem localN_of {sc : Scope} {y : Str} (h : localN sc y = true) : sc.names.lookup y = some .local := by
  unfold localN at h
  split at h
  · assumption
  · cases h
theorem localN_not {sc : Scope} {y : Str} (h : localN sc y = false) : (sc.names.lookup y == some .local) = false := by
  unfold localN at h
  split at h
  · cases h
  · rename_i n
    exact beq_eq_false_iff_ne.mpr n
section
variable {env : Env} {x y z : Str} {px py pz pt pt2 : Pos} {a b d : Expr} {kt k2 : Nat}
theorem blockK (hk : env.scope.kind = .function) : env.blockKind = .function := by unfold Env.blockKind; rw [hk]; rfl
theorem sw2_some (hk : env.scope.kind = .function) (hx : env.scope.names.lookup x = some .local) (hy : env.scope.names.lookup y = some .local) (hl : (py.line == px.line) = true) (hne : (x == y) = false) (hs : noStar a = true) (hs2 : noStar b = true)
    (hf : ([a, b].all (foldedForSure 8)) = false) (hc : ([a, b].all (constantsAlone 8)) = false) :
    swappedStores [.Tuple [.Name x px, .Name y py] kt pt] (.Tuple [a, b] k2 pt2) env = pure (some [x, y]) := by
  have kx : env.kindOf x = some .local := hx
  have ky : env.kindOf y = some .local := hy
  have hne2 : (y == x) = false := by rw [BEq.comm]; exact hne
  unfold swappedStores
  simp only [blockK hk, kx, ky, hf, hc, hl, List.any_cons, List.any_nil, List.length_cons, List.length_nil, List.filterMap_cons, List.filterMap_nil, List.head?_cons, Option.map_some, Option.getD_some, Expr.pos, beq_self_eq_true, Bool.and_self, Bool.or_false, Bool.and_true, if_true, List.eraseDups_cons, List.filter_cons, List.filter_nil, hne, hne2, Bool.not_false, Bool.true_and, List.eraseDups_nil]
  rw [if_neg (by decide), if_neg ?h2, if_neg (by decide), if_neg (by decide), if_neg (by decide)]
  case h2 =>
    intro h
    rcases Bool.or_eq_true_iff.mp h with h | h
    · cases a <;> first | (cases hs; done) | cases h
    · cases b <;> first | (cases hs2; done) | cases h
theorem sw3_some (hk : env.scope.kind = .function) (hx : env.scope.names.lookup x = some .local) (hy : env.scope.names.lookup y = some .local) (hz : env.scope.names.lookup z = some .local) (hl : (py.line == px.line) = true) (hl2 : (pz.line == px.line) = true) (hne : (x == y) = false) (hne2 : (x == z) = false) (hne3 : (y == z) = false) (hs : noStar a = true) (hs2 : noStar b = true) (hs3 : noStar d = true)
    (hf : ([a, b, d].all (foldedForSure 8)) = false) (hc : ([a, b, d].all (constantsAlone 8)) = false) :
    swappedStores [.Tuple [.Name x px, .Name y py, .Name z pz] kt pt] (.Tuple [a, b, d] k2 pt2) env = pure (some [x, y, z]) := by
  have kx : env.kindOf x = some .local := hx
  have ky : env.kindOf y = some .local := hy
  have kz : env.kindOf z = some .local := hz
  have n1 : (y == x) = false := by rw [BEq.comm]; exact hne
  have n2 : (z == x) = false := by rw [BEq.comm]; exact hne2
  have n3 : (z == y) = false := by rw [BEq.comm]; exact hne3
  unfold swappedStores
  simp only [blockK hk, kx, ky, kz, hf, hc, hl, hl2, List.any_cons, List.any_nil, List.length_cons, List.length_nil, List.filterMap_cons, List.filterMap_nil, List.head?_cons, Option.map_some, Option.getD_some, Expr.pos, beq_self_eq_true, Bool.and_self, Bool.or_false, Bool.and_true, if_true, List.eraseDups_cons, List.filter_cons, List.filter_nil, hne, hne2, hne3, n1, n2, n3, Bool.not_false, Bool.true_and, List.eraseDups_nil]
  rw [if_neg (by decide), if_neg ?h2, if_neg (by decide), if_neg (by decide), if_neg (by decide)]
  case h2 =>
    intro h
    rcases Bool.or_eq_true_iff.mp h with h | h
    · cases a <;> first | (cases hs; done) | cases h
    · rcases Bool.or_eq_true_iff.mp h with h | h
      · cases b <;> first | (cases hs2; done) | cases h
      · cases d <;> first | (cases hs3; done) | cases h
theorem ifs_none {α : Type} {c1 c2 c3 : Bool} {r : Sem (Option α)} (h : c3 = true) : (if c1 = true then pure none else if c2 = true then pure none else if c3 = true then pure none else r) = (pure none : Sem (Option α)) := by
  cases c1 <;> cases c2 <;> simp [h]
theorem sw2_none (h : (localN env.scope x && localN env.scope y) = false) :
    swappedStores [.Tuple [.Name x px, .Name y py] kt pt] (.Tuple [a, b] k2 pt2) env = pure none := by
  unfold swappedStores
  refine ifs_none ?_
  rcases Bool.and_eq_false_iff.mp h with z | z
  · have e : (env.kindOf x == some .local) = false := localN_not z
    simp only [List.filterMap_cons, List.filterMap_nil, e, Bool.false_and, Bool.false_eq_true, if_false]
    split <;> simp
  · have e : (env.kindOf y == some .local) = false := localN_not z
    simp only [List.filterMap_cons, List.filterMap_nil, e, Bool.false_and, Bool.false_eq_true, if_false]
    split <;> simp
theorem sw3_none (h : (localN env.scope x && localN env.scope y && localN env.scope z) = false) :
    swappedStores [.Tuple [.Name x px, .Name y py, .Name z pz] kt pt] (.Tuple [a, b, d] k2 pt2) env = pure none := by
  unfold swappedStores
  refine ifs_none ?_
  rcases Bool.and_eq_false_iff.mp h with w | w
  · rcases Bool.and_eq_false_iff.mp w with w | w
    · have e : (env.kindOf x == some .local) = false := localN_not w
      simp only [List.filterMap_cons, List.filterMap_nil, e, Bool.false_and, Bool.false_eq_true, if_false]
      repeat' split
      all_goals simp
    · have e : (env.kindOf y == some .local) = false := localN_not w
      simp only [List.filterMap_cons, List.filterMap_nil, e, Bool.false_and, Bool.false_eq_true, if_false]
      repeat' split
      all_goals simp
  · have e : (env.kindOf z == some .local) = false := localN_not w
    simp only [List.filterMap_cons, List.filterMap_nil, e, Bool.false_and, Bool.false_eq_true, if_false]
    repeat' split
    all_goals simp
theorem sw_long {ts vs : List Expr} (h : 4 ≤ ts.length) : swappedStores [.Tuple ts kt pt] (.Tuple vs k2 pt2) env = pure none := by
  unfold swappedStores
  have e : (!(ts.length == 2 || ts.length == 3)) = true := by
    have h1 : (ts.length == 2) = false := by simp; omega
    have h2 : (ts.length == 3) = false := by simp; omega
    rw [h1, h2]
    rfl
  simp only [e, Bool.true_or, if_true]
theorem sw_subs {o i o2 i2 : Expr} {p1 p2 : Pos} : swappedStores [.Tuple [.Subscript o i p1, .Subscript o2 i2 p2] kt pt] (.Tuple [a, b] k2 pt2) env = pure none := by
  unfold swappedStores
  exact ifs_none rfl
end
end Mx

set_option Elab.async false
set_option linter.all false
set_option maxRecDepth 100000
set_option maxHeartbeats 16000000
/-! MyC: statements do what their programs do. -/
namespace Mx
open PySem PySem.Spec PyProof.Rows L2

theorem st1 {a : Expr} (h : [a].all noStar = true) : noStar a = true := by
  rw [List.all_cons, Bool.and_eq_true] at h
  exact h.1
theorem st3 {a b d : Expr} (h : [a, b, d].all noStar = true) : noStar a = true ∧ noStar b = true ∧ noStar d = true := by
  simp only [List.all_cons, List.all_nil, Bool.and_true, Bool.and_eq_true] at h
  exact ⟨h.1, h.2.1, h.2.2⟩
def namesG : List Nat → Tgs
  | [] => .nil
  | i :: r => .cons (.n i) (namesG r)
theorem namesG_asg {M : Mem} : ∀ (is : List Nat) (us : List U) (ρ : DEnv), (namesG is).asg M us ρ = parD is us ρ
  | [], [], ρ => by simp [namesG, Tgs.asg, parD]
  | [], _ :: _, ρ => by simp [namesG, Tgs.asg, parD]
  | _ :: _, [], ρ => by simp [namesG, Tgs.asg, parD]
  | i :: is, u :: us, ρ => by
    simp only [namesG, Tgs.asg, Tg.asg, parD]
    exact namesG_asg is us _
/-- may the names be stored so? -/
def parOk (sc : Scope) (ts vs : List Expr) : Bool :=
  match ts, vs with
  | [.Name x px, .Name y py], [a, b] => !(localN sc x && localN sc y) || ((py.line == px.line) && !(x == y) && !([a, b].all (foldedForSure 8)) && !([a, b].all (constantsAlone 8)))
  | [.Name x px, .Name y py, .Name z pz], [a, b, d] => !(localN sc x && localN sc y && localN sc z) || ((py.line == px.line) && (pz.line == px.line) && !(x == y) && !(x == z) && !(y == z) && !([a, b, d].all (foldedForSure 8)) && !([a, b, d].all (constantsAlone 8)))
  | _ :: _ :: _ :: _ :: _, _ => decide (ts.length ≤ 1000) && decide (vs.length = ts.length)
  | _, _ => false
/-- name = [..] on one line -/
def swpOk (sc : Scope) (tg e : Expr) : Bool :=
  match tg, e with
  | .Name y p, .ListComp _ _ scope pos => localN sc y && (p.line == pos.line) && !(scope.names.any fun (m, k) => m == y && (k == .local || k == .cell))
  | _, _ => false
mutual
def chkS (G : Glob) : Nat → Cf → Sm → Stmt → Bool
  | 0, _, _, _ => false
  | n + 1, c, s, st => match s with
    | .ex x => match st with
      | .Expr e _ => noComp e && chkE G n c x e
      | _ => false
    | .asg g x => match st with
      | .Assign [tg] e _ => swOk tg e && noStar tg && chkG c g tg && chkE G n c x e && (noComp e || swpOk c.sc tg e)
      | _ => false
    | .par is xs => match st with
      | .Assign [.Tuple ts _ _] (.Tuple vs _ _) _ => ts.all noStar && vs.all noStar && chkGs c (namesG is) ts && chkL G n c xs vs && parOk c.sc ts vs
      | _ => false
    | .put a i x => match st with
      | .Assign [.Subscript o j p] e _ => noSlice j && noComp e && swOk (.Subscript o j p) e && chkE G n c x e && chkE G n c a o && chkE G n c i j
      | _ => false
    | .put2 a i a2 i2 x x2 => match st with
      | .Assign [.Tuple [.Subscript o j _, .Subscript o2 j2 _] _ _] (.Tuple [e, e2] _ _) _ => noSlice j && noSlice j2 && noStar e && noStar e2 && chkE G n c x e && chkE G n c x2 e2 && chkE G n c a o && chkE G n c i j && chkE G n c a2 o2 && chkE G n c i2 j2
      | _ => false
    | .ite t a b => match st with
      | .If e x y _ => chkE G n c t e && chkSs G n c a x && chkSs G n c b y
      | _ => false
    | .loop g ik is b => match st with
      | .For tg iter body [] _ => chkG c g tg && noSet iter && chkI G n c ik is tg iter && chkSs G n c b body
      | _ => false
    | .whl _ t b => match st with
      | .While e body [] _ => chkE G n c t e && chkSs G n c b body
      | _ => false
    | .ret x => match st with
      | .Return (some e) _ => chkE G n c x e
      | _ => false
    | .retn => match st with
      | .Return none _ => true
      | _ => false
    | .rai x => match st with
      | .Raise (some (.Call (.Name y _) [.Constant (.str _) _ _] [] _)) none _ => decide (x = y) && G.exc.contains y && c.isGl y && okNm y
      | _ => false
    | .pass => match st with
      | .Pass _ => true
      | _ => false
def chkSs (G : Glob) : Nat → Cf → Sms → List Stmt → Bool
  | 0, _, _, _ => false
  | _ + 1, _, .nil, [] => true
  | n + 1, c, .cons s r, st :: sts => chkS G n c s st && chkSs G n c r sts
  | _ + 1, _, .nil, _ :: _ => false
  | _ + 1, _, .cons _ _, [] => false
end
section
variable {G : Glob} {k : Nat} {cb : Cb} {n : Nat} {X : Cx} {c : Cf} {Wx : WX} {st : Stmt}
abbrev Does (cb : Cb) (X : Cx) (Wx : WX) (s : Sm) (st : Stmt) : Prop := PS X st (tDs X.K (wd X.mg Wx) (denS cb s))
structure SndS (G : Glob) (k : Nat) (cb : Cb) (n : Nat) : Prop where
  s : ∀ {c : Cf} {s : Sm} {st : Stmt} {X : Cx} {Wx : WX}, c.blk = false → XOk X c G k cb Wx → chkS G n c s st = true → PS X st (tDs X.K (wd X.mg Wx) (denS cb s))
  ss : ∀ {c : Cf} {s : Sms} {st : List Stmt} {X : Cx} {Wx : WX}, c.blk = false → XOk X c G k cb Wx → chkSs G n c s st = true → PSs X st (tDs X.K (wd X.mg Wx) (denSs cb s))
theorem Wp.asg {K : PySem.W.Frag} {W : WD} {D : Ends} {σ : St} {B H : Hp} {ι : List Addr} {ρ : DEnv} {r : R U} {f : U → Mem → RS} (h : Ws K W D B ι H (r.toS ρ f)) (sl : Slots K B ι ρ σ) : Wp K W σ B ι H r fun u B' ι' M' H' => Ws K W D B' ι' H' (f u M') := Ws.expr h sl
theorem cs_ex (S : Snd G k cb n) {x : Ex} (ok : XOk X c G k cb Wx) (h : chkS G (n + 1) c (.ex x) st = true) : Does cb X Wx (.ex x) st := by
  cases st with
  | Expr e p =>
    simp only [chkS, Bool.and_eq_true] at h
    refine psImp (ps_expr (S.e ok h.2).1 (noComp_sw h.1)) fun D σ H hq => ?_
    obtain ⟨ρ, M, B, ι, s, sl, hw⟩ := hq
    simp only [denS] at hw
    refine ⟨ρ, M, B, ι, s, sl, (Ws.expr hw sl).imp fun u B1 ι1 M1 H1 t1 s1 h1 v r1 => h1 σ B1 ι1 H1 (Stp.refl _ _ _) s1 (sl.mono t1.sub t1.pre)⟩
  | _ => simp [chkS] at h
/-- a value, then a target -/
theorem asg_read {K : PySem.W.Frag} {W : WD} {f : DEnv → Mem → R U} {g : Tg} {D : Ends} {σ : St} {H : Hp}
    (h : tDs K W (fun ρ M => (f ρ M).toS ρ fun u M => match g.asg M u ρ with | some ρ1 => .nx ρ1 M | none => .bad) D σ H) : tD K W f σ H fun x H1 => gDr K (fun M => g.asg M) g.slots x σ H1 D.nx := by
  obtain ⟨ρ, M, B, ι, s, sl, hw⟩ := h
  refine ⟨ρ, M, B, ι, s, sl, (Ws.expr hw sl).imp fun u B1 ι1 M1 H1 t1 s1 h1 v r1 => ?_⟩
  cases e : g.asg M1 u ρ with
  | none => rw [e] at h1; exact h1.elim
  | some ρ1 =>
    rw [e] at h1
    exact ⟨ρ, M1, B1, ι1, u, ρ1, s1, sl.mono t1.sub t1.pre, r1, e, fun σ' sl' _ => h1 σ' B1 ι1 H1 (Stp.refl _ _ _) s1 sl'⟩
theorem gn_read {K : PySem.W.Frag} {i : Nat} {v : V} {σ : St} {H : Hp} {Q : St → Hp → Prop} (h : gDr K (fun M => Tg.asg M (.n i)) (Tg.slots (.n i)) v σ H Q) : gName i v σ H Q := by
  obtain ⟨ρ, M, B, ι, u, ρ', s, sl, r, q, z⟩ := h
  simp only [Tg.asg, Option.some.injEq] at q
  subst q
  refine z _ (sl.set r i) fun j hj => ?_
  have hj : i ≠ j := fun z => hj (by simp only [Tg.slots]; exact List.mem_singleton.mpr z.symm)
  exact List.getElem?_set_ne hj
theorem cs_asg (S : Snd G k cb n) {g : Tg} {x : Ex} (hb : c.blk = false) (ok : XOk X c G k cb Wx) (h : chkS G (n + 1) c (.asg g x) st = true) : Does cb X Wx (.asg g x) st := by
  have e0 : denS cb (.asg g x) = fun ρ M => (den cb x ρ M).toS ρ fun u M => match g.asg M u ρ with | some ρ1 => .nx ρ1 M | none => .bad := by
    funext ρ M
    first | (simp only [denS]; done) | (simp only [denS]; rfl)
  unfold Does
  rw [e0]
  unfold chkS at h
  dsimp only at h
  split at h
  · rename_i tg e p
    simp only [Bool.and_eq_true] at h
    obtain ⟨⟨⟨⟨h1, h2⟩, h3⟩, h4⟩, h5⟩ := h
    by_cases hc : noComp e = true
    · refine psImp (ps_asg (S.e ok h4).1 (dg_target ok g tg h3) (noComp_sw hc) (swOk_sw h1) ?_) fun D σ H hq => asg_read hq
      exact asg_cons (ts := []) h2
    · rw [Bool.or_eq_true, or_iff_right hc] at h5
      unfold swpOk at h5
      split at h5
      · rename_i y p2 elt gs scope pos
        simp only [Bool.and_eq_true] at h5
        obtain ⟨⟨a1, a2⟩, a3⟩ := h5
        have hl : X.env.scope.names.lookup y = some .local := by rw [ok.sc]; exact localN_of a1
        cases g with
        | t ts => simp [chkG] at h3
        | n i =>
          simp only [chkG] at h3
          cases e1 : c.store y with
          | none => rw [e1] at h3; cases h3
          | some j =>
            rw [e1] at h3
            have hj : i = j := by simpa using h3
            subst hj
            obtain ⟨g1, _, _⟩ := ok.store e1
            have hsw : ∀ gs', swapsWith (.ListComp elt gs' scope pos) (some (.Name y p2)) p.line X.env = pure true := fun gs' => sw_true ok.kind hl a2 (by simpa using a3)
            cases n with
            | zero => simp [chkE] at h4
            | succ n =>
              cases x with
              | lc m g2 ik is t vs x =>
                unfold chkE at h4
                dsimp only at h4
                split at h4
                · rename_i heq
                  injection heq with q1 q2 q3 q4
                  subst q1 q2 q3 q4
                  simp only [Bool.and_eq_true, natsEq, decide_eq_true_eq] at h4
                  obtain ⟨⟨⟨⟨⟨⟨⟨b1, b2⟩, b3⟩, rfl⟩, b5⟩, b6⟩, b7⟩, b8⟩ := h4
                  have S := (snd_all G k cb n).1
                  have bk : BlkOk c.N c.sc scope _ := blkOk_by b2
                  have okk : BlkOk X.N X.env.scope scope (ownOf c.N scope.names) := by
                    rw [ok.N, ok.sc]
                    exact bk
                  refine psImp (ps_setLc (own := ownOf c.N scope.names) (g := gDi X.K g2.asgI g2.slots) (tt := tDb X.K (wd X.mg fun _ _ _ _ => False) (denT cb t)) (te := tD X.K (wd X.mg fun _ _ _ _ => False) (den cb x)) ok.calm ok.nd g1 hl (hsw _) (S.i ok b6) okk (fun s H C cl fp => dg_item (ok.block _ bk.kind s H C cl fp) g2 _ b1) (fun s H C cl fp => S.t (ok.block _ bk.kind s H C cl fp) b7) (fun s H C cl fp => (S.e (ok.block _ bk.kind s H C cl fp) b8).1) (noSet_fold b5)) fun D σ H hq => ?_
                  refine lc_read (c := c) (scope := scope) m b3 ?_
                  obtain ⟨ρ, M, B, ι, s, sl, hw⟩ := asg_read (f := den cb (.lc m g2 ik is t (ownS c scope) x)) (g := .n i) hq
                  refine ⟨ρ, M, B, ι, s, sl, ?_⟩
                  simp only [den] at hw
                  exact Wp.imp hw fun u B' ι' M' H' _ _ z v rv => gn_read (z v rv)
                · cases h4
              | lc2 m g2 ik is t g3 ik1 is1 t1 vs vs1 x =>
                unfold chkE at h4
                dsimp only at h4
                split at h4
                · rename_i heq
                  injection heq with q1 q2 q3 q4
                  subst q1 q2 q3 q4
                  simp only [Bool.and_eq_true, natsEq, decide_eq_true_eq] at h4
                  obtain ⟨⟨⟨⟨⟨⟨⟨⟨⟨⟨⟨⟨⟨a1, a2⟩, a3⟩, a4⟩, a5⟩, rfl⟩, rfl⟩, a8⟩, a9⟩, b1⟩, b2⟩, b3⟩, b4⟩, b5⟩ := h4
                  have S := (snd_all G k cb n).1
                  have bk : BlkOk c.N c.sc scope _ := blkOk_by a3
                  have okk : BlkOk X.N X.env.scope scope (ownOf c.N scope.names) := by
                    rw [ok.N, ok.sc]
                    exact bk
                  refine psImp (ps_setLc2 (own := ownOf c.N scope.names) (g := gDi X.K g2.asgI g2.slots) (g1 := gDi X.K g3.asgI g3.slots) (tt := tDb X.K (wd X.mg fun _ _ _ _ => False) (denT cb t)) (tt1 := tDb X.K (wd X.mg fun _ _ _ _ => False) (denT cb t1)) (wi1 := iDr X.K (wd X.mg fun _ _ _ _ => False) fun ρ M => (denL cb is1 ρ M).bind (walkI ik1)) (te := tD X.K (wd X.mg fun _ _ _ _ => False) (den cb x)) ok.calm ok.nd g1 hl (hsw _) (S.i ok b1) okk
                    (fun i hi => show i ∈ ownS c scope from by have := List.all_eq_true.mp a5 i hi; simpa using this) (fun s H C cl fp => dg_item (ok.block _ bk.kind s H C cl fp) g2 _ a1) (fun s H C cl fp => S.t (ok.block _ bk.kind s H C cl fp) b2) (fun s H C cl fp => S.i (ok.block _ bk.kind s H C cl fp) b3) (fun s H C cl fp => dg_item (ok.block _ bk.kind s H C cl fp) g3 _ a2) (fun s H C cl fp => S.t (ok.block _ bk.kind s H C cl fp) b4)
                    (fun s H C cl fp => (S.e (ok.block _ bk.kind s H C cl fp) b5).1) (noSet_fold a8) fun env y => noSet_fold a9 y) fun D σ H hq => ?_
                  refine lc2_read (c := c) (scope := scope) m a4 ?_
                  obtain ⟨ρ, M, B, ι, s, sl, hw⟩ := asg_read (f := den cb (.lc2 m g2 ik is t g3 ik1 is1 t1 (ownS c scope) g3.slots x)) (g := .n i) hq
                  refine ⟨ρ, M, B, ι, s, sl, ?_⟩
                  simp only [den] at hw
                  exact Wp.imp hw fun u B' ι' M' H' _ _ z v rv => gn_read (z v rv)
                · cases h4
              | _ => simp [chkE, noLc] at h4
      · cases h5
  · cases h
/-- the values of a display, stored one by one: the tuple itself is aside -/
theorem par_read {fl : DEnv → Mem → R (List U)} {is : List Nat} {D : Ends} {σ : St} {H : Hp} {m : Nat} {K : PySem.W.Frag} {W : WD} (hm : ∀ ρ M us M', fl ρ M = .ok us M' → us.length = m) (hm2 : m ≤ 1000)
    (h : tDs K W (fun ρ M => (fl ρ M).toS ρ fun us M => match parD is us ρ with | some ρ1 => .nx ρ1 M | none => .bad) D σ H) :
    tTup (tDa K W fl) σ H fun x H1 => gTup K m (gDs K (fun M => (namesG is).asg M) (namesG is).slots) x σ H1 D.nx := by
  obtain ⟨ρ, M, B, ι, s, sl, hw⟩ := h
  refine ⟨ρ, M, B, ι, s, sl, ?_⟩
  dsimp only at hw
  cases ef : fl ρ M with
  | bad => rw [ef] at hw; exact hw.elim
  | exc c M1 => rw [ef] at hw; exact fun B1 ι1 H1 t1 s1 => hw σ B1 ι1 H1 t1 s1 (sl.mono t1.sub t1.pre)
  | ok us M1 =>
    rw [ef] at hw
    have hw : Ws K W D B ι H (match parD is us ρ with | some ρ1 => .nx ρ1 M1 | none => .bad) := hw
    intro B1 ι1 H1 t1 s1 vs r1
    have hlen : vs.length = m := by rw [← r1.len]; exact hm _ _ _ _ ef
    refine ⟨by rw [hlen, ← lim_eq]; exact Nat.le_trans hm2 (by decide), fun p hp => ?_⟩
    cases ep : parD is us ρ with
    | none => rw [ep] at hw; exact hw.elim
    | some ρ1 =>
      rw [ep] at hw
      obtain ⟨s2, t2⟩ := s1.aside hp (.tup vs)
      exact ⟨p, vs, rfl, .inl (.inl upd_same), hlen, ρ, M1, B1, ι1, us, ρ1, s2, (sl.mono t1.sub t1.pre), r1, (namesG_asg is us ρ).trans ep, fun σ' sl' _ => hw σ' B1 ι1 _ (t1.trans t2) s2 sl'⟩
theorem slots_set2 {K : PySem.W.Frag} {B : Hp} {ι : List Addr} {ρ : DEnv} {σ : St} {u w : U} {v x : V} (sl : Slots K B ι ρ σ) (r : UR K B ι u v) (q : UR K B ι w x) (i j : Nat) : Slots K B ι ((ρ.set i (some u)).set j (some w)) ((σ.set i (some v)).set j (some x)) := (sl.set r i).set q j
theorem par_len {fl : DEnv → Mem → R (List U)} {is : List Nat} {D : Ends} {σ : St} {H : Hp} {m : Nat} {K : PySem.W.Frag} {W : WD} (hm : ∀ ρ M us M', fl ρ M = .ok us M' → us.length = m)
    (h : tDs K W (fun ρ M => (fl ρ M).toS ρ fun us M => match parD is us ρ with | some ρ1 => .nx ρ1 M | none => .bad) D σ H) :
    tDa K W fl σ H fun vs H1 => vs.length = m ∧ ∃ ρ M1 B1 ι1 us ρ1, Sim K B1 ι1 M1 H1 ∧ Slots K B1 ι1 ρ σ ∧ URs K B1 ι1 us vs ∧ parD is us ρ = some ρ1 ∧ ∀ σ', Slots K B1 ι1 ρ1 σ' → D.nx σ' H1 := by
  obtain ⟨ρ, M, B, ι, s, sl, hw⟩ := h
  refine ⟨ρ, M, B, ι, s, sl, ?_⟩
  dsimp only at hw
  cases ef : fl ρ M with
  | bad => rw [ef] at hw; exact hw.elim
  | exc c M1 => rw [ef] at hw; exact fun B1 ι1 H1 t1 s1 => hw σ B1 ι1 H1 t1 s1 (sl.mono t1.sub t1.pre)
  | ok us M1 =>
    rw [ef] at hw
    have hw : Ws K W D B ι H (match parD is us ρ with | some ρ1 => .nx ρ1 M1 | none => .bad) := hw
    intro B1 ι1 H1 t1 s1 vs r1
    refine ⟨by rw [← r1.len]; exact hm _ _ _ _ ef, ?_⟩
    cases ep : parD is us ρ with
    | none => rw [ep] at hw; exact hw.elim
    | some ρ1 =>
      rw [ep] at hw
      exact ⟨ρ, M1, B1, ι1, us, ρ1, s1, sl.mono t1.sub t1.pre, r1, ep, fun σ' sl' => hw σ' B1 ι1 _ t1 s1 sl'⟩
theorem cs_par (S : Snd G k cb n) {is : List Nat} {xs : Exs} (hb : c.blk = false) (ok : XOk X c G k cb Wx) (h : chkS G (n + 1) c (.par is xs) st = true) : Does cb X Wx (.par is xs) st := by
  have e0 : denS cb (.par is xs) = fun ρ M => (denL cb xs ρ M).toS ρ fun us M => match parD is us ρ with | some ρ1 => .nx ρ1 M | none => .bad := by
    funext ρ M
    first | (simp only [denS]; done) | (simp only [denS]; rfl)
  unfold Does
  rw [e0]
  unfold chkS at h
  dsimp only at h
  split at h
  · rename_i ts kt pt vs k2 pt2 p
    simp only [Bool.and_eq_true] at h
    obtain ⟨⟨⟨⟨h1, h2⟩, h3⟩, h4⟩, h5⟩ := h
    have hA := S.l ok h2 h4
    have hlen : ∀ ρ M us M', denL cb xs ρ M = .ok us M' → us.length = vs.length := fun ρ M us M' e => by rw [denL_len e, chkL_len h4]
    have slow : ∀ m, vs.length = m → ts.length = m → m ≤ 1000 → swappedStores [.Tuple ts kt pt] (.Tuple vs k2 pt2) X.env = pure none → PS X (.Assign [.Tuple ts kt pt] (.Tuple vs k2 pt2) p) (tDs X.K (wd X.mg Wx) fun ρ M => (denL cb xs ρ M).toS ρ fun us M => match parD is us ρ with | some ρ1 => .nx ρ1 M | none => .bad) := fun m hm hm' hm2 hsw => by
      obtain ⟨a1, a2⟩ := asg_each (env := X.env) h1
      refine psImp (ps_asg (pe_tup hA) (pg_tup (n := m) ok.calm (dgs_list ok (namesG is) ts h1 h3) (a1.trans hm') a2) rfl hsw rfl) fun D σ H hq => ?_
      exact par_read (fun ρ M us M' e => (hlen ρ M us M' e).trans hm) hm2 hq
    unfold parOk at h5
    split at h5
    · rename_i x px y py a b
      rw [Bool.or_eq_true] at h5
      by_cases hl : (localN c.sc x && localN c.sc y) = true
      · have hl' := Bool.and_eq_true_iff.mp hl
        rw [hl] at h5
        simp only [Bool.not_true, Bool.false_eq_true, false_or, Bool.and_eq_true, Bool.not_eq_true'] at h5
        obtain ⟨⟨⟨q1, q2⟩, q3⟩, q4⟩ := h5
        rw [List.all_cons, Bool.and_eq_true] at h2
        have hx : X.env.scope.names.lookup x = some .local := by rw [ok.sc]; exact localN_of hl'.1
        have hy : X.env.scope.names.lookup y = some .local := by rw [ok.sc]; exact localN_of hl'.2
        match is, h3 with
        | [i, j], h3 =>
          simp only [namesG, chkGs, chkG, Bool.and_eq_true] at h3
          obtain ⟨g1, g2, _⟩ := h3
          cases e1 : c.store x with
          | none => rw [e1] at g1; cases g1
          | some i' =>
            rw [e1] at g1
            obtain rfl : i = i' := by simpa using g1
            cases e2 : c.store y with
            | none => rw [e2] at g2; cases g2
            | some j' =>
              rw [e2] at g2
              obtain rfl : j = j' := by simpa using g2
              obtain ⟨m1, _, _⟩ := ok.store e1
              obtain ⟨m2, _, _⟩ := ok.store e2
              have hij : i ≠ j := fun z => by
                subst z
                rw [m1] at m2
                have : x = y := Option.some.inj m2
                rw [this] at q2
                simp at q2
              refine psImp (ps_par ok.calm ok.nd m1 m2 hij hx hy hA (sw2_some ok.kind hx hy q1 q2 h2.1 (st1 h2.2) q3 q4) rfl) fun D σ H hq => ?_
              obtain ⟨ρ, M, B, ι, s, sl, hw⟩ := par_len (fun ρ M us M' e => hlen ρ M us M' e) hq
              refine ⟨ρ, M, B, ι, s, sl, hw.imp fun us B' ι' M' H' _ _ z vs rv => ?_⟩
              obtain ⟨hl3, ρ2, M2, B2, ι2, us2, ρ3, s2, sl2, r2, ep, kk⟩ := z vs rv
              match vs, hl3, r2 with
              | [v, w], _, r2 =>
                cases r2 with
                | cons ra rb =>
                  cases rb with
                  | cons rb rc =>
                    cases rc
                    simp only [parD, Option.some.injEq] at ep
                    subst ep
                    exact ⟨v, w, rfl, kk _ (slots_set2 sl2 ra rb i j)⟩
        | [], h3 => simp [namesG, chkGs] at h3
        | [_], h3 => simp [namesG, chkGs] at h3
        | _ :: _ :: _ :: _, h3 => simp [namesG, chkGs] at h3
      · have hl : (localN X.env.scope x && localN X.env.scope y) = false := by rw [ok.sc]; simpa using hl
        exact slow 2 rfl rfl (by decide) (sw2_none hl)
    · rename_i x px y py z pz a b d
      rw [Bool.or_eq_true] at h5
      by_cases hl : (localN c.sc x && localN c.sc y && localN c.sc z) = true
      · have hl' := Bool.and_eq_true_iff.mp hl
        have hl'' := Bool.and_eq_true_iff.mp hl'.1
        rw [hl] at h5
        simp only [Bool.not_true, Bool.false_eq_true, false_or, Bool.and_eq_true, Bool.not_eq_true'] at h5
        obtain ⟨⟨⟨⟨⟨⟨q1, q2⟩, q3⟩, q4⟩, q5⟩, q6⟩, q7⟩ := h5
        obtain ⟨s1, s2, s3⟩ := st3 h2
        have hx : X.env.scope.names.lookup x = some .local := by rw [ok.sc]; exact localN_of hl''.1
        have hy : X.env.scope.names.lookup y = some .local := by rw [ok.sc]; exact localN_of hl''.2
        have hz : X.env.scope.names.lookup z = some .local := by rw [ok.sc]; exact localN_of hl'.2
        match is, h3 with
        | [i, j, l], h3 =>
          simp only [namesG, chkGs, chkG, Bool.and_eq_true] at h3
          obtain ⟨g1, g2, g3, _⟩ := h3
          cases e1 : c.store x with
          | none => rw [e1] at g1; cases g1
          | some i' =>
            rw [e1] at g1
            obtain rfl : i = i' := by simpa using g1
            cases e2 : c.store y with
            | none => rw [e2] at g2; cases g2
            | some j' =>
              rw [e2] at g2
              obtain rfl : j = j' := by simpa using g2
              cases e3 : c.store z with
              | none => rw [e3] at g3; cases g3
              | some l' =>
                rw [e3] at g3
                obtain rfl : l = l' := by simpa using g3
                obtain ⟨m1, _, _⟩ := ok.store e1
                obtain ⟨m2, _, _⟩ := ok.store e2
                obtain ⟨m3, _, _⟩ := ok.store e3
                have dif : ∀ {i j : Nat} {x y : Str}, X.N[i]? = some x → X.N[j]? = some y → (x == y) = false → i ≠ j := fun m1 m2 q z => by
                  subst z
                  rw [m1] at m2
                  rw [Option.some.inj m2] at q
                  simp at q
                refine psImp (ps_par3 ok.calm ok.nd m1 m2 m3 (dif m1 m2 q3) (dif m1 m3 q4) (dif m2 m3 q5) hx hy hz hA (sw3_some ok.kind hx hy hz q1 q2 q3 q4 q5 s1 s2 s3 q6 q7) rfl) fun D σ H hq => ?_
                obtain ⟨ρ, M, B, ι, s, sl, hw⟩ := par_len (fun ρ M us M' e => hlen ρ M us M' e) hq
                refine ⟨ρ, M, B, ι, s, sl, hw.imp fun us B' ι' M' H' _ _ z vs rv => ?_⟩
                obtain ⟨hl3, ρ2, M2, B2, ι2, us2, ρ3, s2, sl2, r2, ep, kk⟩ := z vs rv
                match vs, hl3, r2 with
                | [v, w, t], _, r2 =>
                  cases r2 with
                  | cons ra rb =>
                    cases rb with
                    | cons rb rc =>
                      cases rc with
                      | cons rc rd =>
                        cases rd
                        simp only [parD, Option.some.injEq] at ep
                        subst ep
                        exact ⟨v, w, t, rfl, kk _ ((slots_set2 sl2 ra rb i j).set rc l)⟩
        | [], h3 => simp [namesG, chkGs] at h3
        | [_], h3 => simp [namesG, chkGs] at h3
        | [_, _], h3 => simp [namesG, chkGs] at h3
        | _ :: _ :: _ :: _ :: _, h3 => simp [namesG, chkGs] at h3
      · have hl : (localN X.env.scope x && localN X.env.scope y && localN X.env.scope z) = false := by rw [ok.sc]; simpa using hl
        exact slow 3 rfl rfl (by decide) (sw3_none hl)
    · rename_i t1 t2 t3 t4 tr
      simp only [Bool.and_eq_true, decide_eq_true_eq] at h5
      exact slow _ h5.2 rfl h5.1 (sw_long (by simp))
    · cases h5
  · cases h
end
end Mx

set_option Elab.async false
set_option linter.all false
set_option maxRecDepth 100000
set_option maxHeartbeats 16000000
/-! MyD: statements, further; blocks. -/
namespace Mx
open PySem PySem.Spec PyProof.Rows L2
section
variable {G : Glob} {k : Nat} {cb : Cb} {n : Nat} {X : Cx} {c : Cf} {Wx : WX} {st : Stmt} {K : PySem.W.Frag} {W : WD}
/-- o[i] = v, told by the values' programs -/
def putR (fa fi : DEnv → Mem → R U) (u : U) (ρ : DEnv) (M : Mem) (nxt : Mem → RS) : RS := (fa ρ M).toS ρ fun x M => (fi ρ M).toS ρ fun y M => match putU x y u M with | some M1 => nxt M1 | none => .bad
theorem put_read {fa fi : DEnv → Mem → R U} {u : U} {v : V} {ρ : DEnv} {M : Mem} {B H : Hp} {ι : List Addr} {σ : St} {D : Ends} {nxt : Mem → RS} {P : St → Hp → Prop} (s : Sim K B ι M H) (sl : Slots K B ι ρ σ) (ru : UR K B ι u v)
    (hw : Ws K W D B ι H (putR fa fi u ρ M nxt)) (kk : ∀ B' ι' H' M', Stp B ι H B' ι' H' → Sim K B' ι' M' H' → Ws K W D B' ι' H' (nxt M') → P σ H') : gSub (tD K W fa) (tD K W fi) (rPutU K) v σ H P := by
  refine ⟨ρ, M, B, ι, s, sl, (Ws.expr hw sl).imp fun x B1 ι1 M1 H1 t1 s1 h1 vx rx => ?_⟩
  refine ⟨ρ, M1, B1, ι1, s1, sl.mono t1.sub t1.pre, (Ws.expr h1 (sl.mono t1.sub t1.pre)).imp fun y B2 ι2 M2 H2 t2 s2 h2 vy ry => ?_⟩
  cases e : putU x y u M2 with
  | none => rw [e] at h2; exact h2.elim
  | some M3 =>
    rw [e] at h2
    exact ⟨B2, ι2, M2, x, y, u, M3, s2, rx.mono t2.sub t2.pre, ry, (ru.mono t1.sub t1.pre).mono t2.sub t2.pre, e, fun B' ι' H' t' s' => kk B' ι' H' M3 ((t1.trans t2).trans t') s' (Ws.shift h2 t')⟩
theorem cs_put (S : Snd G k cb n) {a i x : Ex} (ok : XOk X c G k cb Wx) (h : chkS G (n + 1) c (.put a i x) st = true) : Does cb X Wx (.put a i x) st := by
  unfold chkS at h
  dsimp only at h
  split at h
  · simp only [Bool.and_eq_true] at h
    obtain ⟨⟨⟨⟨⟨h1, h2⟩, h3⟩, h4⟩, h5⟩, h6⟩ := h
    refine psImp (ps_asg (S.e ok h4).1 (pg_sub (S.e ok h5).1 (S.e ok h6).1 (set_U (hu_of ok.room)) (sub_assign h1)) (by unfold swapsWithSole; exact noComp_sw h2) (by exact swOk_sw h3) rfl) fun D σ H hq => ?_
    obtain ⟨ρ, M, B, ι, s, sl, hw⟩ := hq
    simp only [denS] at hw
    refine ⟨ρ, M, B, ι, s, sl, (Ws.expr hw sl).imp fun u B1 ι1 M1 H1 t1 s1 h1 v r1 => ?_⟩
    exact put_read (nxt := fun M => .nx ρ M) s1 (sl.mono t1.sub t1.pre) r1 h1 fun B' ι' H' M' t' s' w => w σ B' ι' H' (Stp.refl _ _ _) s' ((sl.mono t1.sub t1.pre).mono t'.sub t'.pre)
  · cases h
/-- two items stored, one behind the other -/
theorem pgs_two {o i o2 i2 : Expr} {to ti to2 ti2 : TE} {t : TSet} {p1 p2 : Pos} (ho : PE X o to) (hi : PE X i ti) (ho2 : PE X o2 to2) (hi2 : PE X i2 ti2) (hs : PSet X t) (h1 : noSlice i = true) (h2 : noSlice i2 = true) :
    PGs X [.Subscript o i p1, .Subscript o2 i2 p2] (gCons (gSub to ti t) (gCons (gSub to2 ti2 t) gNil)) :=
  pgs_cons (pg_sub ho hi hs (sub_assign h1)) (pgs_cons (pg_sub ho2 hi2 hs (sub_assign h2)) pgs_nil rfl) rfl
theorem cs_put2 (S : Snd G k cb n) {a i a2 i2 x x2 : Ex} (ok : XOk X c G k cb Wx) (h : chkS G (n + 1) c (.put2 a i a2 i2 x x2) st = true) : Does cb X Wx (.put2 a i a2 i2 x x2) st := by
  unfold chkS at h
  dsimp only at h
  split at h
  · simp only [Bool.and_eq_true] at h
    obtain ⟨⟨⟨⟨⟨⟨⟨⟨⟨h1, h2⟩, h3⟩, h4⟩, h5⟩, h6⟩, h7⟩, h8⟩, h9⟩, h10⟩ := h
    refine psImp (ps_asg (pe_tup (da_cons h3 (S.e ok h5).1 (da_cons h4 (S.e ok h6).1 da_nil))) (pg_tup (n := 2) ok.calm (pgs_two (S.e ok h7).1 (S.e ok h8).1 (S.e ok h9).1 (S.e ok h10).1 (set_U (hu_of ok.room)) h1 h2) rfl rfl) rfl sw_subs rfl) fun D σ H hq => ?_
    obtain ⟨ρ, M, B, ι, s, sl, hw⟩ := hq
    simp only [denS] at hw
    refine ⟨ρ, M, B, ι, s, sl, ?_⟩
    dsimp only
    cases e1 : den cb x ρ M with
    | bad => rw [e1] at hw; exact hw.elim
    | exc c M1 => rw [e1] at hw; exact fun B1 ι1 H1 t1 s1 => hw σ B1 ι1 H1 t1 s1 (sl.mono t1.sub t1.pre)
    | ok u M1 =>
      rw [e1] at hw
      have hw : Ws X.K (wd X.mg Wx) D B ι H ((den cb x2 ρ M1).toS ρ fun w M => _) := hw
      show Wp X.K (wd X.mg Wx) σ B ι H (((den cb x2 ρ M1).bind fun u M => (R.ok [] M : R (List U)).bind fun us M => .ok (u :: us) M).bind fun us M => .ok (u :: us) M) _
      cases e2 : den cb x2 ρ M1 with
      | bad => rw [e2] at hw; exact hw.elim
      | exc c M2 => rw [e2] at hw; exact fun B1 ι1 H1 t1 s1 => hw σ B1 ι1 H1 t1 s1 (sl.mono t1.sub t1.pre)
      | ok w M2 =>
        rw [e2] at hw
        intro B1 ι1 H1 t1 s1 vs r1
        obtain ⟨v, v2, rfl, ru, rw'⟩ := urs2 r1
        refine ⟨by show 2 ≤ sizeLine; decide, fun p hp => ?_⟩
        obtain ⟨s2, t2⟩ := s1.aside hp (.tup [v, v2])
        have sl1 := sl.mono t1.sub t1.pre
        refine ⟨p, [v, v2], rfl, .inl (.inl upd_same), rfl, v, [v2], rfl, ?_⟩
        have hw : Ws X.K (wd X.mg Wx) D B ι H (putR (den cb a) (den cb i) u ρ M2 fun M => putR (den cb a2) (den cb i2) w ρ M fun M => .nx ρ M) := hw
        refine put_read s2 sl1 ru (Ws.shift hw (t1.trans t2)) fun B3 ι3 H3 M3 t3 s3 w3 => ⟨v2, [], rfl, ?_⟩
        have sl3 := sl1.mono t3.sub t3.pre
        exact put_read s3 sl3 (rw'.mono t3.sub t3.pre) w3 fun B4 ι4 H4 M4 t4 s4 w4 => ⟨rfl, w4 σ B4 ι4 H4 (Stp.refl _ _ _) s4 (sl3.mono t4.sub t4.pre)⟩
  · cases h
theorem cs_ite (S : Snd G k cb n) (T : SndS G k cb n) {t : Ex} {a b : Sms} (hb : c.blk = false) (ok : XOk X c G k cb Wx) (h : chkS G (n + 1) c (.ite t a b) st = true) : Does cb X Wx (.ite t a b) st := by
  cases st with
  | If e x y p =>
    simp only [chkS, Bool.and_eq_true] at h
    obtain ⟨⟨h1, h2⟩, h3⟩ := h
    refine psImp (ps_if (S.e ok h1).2 (T.ss hb ok h2) (T.ss hb ok h3)) fun D σ H hq => ?_
    obtain ⟨ρ, M, B, ι, s, sl, hw⟩ := hq
    simp only [denS] at hw
    refine ⟨ρ, M, B, ι, s, sl, (Ws.expr hw sl).imp fun d B1 ι1 M1 H1 t1 s1 h1 => ?_⟩
    cases d with
    | true => rw [if_pos rfl] at h1 ⊢; exact ⟨ρ, M1, B1, ι1, s1, sl.mono t1.sub t1.pre, h1⟩
    | false => rw [if_neg Bool.false_ne_true] at h1 ⊢; exact ⟨ρ, M1, B1, ι1, s1, sl.mono t1.sub t1.pre, h1⟩
  | _ => simp [chkS] at h
theorem cs_loop (S : Snd G k cb n) (T : SndS G k cb n) {g : Tg} {ik : ItK} {is : Exs} {b : Sms} (hb : c.blk = false) (ok : XOk X c G k cb Wx) (h : chkS G (n + 1) c (.loop g ik is b) st = true) : Does cb X Wx (.loop g ik is b) st := by
  unfold chkS at h
  dsimp only at h
  split at h
  · simp only [Bool.and_eq_true] at h
    obtain ⟨⟨⟨h1, h2⟩, h3⟩, h4⟩ := h
    refine psImp (ps_for ok.hp ok.calm (S.i ok h3) (dg_item ok g _ h1) (T.ss hb ok h4) (noSet_fold h2)) fun D σ H hq => for_read ?_
    obtain ⟨ρ, M, B, ι, s, sl, hw⟩ := hq
    simp only [denS] at hw
    exact ⟨ρ, M, B, ι, s, sl, hw⟩
  · cases h
theorem cs_whl (S : Snd G k cb n) (T : SndS G k cb n) {m : Nat} {t : Ex} {b : Sms} (hb : c.blk = false) (ok : XOk X c G k cb Wx) (h : chkS G (n + 1) c (.whl m t b) st = true) : Does cb X Wx (.whl m t b) st := by
  unfold chkS at h
  dsimp only at h
  split at h
  · simp only [Bool.and_eq_true] at h
    refine psImp (ps_while ok.hp (S.e ok h.1).2 (T.ss hb ok h.2)) fun D σ H hq => whl_read (n := m) ?_
    obtain ⟨ρ, M, B, ι, s, sl, hw⟩ := hq
    simp only [denS] at hw
    exact ⟨ρ, M, B, ι, s, sl, hw⟩
  · cases h
theorem cs_ret (S : Snd G k cb n) {x : Ex} (ok : XOk X c G k cb Wx) (h : chkS G (n + 1) c (.ret x) st = true) : Does cb X Wx (.ret x) st := by
  unfold chkS at h
  dsimp only at h
  split at h
  · refine psImp (ps_ret (S.e ok h).1) fun D σ H hq => ?_
    obtain ⟨ρ, M, B, ι, s, sl, hw⟩ := hq
    simp only [denS] at hw
    exact ⟨ρ, M, B, ι, s, sl, (Ws.expr hw sl).imp fun u B1 ι1 M1 H1 t1 s1 h1 v r1 => h1 v B1 ι1 H1 (Stp.refl _ _ _) s1 r1⟩
  · cases h
theorem cs_retn (h : chkS G (n + 1) c .retn st = true) : Does cb X Wx .retn st := by
  unfold chkS at h
  dsimp only at h
  split at h
  · refine psImp ps_retN fun D σ H hq => ?_
    obtain ⟨ρ, M, B, ι, s, sl, hw⟩ := hq
    simp only [denS] at hw
    exact hw .non B ι H (Stp.refl _ _ _) s .non
  · cases h
theorem cs_pass (h : chkS G (n + 1) c .pass st = true) : Does cb X Wx .pass st := by
  unfold chkS at h
  dsimp only at h
  split at h
  · refine psImp ps_pass fun D σ H hq => ?_
    obtain ⟨ρ, M, B, ι, s, sl, hw⟩ := hq
    simp only [denS] at hw
    exact hw σ B ι H (Stp.refl _ _ _) s sl
  · cases h
theorem cs_rai {x : Str} (ok : XOk X c G k cb Wx) (h : chkS G (n + 1) c (.rai x) st = true) : Does cb X Wx (.rai x) st := by
  unfold chkS at h
  dsimp only at h
  split at h
  · simp only [Bool.and_eq_true, decide_eq_true_eq] at h
    obtain ⟨⟨⟨rfl, h1⟩, h2⟩, h3⟩ := h
    obtain ⟨C, hm, E⟩ := ok.g.exc x h1
    refine psImp (ps_raise ok.calm ok.tk (pmk_own PySem.F.excBase_ValueError E.x hm E.k (raises_own E.b E.t) (ok.gl h2) (okNm_of h3).1)) fun D σ H hq => ?_
    obtain ⟨ρ, M, B, ι, s, sl, hw⟩ := hq
    simp only [denS] at hw
    exact hw σ B ι H (Stp.refl _ _ _) s sl C hm
  · cases h
theorem css_succ (T : SndS G k cb n) {s : Sms} {sts : List Stmt} (hb : c.blk = false) (ok : XOk X c G k cb Wx) (h : chkSs G (n + 1) c s sts = true) : PSs X sts (tDs X.K (wd X.mg Wx) (denSs cb s)) := by
  cases s with
  | nil =>
    cases sts with
    | cons a b => simp [chkSs] at h
    | nil =>
      refine pssImp pss_nil fun D σ H hq => ?_
      obtain ⟨ρ, M, B, ι, s, sl, hw⟩ := hq
      simp only [denSs] at hw
      exact hw σ B ι H (Stp.refl _ _ _) s sl
  | cons s r =>
    cases sts with
    | nil => simp [chkSs] at h
    | cons a b =>
      simp only [chkSs, Bool.and_eq_true] at h
      refine pssImp (pss_cons (T.s hb ok h.1) (T.ss hb ok h.2)) fun D σ H hq => seq_read ?_
      obtain ⟨ρ, M, B, ι, s, sl, hw⟩ := hq
      simp only [denSs] at hw
      exact ⟨ρ, M, B, ι, s, sl, hw⟩
end
theorem snds_all (G : Glob) (k : Nat) (cb : Cb) : ∀ n, SndS G k cb n
  | 0 => ⟨fun _ _ h => by simp [chkS] at h, fun _ _ h => by simp [chkSs] at h⟩
  | n + 1 => by
    have S := (snd_all G k cb n).1
    have T := snds_all G k cb n
    refine ⟨fun {c s st X Wx} hb ok h => ?_, fun hb ok h => css_succ T hb ok h⟩
    cases s with
    | ex x => exact cs_ex S ok h
    | asg g x => exact cs_asg S hb ok h
    | par is xs => exact cs_par S hb ok h
    | put a i x => exact cs_put S ok h
    | put2 a i a2 i2 x x2 => exact cs_put2 S ok h
    | ite t a b => exact cs_ite S T hb ok h
    | loop g ik is b => exact cs_loop S T hb ok h
    | whl m t b => exact cs_whl S T hb ok h
    | ret x => exact cs_ret S ok h
    | retn => exact cs_retn h
    | rai x => exact cs_rai ok h
    | pass => exact cs_pass h
end Mx

set_option Elab.async false
set_option linter.all false
set_option maxRecDepth 100000
set_option maxHeartbeats 8000000
/-! MyE: the defs of a text compute what their programs compute; a law's end. -/
namespace Mx
open PySem PySem.Spec PyProof.Rows L2

/-! ### leaving a def -/
theorem U.back_closed {K : PySem.W.Frag} {B : Hp} {ι ι' : List Addr} (hp : ι <+: ι') : ∀ {u : U} {v : V}, UR K B ι' u v → u.closed ι.length = true → UR K B ι u v
  | .d _, _, r, _ => r
  | .o n, _, ⟨a, e, r⟩, h => by
    have hn : n < ι.length := by simpa [U.closed] using h
    obtain ⟨t, rfl⟩ := hp
    rw [List.getElem?_append_left hn] at e
    exact ⟨a, e, r⟩
  | .scr _, _, r, _ => r
theorem URs.back_closed {K : PySem.W.Frag} {B : Hp} {ι ι' : List Addr} (hp : ι <+: ι') : ∀ {us : List U} {vs : List V}, URs K B ι' us vs → us.all (U.closed ι.length) = true → URs K B ι us vs
  | _, _, .nil, _ => .nil
  | _, _, .cons a b, h => by
    rw [List.all_cons, Bool.and_eq_true] at h
    exact .cons (U.back_closed hp a h.1) (URs.back_closed hp b h.2)
theorem URk.back_closed {K : PySem.W.Frag} {B : Hp} {ι ι' : List Addr} (hp : ι <+: ι') : ∀ {us : List (Key × U)} {vs : List (Key × V)}, URk K B ι' us vs → (us.all fun p => p.2.closed ι.length) = true → URk K B ι us vs
  | _, _, .nil, _ => .nil
  | _, _, .cons a b, h => by
    rw [List.all_cons, Bool.and_eq_true] at h
    exact .cons ⟨a.1, U.back_closed hp a.2 h.1⟩ (URk.back_closed hp b h.2)
/-- the memory is cut back to what stood before -/
theorem Sim.cutBack {K : PySem.W.Frag} {B H B' H' : Hp} {ι ι' : List Addr} {M' : Mem} {n : Nat} (hn : ι.length = n) (t : Stp B ι H B' ι' H') (s' : Sim K B' ι' M' H') (hc : closedM n (M'.take n) = true) (nd : ι.Nodup) : Sim K B' ι (M'.take n) H' ∧ Stp B ι H B' ι H' := by
  subst hn
  have hlen : ι.length ≤ M'.length := by
    rw [← s'.len]
    exact t.pre.length_le
  refine ⟨⟨s'.sub, by rw [List.length_take]; omega, fun n a m e1 e2 => ?_, nd⟩, ⟨t.sub, List.prefix_refl _, fun a o h hb hn => ?_⟩⟩
  · have hnl : n < ι.length := (List.getElem?_eq_some_iff.mp e1).1
    have e3 : M'[n]? = some m := by
      rw [List.getElem?_take_of_lt hnl] at e2
      exact e2
    have k' := s'.ok n a m (pre_get t.pre e1) e3
    have hm : m.closed ι.length = true := List.all_eq_true.mp hc m (List.mem_of_getElem? e2)
    cases m with
    | lst us =>
      obtain ⟨b', vs', h', r'⟩ := k'
      exact ⟨b', vs', h', URs.back_closed t.pre r' hm⟩
    | dct us =>
      obtain ⟨b', vs', h', r'⟩ := k'
      exact ⟨b', vs', h', URk.back_closed t.pre r' hm⟩
    | lck us =>
      obtain ⟨od, vs', h', r'⟩ := k'
      exact ⟨od, vs', h', URk.back_closed t.pre r' hm⟩
    | fz ds => exact k'
  · obtain ⟨h1, _, h3⟩ := t.out a o h hb hn
    exact ⟨h1, hn, h3⟩
theorem closedM_set {n j : Nat} {M : Mem} {m : MO} (h : n ≤ j) : (M.set j m).take n = M.take n := by
  rw [List.take_set]
  exact List.set_eq_of_length_le (by rw [List.length_take]; omega)
/-- what a cleaned result asks -/
theorem clean_read {K : PySem.W.Frag} {W : WD} {σ : St} {B H B' H' : Hp} {ι ι' : List Addr} {M' : Mem} {u : U} {v : V} {n : Nat} {Q : VK} (hn : ι.length = n) (nd : ι.Nodup) (t : Stp B ι H B' ι' H') (s' : Sim K B' ι' M' H') (r : UR K B' ι' u v)
    (h : Wp K W σ B ι H (clean n u M') fun u B' ι' M' H' => ∀ v, UR K B' ι' u v → Q v H') : Q v H' := by
  unfold clean at h
  split at h
  · rename_i hc
    split at h
    · rename_i d hd
      have base : ∀ {B2 : Hp}, Stp B ι H B2 ι' H' → Sim K B2 ι' M' H' → DR B2 v d → Q v H' := fun t2 s2 r2 => by
        obtain ⟨s3, t3⟩ := Sim.cutBack hn t2 s2 hc nd
        exact h _ ι H' t3 s3 v r2
      unfold frzU at hd
      split at hd
      · cases hd
        exact base t s' r
      · rename_i j
        split at hd
        · rename_i hj
          split at hd
          · rename_i us hM
            cases ha : allD us with
            | none => rw [ha] at hd; cases hd
            | some ds =>
              rw [ha] at hd
              cases hd
              obtain ⟨a, rfl, hi, hb, vs, h1, q⟩ := s'.at r hM
              obtain ⟨s2, t2⟩ := s'.seal hi hb h1 (allD_rel ha q)
              obtain ⟨s3, t3⟩ := Sim.cutBack hn (t.trans t2) s2 (by rw [closedM_set hj]; exact hc) nd
              rw [closedM_set hj] at s3
              exact h _ ι H' t3 s3 _ (.lst upd_same (DRs.mono t2.sub (allD_rel ha q)))
          · rename_i ds hM
            cases hd
            obtain ⟨a, rfl, hi, vs, h1, q⟩ := s'.at r hM
            exact base t s' (.lst h1 q)
          · cases hd
        · cases hd
      · cases hd
    · exact h.elim
  · exact h.elim
/-- what a def's body is to reach -/
theorem fin_read {K : PySem.W.Frag} {mg : Str → Option Value} {B H : Hp} {ι : List Addr} {M : Mem} {cl : Bool} {r : RS} {Q : VK} {E : XK} (s : Sim K B ι M H)
    (h : Wp K (fun c _ H' => ∀ C, mg c = some (.ref C) → E (.ref C) none H') [] B ι H (fin cl M.length r) fun u B' ι' M' H' => ∀ v, UR K B' ι' u v → Q v H') :
    Ws K (wd mg fun cls d _ H => E cls d H) { nx := fun _ H' => Q .non H', rt := Q } B ι H r := by
  cases r with
  | nx ρ M1 =>
    intro σ' B' ι' H' t s' _
    unfold fin at h
    cases cl with
    | false => exact h B' ι' H' t s' .non .non
    | true => exact clean_read s.len s.nd t s' (u := .d .none) (v := .non) .non h
  | rt u M1 =>
    intro v B' ι' H' t s' rv
    unfold fin at h
    cases cl with
    | false => exact h B' ι' H' t s' v rv
    | true => exact clean_read s.len s.nd t s' rv h
  | exc c ρ M1 =>
    intro σ' B' ι' H' t s' _ C hC
    unfold fin at h
    cases cl with
    | false => exact h B' ι' H' t s' C hC
    | true =>
      dsimp only at h
      rw [if_pos rfl] at h
      split at h
      · rename_i hc
        obtain ⟨s3, t3⟩ := Sim.cutBack s.len t s' hc s.nd
        exact h B' ι H' t3 s3 C hC
      · exact h.elim
  | bk ρ M1 => exact h.elim
  | ct ρ M1 => exact h.elim
  | bad => exact h.elim

/-! ### a def of the text -/
structure RowD where
  x : Str
  st : Stmt
  f : Nat
  N : List Str
  ps : List Str
  dfl : List PyData
  kwd : List (Str × He.Dv)
def RowD.defD (r : RowD) : He.DefD := ⟨(r.x, none), r.x, r.x, defArgs r.st, defBody r.st, defScope r.st, [], r.kwd⟩
def scB (N ps : List Str) (sc : Scope) : Bool := decide (sc.kind = .function) && !sc.isCoroutine && !sc.isGenerator && decide N.Nodup && decide (N.take ps.length = ps) && (ps.all fun x => match sc.names.lookup x with | some .local => true | some .cell => true | _ => false) && (sc.names.all fun y => !(y.2 == .free))
theorem scB_ok {N ps : List Str} {sc : Scope} (h : scB N ps sc = true) : FnScope N ps sc := by
  simp only [scB, Bool.and_eq_true, decide_eq_true_eq, Bool.not_eq_true'] at h
  obtain ⟨⟨⟨⟨⟨⟨h1, h2⟩, h3⟩, h4⟩, h5⟩, h6⟩, h7⟩ := h
  refine ⟨h1, h2, h3, h4, h5, fun x hx => ?_, fun y hy => ?_⟩
  · have := List.all_eq_true.mp h6 x hx
    split at this
    · exact .inl (by assumption)
    · exact .inr (by assumption)
    · cases this
  · have := List.all_eq_true.mp h7 y hy
    simpa using this
def chkRow (G : Glob) (T : Nat → Fn) (n : Nat) (r : RowD) : Bool :=
  chkSs G n ⟨r.N, defScope r.st, false⟩ (T r.f).body (defBody r.st) && decide ((T r.f).np = r.ps.length) && decide ((T r.f).ns = r.N.length) && scB r.N r.ps (defScope r.st)
/-- how its arguments bind -/
inductive RowB (r : RowD) : Prop
  | pos (h0 : r.kwd = []) (h1 : r.dfl = []) (h : ∀ (kV doc pm : Value) (an : Option Addr) (cdv ct : Value) (us : List Value), us.length = r.ps.length → bindArgs (PySem.W.fnOf r.x r.x (defArgs r.st) (defBody r.st) (defScope r.st) .none kV doc pm an cdv ct) ⟨us, []⟩ = pure (r.ps.zip us))
  | kw (y : Str) (h0 : r.kwd = [(y, .non)]) (h1 : r.dfl = [.none]) (n : Nat) (hn : n + 1 = r.ps.length) (h : ∀ (D : Addr) (doc pm : Value) (an : Option Addr) (cdv ct : Value) (us ks : List Value), us.length = n → ks.length = 1 →
      KwChain D ([y].zip ks) (bindArgs (PySem.W.fnOf r.x r.x (defArgs r.st) (defBody r.st) (defScope r.st) .none (.ref D) doc pm an cdv ct) ⟨us, []⟩) (r.ps.zip (us ++ ks)))
section
variable {P : Program} {w : World} {K : PySem.W.Frag} {mg : Str → Option Value} {base : Heap}
theorem RowB.binds {r : RowD} (b : RowB r) {a : Addr} {fd : FuncData} (F : FunD K r.x r.x (defArgs r.st) (defBody r.st) (defScope r.st) [] (r.defD.kws K) a fd) : ∃ ds dvs, Vals dvs ds ∧ Binds K fd r.ps ds ∧ ∀ B, DRs B dvs r.dfl := by
  cases b with
  | pos h0 h1 h => exact ⟨[], [], .nil, FunD.bindsN F h, fun B => by rw [h1]; exact .nil⟩
  | kw y h0 h1 n hn h =>
    have e : r.defD.kws K = [(y, .non)] := by
      show r.kwd.map (fun q => (q.1, q.2.v K)) = _
      rw [h0]
      rfl
    rw [e] at F
    obtain ⟨ds, hv, hb⟩ := FunD.binds0 F n (by simp) hn h
    exact ⟨ds, [.non], hv, hb, fun B => by rw [h1]; exact .cons .non .nil⟩
theorem start_slots {B : Hp} {ι : List Addr} {us : List U} {vs : List V} (r : URs K B ι us vs) (m : Nat) : Slots K B ι (us.map some ++ List.replicate m none) (vs.map some ++ List.replicate m none) := by
  refine ⟨by simp [r.len], fun i u e => ?_⟩
  by_cases hi : i < us.length
  · rw [List.getElem?_append_left (by simpa using hi), List.getElem?_map] at e
    cases eu : us[i]? with
    | none => rw [eu] at e; cases e
    | some u' =>
      rw [eu] at e
      cases e
      obtain ⟨v, h1, h2⟩ := paired_get r eu
      refine ⟨v, ?_, h2⟩
      rw [List.getElem?_append_left (by rw [List.length_map, ← r.len]; exact hi), List.getElem?_map, h1]
      rfl
  · rw [List.getElem?_append_right (by simpa using hi)] at e
    have := List.mem_of_getElem? e
    rw [List.mem_replicate] at this
    cases this.2
/-- values that hold no object stand in every numbering -/
theorem pure_ur {B : Hp} {ι ι' : List Addr} : ∀ {us : List U} {vs : List V}, pureU us = true → URs K B ι us vs → URs K B ι' us vs
  | [], _, _, .nil => .nil
  | .d _ :: _, _, h, .cons a b => .cons a (pure_ur h b)
  | .scr _ :: _, _, h, .cons a b => .cons a (pure_ur h b)
  | .o _ :: _, _, h, _ => nomatch h
theorem fin_data {n : Nat} {r : RS} {u : U} {M : Mem} (h : fin true n r = .ok u M) : ∃ x, u = .d x := by
  have cl : ∀ {u' : U} {M' : Mem}, clean n u' M' = .ok u M → ∃ x, u = .d x := fun h => by
    unfold clean at h
    split at h
    · split at h
      · cases h; exact ⟨_, rfl⟩
      · cases h
    · cases h
  cases r with
  | nx ρ M1 => exact cl (u' := .d .none) (M' := M1) (by simpa [fin] using h)
  | rt v M1 => exact cl (u' := v) (M' := M1) (by simpa [fin] using h)
  | exc c ρ M1 =>
    unfold fin at h
    dsimp only at h
    rw [if_pos rfl] at h
    split at h <;> cases h
  | bk ρ M1 => cases h
  | ct ρ M1 => cases h
  | bad => cases h
/-- what a run in a memory of its own does to the one outside: nothing -/
theorem Sim.apart {B H B' H' : Hp} {ι ι' : List Addr} {M M1 : Mem} (s : Sim K B ι M H) (t : Stp B [] H B' ι' H') (s' : Sim K B' ι' M1 H') : Sim K B' ι M H' ∧ Stp B ι H B' ι H' := by
  have out : ∀ a o, H a = some o → B a = none → B' a = none ∧ H' a = some o := fun a o h hb => by
    obtain ⟨h1, _, h3⟩ := t.out a o h hb (by simp)
    exact ⟨h1, h3⟩
  refine ⟨⟨s'.sub, s.len, fun n a m e1 e2 => ?_, s.nd⟩, ⟨t.sub, List.prefix_refl _, fun a o h hb hn => ⟨(out a o h hb).1, hn, (out a o h hb).2⟩⟩⟩
  have k := s.ok n a m e1 e2
  cases m with
  | lst us => obtain ⟨b, vs, e, r⟩ := k; exact ⟨(out a _ e b).1, vs, (out a _ e b).2, r.mono t.sub (List.prefix_refl _)⟩
  | dct us => obtain ⟨b, vs, e, r⟩ := k; exact ⟨(out a _ e b).1, vs, (out a _ e b).2, r.mono t.sub (List.prefix_refl _)⟩
  | lck us => obtain ⟨od, vs, e, r⟩ := k; exact ⟨od, vs, t.sub _ _ e, r.mono t.sub (List.prefix_refl _)⟩
  | fz ds => obtain ⟨vs, e, r⟩ := k; exact ⟨vs, t.sub _ _ e, DRs.mono t.sub r⟩
theorem fn_sound {G : Glob} {T : Nat → Fn} {n k : Nat} {cb : Cb} {r : RowD} {a : Addr} {fd : FuncData} {kws : List (Str × V)} (g : GOk P w K mg base G k cb) (hc : chkRow G T n r = true) (F : FunD K r.x r.x (defArgs r.st) (defBody r.st) (defScope r.st) [] kws a fd) :
    FnOk P w K mg base (L2.CX P w) (k + 1) a fd r.ps (spU K mg r.ps.length (runF cb (T r.f))) := by
  simp only [chkRow, Bool.and_eq_true, decide_eq_true_eq] at hc
  obtain ⟨⟨⟨h1, h2⟩, h3⟩, h4⟩ := hc
  have S := scB_ok h4
  refine F.ok S (fun vs H Q E h => h.1) (fun cdv A outer s H vs Q E hr h => ?_)
  have ok : XOk (cxOf (L2.CX P w) P w K mg base r.N r.x (defScope r.st) a cdv A outer s H E) ⟨r.N, defScope r.st, false⟩ G k cb (fun cls d _ H => E cls d H) :=
    ⟨rfl, rfl, S.nd, rfl, fun _ _ => rfl, hr, passes_of rfl, takes_of rfl rfl rfl rfl, S.kind, g⟩
  refine ⟨_, (snds_all G k cb n).ss rfl ok h1, ?_⟩
  obtain ⟨hl, us, M, B, ι, sm, ru, hw⟩ := h
  have hul : us.length = (T r.f).np := by rw [ru.len, hl, h2]
  unfold runF at hw
  rw [if_pos hul] at hw
  have e : L2.start r.N vs = vs.map some ++ List.replicate ((T r.f).ns - us.length) none := by
    unfold L2.start
    rw [h3, ru.len]
  rw [e]
  split at hw
  · rename_i hp
    rw [Bool.and_eq_true] at hp
    have s0 : Sim K B [] [] H := ⟨sm.sub, rfl, fun n a m e => by simp at e, List.nodup_nil⟩
    refine ⟨startD (T r.f) us, [], B, [], s0, start_slots (pure_ur hp.2 ru) _, fin_read s0 (cl := true) ?_⟩
    show Wp _ _ _ _ _ _ (fin true 0 _) _
    cases ef : fin true 0 (denSs cb (T r.f).body (startD (T r.f) us) []) with
    | bad => rw [ef] at hw; exact hw.elim
    | exc c M1 =>
      rw [ef] at hw
      intro B' ι' H' t s'
      obtain ⟨s2, t2⟩ := sm.apart t s'
      exact hw B' ι H' t2 s2
    | ok u M1 =>
      rw [ef] at hw
      obtain ⟨x, rfl⟩ := fin_data ef
      intro B' ι' H' t s' v rv
      obtain ⟨s2, t2⟩ := sm.apart t s'
      exact hw B' ι H' t2 s2 v rv
  · exact ⟨startD (T r.f) us, M, B, ι, sm, start_slots ru _, fin_read sm hw⟩
theorem fn_zero {f : Nat} {T : Nat → Fn} {a : Addr} {fd : FuncData} {ps : List Str} : FnOk P w K mg base (L2.CX P w) 0 a fd ps (spU K mg ps.length (callN T 0 f)) :=
  ⟨fun vs H Q E h => h.1, fun A outer s H args us vs Q E _ _ _ _ h => by
    obtain ⟨_, us, M, B, ι, _, _, z⟩ := h
    exact z.elim⟩
/-! ### all defs at once -/
def faOf (frees : List Str) (nums : List (Str × Int)) (txts : List (Str × Str)) (excs : List Str) (rows : List RowD) : List He.Fa :=
  frees.map .free ++ (nums.map (fun p => .int p.1 p.2) ++ (txts.map (fun p => .str p.1 p.2) ++ (excs.map .glo ++ (excs.map .exc ++ rows.map fun r => .glo r.x))))
def globOf (frees : List Str) (nums : List (Str × Int)) (txts : List (Str × Str)) (excs : List Str) (rows : List RowD) : Glob :=
  ⟨nums.map (fun p => (p.1, .int p.2)) ++ txts.map (fun p => (p.1, .str p.2)), rows.map (fun r => (r.x, r.f, r.ps, r.dfl)), frees, excs⟩
theorem lookup_mem {α β : Type} [BEq α] [LawfulBEq α] {x : α} {y : β} : ∀ {l : List (α × β)}, l.lookup x = some y → (x, y) ∈ l
  | [], h => nomatch h
  | (a, b) :: r, h => by
    rw [List.lookup_cons] at h
    split at h
    · rename_i e
      cases h
      rw [eq_of_beq e]
      exact List.mem_cons_self
    · exact List.mem_cons_of_mem _ (lookup_mem h)
theorem gok {frees : List Str} {nums : List (Str × Int)} {txts : List (Str × Str)} {excs : List Str} {rows : List RowD} {T : Nat → Fn} {n : Nat} {h : Heap} (X : K.In h) (Gn : h.Ns mainGlobals mg) (c : He.SaysD (faOf frees nums txts excs rows) (rows.map RowD.defD) K)
    (hchk : rows.all (chkRow (globOf frees nums txts excs rows) T n) = true) (hB : ∀ r ∈ rows, RowB r) : ∀ k, GOk P w K mg base (globOf frees nums txts excs rows) k (callN T k) := by
  have fact : ∀ f, f ∈ faOf frees nums txts excs rows → f.ok K = true := fun f hf => by
    obtain ⟨i, hi⟩ := List.mem_iff_getElem?.mp hf
    exact c.fact i hi
  have facts : ∀ k cb, (∀ x f ps dfl, (globOf frees nums txts excs rows).fn.lookup x = some (f, ps, dfl) → ∃ a fd ds dvs, mg x = some (.ref a) ∧ PySem.W.keepIn K (.ref a) = true ∧ Vals dvs ds ∧ Binds K fd ps ds ∧ (∀ B, DRs B dvs dfl) ∧ FnOk P w K mg base (L2.CX P w) k a fd ps (spU K mg ps.length (cb f))) → GOk P w K mg base (globOf frees nums txts excs rows) k cb := fun k cb hf => by
    refine ⟨fun x d hd => ?_, fun x hx => ?_, fun x hx => ?_, hf⟩
    · have hm := lookup_mem hd
      rcases List.mem_append.mp hm with hm | hm
      · obtain ⟨p, hp, e⟩ := List.mem_map.mp hm
        cases e
        obtain ⟨t, ht⟩ := He.int_ok X Gn (fact (.int p.1 p.2) (List.mem_append_right _ (List.mem_append_left _ (List.mem_map.mpr ⟨p, hp, rfl⟩))))
        exact ⟨_, .int p.2, ht, ⟨t, rfl⟩, fun B => .int _⟩
      · obtain ⟨p, hp, e⟩ := List.mem_map.mp hm
        cases e
        obtain ⟨t, ht⟩ := He.str_ok X Gn (fact (.str p.1 p.2) (List.mem_append_right _ (List.mem_append_right _ (List.mem_append_left _ (List.mem_map.mpr ⟨p, hp, rfl⟩)))))
        exact ⟨_, .str p.2, ht, ⟨t, rfl⟩, fun B => .str _⟩
    · have hx : x ∈ frees := by
        have : frees.contains x = true := hx
        simpa using this
      exact He.free_ok X Gn (fact (.free x) (List.mem_append_left _ (List.mem_map.mpr ⟨x, hx, rfl⟩)))
    · have hx : x ∈ excs := by
        have : excs.contains x = true := hx
        simpa using this
      have g1 := He.glo_ok X Gn (fact (.glo x) (List.mem_append_right _ (List.mem_append_right _ (List.mem_append_right _ (List.mem_append_left _ (List.mem_map.mpr ⟨x, hx, rfl⟩))))))
      obtain ⟨e1, e2, e3, e4⟩ := He.exc_ok (fact (.exc x) (List.mem_append_right _ (List.mem_append_right _ (List.mem_append_right _ (List.mem_append_right _ (List.mem_append_left _ (List.mem_map.mpr ⟨x, hx, rfl⟩)))))))
      exact ⟨_, g1, e1, e2, e3, e4⟩
  have each : ∀ k (cb' : Cb), (∀ r ∈ rows, ∀ a fd, FunD K r.x r.x (defArgs r.st) (defBody r.st) (defScope r.st) [] (r.defD.kws K) a fd → FnOk P w K mg base (L2.CX P w) k a fd r.ps (spU K mg r.ps.length (cb' r.f))) → GOk P w K mg base (globOf frees nums txts excs rows) k cb' := fun k cb' hr => by
    refine facts k cb' fun x f ps dfl hl => ?_
    obtain ⟨r, hrm, e⟩ := List.mem_map.mp (lookup_mem hl)
    cases e
    obtain ⟨i, hi⟩ := List.mem_iff_getElem?.mp hrm
    obtain ⟨fd, F⟩ := c.def_ i (d := r.defD) (by rw [List.getElem?_map, hi]; rfl)
    have F : FunD K r.x r.x (defArgs r.st) (defBody r.st) (defScope r.st) [] (r.defD.kws K) (He.ga K r.x) fd := F
    obtain ⟨ds, dvs, b1, b2, b3⟩ := (hB r hrm).binds F
    have g1 := He.glo_ok X Gn (fact (.glo r.x) (List.mem_append_right _ (List.mem_append_right _ (List.mem_append_right _ (List.mem_append_right _ (List.mem_append_right _ (List.mem_map.mpr ⟨r, hrm, rfl⟩)))))))
    exact ⟨_, fd, ds, dvs, g1, F.kp, b1, b2, b3, hr r hrm _ fd F⟩
  intro k
  induction k with
  | zero => exact each 0 (callN T 0) fun r _ a fd _ => fn_zero
  | succ k ih =>
    refine each (k + 1) (callN T (k + 1)) fun r hrm a fd F => ?_
    have e : callN T (k + 1) r.f = runF (callN T k) (T r.f) := by
      funext us M
      simp only [callN]
    rw [e]
    exact fn_sound ih (List.all_eq_true.mp hchk r hrm) F
end
/-- a law's promise, from what its program computes of the script -/
theorem law_sp {K : PySem.W.Frag} {mg : Str → Option Value} {T : Nat → Fn} {k f : Nat} (law : ∀ ns : List Int, ns.length ≤ 63 → ∃ M', callN T k f [.scr ns] [] = .ok (.d (.bool true)) M') (H : Hp) (a : Addr) (ns : List Int) (hl : ns.length ≤ 63) (hS : SqL K H a (ns.map V.int)) :
    spU K mg 1 (callN T k f) [.ref a] H (fun v _ => v = .bl true) fun _ _ _ => False := by
  obtain ⟨M', e⟩ := law ns hl
  refine ⟨rfl, [.scr ns], [], H, [], ⟨Same.refl H, rfl, fun n a m e => by simp at e, List.nodup_nil⟩, .cons ⟨a, rfl, hS⟩ .nil, ?_⟩
  rw [e]
  intro B' ι' H' t s v r
  cases r
  rfl
end Mx

set_option Elab.async false
set_option linter.all false
set_option maxRecDepth 100000
set_option maxHeartbeats 8000000
/-! MyF: a law's walk, from its table. -/
namespace Mx
open PySem PySem.Spec PyProof.Rows L2
theorem walk_w {l : PySem.W.OpenLaw} {n k : Nat} {q : Program} {loose : List Str} {XP : (Str → Option Value) → Heap → Prop} {YP : World → Heap → Prop} {d : DefRec} {CX : World → CXT} {x : Str}
    (hn : l.most = some n) (hn2 : n ≤ sizeLine) (hdf : d.params.defaults = []) (hr : Room k callerA)
    (F : ∀ (w : World) (mg : Str → Option Value) (fa : Addr) (h : Heap), YP w h → h.Ns mainGlobals mg → mg d.name = some (.ref fa) →
      ∃ (K : PySem.W.Frag) (fd : FuncData) (sp : Sp), K.In h ∧ (∀ (s : Shared) (u : Value), BindsTo s fd ⟨[u], []⟩ [(x, u)]) ∧
        (∀ (H : Hp) (a : Addr) (ns : List Int), ns.length ≤ n → Only H → SqL K H a (ns.map V.int) → sp [.ref a] H (fun v _ => v = .bl true) fun _ _ _ => False) ∧
        ∀ base : Heap, K.In base → base.Ns mainGlobals mg → FnOk l.prog w K mg base (CX w) k fa fd [x] sp)
    (hCX : ∀ (w : World) (H : Hp) (s : Shared) (e : Value) (s' : Shared), CX w [] H s (fun _ _ _ => False) e s' → False) :
    PySem.W.WalkO q loose XP YP l.row.toRowW d [] (fun f vs => PySem.call f vs) := by
  refine Att.attach_call hn hdf fun w s₀ s₁ mg mb fa o pm cd doc a vs ns G Y ho hd hcd hmg hobj hints hlen hg => ?_
  obtain ⟨K, fd, sp, KX, hb, hsp, hF⟩ := F w mg fa _ Y G.T.g hmg
  exact law_call KX G.T.g G.T.b G.T.builtins G.T.nolimit hg hobj hints (Nat.le_trans hlen hn2) hr hF hb (fun H hO hS => hsp H a ns hlen hO hS) fun H e s' => hCX w H s₁ e s'
theorem walk_mx {l : PySem.W.OpenLaw} {k m n i : Nat} {q : Program} {loose : List Str} {XP : (Str → Option Value) → Heap → Prop} {d : DefRec} {frees : List Str} {nums : List (Str × Int)} {txts : List (Str × Str)} {excs : List Str} {rows : List RowD} {T : Nat → Fn} {r : RowD} {f : Nat}
    (hn : l.most = some 63) (hdf : d.params.defaults = []) (hr : Room (k + 1) callerA) (hd : d.name = ("law" : Str)) (hi : rows[i]? = some r) (hx : r.x = ("law" : Str)) (hps : r.ps = [("script" : Str)]) (hf : r.f = f)
    (hchk : rows.all (chkRow (globOf frees nums txts excs rows) T n) = true) (hB : ∀ r ∈ rows, RowB r) (hk : r.kwd = [])
    (law : ∀ ns : List Int, ns.length ≤ 63 → ∃ M', callN T (k + 1) f [.scr ns] [] = .ok (.d (.bool true)) M') :
    PySem.W.WalkO q loose XP (He.hookD m (faOf frees nums txts excs rows) (rows.map RowD.defD)).says l.row.toRowW d [] (fun f vs => PySem.call f vs) := by
  subst hf
  refine walk_w (n := 63) (k := k + 1) (x := "script") (CX := fun w => L2.CX l.prog w) hn (by decide) hdf hr ?_ (fun w H s e s' ⟨_, _, _, _, _, _, _, _, _, _, _, _, z⟩ => z)
  intro w mg fa h Y G hmg
  obtain ⟨K, KX, c⟩ := Y
  rw [hd] at hmg
  obtain ⟨fd, F⟩ := c.def_ i (d := r.defD) (by rw [List.getElem?_map, hi]; rfl)
  have F : FunD K r.x r.x (defArgs r.st) (defBody r.st) (defScope r.st) [] (r.defD.kws K) (He.ga K r.x) fd := F
  have hm : r ∈ rows := List.mem_of_getElem? hi
  have g1 : mg r.x = some (.ref (He.ga K r.x)) := by
    obtain ⟨j, hj⟩ := List.mem_iff_getElem?.mp (show He.Fa.glo r.x ∈ faOf frees nums txts excs rows from List.mem_append_right _ (List.mem_append_right _ (List.mem_append_right _ (List.mem_append_right _ (List.mem_append_right _ (List.mem_map.mpr ⟨r, hm, rfl⟩))))))
    exact He.glo_ok KX G (c.fact j hj)
  rw [hx, hmg] at g1
  injection g1 with g1
  injection g1 with g1
  have e : callN T (k + 1) r.f = runF (callN T k) (T r.f) := by
    funext us M
    simp only [callN]
  refine ⟨K, fd, spU K mg 1 (callN T (k + 1) r.f), KX, ?_, fun H a ns hl _ hS => law_sp law H a ns hl hS, fun base _ _ => ?_⟩
  · have hb := hB r hm
    cases hb with
    | pos h0 h1 h =>
      intro s u
      have b := FunD.bindsA (ps := r.ps) F h
      have := b s [u] (by rw [hps]; rfl)
      rw [hps] at this
      exact this
    | kw y h0 h1 n hn h => rw [hk] at h0; cases h0
  · have := fn_sound (T := T) (n := n) (gok (P := l.prog) (w := w) (base := base) KX G c hchk hB k) (List.all_eq_true.mp hchk r hm) F
    have g2 : fa = He.ga K r.x := by rw [hx]; exact g1
    rw [e, g2]
    rw [hps] at this
    exact this
end Mx

set_option Elab.async false
set_option linter.all false
set_option maxRecDepth 100000
set_option maxHeartbeats 8000000
/-! MyG: running programs by rewriting. -/
namespace Mx
open PySem PySem.Spec PyProof.Rows L2
section
variable {α β : Type} {cb : Cb} {ρ : DEnv} {M : Mem}
theorem bind_ok (a : α) (M : Mem) (f : α → Mem → R β) : (R.ok a M).bind f = f a M := rfl
theorem bind_exc (c : Str) (M : Mem) (f : α → Mem → R β) : (R.exc c M : R α).bind f = .exc c M := rfl
theorem bind_bad (f : α → Mem → R β) : (R.bad : R α).bind f = .bad := rfl
theorem toS_ok (a : α) (M : Mem) (ρ : DEnv) (f : α → Mem → RS) : (R.ok a M).toS ρ f = f a M := rfl
theorem toS_exc (c : Str) (M : Mem) (ρ : DEnv) (f : α → Mem → RS) : (R.exc c M : R α).toS ρ f = .exc c ρ M := rfl
def RS.seq (r : RS) (f : DEnv → Mem → RS) : RS :=
  match r with
  | .nx ρ M => f ρ M
  | .rt u M => .rt u M
  | .bk ρ M => .bk ρ M
  | .ct ρ M => .ct ρ M
  | .exc c ρ M => .exc c ρ M
  | .bad => .bad
theorem seq_nx (ρ : DEnv) (M : Mem) (f : DEnv → Mem → RS) : (RS.nx ρ M).seq f = f ρ M := rfl
theorem seq_rt (u : U) (M : Mem) (f : DEnv → Mem → RS) : (RS.rt u M).seq f = .rt u M := rfl
theorem seq_exc (c : Str) (ρ : DEnv) (M : Mem) (f : DEnv → Mem → RS) : (RS.exc c ρ M).seq f = .exc c ρ M := rfl
theorem bind_congr {r r' : R α} {f : α → Mem → R β} (h : r = r') : r.bind f = r'.bind f := by rw [h]
theorem toS_congr {r r' : R α} {f : α → Mem → RS} (h : r = r') : r.toS ρ f = r'.toS ρ f := by rw [h]
theorem seq_congr {r r' : RS} {f : DEnv → Mem → RS} (h : r = r') : r.seq f = r'.seq f := by rw [h]
def getV (o : Option (Option U)) (M : Mem) : R U := match o with | some (some u) => .ok u M | _ => .bad
theorem getV_some (u : U) (M : Mem) : getV (some (some u)) M = .ok u M := rfl
theorem ofO_some (a : α) (M : Mem) : ofO (some (a, M)) = .ok a M := rfl
theorem boolR_ok (b : Bool) (M : Mem) : boolR (.ok b M) = .ok (.d (.bool b)) M := rfl
def ofC (o : Option Bool) (M : Mem) : R Bool := match o with | some c => .ok c M | none => .bad
theorem ofC_some (b : Bool) (M : Mem) : ofC (some b) M = .ok b M := rfl
def ofU (o : Option U) (M : Mem) : R U := match o with | some c => .ok c M | none => .bad
theorem ofU_some (b : U) (M : Mem) : ofU (some b) M = .ok b M := rfl
theorem den_v (i : Nat) : den cb (.v i) ρ M = getV ρ[i]? M := by simp only [den]; rfl
theorem den_k (d : PyData) : den cb (.k d) ρ M = .ok (.d d) M := by simp only [den]
theorem den_bin (op : Operator) (m : Bool) (a b : Ex) : den cb (.bin op m a b) ρ M = (den cb a ρ M).bind fun x M => (den cb b ρ M).bind fun y M => ofO (binU op m x y M) := by simp only [den]
theorem den_cmp (op : CmpOp) (a b : Ex) : den cb (.cmp op a b) ρ M = boolR ((den cb a ρ M).bind fun x M => (den cb b ρ M).bind fun y M => ofC (cmpU op x y M) M) := by simp only [den]; rfl
def ofT (o : Option Bool) (f g : R U) : R U := match o with | some true => f | some false => g | none => .bad
theorem ofT_true (f g : R U) : ofT (some true) f g = f := rfl
theorem ofT_false (f g : R U) : ofT (some false) f g = g := rfl
theorem den_and (a b : Ex) : den cb (.and a b) ρ M = (den cb a ρ M).bind fun u M => ofT (truU M u) (den cb b ρ M) (.ok u M) := by
  simp only [den]
  rfl
theorem den_or (a b : Ex) : den cb (.or a b) ρ M = (den cb a ρ M).bind fun u M => ofT (truU M u) (.ok u M) (den cb b ρ M) := by
  simp only [den]
  rfl
theorem den_not (a : Ex) : den cb (.not a) ρ M = boolR ((truR (den cb a) ρ M).bind fun b M => .ok (!b) M) := by simp only [den]
theorem den_neg (a : Ex) : den cb (.neg a) ρ M = (den cb a ρ M).bind fun u M => ofU (match u with | .d (.int i) => some (.d (.int (-i))) | _ => none) M := by
  simp only [den]
  congr 1
  funext u M
  cases u with
  | d x => cases x <;> rfl
  | _ => rfl
theorem den_ite (t a b : Ex) : den cb (.ite t a b) ρ M = (truR (den cb t) ρ M).bind fun c M => if c then den cb a ρ M else den cb b ρ M := by simp only [den]
theorem den_lst (m : Bool) (es : Exs) : den cb (.lst m es) ρ M = (denL cb es ρ M).bind fun us M => ofO (mkLz m us M) := by simp only [den]
theorem den_tup (es : Exs) : den cb (.tup es) ρ M = (denL cb es ρ M).bind fun us M => ofO (mkTz us M) := by simp only [den]
theorem den_dnew : den cb .dnew ρ M = .ok (.o M.length) (M ++ [.dct []]) := by simp only [den]
theorem den_sub (a b : Ex) : den cb (.sub a b) ρ M = (den cb a ρ M).bind fun x M => (den cb b ρ M).bind fun y M => ofU (idxU x y M) M := by simp only [den]; rfl
theorem den_slc (m : Bool) (a : Ex) (lo hi : Exs) : den cb (.slc m a lo hi) ρ M = (den cb a ρ M).bind fun x M => (denO cb lo ρ M).bind fun l M => (denO cb hi ρ M).bind fun h M => ofO (slU m x l h M) := by simp only [den]
theorem den_rev (m : Bool) (a : Ex) : den cb (.rev m a) ρ M = (den cb a ρ M).bind fun x M => ofO (revU m x M) := by simp only [den]
theorem den_bif (b : Bif) (m : Bool) (es : Exs) : den cb (.bif b m es) ρ M = (denL cb es ρ M).bind fun us M => ofO (b.fn m us M) := by simp only [den]
theorem den_lset (a : Ex) : den cb (.lset a) ρ M = (den cb a ρ M).bind fun x M => ofO (lsetU x M) := by simp only [den]
theorem den_dzip (a b : Ex) : den cb (.dzip a b) ρ M = (den cb a ρ M).bind fun x M => (den cb b ρ M).bind fun y M => ofO (dzipU x y M) := by simp only [den]
theorem den_tzip (a b : Ex) : den cb (.tzip a b) ρ M = (den cb a ρ M).bind fun x M => (den cb b ρ M).bind fun y M => ofO (tzipU x y M) := by simp only [den]
def isiR (o : Option String) (t : String) (M : Mem) : R U := match o with
  | some s => match isiT s t with | some r => .ok (.d (.bool r)) M | none => .bad
  | none => .bad
theorem den_isi (a : Ex) (t : String) : den cb (.isi a t) ρ M = (den cb a ρ M).bind fun u M => isiR (tyU M u) t M := by simp only [den]; rfl
theorem den_call (f : Nat) (es : Exs) (ds : List PyData) : den cb (.call f es ds) ρ M = (denL cb es ρ M).bind fun us M => cb f (us ++ ds.map U.d) M := by simp only [den]
theorem denL_nil : denL cb .nil ρ M = .ok [] M := by simp only [denL]
theorem denL_cons (e : Ex) (r : Exs) : denL cb (.cons e r) ρ M = (den cb e ρ M).bind fun u M => (denL cb r ρ M).bind fun us M => .ok (u :: us) M := by simp only [denL]
theorem denO_nil : denO cb .nil ρ M = .ok none M := by simp only [denO]
theorem denO_cons (e : Ex) (r : Exs) : denO cb (.cons e r) ρ M = (den cb e ρ M).bind toI := by simp only [denO]
theorem denT_nil : denT cb .nil ρ M = .ok true M := by simp only [denT]
theorem denT_cons (e : Ex) (r : Exs) : denT cb (.cons e r) ρ M = truR (den cb e) ρ M := by simp only [denT]
theorem truR_def (f : DEnv → Mem → R U) : truR f ρ M = (f ρ M).bind fun u M => ofC (truU M u) M := rfl
theorem denSs_nil : denSs cb .nil ρ M = .nx ρ M := by simp only [denSs]
theorem denSs_cons (s : Sm) (r : Sms) : denSs cb (.cons s r) ρ M = (denS cb s ρ M).seq (denSs cb r) := by
  simp only [denSs]
  cases denS cb s ρ M <;> rfl
theorem denS_ex (e : Ex) : denS cb (.ex e) ρ M = (den cb e ρ M).toS ρ fun _ M => .nx ρ M := by simp only [denS]
def ofE (o : Option DEnv) (M : Mem) : RS := match o with | some ρ => .nx ρ M | none => .bad
theorem ofE_some (ρ : DEnv) (M : Mem) : ofE (some ρ) M = .nx ρ M := rfl
def ofM (o : Option Mem) (f : Mem → RS) : RS := match o with | some M => f M | none => .bad
theorem ofM_some (M : Mem) (f : Mem → RS) : ofM (some M) f = f M := rfl
theorem denS_asg (g : Tg) (e : Ex) : denS cb (.asg g e) ρ M = (den cb e ρ M).toS ρ fun u M => ofE (g.asg M u ρ) M := by simp only [denS]; rfl
theorem denS_par (is : List Nat) (es : Exs) : denS cb (.par is es) ρ M = (denL cb es ρ M).toS ρ fun us M => ofE (parD is us ρ) M := by simp only [denS]; rfl
theorem denS_put (a i e : Ex) : denS cb (.put a i e) ρ M = (den cb e ρ M).toS ρ fun u M => (den cb a ρ M).toS ρ fun x M => (den cb i ρ M).toS ρ fun y M => ofM (putU x y u M) fun M => .nx ρ M := by simp only [denS]; rfl
theorem denS_put2 (a i a2 i2 e e2 : Ex) : denS cb (.put2 a i a2 i2 e e2) ρ M = (den cb e ρ M).toS ρ fun u M => (den cb e2 ρ M).toS ρ fun w M =>
      (den cb a ρ M).toS ρ fun x M => (den cb i ρ M).toS ρ fun y M => ofM (putU x y u M) fun M => (den cb a2 ρ M).toS ρ fun x M => (den cb i2 ρ M).toS ρ fun y M => ofM (putU x y w M) fun M => .nx ρ M := by simp only [denS]; rfl
theorem denS_ite (t : Ex) (a b : Sms) : denS cb (.ite t a b) ρ M = (truR (den cb t) ρ M).toS ρ fun c M => if c then denSs cb a ρ M else denSs cb b ρ M := by simp only [denS]
theorem denS_loop (g : Tg) (ik : ItK) (is : Exs) (b : Sms) : denS cb (.loop g ik is b) ρ M = ((denL cb is ρ M).bind (walkI ik)).toS ρ fun items M => forL g.asgI (denSs cb b) items ρ M := by simp only [denS]
theorem denS_whl (n : Nat) (t : Ex) (b : Sms) : denS cb (.whl n t b) ρ M = whlN (truR (den cb t)) (denSs cb b) n ρ M := by simp only [denS]
theorem denS_ret (e : Ex) : denS cb (.ret e) ρ M = (den cb e ρ M).toS ρ fun u M => .rt u M := by simp only [denS]
theorem denS_retn : denS cb .retn ρ M = .rt (.d .none) M := by simp only [denS]
theorem denS_rai (c : Str) : denS cb (.rai c) ρ M = .exc c ρ M := by simp only [denS]
theorem denS_pass : denS cb .pass ρ M = .nx ρ M := by simp only [denS]
theorem asg_n (M : Mem) (i : Nat) (u : U) (ρ : DEnv) : Tg.asg M (.n i) u ρ = some (ρ.set i (some u)) := by simp only [Tg.asg]
end
/-! ### operations on plain values -/
section
variable {m : Bool} {M : Mem} {i j : Int}
theorem bin_add : binU .Add m (.d (.int i)) (.d (.int j)) M = some (.d (.int (i + j)), M) := rfl
theorem bin_sub : binU .Sub m (.d (.int i)) (.d (.int j)) M = some (.d (.int (i - j)), M) := rfl
theorem bin_mod (h : 0 < j) : binU .Mod m (.d (.int i)) (.d (.int j)) M = some (.d (.int (i % j)), M) := by
  show (if decide (0 < j) = true then _ else _) = _
  rw [if_pos (decide_eq_true h)]
theorem bin_div (h : 0 < j) (h2 : j.natAbs < 340282366920938463463374607431768211456) : binU .FloorDiv m (.d (.int i)) (.d (.int j)) M = some (.d (.int (i / j)), M) := by
  show (if (decide (0 < j) && decide (j.natAbs < 340282366920938463463374607431768211456)) = true then _ else _) = _
  rw [if_pos (by simp [h, h2])]
theorem bin_mul (h : small64 i = true ∨ small64 j = true) : binU .Mult m (.d (.int i)) (.d (.int j)) M = some (.d (.int (i * j)), M) := by
  show (if (small64 i || small64 j) = true then _ else _) = _
  rw [if_pos (by rcases h with h | h <;> simp [h])]
theorem cmp_lt : cmpU .Lt (.d (.int i)) (.d (.int j)) M = some (decide (i < j)) := rfl
theorem cmp_le : cmpU .LtE (.d (.int i)) (.d (.int j)) M = some (decide (i ≤ j)) := rfl
theorem cmp_gt : cmpU .Gt (.d (.int i)) (.d (.int j)) M = some (decide (i > j)) := rfl
theorem cmp_ge : cmpU .GtE (.d (.int i)) (.d (.int j)) M = some (decide (i ≥ j)) := rfl
theorem tru_bool {b : Bool} : truU M (.d (.bool b)) = some b := rfl
theorem tru_int : truU M (.d (.int i)) = some (i != 0) := rfl
theorem len_scr {ns : List Int} : Bif.fn m .len [.scr ns] M = some (.d (.int ns.length), M) := rfl
theorem idx_scr {ns : List Int} {k : Nat} (h : k < ns.length) : idxU (.scr ns) (.d (.int k)) M = some (.d (.int ns[k])) := by
  show (atI ns (k : Int)).map _ = _
  unfold atI ixN
  rw [if_pos (by omega), if_pos (by omega)]
  simp [h]
theorem mkLz_t {us : List U} (h : us.length ≤ LIM) : mkLz true us M = some (.o M.length, M ++ [.lst us]) := by
  unfold mkLz
  rw [if_pos h]
  rfl
theorem fin_rt {n : Nat} {u : U} : fin false n (.rt u M) = .ok u M := rfl
theorem fin_nx {n : Nat} {ρ : DEnv} : fin false n (.nx ρ M) = .ok (.d .none) M := rfl
theorem seqU_o {n : Nat} {us : List U} (h : M[n]? = some (.lst us)) : seqU M (.o n) = some (true, us) := by
  unfold seqU
  dsimp only
  rw [h]
end
/-! ### loops by an invariant -/
theorem forL_inv {asg : Mem → Itm → DEnv → Option DEnv} {body : DEnv → Mem → RS} (P : DEnv → Mem → Prop) : ∀ (items : List Itm), (∀ it ∈ items, ∀ ρ M, P ρ M → ∃ ρ1, asg M it ρ = some ρ1 ∧ ∃ ρ2 M2, body ρ1 M = .nx ρ2 M2 ∧ P ρ2 M2) → ∀ ρ M, P ρ M → ∃ ρ' M', forL asg body items ρ M = .nx ρ' M' ∧ P ρ' M'
  | [], _, ρ, M, p => ⟨ρ, M, rfl, p⟩
  | it :: r, h, ρ, M, p => by
    obtain ⟨ρ1, e1, ρ2, M2, e2, p2⟩ := h it List.mem_cons_self ρ M p
    obtain ⟨ρ', M', e3, p3⟩ := forL_inv P r (fun it hi => h it (List.mem_cons_of_mem _ hi)) ρ2 M2 p2
    refine ⟨ρ', M', ?_, p3⟩
    unfold forL
    rw [e1]
    dsimp only
    rw [e2]
    exact e3
/-- a def whose arguments hold no object does the same in every memory -/
theorem call_any {T : Nat → Fn} {k f : Nat} {us : List U} {u : U} {M0 : Mem} (hc : (T f).cl = true) (hp : pureU us = true) (h : callN T (k + 1) f us [] = .ok u M0) (M : Mem) : callN T (k + 1) f us M = .ok u M := by
  simp only [callN, runF, hc, hp, Bool.and_self, if_true] at h ⊢
  split at h
  · rename_i hl
    rw [if_pos hl]
    revert h
    cases fin true 0 (denSs (callN T k) (T f).body (startD (T f) us) []) with
    | ok v M1 => intro h; cases h; rfl
    | exc c M1 => intro h; cases h
    | bad => intro h; cases h
  · cases h
end Mx

set_option Elab.async false
set_option linter.all false
set_option maxRecDepth 100000
set_option maxHeartbeats 0

/-! K45: the table of the law (printed by gen.py). -/
namespace K45
open PySem PySem.Spec PyProof.Rows L2 Mx
def top (i : Nat) : Stmt := PySem.Challenge.pw_mixtrees_k45_written_trees.main.body.getD i (.Pass ⟨0, 0, 0, 0⟩)
def b0 : Sms := (.cons (.ret (.and (.isi (.v 0) "int") (.and (.not (.isi (.v 0) "bool")) (.chn .LtE .LtE (.v 1) (.v 0) (.v 2))))) .nil)
def b1 : Sms := (.cons (.ret (.and (.isi (.v 0) "str") (.and (.chn .LtE .LtE (.k (.int 1)) (.bif .len false (.cons (.v 0) .nil)) (.k (.int 6))) (.bif .all false (.cons (.lc false (.n 1) .pl (.cons (.v 0) .nil) .nil [1] (.cmp .In (.v 1) (.k (.str "abcdefghijklmnopqrstuvwxyz")))) .nil))))) .nil)
def b2_0 : Sms := (.cons (.ite (.or (.not (.isi (.v 2) "tuple")) (.or (.cmp .NotEq (.bif .len false (.cons (.v 2) .nil)) (.k (.int 2))) (.not (.call 0 (.cons (.sub (.v 2) (.k (.int 0))) (.cons (.k (.int 1)) (.cons (.k (.int 9)) .nil))) [])))) (.cons (.ret (.k (.bool false))) .nil) .nil) (.cons (.ite (.not (.call 2 (.cons (.sub (.v 2) (.k (.int 1))) (.cons (.bin .Sub false (.v 1) (.k (.int 1))) .nil)) [])) (.cons (.ret (.k (.bool false))) .nil) .nil) .nil))
def b2 : Sms := (.cons (.ite (.isi (.v 0) "str") (.cons (.ret (.call 1 (.cons (.v 0) .nil) [])) .nil) .nil) (.cons (.ite (.or (.cmp .Eq (.v 1) (.k (.int 0))) (.or (.not (.isi (.v 0) "tuple")) (.not (.chn .LtE .LtE (.k (.int 1)) (.bif .len false (.cons (.v 0) .nil)) (.k (.int 5)))))) (.cons (.ret (.k (.bool false))) .nil) .nil) (.cons (.loop (.n 2) .pl (.cons (.v 0) .nil) b2_0) (.cons (.ret (.k (.bool true))) .nil))))
def b3 : Sms := (.cons (.ite (.isi (.v 0) "str") (.cons (.ret (.lst false (.cons (.v 0) .nil))) .nil) .nil) (.cons (.ret (.lc2 false (.t (.cons (.n 2) (.cons (.n 3) .nil))) .pl (.cons (.v 0) .nil) .nil (.n 1) .pl (.cons (.call 3 (.cons (.v 3) .nil) []) .nil) .nil [2, 3, 1] [1] (.v 1))) .nil))
def b4 : Sms := (.cons (.ite (.not (.call 2 (.cons (.v 0) (.cons (.k (.int 4)) .nil)) [])) (.cons (.ret (.k (.bool false))) .nil) .nil) (.cons (.asg (.n 1) (.call 3 (.cons (.v 0) .nil) [])) (.cons (.ret (.and (.cmp .LtE (.bif .len false (.cons (.v 1) .nil)) (.k (.int 8))) (.cmp .Eq (.lset (.v 1)) (.bif .len false (.cons (.v 1) .nil))))) .nil)))
def b5 : Sms := (.cons (.ite (.not (.call 4 (.cons (.v 0) .nil) [])) (.cons (.rai "InvalidTree") .nil) .nil) .nil)
def b6 : Sms := (.cons (.ret (.and (.isi (.v 1) "str") (.cmp .In (.v 1) (.call 3 (.cons (.v 0) .nil) [])))) .nil)
def b7 : Sms := (.cons (.ite (.not (.call 6 (.cons (.v 0) (.cons (.v 1) .nil)) [])) (.cons (.rai "InvalidName") .nil) .nil) .nil)
def b8 : Sms := (.cons (.ite (.isi (.v 0) "str") (.cons (.ret (.v 0)) .nil) .nil) (.cons (.ite (.cmp .Eq (.bif .len false (.cons (.v 0) .nil)) (.k (.int 1))) (.cons (.ret (.call 8 (.cons (.sub (.sub (.v 0) (.k (.int 0))) (.k (.int 1))) .nil) [])) .nil) .nil) (.cons (.ret (.bif .tuple false (.cons (.lc false (.t (.cons (.n 1) (.cons (.n 2) .nil))) .pl (.cons (.v 0) .nil) .nil [1, 2] (.tup (.cons (.v 1) (.cons (.call 8 (.cons (.v 2) .nil) []) .nil)))) .nil))) .nil)))
def b9 : Sms := (.cons (.ex (.call 5 (.cons (.v 0) .nil) [])) (.cons (.ret (.call 8 (.cons (.v 0) .nil) [])) .nil))
def b10_0 : Sms := (.cons (.asg (.n 5) (.call 10 (.cons (.v 4) (.cons (.v 1) .nil)) [])) (.cons (.ite (.cmp .IsNot (.v 5) (.k .none)) (.cons (.ex (.mth .append false (.v 2) (.cons (.tup (.cons (.v 3) (.cons (.v 5) .nil))) .nil))) .nil) .nil) .nil))
def b10 : Sms := (.cons (.ite (.isi (.v 0) "str") (.cons (.ret (.ite (.cmp .In (.v 0) (.v 1)) (.v 0) (.k .none))) .nil) .nil) (.cons (.asg (.n 2) (.lst true .nil)) (.cons (.loop (.t (.cons (.n 3) (.cons (.n 4) .nil))) .pl (.cons (.v 0) .nil) b10_0) (.cons (.ret (.ite (.cmp .NotEq (.v 2) (.lst false .nil)) (.bif .tuple false (.cons (.v 2) .nil)) (.k .none))) .nil))))
def b11 : Sms := (.cons (.ret (.call 8 (.cons (.call 10 (.cons (.v 0) (.cons (.v 1) .nil)) []) .nil) [])) .nil)
def b12 : Sms := (.cons (.ex (.call 5 (.cons (.v 0) .nil) [])) (.cons (.ite (.or (.not (.isi (.v 1) "tuple")) (.or (.cmp .Eq (.v 1) (.tup .nil)) (.not (.bif .all false (.cons (.lc false (.n 2) .pl (.cons (.v 1) .nil) .nil [2] (.call 6 (.cons (.v 0) (.cons (.v 2) .nil)) [])) .nil))))) (.cons (.rai "InvalidName") .nil) .nil) (.cons (.ite (.cmp .NotEq (.lset (.v 1)) (.bif .len false (.cons (.v 1) .nil))) (.cons (.rai "InvalidName") .nil) .nil) (.cons (.ret (.call 11 (.cons (.v 0) (.cons (.v 1) .nil)) [])) .nil))))
def b13 : Sms := (.cons (.ite (.or (.not (.isi (.v 1) "tuple")) (.cmp .NotEq (.bif .len false (.cons (.v 1) .nil)) (.bif .len false (.cons (.call 3 (.cons (.v 0) .nil) []) .nil)))) (.cons (.rai "InvalidLengths") .nil) .nil) (.cons (.ite (.not (.bif .all false (.cons (.lc false (.n 2) .pl (.cons (.v 1) .nil) .nil [2] (.call 0 (.cons (.v 2) (.cons (.k (.int 0)) (.cons (.k (.int 60)) .nil))) [])) .nil))) (.cons (.rai "InvalidLengths") .nil) .nil) .nil))
def b14 : Sms := (.cons (.ite (.isi (.v 0) "str") (.cons (.ret (.k .none)) .nil) .nil) (.cons (.ret (.lst true (.cons (.k (.int 0)) (.cons (.k (.int 0)) (.cons (.lc false (.t (.cons (.n 1) (.cons (.n 2) .nil))) .pl (.cons (.v 0) .nil) .nil [1, 2] (.call 14 (.cons (.v 2) .nil) [])) .nil))))) .nil))
def b15 : Sms := (.cons (.ret (.bif .any false (.cons (.lc false (.n 2) .pl (.cons (.call 3 (.cons (.v 0) .nil) []) .nil) .nil [2] (.cmp .Gt (.sub (.v 1) (.v 2)) (.k (.int 0)))) .nil))) .nil)
def b16_0 : Sms := (.cons (.put2 (.v 1) (.k (.int 0)) (.v 1) (.k (.int 1)) (.bin .Mod false (.bin .Add false (.sub (.v 1) (.k (.int 0))) (.k (.int 1))) (.bif .len false (.cons (.v 0) .nil))) (.k (.int 0))) .nil)
def b16 : Sms := (.cons (.ite (.isi (.v 0) "str") (.cons (.put (.v 2) (.v 0) (.bin .Sub false (.sub (.v 2) (.v 0)) (.k (.int 1)))) (.cons (.ret (.v 0)) .nil)) .nil) (.cons (.whl 100000 (.or (.cmp .Eq (.sub (.v 1) (.k (.int 1))) (.sub (.sub (.v 0) (.sub (.v 1) (.k (.int 0)))) (.k (.int 0)))) (.not (.call 15 (.cons (.sub (.sub (.v 0) (.sub (.v 1) (.k (.int 0)))) (.k (.int 1))) (.cons (.v 2) .nil)) []))) b16_0) (.cons (.asg (.n 3) (.call 16 (.cons (.sub (.sub (.v 0) (.sub (.v 1) (.k (.int 0)))) (.k (.int 1))) (.cons (.sub (.sub (.v 1) (.k (.int 2))) (.sub (.v 1) (.k (.int 0)))) (.cons (.v 2) .nil))) [])) (.cons (.put (.v 1) (.k (.int 1)) (.bin .Add false (.sub (.v 1) (.k (.int 1))) (.k (.int 1)))) (.cons (.ret (.v 3)) .nil)))))
def b17_0 : Sms := (.cons (.ex (.mth .append false (.v 5) (.cons (.call 16 (.cons (.v 0) (.cons (.v 4) (.cons (.v 3) .nil))) []) .nil))) .nil)
def b17 : Sms := (.cons (.par [3, 4, 5] (.cons (.dzip (.call 3 (.cons (.v 0) .nil) []) (.v 1)) (.cons (.call 14 (.cons (.v 0) .nil) []) (.cons (.lst true .nil) .nil)))) (.cons (.whl 100000 (.and (.cmp .Lt (.bif .len false (.cons (.v 5) .nil)) (.v 2)) (.call 15 (.cons (.v 0) (.cons (.v 3) .nil)) [])) b17_0) (.cons (.ret (.v 5)) .nil)))
def b18_0 : Sms := (.cons (.ex (.mth .append false (.v 3) (.cons (.tup (.cons (.v 1) (.cons (.mth .get2 false (.v 2) (.cons (.v 1) (.cons (.k (.int 0)) .nil))) .nil))) .nil))) (.cons (.put (.v 2) (.v 1) (.bin .Add false (.mth .get2 false (.v 2) (.cons (.v 1) (.cons (.k (.int 0)) .nil))) (.k (.int 1)))) .nil))
def b18 : Sms := (.cons (.par [2, 3] (.cons .dnew (.cons (.lst true .nil) .nil))) (.cons (.loop (.n 1) .pl (.cons (.v 0) .nil) b18_0) (.cons (.ret (.v 3)) .nil)))
def b19 : Sms := (.cons (.ex (.call 5 (.cons (.v 0) .nil) [])) (.cons (.ex (.call 13 (.cons (.v 0) (.cons (.v 1) .nil)) [])) (.cons (.ite (.and (.cmp .IsNot (.v 2) (.k .none)) (.not (.call 0 (.cons (.v 2) (.cons (.k (.int 0)) (.cons (.k (.int 480)) .nil))) []))) (.cons (.rai "InvalidNumber") .nil) .nil) (.cons (.ret (.call 18 (.cons (.call 17 (.cons (.v 0) (.cons (.v 1) (.cons (.ite (.cmp .Is (.v 2) (.k .none)) (.k (.int 480)) (.v 2)) .nil))) []) .nil) [])) .nil))))
def b20 : Sms := (.cons (.ret (.dzip (.call 3 (.cons (.v 0) .nil) []) (.v 1))) .nil)
def b21 : Sms := (.cons (.ret (.bif .sum false (.cons (.lc false (.n 2) .pl (.cons (.call 3 (.cons (.v 0) .nil) []) .nil) .nil [2] (.sub (.v 1) (.v 2))) .nil))) .nil)
def b22_0 : Sms := (.cons (.ite (.cmp .NotEq (.v 6) (.v 3)) (.cons (.asg (.n 4) (.bin .Add false (.v 4) (.bif .min false (.cons (.call 21 (.cons (.v 8) (.cons (.v 1) .nil)) []) (.cons (.bin .Mult false (.v 7) (.bin .Add false (.v 5) (.bif .int false (.cons (.cmp .Lt (.v 6) (.v 3)) .nil)))) .nil))))) .nil) .nil) .nil)
def b22 : Sms := (.cons (.ite (.isi (.v 0) "str") (.cons (.ret (.sub (.v 2) (.k (.int 1)))) .nil) .nil) (.cons (.asg (.n 3) (.sub (.lc false (.t (.cons (.n 6) (.cons (.t (.cons (.n 7) (.cons (.n 8) .nil))) .nil))) .en (.cons (.v 0) .nil) (.cons (.cmp .In (.sub (.v 2) (.k (.int 0))) (.call 3 (.cons (.v 8) .nil) [])) .nil) [6, 7, 8] (.v 6)) (.k (.int 0)))) (.cons (.asg (.n 4) (.call 22 (.cons (.sub (.sub (.v 0) (.v 3)) (.k (.int 1))) (.cons (.v 1) (.cons (.v 2) .nil))) [])) (.cons (.asg (.n 5) (.bin .FloorDiv false (.v 4) (.sub (.sub (.v 0) (.v 3)) (.k (.int 0))))) (.cons (.loop (.t (.cons (.n 6) (.cons (.t (.cons (.n 7) (.cons (.n 8) .nil))) .nil))) .en (.cons (.v 0) .nil) b22_0) (.cons (.ret (.v 4)) .nil))))))
def b23_0 : Sms := (.cons (.asg (.n 5) (.bin .FloorDiv false (.bin .Add false (.bin .Add false (.v 3) (.v 4)) (.k (.int 1))) (.k (.int 2)))) (.cons (.ite (.cmp .LtE (.bif .sum false (.cons (.lc false (.t (.cons (.n 6) (.cons (.n 7) .nil))) .pl (.cons (.v 0) .nil) .nil [6, 7] (.bif .min false (.cons (.call 21 (.cons (.v 7) (.cons (.v 1) .nil)) []) (.cons (.bin .Mult false (.v 6) (.v 5)) .nil)))) .nil)) (.v 2)) (.cons (.asg (.n 3) (.v 5)) .nil) (.cons (.asg (.n 4) (.bin .Sub false (.v 5) (.k (.int 1)))) .nil)) .nil))
def b23 : Sms := (.cons (.par [3, 4] (.cons (.k (.int 0)) (.cons (.v 2) .nil))) (.cons (.whl 100000 (.cmp .Lt (.v 3) (.v 4)) b23_0) (.cons (.ret (.v 3)) .nil)))
def b24_0 : Sms := (.cons (.asg (.n 8) (.bif .min false (.cons (.call 21 (.cons (.v 7) (.cons (.v 1) .nil)) []) (.cons (.bin .Mult false (.v 6) (.v 4)) .nil)))) (.cons (.asg (.n 9) (.bif .min false (.cons (.v 3) (.cons (.v 6) (.cons (.bin .Sub false (.call 21 (.cons (.v 7) (.cons (.v 1) .nil)) []) (.v 8)) .nil))))) (.cons (.asg (.n 3) (.bin .Sub false (.v 3) (.v 9))) (.cons (.ex (.mth .extend false (.v 5) (.cons (.call 24 (.cons (.v 7) (.cons (.v 1) (.cons (.bin .Add false (.v 8) (.v 9)) .nil))) []) .nil))) .nil))))
def b24 : Sms := (.cons (.ite (.isi (.v 0) "str") (.cons (.ret (.lst false (.cons (.v 2) .nil))) .nil) .nil) (.cons (.par [4, 5] (.cons (.call 23 (.cons (.v 0) (.cons (.v 1) (.cons (.v 2) .nil))) []) (.cons (.lst true .nil) .nil))) (.cons (.asg (.n 3) (.bin .Sub false (.v 2) (.bif .sum false (.cons (.lc false (.t (.cons (.n 6) (.cons (.n 7) .nil))) .pl (.cons (.v 0) .nil) .nil [6, 7] (.bif .min false (.cons (.call 21 (.cons (.v 7) (.cons (.v 1) .nil)) []) (.cons (.bin .Mult false (.v 6) (.v 4)) .nil)))) .nil)))) (.cons (.loop (.t (.cons (.n 6) (.cons (.n 7) .nil))) .pl (.cons (.v 0) .nil) b24_0) (.cons (.ret (.v 5)) .nil)))))
def b25 : Sms := (.cons (.ite (.or (.not (.isi (.v 2) "tuple")) (.or (.cmp .NotEq (.bif .len false (.cons (.v 2) .nil)) (.k (.int 2))) (.not (.call 6 (.cons (.v 0) (.cons (.sub (.v 2) (.k (.int 0))) .nil)) [])))) (.cons (.rai "InvalidItem") .nil) .nil) (.cons (.ite (.not (.call 0 (.cons (.sub (.v 2) (.k (.int 1))) (.cons (.k (.int 0)) (.cons (.bin .Sub false (.sub (.call 20 (.cons (.v 0) (.cons (.v 1) .nil)) []) (.sub (.v 2) (.k (.int 0)))) (.k (.int 1))) .nil))) [])) (.cons (.rai "InvalidItem") .nil) .nil) .nil))
def b26 : Sms := (.cons (.ex (.call 5 (.cons (.v 0) .nil) [])) (.cons (.ex (.call 13 (.cons (.v 0) (.cons (.v 1) .nil)) [])) (.cons (.ex (.call 25 (.cons (.v 0) (.cons (.v 1) (.cons (.v 2) .nil))) [])) (.cons (.ret (.call 22 (.cons (.v 0) (.cons (.call 20 (.cons (.v 0) (.cons (.v 1) .nil)) []) (.cons (.v 2) .nil))) [])) .nil))))
def b27 : Sms := (.cons (.ex (.call 5 (.cons (.v 0) .nil) [])) (.cons (.ex (.call 13 (.cons (.v 0) (.cons (.v 1) .nil)) [])) (.cons (.ite (.not (.call 0 (.cons (.v 2) (.cons (.k (.int 0)) (.cons (.bin .Sub false (.bif .sum false (.cons (.v 1) .nil)) (.k (.int 1))) .nil))) [])) (.cons (.rai "InvalidNumber") .nil) .nil) (.cons (.asg (.n 3) (.call 20 (.cons (.v 0) (.cons (.v 1) .nil)) [])) (.cons (.par [4, 5] (.cons (.call 24 (.cons (.v 0) (.cons (.v 3) (.cons (.v 2) .nil))) []) (.cons (.call 24 (.cons (.v 0) (.cons (.v 3) (.cons (.bin .Add false (.v 2) (.k (.int 1))) .nil))) []) .nil))) (.cons (.ret (.sub (.lc false (.t (.cons (.n 6) (.cons (.n 7) (.cons (.n 8) .nil)))) .z3 (.cons (.call 3 (.cons (.v 0) .nil) []) (.cons (.v 4) (.cons (.v 5) .nil))) (.cons (.cmp .Lt (.v 7) (.v 8)) .nil) [6, 7, 8] (.tup (.cons (.v 6) (.cons (.v 7) .nil)))) (.k (.int 0)))) .nil))))))
def b28 : Sms := (.cons (.ex (.call 5 (.cons (.v 0) .nil) [])) (.cons (.ex (.call 13 (.cons (.v 0) (.cons (.v 1) .nil)) [])) (.cons (.ite (.not (.call 0 (.cons (.v 2) (.cons (.k (.int 0)) (.cons (.bif .sum false (.cons (.v 1) .nil)) .nil))) [])) (.cons (.rai "InvalidNumber") .nil) .nil) (.cons (.ret (.call 24 (.cons (.v 0) (.cons (.call 20 (.cons (.v 0) (.cons (.v 1) .nil)) []) (.cons (.v 2) .nil))) [])) .nil))))
def b29 : Sms := (.cons (.ex (.call 5 (.cons (.v 0) .nil) [])) (.cons (.ex (.call 13 (.cons (.v 0) (.cons (.v 1) .nil)) [])) (.cons (.asg (.n 2) (.call 20 (.cons (.v 0) (.cons (.v 1) .nil)) [])) (.cons (.ret (.bif .max false (.cons (.lck 2 (.bin .Add false (.lst false (.cons (.k (.int 0)) .nil)) (.lc false (.n 3) .ky (.cons (.v 2) .nil) (.cons (.cmp .Gt (.sub (.v 2) (.v 3)) (.k (.int 0))) .nil) [3] (.bin .Add false (.k (.int 1)) (.call 22 (.cons (.v 0) (.cons (.v 2) (.cons (.tup (.cons (.v 3) (.cons (.k (.int 0)) .nil))) .nil))) []))))) .nil))) .nil))))
def b30 : Sms := (.cons (.ex (.call 5 (.cons (.v 0) .nil) [])) (.cons (.ex (.call 13 (.cons (.v 0) (.cons (.v 1) .nil)) [])) (.cons (.ex (.call 7 (.cons (.v 0) (.cons (.v 2) .nil)) [])) (.cons (.asg (.n 4) (.call 20 (.cons (.v 0) (.cons (.v 1) .nil)) [])) (.cons (.ite (.cmp .Eq (.sub (.v 4) (.v 2)) (.k (.int 60))) (.cons (.rai "TooMany") .nil) .nil) (.cons (.ex (.call 25 (.cons (.v 0) (.cons (.v 1) (.cons (.v 3) .nil))) [])) (.cons (.ite (.cmp .Eq (.sub (.v 3) (.k (.int 0))) (.v 2)) (.cons (.rai "InvalidItem") .nil) .nil) (.cons (.asg (.n 5) (.call 22 (.cons (.v 0) (.cons (.v 4) (.cons (.v 3) .nil))) [])) (.cons (.put (.v 4) (.v 2) (.bin .Add false (.sub (.v 4) (.v 2)) (.k (.int 1)))) (.cons (.ret (.bin .Sub false (.call 22 (.cons (.v 0) (.cons (.v 4) (.cons (.v 3) .nil))) []) (.v 5))) .nil))))))))))
def b31_0 : Sms := (.cons (.asg (.n 5) (.call 3 (.cons (.v 4) .nil) [])) (.cons (.ite (.and (.cmp .In (.v 1) (.v 5)) (.cmp .In (.v 2) (.v 5))) (.cons (.asg (.n 6) (.call 31 (.cons (.v 4) (.cons (.v 1) (.cons (.v 2) .nil))) [])) (.cons (.asg (.n 7) (.bin .Sub false (.bif .sum false (.cons (.lc false (.t (.cons (.n 8) (.cons (.n 9) .nil))) .pl (.cons (.v 0) .nil) .nil [8, 9] (.v 8)) .nil)) (.v 3))) (.cons (.ret (.bin .Add false (.v 6) (.bin .Mult false (.v 7) (.bin .FloorDiv false (.bin .Sub false (.bin .Add false (.v 6) (.v 3)) (.k (.int 1))) (.v 3))))) .nil))) .nil) .nil))
def b31 : Sms := (.cons (.loop (.t (.cons (.n 3) (.cons (.n 4) .nil))) .pl (.cons (.v 0) .nil) b31_0) (.cons (.ret (.k (.int 1))) .nil))
def b32 : Sms := (.cons (.ex (.call 5 (.cons (.v 0) .nil) [])) (.cons (.ex (.call 7 (.cons (.v 0) (.cons (.v 1) .nil)) [])) (.cons (.ex (.call 7 (.cons (.v 0) (.cons (.v 2) .nil)) [])) (.cons (.ite (.cmp .Eq (.v 1) (.v 2)) (.cons (.rai "InvalidName") .nil) .nil) (.cons (.ret (.call 31 (.cons (.v 0) (.cons (.v 1) (.cons (.v 2) .nil))) [])) .nil)))))
def b33_0 : Sms := (.cons (.par [0, 1] (.cons (.v 1) (.cons (.bin .Mod false (.v 0) (.v 1)) .nil))) .nil)
def b33 : Sms := (.cons (.whl 100000 (.cmp .Gt (.v 1) (.k (.int 0))) b33_0) (.cons (.ret (.v 0)) .nil))
def b34 : Sms := (.cons (.ret (.bif .sum false (.cons (.lc false (.t (.cons (.n 1) (.cons (.n 2) .nil))) .pl (.cons (.v 0) .nil) .nil [1, 2] (.v 1)) .nil))) .nil)
def b35_0 : Sms := (.cons (.asg (.n 4) (.call 35 (.cons (.v 3) .nil) [])) (.cons (.asg (.n 5) (.bin .FloorDiv false (.v 4) (.call 33 (.cons (.v 4) (.cons (.v 2) .nil)) []))) (.cons (.asg (.n 1) (.bin .FloorDiv false (.bin .Mult false (.v 1) (.v 5)) (.call 33 (.cons (.v 1) (.cons (.v 5) .nil)) []))) .nil)))
def b35 : Sms := (.cons (.ite (.isi (.v 0) "str") (.cons (.ret (.k (.int 1))) .nil) .nil) (.cons (.asg (.n 1) (.k (.int 1))) (.cons (.loop (.t (.cons (.n 2) (.cons (.n 3) .nil))) .pl (.cons (.v 0) .nil) b35_0) (.cons (.ret (.bin .Mult false (.v 1) (.call 34 (.cons (.v 0) .nil) []))) .nil))))
def b36 : Sms := (.cons (.ret (.call 17 (.cons (.v 0) (.cons (.bin .Mult false (.tup (.cons (.v 1) .nil)) (.bif .len false (.cons (.call 3 (.cons (.v 0) .nil) []) .nil))) (.cons (.v 1) .nil))) [])) .nil)
def b37_0 : Sms := (.cons (.asg (.n 7) (.bif .min false (.cons (.v 4) (.cons (.v 5) .nil)))) (.cons (.asg (.n 4) (.bin .Sub false (.v 4) (.v 7))) (.cons (.ex (.mth .extend false (.v 2) (.cons (.call 37 (.cons (.v 6) (.cons (.bin .Add false (.bin .Mult false (.v 5) (.v 3)) (.v 7)) .nil)) []) .nil))) .nil)))
def b37 : Sms := (.cons (.ite (.isi (.v 0) "str") (.cons (.ret (.lst false (.cons (.v 1) .nil))) .nil) .nil) (.cons (.par [3, 4] (.cons (.bin .FloorDiv false (.v 1) (.call 34 (.cons (.v 0) .nil) [])) (.cons (.bin .Mod false (.v 1) (.call 34 (.cons (.v 0) .nil) [])) .nil))) (.cons (.asg (.n 2) (.lst true .nil)) (.cons (.loop (.t (.cons (.n 5) (.cons (.n 6) .nil))) .pl (.cons (.v 0) .nil) b37_0) (.cons (.ret (.v 2)) .nil)))))
def b38_0 : Sms := (.cons (.ex (.mth .extend false (.v 3) (.cons (.call 38 (.cons (.v 6) (.cons (.bin .Mult false (.v 1) (.v 5)) (.cons (.bin .Mult false (.v 2) (.call 34 (.cons (.v 0) .nil) [])) .nil))) []) .nil))) .nil)
def b38 : Sms := (.cons (.ite (.isi (.v 0) "str") (.cons (.asg (.n 4) (.call 33 (.cons (.v 1) (.cons (.v 2) .nil)) [])) (.cons (.ret (.lst false (.cons (.tup (.cons (.bin .FloorDiv false (.v 1) (.v 4)) (.cons (.bin .FloorDiv false (.v 2) (.v 4)) .nil))) .nil))) .nil)) .nil) (.cons (.asg (.n 3) (.lst true .nil)) (.cons (.loop (.t (.cons (.n 5) (.cons (.n 6) .nil))) .pl (.cons (.v 0) .nil) b38_0) (.cons (.ret (.v 3)) .nil))))
def b39 : Sms := (.cons (.ex (.call 5 (.cons (.v 0) .nil) [])) (.cons (.ite (.not (.call 0 (.cons (.v 1) (.cons (.k (.int 0)) (.cons (.k (.int 1000)) .nil))) [])) (.cons (.rai "InvalidNumber") .nil) .nil) (.cons (.ret (.call 36 (.cons (.v 0) (.cons (.v 1) .nil)) [])) .nil)))
def b40 : Sms := (.cons (.ex (.call 5 (.cons (.v 0) .nil) [])) (.cons (.ret (.call 35 (.cons (.call 8 (.cons (.v 0) .nil) []) .nil) [])) .nil))
def b41 : Sms := (.cons (.ex (.call 5 (.cons (.v 0) .nil) [])) (.cons (.ret (.call 38 (.cons (.v 0) (.cons (.k (.int 1)) (.cons (.k (.int 1)) .nil))) [])) .nil))
def b42 : Sms := (.cons (.ex (.call 5 (.cons (.v 0) .nil) [])) (.cons (.ite (.not (.call 0 (.cons (.v 1) (.cons (.k (.int 0)) (.cons (.k (.int 1000000000000000000)) .nil))) [])) (.cons (.rai "InvalidNumber") .nil) .nil) (.cons (.ret (.call 37 (.cons (.v 0) (.cons (.v 1) .nil)) [])) .nil)))
def b43 : Sms := (.cons (.asg (.n 1) (.call 35 (.cons (.call 8 (.cons (.v 0) .nil) []) .nil) [])) (.cons (.ite (.cmp .Gt (.v 1) (.k (.int 5000))) (.cons (.rai "TooLong") .nil) .nil) (.cons (.ret (.call 36 (.cons (.v 0) (.cons (.v 1) .nil)) [])) .nil)))
def b44 : Sms := (.cons (.ex (.call 5 (.cons (.v 0) .nil) [])) (.cons (.ex (.call 7 (.cons (.v 0) (.cons (.v 1) .nil)) [])) (.cons (.asg (.n 2) (.call 43 (.cons (.v 0) .nil) [])) (.cons (.asg (.n 3) (.lc false (.t (.cons (.n 4) (.cons (.n 5) .nil))) .en (.cons (.bin .Add false (.v 2) (.v 2)) .nil) (.cons (.cmp .Eq (.v 5) (.v 1)) .nil) [4, 5] (.v 4))) (.cons (.ret (.bif .max false (.cons (.lc false (.t (.cons (.n 6) (.cons (.n 7) .nil))) .z2 (.cons (.v 3) (.cons (.slc false (.v 3) (.cons (.k (.int 1)) .nil) .nil) .nil)) .nil [6, 7] (.bin .Sub false (.bin .Sub false (.v 7) (.v 6)) (.k (.int 1)))) .nil))) .nil)))))
def b45 : Sms := (.cons (.ex (.call 5 (.cons (.v 0) .nil) [])) (.cons (.ex (.call 5 (.cons (.v 1) .nil) [])) (.cons (.ret (.cmp .Eq (.call 8 (.cons (.v 0) .nil) []) (.call 8 (.cons (.v 1) .nil) []))) .nil)))
def b46 : Sms := (.cons (.ex (.call 5 (.cons (.v 0) .nil) [])) (.cons (.ex (.call 5 (.cons (.v 1) .nil) [])) (.cons (.par [2, 3] (.cons (.call 43 (.cons (.v 0) .nil) []) (.cons (.call 43 (.cons (.v 1) .nil) []) .nil))) (.cons (.ret (.cmp .Eq (.v 2) (.v 3))) .nil))))
def b47 : Sms := (.cons (.ite (.or (.not (.isi (.v 1) "tuple")) (.cmp .Gt (.bif .len false (.cons (.v 1) .nil)) (.k (.int 60)))) (.cons (.ret (.k (.bool false))) .nil) .nil) (.cons (.asg (.n 3) (.lc false (.n 4) .pl (.cons (.v 1) .nil) (.cons (.cmp .IsNot (.v 4) (.k .none)) .nil) [4] (.v 4))) (.cons (.ret (.and (.cmp .LtE (.bin .Sub false (.bif .len false (.cons (.v 1) .nil)) (.bif .len false (.cons (.v 3) .nil))) (.v 2)) (.bif .all false (.cons (.lc false (.n 4) .pl (.cons (.v 3) .nil) .nil [4] (.and (.isi (.v 4) "str") (.cmp .In (.v 4) (.v 0)))) .nil)))) .nil)))
def b48 : Sms := (.cons (.ite (.not (.call 47 (.cons (.call 3 (.cons (.v 0) .nil) []) (.cons (.v 1) (.cons (.v 2) .nil))) [])) (.cons (.rai "InvalidSeen") .nil) .nil) .nil)
def b49 : Sms := (.cons (.asg (.n 2) (.bif .tuple false (.cons (.lc false (.n 3) .pl (.cons (.call 3 (.cons (.v 0) .nil) []) .nil) .nil [3] (.mth .count false (.v 1) (.cons (.v 3) .nil))) .nil))) (.cons (.ret (.ite (.cmp .Eq (.bif .tuple false (.cons (.call 17 (.cons (.v 0) (.cons (.v 2) (.cons (.k (.int 60)) .nil))) []) .nil)) (.v 1)) (.v 2) (.k .none))) .nil))
def b50 : Sms := (.cons (.ret (.ite (.cmp .Is (.v 0) (.k .none)) (.k .none) (.lst true (.cons (.sub (.v 0) (.k (.int 0))) (.cons (.sub (.v 0) (.k (.int 1))) (.cons (.lc false (.n 1) .pl (.cons (.sub (.v 0) (.k (.int 2))) .nil) .nil [1] (.call 50 (.cons (.v 1) .nil) [])) .nil)))))) .nil)
def b51_0 : Sms := (.cons (.put (.v 4) (.v 7) (.k (.int 0))) (.cons (.asg (.n 6) (.call 50 (.cons (.v 5) .nil) [])) (.cons (.asg (.n 7) (.call 16 (.cons (.v 0) (.cons (.v 6) (.cons (.bif .dict false (.cons (.v 4) .nil)) .nil))) [])) .nil)))
def b51_1 : Sms := (.cons (.ite (.cmp .Eq (.sub (.v 4) (.v 3)) (.k (.int 0))) (.cons (.ret (.k .none)) .nil) .nil) (.cons (.asg (.n 6) (.call 50 (.cons (.v 5) .nil) [])) (.cons (.asg (.n 7) (.call 16 (.cons (.v 0) (.cons (.v 6) (.cons (.bif .dict false (.cons (.v 4) .nil)) .nil))) [])) (.cons (.whl 100000 (.cmp .NotEq (.v 7) (.v 3)) b51_0) (.cons (.asg (.n 5) (.v 6)) .nil)))))
def b51 : Sms := (.cons (.ex (.call 5 (.cons (.v 0) .nil) [])) (.cons (.ex (.call 48 (.cons (.v 0) (.cons (.v 1) (.cons (.k (.int 0)) .nil))) [])) (.cons (.asg (.n 2) (.call 3 (.cons (.v 0) .nil) [])) (.cons (.par [4, 5] (.cons (.bif .dict true (.cons (.lc false (.n 3) .pl (.cons (.v 2) .nil) .nil [3] (.tup (.cons (.v 3) (.cons (.bin .Add false (.bif .len false (.cons (.v 1) .nil)) (.k (.int 1))) .nil)))) .nil)) (.cons (.call 14 (.cons (.v 0) .nil) []) .nil))) (.cons (.loop (.n 3) .pl (.cons (.v 1) .nil) b51_1) (.cons (.ret (.lc false (.n 3) .pl (.cons (.v 2) .nil) (.cons (.cmp .Eq (.sub (.v 4) (.v 3)) (.k (.int 0))) .nil) [3] (.v 3))) .nil))))))
def b52_0 : Sms := (.cons (.asg (.n 3) (.lc2 false (.n 5) .pl (.cons (.v 3) .nil) .nil (.n 6) .pl (.cons (.ite (.cmp .IsNot (.v 2) (.k .none)) (.lst false (.cons (.v 2) .nil)) (.v 4)) .nil) .nil [5, 6] [6] (.bin .Add false (.v 5) (.tup (.cons (.v 6) .nil))))) .nil)
def b52 : Sms := (.cons (.ex (.call 5 (.cons (.v 0) .nil) [])) (.cons (.ex (.call 48 (.cons (.v 0) (.cons (.v 1) (.cons (.k (.int 4)) .nil))) [])) (.cons (.par [3, 4] (.cons (.lst false (.cons (.tup .nil) .nil)) (.cons (.call 3 (.cons (.v 0) .nil) []) .nil))) (.cons (.loop (.n 2) .pl (.cons (.v 1) .nil) b52_0) (.cons (.ret (.bif .sorted false (.cons (.lc false (.n 5) .pl (.cons (.v 3) .nil) (.cons (.cmp .IsNot (.call 49 (.cons (.v 0) (.cons (.v 5) .nil)) []) (.k .none)) .nil) [5] (.v 5)) .nil))) .nil)))))
def b53_0 : Sms := (.cons (.asg (.n 2) (.lc2 false (.n 4) .pl (.cons (.v 2) .nil) .nil (.n 5) .r2 (.cons (.k (.int 1)) (.cons (.k (.int 10)) .nil)) .nil [4, 5] [5] (.bin .Add false (.v 4) (.tup (.cons (.v 5) .nil))))) .nil)
def b53 : Sms := (.cons (.ite (.or (.not (.isi (.v 0) "tuple")) (.or (.not (.chn .LtE .LtE (.k (.int 2)) (.bif .len false (.cons (.v 0) .nil)) (.k (.int 3)))) (.not (.bif .all false (.cons (.lc false (.n 3) .pl (.cons (.v 0) .nil) .nil [3] (.call 1 (.cons (.v 3) .nil) [])) .nil))))) (.cons (.rai "InvalidName") .nil) .nil) (.cons (.ite (.cmp .NotEq (.lset (.v 0)) (.bif .len false (.cons (.v 0) .nil))) (.cons (.rai "InvalidName") .nil) .nil) (.cons (.ite (.not (.call 47 (.cons (.v 0) (.cons (.v 1) (.cons (.k (.int 0)) .nil))) [])) (.cons (.rai "InvalidSeen") .nil) .nil) (.cons (.asg (.n 2) (.lst false (.cons (.tup .nil) .nil))) (.cons (.loop (.n 3) .pl (.cons (.v 0) .nil) b53_0) (.cons (.ret (.lc false (.n 4) .pl (.cons (.v 2) .nil) (.cons (.cmp .IsNot (.call 49 (.cons (.tzip (.v 4) (.v 0)) (.cons (.v 1) .nil)) []) (.k .none)) .nil) [4] (.v 4))) .nil))))))
def b54 : Sms := (.cons (.asg (.n 2) (.k (.int 0))) (.cons (.ite (.cmp .Lt (.v 1) (.bif .len false (.cons (.v 0) .nil))) (.cons (.asg (.n 2) (.sub (.v 0) (.v 1))) .nil) .nil) (.cons (.asg (.n 3) (.lst false (.cons (.k (.int 2147483647)) (.cons (.k (.int 2147483629)) (.cons (.k (.int 2147483587)) (.cons (.k (.int 2147483579)) (.cons (.k (.int 2147483563)) (.cons (.k (.int 2147483549)) (.cons (.k (.int 2147483543)) (.cons (.k (.int 2147483497)) .nil)))))))))) (.cons (.asg (.n 4) (.bin .Mod false (.bin .Mult false (.bin .Add false (.bin .Mod false (.v 2) (.k (.int 2147483489))) (.k (.int 1))) (.bin .Add false (.k (.int 48271)) (.bin .Mult false (.k (.int 2)) (.v 1)))) (.k (.int 2147483489)))) (.cons (.asg (.n 4) (.bin .Add false (.bin .Add false (.bin .Mod false (.bin .Mult false (.v 4) (.v 4)) (.k (.int 2147483477))) (.v 1)) (.k (.int 1)))) (.cons (.ite (.cmp .GtE (.v 2) (.bin .Pow false (.k (.int 10)) (.k (.int 18)))) (.cons (.ret (.lst true (.cons (.v 2) (.cons (.v 4) (.cons (.sub (.v 3) (.bin .Mod false (.v 1) (.k (.int 8)))) .nil))))) .nil) .nil) (.cons (.ret (.lst true (.cons (.k (.int 0)) (.cons (.v 4) (.cons (.sub (.v 3) (.bin .Mod false (.v 1) (.k (.int 8)))) .nil))))) .nil)))))))
def b55 : Sms := (.cons (.ite (.cmp .Gt (.sub (.v 0) (.k (.int 0))) (.k (.int 0))) (.cons (.asg (.n 2) (.bin .Mod false (.sub (.v 0) (.k (.int 0))) (.v 1))) (.cons (.put (.v 0) (.k (.int 0)) (.bin .FloorDiv false (.sub (.v 0) (.k (.int 0))) (.v 1))) (.cons (.ret (.v 2)) .nil))) .nil) (.cons (.put (.v 0) (.k (.int 1)) (.bin .Add false (.bin .Mod false (.bin .Mult false (.sub (.v 0) (.k (.int 1))) (.k (.int 48271))) (.sub (.v 0) (.k (.int 2)))) (.k (.int 1)))) (.cons (.ret (.bin .Mod false (.bin .FloorDiv false (.bin .Mod false (.bin .Mult false (.sub (.v 0) (.k (.int 1))) (.sub (.v 0) (.k (.int 1)))) (.k (.int 2147483423))) (.k (.int 7))) (.v 1))) .nil)))
def b56 : Sms := (.cons (.asg (.n 2) (.tup (.cons (.tup (.cons (.k (.int 2)) (.cons (.v 0) .nil))) (.cons (.tup (.cons (.k (.int 1)) (.cons (.v 1) .nil))) .nil)))) (.cons (.ite (.cmp .NotEq (.lc false (.t (.cons (.n 4) (.cons (.n 5) .nil))) .pl (.cons (.call 19 (.cons (.v 2) (.cons (.tup (.cons (.k (.int 5)) (.cons (.k (.int 2)) .nil))) .nil)) [.none]) .nil) .nil [4, 5] (.v 4)) (.lst false (.cons (.v 0) (.cons (.v 0) (.cons (.v 1) (.cons (.v 0) (.cons (.v 0) (.cons (.v 1) (.cons (.v 0) .nil))))))))) (.cons (.ret (.k (.bool false))) .nil) .nil) (.cons (.ite (.or (.cmp .NotEq (.lc false (.t (.cons (.n 4) (.cons (.n 5) .nil))) .pl (.cons (.call 19 (.cons (.v 2) (.cons (.tup (.cons (.k (.int 1)) (.cons (.k (.int 4)) .nil))) .nil)) [.none]) .nil) .nil [4, 5] (.v 4)) (.lst false (.cons (.v 0) (.cons (.v 1) (.cons (.v 1) (.cons (.v 1) (.cons (.v 1) .nil))))))) (.cmp .NotEq (.call 26 (.cons (.v 2) (.cons (.tup (.cons (.k (.int 1)) (.cons (.k (.int 4)) .nil))) (.cons (.tup (.cons (.v 1) (.cons (.k (.int 3)) .nil))) .nil))) []) (.k (.int 4)))) (.cons (.ret (.k (.bool false))) .nil) .nil) (.cons (.ite (.or (.cmp .NotEq (.lc false (.n 6) .r1 (.cons (.k (.int 4)) .nil) .nil [6] (.call 30 (.cons (.v 2) (.cons (.tup (.cons (.k (.int 1)) (.cons (.k (.int 4)) .nil))) (.cons (.v 0) (.cons (.tup (.cons (.v 1) (.cons (.v 6) .nil))) .nil)))) [])) (.lst false (.cons (.k (.int 1)) (.cons (.k (.int 1)) (.cons (.k (.int 1)) (.cons (.k (.int 1)) .nil)))))) (.cmp .NotEq (.call 32 (.cons (.v 2) (.cons (.v 0) (.cons (.v 1) .nil))) []) (.k (.int 1)))) (.cons (.ret (.k (.bool false))) .nil) .nil) (.cons (.ite (.or (.cmp .NotEq (.call 42 (.cons (.v 2) (.cons (.k (.int 100)) .nil)) []) (.lst false (.cons (.k (.int 67)) (.cons (.k (.int 33)) .nil)))) (.or (.cmp .NotEq (.call 41 (.cons (.v 2) .nil) []) (.lst false (.cons (.tup (.cons (.k (.int 2)) (.cons (.k (.int 3)) .nil))) (.cons (.tup (.cons (.k (.int 1)) (.cons (.k (.int 3)) .nil))) .nil)))) (.cmp .NotEq (.call 44 (.cons (.v 2) (.cons (.v 1) .nil)) []) (.k (.int 2))))) (.cons (.ret (.k (.bool false))) .nil) .nil) (.cons (.ite (.or (.cmp .IsNot (.call 51 (.cons (.v 2) (.cons (.tup (.cons (.v 0) (.cons (.v 1) (.cons (.v 0) .nil)))) .nil)) []) (.k .none)) (.or (.cmp .NotEq (.call 51 (.cons (.v 2) (.cons (.tup (.cons (.v 0) (.cons (.v 1) (.cons (.v 1) .nil)))) .nil)) []) (.lst false (.cons (.v 0) .nil))) (.cmp .NotEq (.call 29 (.cons (.v 2) (.cons (.tup (.cons (.k (.int 3)) (.cons (.k (.int 3)) .nil))) .nil)) []) (.k (.int 3))))) (.cons (.ret (.k (.bool false))) .nil) .nil) (.cons (.ret (.cmp .Eq (.call 53 (.cons (.tup (.cons (.v 0) (.cons (.v 1) .nil))) (.cons (.tup (.cons (.v 0) (.cons (.v 1) (.cons (.v 0) .nil)))) .nil)) []) (.lc false (.n 3) .r2 (.cons (.k (.int 1)) (.cons (.k (.int 10)) .nil)) .nil [3] (.tup (.cons (.k (.int 1)) (.cons (.v 3) .nil)))))) .nil)))))))
def b57 : Sms := (.cons (.asg (.n 3) (.tup (.cons (.tup (.cons (.k (.int 1)) (.cons (.tup (.cons (.tup (.cons (.k (.int 1)) (.cons (.v 0) .nil))) (.cons (.tup (.cons (.k (.int 1)) (.cons (.v 1) .nil))) .nil))) .nil))) (.cons (.tup (.cons (.k (.int 3)) (.cons (.v 2) .nil))) .nil)))) (.cons (.ite (.cmp .NotEq (.lc false (.t (.cons (.n 4) (.cons (.n 5) .nil))) .pl (.cons (.call 19 (.cons (.v 3) (.cons (.tup (.cons (.k (.int 2)) (.cons (.k (.int 2)) (.cons (.k (.int 5)) .nil)))) .nil)) [.none]) .nil) .nil [4, 5] (.v 4)) (.lst false (.cons (.v 0) (.cons (.v 2) (.cons (.v 2) (.cons (.v 2) (.cons (.v 1) (.cons (.v 2) (.cons (.v 2) (.cons (.v 0) (.cons (.v 1) .nil))))))))))) (.cons (.ret (.k (.bool false))) .nil) .nil) (.cons (.ite (.or (.cmp .NotEq (.call 27 (.cons (.v 3) (.cons (.tup (.cons (.k (.int 2)) (.cons (.k (.int 2)) (.cons (.k (.int 5)) .nil)))) (.cons (.k (.int 7)) .nil))) []) (.tup (.cons (.v 0) (.cons (.k (.int 1)) .nil)))) (.cmp .NotEq (.call 28 (.cons (.v 3) (.cons (.tup (.cons (.k (.int 2)) (.cons (.k (.int 2)) (.cons (.k (.int 5)) .nil)))) (.cons (.k (.int 5)) .nil))) []) (.lst false (.cons (.k (.int 1)) (.cons (.k (.int 1)) (.cons (.k (.int 3)) .nil)))))) (.cons (.ret (.k (.bool false))) .nil) .nil) (.cons (.ite (.or (.cmp .NotEq (.call 30 (.cons (.v 3) (.cons (.tup (.cons (.k (.int 0)) (.cons (.k (.int 1)) (.cons (.k (.int 6)) .nil)))) (.cons (.v 0) (.cons (.tup (.cons (.v 1) (.cons (.k (.int 0)) .nil))) .nil)))) []) (.k (.int 4))) (.or (.cmp .NotEq (.call 30 (.cons (.v 3) (.cons (.tup (.cons (.k (.int 0)) (.cons (.k (.int 1)) (.cons (.k (.int 0)) .nil)))) (.cons (.v 0) (.cons (.tup (.cons (.v 1) (.cons (.k (.int 0)) .nil))) .nil)))) []) (.k (.int 1))) (.cmp .NotEq (.call 32 (.cons (.v 3) (.cons (.v 0) (.cons (.v 1) .nil))) []) (.k (.int 4))))) (.cons (.ret (.k (.bool false))) .nil) .nil) (.cons (.ite (.cmp .NotEq (.call 39 (.cons (.v 3) (.cons (.k (.int 9)) .nil)) []) (.lst false (.cons (.v 0) (.cons (.v 2) (.cons (.v 2) (.cons (.v 2) (.cons (.v 1) (.cons (.v 2) (.cons (.v 2) (.cons (.v 2) (.cons (.v 0) .nil))))))))))) (.cons (.ret (.k (.bool false))) .nil) .nil) (.cons (.ite (.or (.cmp .NotEq (.call 32 (.cons (.v 3) (.cons (.v 0) (.cons (.v 2) .nil))) []) (.k (.int 1))) (.cmp .NotEq (.call 40 (.cons (.v 3) .nil) []) (.k (.int 8)))) (.cons (.ret (.k (.bool false))) .nil) .nil) (.cons (.ite (.or (.cmp .NotEq (.call 44 (.cons (.v 3) (.cons (.v 0) .nil)) []) (.k (.int 7))) (.cmp .NotEq (.call 12 (.cons (.v 3) (.cons (.tup (.cons (.v 2) (.cons (.v 1) .nil))) .nil)) []) (.tup (.cons (.tup (.cons (.k (.int 1)) (.cons (.v 1) .nil))) (.cons (.tup (.cons (.k (.int 3)) (.cons (.v 2) .nil))) .nil))))) (.cons (.ret (.k (.bool false))) .nil) .nil) (.cons (.ret (.cmp .Eq (.call 52 (.cons (.v 3) (.cons (.tup (.cons (.k .none) (.cons (.v 2) (.cons (.v 1) .nil)))) .nil)) []) (.bif .sorted false (.cons (.lst false (.cons (.tup (.cons (.v 0) (.cons (.v 2) (.cons (.v 1) .nil)))) (.cons (.tup (.cons (.v 1) (.cons (.v 2) (.cons (.v 1) .nil)))) .nil))) .nil)))) .nil))))))))
def b58 : Sms := (.cons (.par [4, 5] (.cons (.tup (.cons (.tup (.cons (.k (.int 1)) (.cons (.v 0) .nil))) (.cons (.tup (.cons (.k (.int 1)) (.cons (.v 1) .nil))) (.cons (.tup (.cons (.k (.int 1)) (.cons (.v 2) .nil))) .nil)))) (.cons (.tup (.cons (.tup (.cons (.k (.int 2)) (.cons (.tup (.cons (.tup (.cons (.k (.int 1)) (.cons (.v 0) .nil))) (.cons (.tup (.cons (.k (.int 1)) (.cons (.v 1) .nil))) .nil))) .nil))) (.cons (.tup (.cons (.k (.int 1)) (.cons (.v 2) .nil))) .nil))) .nil))) (.cons (.ite (.or (.cmp .IsNot (.call 46 (.cons (.v 4) (.cons (.v 5) .nil)) []) (.k (.bool true))) (.cmp .IsNot (.call 45 (.cons (.v 4) (.cons (.v 5) .nil)) []) (.k (.bool false)))) (.cons (.ret (.k (.bool false))) .nil) .nil) (.cons (.asg (.n 3) (.tup (.cons (.k (.int 0)) (.cons (.k (.int 2)) (.cons (.k (.int 1)) .nil))))) (.cons (.ite (.or (.cmp .NotEq (.call 19 (.cons (.v 4) (.cons (.v 3) .nil)) [.none]) (.lst false (.cons (.tup (.cons (.v 1) (.cons (.k (.int 0)) .nil))) (.cons (.tup (.cons (.v 2) (.cons (.k (.int 0)) .nil))) (.cons (.tup (.cons (.v 1) (.cons (.k (.int 1)) .nil))) .nil))))) (.cmp .NotEq (.call 19 (.cons (.v 5) (.cons (.v 3) .nil)) [.none]) (.lst false (.cons (.tup (.cons (.v 1) (.cons (.k (.int 0)) .nil))) (.cons (.tup (.cons (.v 1) (.cons (.k (.int 1)) .nil))) (.cons (.tup (.cons (.v 2) (.cons (.k (.int 0)) .nil))) .nil)))))) (.cons (.ret (.k (.bool false))) .nil) .nil) (.cons (.ret (.cmp .Eq (.call 9 (.cons (.tup (.cons (.tup (.cons (.k (.int 5)) (.cons (.tup (.cons (.tup (.cons (.k (.int 4)) (.cons (.v 4) .nil))) .nil)) .nil))) (.cons (.tup (.cons (.k (.int 1)) (.cons (.k (.str "zz")) .nil))) .nil))) .nil) []) (.tup (.cons (.tup (.cons (.k (.int 5)) (.cons (.v 4) .nil))) (.cons (.tup (.cons (.k (.int 1)) (.cons (.k (.str "zz")) .nil))) .nil))))) .nil)))))
def b59_0 : Sms := (.cons (.asg (.n 2) (.call 54 (.cons (.v 0) (.cons (.v 1) .nil)) [])) (.cons (.asg (.t (.cons (.n 3) (.cons (.n 4) (.cons (.n 5) .nil)))) (.sub (.lst false (.cons (.lst false (.cons (.k (.str "a")) (.cons (.k (.str "bb")) (.cons (.k (.str "q")) .nil)))) (.cons (.lst false (.cons (.k (.str "q")) (.cons (.k (.str "p")) (.cons (.k (.str "o")) .nil)))) (.cons (.lst false (.cons (.k (.str "x")) (.cons (.k (.str "y")) (.cons (.k (.str "abc")) .nil)))) .nil)))) (.call 55 (.cons (.v 2) (.cons (.k (.int 3)) .nil)) []))) (.cons (.ite (.or (.not (.call 56 (.cons (.v 3) (.cons (.v 4) .nil)) [])) (.or (.not (.call 57 (.cons (.v 3) (.cons (.v 4) (.cons (.v 5) .nil))) [])) (.not (.call 58 (.cons (.v 3) (.cons (.v 4) (.cons (.v 5) .nil))) [])))) (.cons (.ret (.k (.bool false))) .nil) .nil) .nil)))
def b59 : Sms := (.cons (.loop (.n 1) .r1 (.cons (.bif .max false (.cons (.k (.int 3)) (.cons (.bif .min false (.cons (.k (.int 12)) (.cons (.bif .len false (.cons (.v 0) .nil)) .nil))) .nil))) .nil) b59_0) (.cons (.ret (.k (.bool true))) .nil))
def tab : List Fn := [⟨3, 3, true, b0⟩, ⟨1, 2, true, b1⟩, ⟨2, 3, true, b2⟩, ⟨1, 4, true, b3⟩, ⟨1, 2, true, b4⟩, ⟨1, 1, true, b5⟩, ⟨2, 2, true, b6⟩, ⟨2, 2, true, b7⟩, ⟨1, 3, true, b8⟩, ⟨1, 1, true, b9⟩, ⟨2, 6, true, b10⟩, ⟨2, 2, true, b11⟩, ⟨2, 3, true, b12⟩, ⟨2, 3, true, b13⟩, ⟨1, 3, false, b14⟩, ⟨2, 3, false, b15⟩, ⟨3, 4, false, b16⟩, ⟨3, 6, true, b17⟩, ⟨1, 4, true, b18⟩, ⟨3, 3, true, b19⟩, ⟨2, 2, false, b20⟩, ⟨2, 3, false, b21⟩, ⟨3, 9, false, b22⟩, ⟨3, 8, false, b23⟩, ⟨3, 10, true, b24⟩, ⟨3, 3, true, b25⟩, ⟨3, 3, true, b26⟩, ⟨3, 9, true, b27⟩, ⟨3, 3, true, b28⟩, ⟨2, 4, true, b29⟩, ⟨4, 6, true, b30⟩, ⟨3, 10, true, b31⟩, ⟨3, 3, true, b32⟩, ⟨2, 2, true, b33⟩, ⟨1, 3, true, b34⟩, ⟨1, 6, true, b35⟩, ⟨2, 2, true, b36⟩, ⟨2, 8, true, b37⟩, ⟨3, 7, true, b38⟩, ⟨2, 2, true, b39⟩, ⟨1, 1, true, b40⟩, ⟨1, 1, true, b41⟩, ⟨2, 2, true, b42⟩, ⟨1, 2, true, b43⟩, ⟨2, 8, true, b44⟩, ⟨2, 2, true, b45⟩, ⟨2, 4, true, b46⟩, ⟨3, 5, true, b47⟩, ⟨3, 3, true, b48⟩, ⟨2, 4, true, b49⟩, ⟨1, 2, false, b50⟩, ⟨2, 8, true, b51⟩, ⟨2, 7, true, b52⟩, ⟨2, 6, true, b53⟩, ⟨2, 5, false, b54⟩, ⟨2, 3, false, b55⟩, ⟨2, 7, true, b56⟩, ⟨3, 6, true, b57⟩, ⟨3, 6, true, b58⟩, ⟨1, 6, false, b59⟩]
def T (i : Nat) : Fn := tab.getD i ⟨0, 0, false, .nil⟩
def frees : List Str := ["all", "any", "bool", "dict", "enumerate", "int", "isinstance", "len", "max", "min", "range", "set", "sorted", "str", "sum", "tuple", "zip"]
def nums : List (Str × Int) := [("MAX_NAME", 6), ("MAX_PARTS", 5), ("MAX_WEIGHT", 9), ("MAX_FEEDS", 8), ("MAX_LEVELS", 4), ("MAX_LENGTH", 60), ("MAX_ITEMS", 480), ("MAX_WORD", 1000), ("MAX_MANY", 1000000000000000000), ("MAX_PERIOD", 5000), ("MAX_SEEN", 60), ("MAX_UNREAD", 4)]
def txts : List (Str × Str) := [("LETTERS", "abcdefghijklmnopqrstuvwxyz")]
def excs : List Str := ["InvalidTree", "InvalidName", "InvalidLengths", "InvalidItem", "InvalidNumber", "InvalidSeen", "TooMany", "TooLong"]
def r0 : RowD := ⟨"is_integer", top 17, 0, ["value", "low", "high"], ["value", "low", "high"], [], []⟩
def r1 : RowD := ⟨"is_name", top 18, 1, ["value", "sign"], ["value"], [], []⟩
def r2 : RowD := ⟨"is_part", top 19, 2, ["value", "levels", "pair"], ["value", "levels"], [], []⟩
def r3 : RowD := ⟨"names_of", top 20, 3, ["tree", "name", "weight", "part"], ["tree"], [], []⟩
def r4 : RowD := ⟨"is_tree", top 21, 4, ["value", "names"], ["value"], [], []⟩
def r5 : RowD := ⟨"require_tree", top 22, 5, ["value"], ["value"], [], []⟩
def r6 : RowD := ⟨"is_feed", top 23, 6, ["tree", "value"], ["tree", "value"], [], []⟩
def r7 : RowD := ⟨"require_feed", top 24, 7, ["tree", "value"], ["tree", "value"], [], []⟩
def r8 : RowD := ⟨"without_single", top 25, 8, ["tree", "weight", "part"], ["tree"], [], []⟩
def r9 : RowD := ⟨"plain", top 26, 9, ["tree"], ["tree"], [], []⟩
def r10 : RowD := ⟨"left_over", top 27, 10, ["tree", "names", "found", "weight", "part", "rest"], ["tree", "names"], [], []⟩
def r11 : RowD := ⟨"restrict", top 28, 11, ["tree", "names"], ["tree", "names"], [], []⟩
def r12 : RowD := ⟨"restricted", top 29, 12, ["tree", "names", "name"], ["tree", "names"], [], []⟩
def r13 : RowD := ⟨"require_lengths", top 33, 13, ["tree", "value", "one"], ["tree", "value"], [], []⟩
def r14 : RowD := ⟨"begun", top 34, 14, ["tree", "weight", "part"], ["tree"], [], []⟩
def r15 : RowD := ⟨"has_items", top 35, 15, ["tree", "left", "name"], ["tree", "left"], [], []⟩
def r16 : RowD := ⟨"take", top 36, 16, ["tree", "state", "left", "name"], ["tree", "state", "left"], [], []⟩
def r17 : RowD := ⟨"names_mixed", top 37, 17, ["tree", "lengths", "most", "left", "state", "found"], ["tree", "lengths", "most"], [], []⟩
def r18 : RowD := ⟨"numbered", top 38, 18, ["names", "name", "counts", "found"], ["names"], [], []⟩
def r19 : RowD := ⟨"mixed", top 39, 19, ["tree", "lengths", "first"], ["tree", "lengths", "first"], [.none], [("first", .non)]⟩
def r20 : RowD := ⟨"sizes_of", top 41, 20, ["tree", "lengths"], ["tree", "lengths"], [], []⟩
def r21 : RowD := ⟨"part_size", top 42, 21, ["tree", "sizes", "name"], ["tree", "sizes"], [], []⟩
def r22 : RowD := ⟨"place_within", top 43, 22, ["tree", "sizes", "item", "at", "found", "turn", "k", "weight", "part"], ["tree", "sizes", "item"], [], []⟩
def r23 : RowD := ⟨"rounds_within", top 44, 23, ["tree", "sizes", "many", "low", "high", "middle", "weight", "part"], ["tree", "sizes", "many"], [], []⟩
def r24 : RowD := ⟨"numbers_among", top 45, 24, ["tree", "sizes", "many", "rest", "turn", "found", "weight", "part", "before", "more"], ["tree", "sizes", "many"], [], []⟩
def r25 : RowD := ⟨"require_item", top 46, 25, ["tree", "lengths", "item"], ["tree", "lengths", "item"], [], []⟩
def r26 : RowD := ⟨"place_of", top 47, 26, ["tree", "lengths", "item"], ["tree", "lengths", "item"], [], []⟩
def r27 : RowD := ⟨"item_at", top 48, 27, ["tree", "lengths", "spot", "sizes", "before", "after", "name", "one", "other"], ["tree", "lengths", "spot"], [], []⟩
def r28 : RowD := ⟨"counts_in", top 49, 28, ["tree", "lengths", "many"], ["tree", "lengths", "many"], [], []⟩
def r29 : RowD := ⟨"when_all", top 50, 29, ["tree", "lengths", "sizes", "name"], ["tree", "lengths"], [], []⟩
def r30 : RowD := ⟨"push", top 52, 30, ["tree", "lengths", "name", "item", "sizes", "before"], ["tree", "lengths", "name", "item"], [], []⟩
def r31 : RowD := ⟨"limit_between", top 53, 31, ["tree", "name", "other", "weight", "part", "names", "inner", "others", "one", "rest"], ["tree", "name", "other"], [], []⟩
def r32 : RowD := ⟨"push_limit", top 54, 32, ["tree", "name", "other"], ["tree", "name", "other"], [], []⟩
def r33 : RowD := ⟨"divisor", top 59, 33, ["one", "other"], ["one", "other"], [], []⟩
def r34 : RowD := ⟨"weights_sum", top 60, 34, ["tree", "weight", "part"], ["tree"], [], []⟩
def r35 : RowD := ⟨"period_of", top 61, 35, ["tree", "rounds", "weight", "part", "inner", "need"], ["tree"], [], []⟩
def r36 : RowD := ⟨"endless_names", top 62, 36, ["tree", "many"], ["tree", "many"], [], []⟩
def r37 : RowD := ⟨"endless_counts", top 63, 37, ["tree", "many", "found", "turn", "rest", "weight", "part", "more"], ["tree", "many"], [], []⟩
def r38 : RowD := ⟨"part_shares", top 64, 38, ["tree", "top", "bottom", "found", "size", "weight", "part"], ["tree", "top", "bottom"], [], []⟩
def r39 : RowD := ⟨"names_endless", top 65, 39, ["tree", "many"], ["tree", "many"], [], []⟩
def r40 : RowD := ⟨"period", top 66, 40, ["tree"], ["tree"], [], []⟩
def r41 : RowD := ⟨"shares", top 67, 41, ["tree"], ["tree"], [], []⟩
def r42 : RowD := ⟨"counts_endless", top 68, 42, ["tree", "many"], ["tree", "many"], [], []⟩
def r43 : RowD := ⟨"one_period", top 69, 43, ["tree", "many"], ["tree"], [], []⟩
def r44 : RowD := ⟨"longest_wait", top 70, 44, ["tree", "name", "names", "spots", "at", "one", "before", "after"], ["tree", "name"], [], []⟩
def r45 : RowD := ⟨"same_always", top 72, 45, ["one", "other"], ["one", "other"], [], []⟩
def r46 : RowD := ⟨"same_endless", top 73, 46, ["one", "other", "first", "second"], ["one", "other"], [], []⟩
def r47 : RowD := ⟨"are_seen", top 77, 47, ["names", "value", "unread", "read", "one"], ["names", "value", "unread"], [], []⟩
def r48 : RowD := ⟨"require_seen", top 78, 48, ["tree", "value", "unread"], ["tree", "value", "unread"], [], []⟩
def r49 : RowD := ⟨"lengths_of", top 79, 49, ["tree", "seen", "lengths", "name"], ["tree", "seen"], [], []⟩
def r50 : RowD := ⟨"copied", top 80, 50, ["state", "one"], ["state"], [], []⟩
def r51 : RowD := ⟨"ended", top 81, 51, ["tree", "seen", "names", "name", "left", "state", "later", "found"], ["tree", "seen"], [], []⟩
def r52 : RowD := ⟨"fillings", top 82, 52, ["tree", "seen", "one", "rows", "names", "row", "name"], ["tree", "seen"], [], []⟩
def r53 : RowD := ⟨"weights_for", top 83, 53, ["names", "seen", "rows", "name", "row", "weight"], ["names", "seen"], [], []⟩
def r54 : RowD := ⟨"_law_source", top 85, 54, ["script", "k", "cell", "primes", "seed"], ["script", "k"], [], []⟩
def r55 : RowD := ⟨"_law_pick", top 86, 55, ["source", "size", "drawn"], ["source", "size"], [], []⟩
def r56 : RowD := ⟨"_law_flat_right", top 87, 56, ["a", "b", "tree", "other", "name", "index", "at"], ["a", "b"], [], []⟩
def r57 : RowD := ⟨"_law_deep_right", top 88, 57, ["a", "b", "c", "tree", "name", "index"], ["a", "b", "c"], [], []⟩
def r58 : RowD := ⟨"_law_joined_right", top 89, 58, ["a", "b", "c", "lengths", "flat", "joined_so"], ["a", "b", "c"], [], []⟩
def r59 : RowD := ⟨"law", top 90, 59, ["script", "k", "source", "a", "b", "c"], ["script"], [], []⟩
def rows : List RowD := [r0, r1, r2, r3, r4, r5, r6, r7, r8, r9, r10, r11, r12, r13, r14, r15, r16, r17, r18, r19, r20, r21, r22, r23, r24, r25, r26, r27, r28, r29, r30, r31, r32, r33, r34, r35, r36, r37, r38, r39, r40, r41, r42, r43, r44, r45, r46, r47, r48, r49, r50, r51, r52, r53, r54, r55, r56, r57, r58, r59]
def G : Glob := globOf frees nums txts excs rows
--EVAL
theorem chk : rows.all (chkRow G T 200) = true := by kernel_rfl
theorem rb0 : RowB r0 := .pos rfl rfl fun _ _ _ _ _ _ us hl => match us, hl with | [_, _, _], _ => rfl
theorem rb1 : RowB r1 := .pos rfl rfl fun _ _ _ _ _ _ us hl => match us, hl with | [_], _ => rfl
theorem rb2 : RowB r2 := .pos rfl rfl fun _ _ _ _ _ _ us hl => match us, hl with | [_, _], _ => rfl
theorem rb3 : RowB r3 := .pos rfl rfl fun _ _ _ _ _ _ us hl => match us, hl with | [_], _ => rfl
theorem rb4 : RowB r4 := .pos rfl rfl fun _ _ _ _ _ _ us hl => match us, hl with | [_], _ => rfl
theorem rb5 : RowB r5 := .pos rfl rfl fun _ _ _ _ _ _ us hl => match us, hl with | [_], _ => rfl
theorem rb6 : RowB r6 := .pos rfl rfl fun _ _ _ _ _ _ us hl => match us, hl with | [_, _], _ => rfl
theorem rb7 : RowB r7 := .pos rfl rfl fun _ _ _ _ _ _ us hl => match us, hl with | [_, _], _ => rfl
theorem rb8 : RowB r8 := .pos rfl rfl fun _ _ _ _ _ _ us hl => match us, hl with | [_], _ => rfl
theorem rb9 : RowB r9 := .pos rfl rfl fun _ _ _ _ _ _ us hl => match us, hl with | [_], _ => rfl
theorem rb10 : RowB r10 := .pos rfl rfl fun _ _ _ _ _ _ us hl => match us, hl with | [_, _], _ => rfl
theorem rb11 : RowB r11 := .pos rfl rfl fun _ _ _ _ _ _ us hl => match us, hl with | [_, _], _ => rfl
theorem rb12 : RowB r12 := .pos rfl rfl fun _ _ _ _ _ _ us hl => match us, hl with | [_, _], _ => rfl
theorem rb13 : RowB r13 := .pos rfl rfl fun _ _ _ _ _ _ us hl => match us, hl with | [_, _], _ => rfl
theorem rb14 : RowB r14 := .pos rfl rfl fun _ _ _ _ _ _ us hl => match us, hl with | [_], _ => rfl
theorem rb15 : RowB r15 := .pos rfl rfl fun _ _ _ _ _ _ us hl => match us, hl with | [_, _], _ => rfl
theorem rb16 : RowB r16 := .pos rfl rfl fun _ _ _ _ _ _ us hl => match us, hl with | [_, _, _], _ => rfl
theorem rb17 : RowB r17 := .pos rfl rfl fun _ _ _ _ _ _ us hl => match us, hl with | [_, _, _], _ => rfl
theorem rb18 : RowB r18 := .pos rfl rfl fun _ _ _ _ _ _ us hl => match us, hl with | [_], _ => rfl
theorem rb19 : RowB r19 := .kw "first" rfl rfl 2 rfl fun D _ _ _ _ _ us ks hl hk => match us, hl, ks, hk with | [_, _], _, [_], _ => ⟨_, _, _, _, _, _, rfl, rfl, rfl⟩
theorem rb20 : RowB r20 := .pos rfl rfl fun _ _ _ _ _ _ us hl => match us, hl with | [_, _], _ => rfl
theorem rb21 : RowB r21 := .pos rfl rfl fun _ _ _ _ _ _ us hl => match us, hl with | [_, _], _ => rfl
theorem rb22 : RowB r22 := .pos rfl rfl fun _ _ _ _ _ _ us hl => match us, hl with | [_, _, _], _ => rfl
theorem rb23 : RowB r23 := .pos rfl rfl fun _ _ _ _ _ _ us hl => match us, hl with | [_, _, _], _ => rfl
theorem rb24 : RowB r24 := .pos rfl rfl fun _ _ _ _ _ _ us hl => match us, hl with | [_, _, _], _ => rfl
theorem rb25 : RowB r25 := .pos rfl rfl fun _ _ _ _ _ _ us hl => match us, hl with | [_, _, _], _ => rfl
theorem rb26 : RowB r26 := .pos rfl rfl fun _ _ _ _ _ _ us hl => match us, hl with | [_, _, _], _ => rfl
theorem rb27 : RowB r27 := .pos rfl rfl fun _ _ _ _ _ _ us hl => match us, hl with | [_, _, _], _ => rfl
theorem rb28 : RowB r28 := .pos rfl rfl fun _ _ _ _ _ _ us hl => match us, hl with | [_, _, _], _ => rfl
theorem rb29 : RowB r29 := .pos rfl rfl fun _ _ _ _ _ _ us hl => match us, hl with | [_, _], _ => rfl
theorem rb30 : RowB r30 := .pos rfl rfl fun _ _ _ _ _ _ us hl => match us, hl with | [_, _, _, _], _ => rfl
theorem rb31 : RowB r31 := .pos rfl rfl fun _ _ _ _ _ _ us hl => match us, hl with | [_, _, _], _ => rfl
theorem rb32 : RowB r32 := .pos rfl rfl fun _ _ _ _ _ _ us hl => match us, hl with | [_, _, _], _ => rfl
theorem rb33 : RowB r33 := .pos rfl rfl fun _ _ _ _ _ _ us hl => match us, hl with | [_, _], _ => rfl
theorem rb34 : RowB r34 := .pos rfl rfl fun _ _ _ _ _ _ us hl => match us, hl with | [_], _ => rfl
theorem rb35 : RowB r35 := .pos rfl rfl fun _ _ _ _ _ _ us hl => match us, hl with | [_], _ => rfl
theorem rb36 : RowB r36 := .pos rfl rfl fun _ _ _ _ _ _ us hl => match us, hl with | [_, _], _ => rfl
theorem rb37 : RowB r37 := .pos rfl rfl fun _ _ _ _ _ _ us hl => match us, hl with | [_, _], _ => rfl
theorem rb38 : RowB r38 := .pos rfl rfl fun _ _ _ _ _ _ us hl => match us, hl with | [_, _, _], _ => rfl
theorem rb39 : RowB r39 := .pos rfl rfl fun _ _ _ _ _ _ us hl => match us, hl with | [_, _], _ => rfl
theorem rb40 : RowB r40 := .pos rfl rfl fun _ _ _ _ _ _ us hl => match us, hl with | [_], _ => rfl
theorem rb41 : RowB r41 := .pos rfl rfl fun _ _ _ _ _ _ us hl => match us, hl with | [_], _ => rfl
theorem rb42 : RowB r42 := .pos rfl rfl fun _ _ _ _ _ _ us hl => match us, hl with | [_, _], _ => rfl
theorem rb43 : RowB r43 := .pos rfl rfl fun _ _ _ _ _ _ us hl => match us, hl with | [_], _ => rfl
theorem rb44 : RowB r44 := .pos rfl rfl fun _ _ _ _ _ _ us hl => match us, hl with | [_, _], _ => rfl
theorem rb45 : RowB r45 := .pos rfl rfl fun _ _ _ _ _ _ us hl => match us, hl with | [_, _], _ => rfl
theorem rb46 : RowB r46 := .pos rfl rfl fun _ _ _ _ _ _ us hl => match us, hl with | [_, _], _ => rfl
theorem rb47 : RowB r47 := .pos rfl rfl fun _ _ _ _ _ _ us hl => match us, hl with | [_, _, _], _ => rfl
theorem rb48 : RowB r48 := .pos rfl rfl fun _ _ _ _ _ _ us hl => match us, hl with | [_, _, _], _ => rfl
theorem rb49 : RowB r49 := .pos rfl rfl fun _ _ _ _ _ _ us hl => match us, hl with | [_, _], _ => rfl
theorem rb50 : RowB r50 := .pos rfl rfl fun _ _ _ _ _ _ us hl => match us, hl with | [_], _ => rfl
theorem rb51 : RowB r51 := .pos rfl rfl fun _ _ _ _ _ _ us hl => match us, hl with | [_, _], _ => rfl
theorem rb52 : RowB r52 := .pos rfl rfl fun _ _ _ _ _ _ us hl => match us, hl with | [_, _], _ => rfl
theorem rb53 : RowB r53 := .pos rfl rfl fun _ _ _ _ _ _ us hl => match us, hl with | [_, _], _ => rfl
theorem rb54 : RowB r54 := .pos rfl rfl fun _ _ _ _ _ _ us hl => match us, hl with | [_, _], _ => rfl
theorem rb55 : RowB r55 := .pos rfl rfl fun _ _ _ _ _ _ us hl => match us, hl with | [_, _], _ => rfl
theorem rb56 : RowB r56 := .pos rfl rfl fun _ _ _ _ _ _ us hl => match us, hl with | [_, _], _ => rfl
theorem rb57 : RowB r57 := .pos rfl rfl fun _ _ _ _ _ _ us hl => match us, hl with | [_, _, _], _ => rfl
theorem rb58 : RowB r58 := .pos rfl rfl fun _ _ _ _ _ _ us hl => match us, hl with | [_, _, _], _ => rfl
theorem rb59 : RowB r59 := .pos rfl rfl fun _ _ _ _ _ _ us hl => match us, hl with | [_], _ => rfl
theorem rbs : ∀ r ∈ rows, RowB r := by
  simp only [rows, List.forall_mem_cons]
  exact ⟨rb0, rb1, rb2, rb3, rb4, rb5, rb6, rb7, rb8, rb9, rb10, rb11, rb12, rb13, rb14, rb15, rb16, rb17, rb18, rb19, rb20, rb21, rb22, rb23, rb24, rb25, rb26, rb27, rb28, rb29, rb30, rb31, rb32, rb33, rb34, rb35, rb36, rb37, rb38, rb39, rb40, rb41, rb42, rb43, rb44, rb45, rb46, rb47, rb48, rb49, rb50, rb51, rb52, rb53, rb54, rb55, rb56, rb57, rb58, rb59, fun _ h => by cases h⟩
def fa : List He.Fa := faOf frees nums txts excs rows
def fn : List He.DefD := rows.map RowD.defD
abbrev R : PySem.W.OpenRow := PySem.W.OpenLaw.row PySem.Challenge.rw_mixtrees_k45_written_trees
abbrev hk : PySem.W.Hook := He.hookD 4 fa fn
def ob (s : PySem.W.SharedT) : He.AlD := He.obsDG 4 fa fn (HandSHeadRun.getT s)
theorem ob_eq (s : PySem.W.SharedT) : ob s = hk.obs s.abs := He.obsDG_eq (HandSHeadRun.getT_eq s)
def loose : List Str := (["MixError", "InvalidTree", "InvalidName", "InvalidLengths", "InvalidItem", "InvalidNumber", "InvalidSeen", "TooMany", "TooLong", "LETTERS", "MAX_NAME", "MAX_PARTS", "MAX_WEIGHT", "MAX_FEEDS", "MAX_LEVELS", "is_integer", "is_name", "is_part", "names_of", "is_tree", "require_tree", "is_feed", "require_feed", "without_single", "plain", "left_over", "restrict", "restricted", "MAX_LENGTH", "MAX_ITEMS"] : List Str) ++ (["require_lengths", "begun", "has_items", "take", "names_mixed", "numbered", "mixed", "sizes_of", "part_size", "place_within", "rounds_within", "numbers_among", "require_item", "place_of", "item_at", "counts_in", "when_all", "push", "limit_between", "push_limit", "MAX_WORD", "MAX_MANY", "MAX_PERIOD", "divisor", "weights_sum", "period_of", "endless_names", "endless_counts", "part_shares", "names_endless"] : List Str) ++ (["period", "shares", "counts_endless", "one_period", "longest_wait", "same_always", "same_endless", "MAX_SEEN", "MAX_UNREAD", "are_seen", "require_seen", "lengths_of", "copied", "ended", "fillings", "weights_for", "_law_source", "_law_pick", "_law_flat_right", "_law_deep_right", "_law_joined_right"] : List Str)
end K45

set_option Elab.async false
set_option linter.all false
set_option maxRecDepth 100000
set_option maxHeartbeats 0

/-! K45r: the head of the law (printed by gen.py). -/
namespace K45
open PySem PySem.Spec PyProof.Rows L2 Mx
theorem run (w : World) : HandSHeadRun.RunEq R (PySem.W.view R.prog [90]) hk ob 4000 loose w := by
  intro os
  kernel_rfl
end K45

set_option Elab.async false
set_option linter.all false
set_option maxRecDepth 100000
set_option maxHeartbeats 0
namespace K45
open PySem PySem.Spec PyProof.Rows L2 Mx
theorem T54 : T 54 = ⟨2, 5, false, b54⟩ := by kernel_rfl
theorem T55 : T 55 = ⟨2, 3, false, b55⟩ := by kernel_rfl
def primes : List PyData := [.int 2147483647, .int 2147483629, .int 2147483587, .int 2147483579, .int 2147483563, .int 2147483549, .int 2147483543, .int 2147483497]
theorem prime_at (k : Nat) : ∃ p : Int, (0 < p ∧ p ≤ 2147483647) ∧ ∀ M, idxU (.d (.list primes)) (.d (.int ((k : Int) % 8))) M = some (.d (.int p)) := by
  have h : (k : Int) % 8 = 0 ∨ (k : Int) % 8 = 1 ∨ (k : Int) % 8 = 2 ∨ (k : Int) % 8 = 3 ∨ (k : Int) % 8 = 4 ∨ (k : Int) % 8 = 5 ∨ (k : Int) % 8 = 6 ∨ (k : Int) % 8 = 7 := by omega
  rcases h with h | h | h | h | h | h | h | h <;> rw [h] <;> exact ⟨_, by decide, fun M => rfl⟩
theorem mk_primes (M : Mem) : mkLz false [.d (.int 2147483647), .d (.int 2147483629), .d (.int 2147483587), .d (.int 2147483579), .d (.int 2147483563), .d (.int 2147483549), .d (.int 2147483543), .d (.int 2147483497)] M = some (.d (.list primes), M) := rfl
theorem pow18 (M : Mem) : binU .Pow false (.d (.int 10)) (.d (.int 18)) M = some (.d (.int (10 ^ 18)), M) := rfl
theorem mk3 (M : Mem) (a b c : U) : mkLz true [a, b, c] M = some (.o M.length, M ++ [.lst [a, b, c]]) := rfl
/-- the source behind the cell -/
theorem source_rest (j : Nat) (ns : List Int) (k : Nat) (hk : k < 12) (c : Int) (M : Mem) (r : Sms) (hr : b54 = .cons (.asg (.n 2) (.k (.int 0))) (.cons (.ite (.cmp .Lt (.v 1) (.bif .len false (.cons (.v 0) .nil))) (.cons (.asg (.n 2) (.sub (.v 0) (.v 1))) .nil) .nil) r)) :
    ∃ c' s p : Int, (0 < p ∧ p ≤ 2147483647) ∧ fin false M.length (denSs (callN T j) r [some (.scr ns), some (.d (.int k)), some (.d (.int c)), none, none] M) = .ok (.o M.length) (M ++ [.lst [.d (.int c'), .d (.int s), .d (.int p)]]) := by
  unfold b54 at hr
  injection hr with _ hr
  injection hr with _ hr
  subst hr
  obtain ⟨p, hp, hi⟩ := prime_at k
  have m1 : ∀ i : Int, ∀ M, binU .Mod false (.d (.int i)) (.d (.int 2147483489)) M = some (.d (.int (i % 2147483489)), M) := fun i M => bin_mod (by decide)
  have m2 : ∀ i : Int, ∀ M, binU .Mod false (.d (.int i)) (.d (.int 2147483477)) M = some (.d (.int (i % 2147483477)), M) := fun i M => bin_mod (by decide)
  have m3 : ∀ i : Int, ∀ M, binU .Mod false (.d (.int i)) (.d (.int 8)) M = some (.d (.int (i % 8)), M) := fun i M => bin_mod (by decide)
  have m4 : ∀ M, binU .Mult false (.d (.int 2)) (.d (.int (k : Int))) M = some (.d (.int (2 * k)), M) := fun M => bin_mul (.inl rfl)
  have m5 : ∀ i : Int, ∀ M, binU .Mult false (.d (.int i)) (.d (.int (48271 + 2 * (k : Int)))) M = some (.d (.int (i * (48271 + 2 * k))), M) := fun i M => bin_mul (.inr (decide_eq_true (by omega)))
  have m6 : ∀ i : Int, ∀ M, binU .Mult false (.d (.int (i % 2147483489))) (.d (.int (i % 2147483489))) M = some (.d (.int (i % 2147483489 * (i % 2147483489))), M) := fun i M => bin_mul (.inl (decide_eq_true (by omega)))
  simp only [↓den_v, ↓den_k, ↓den_bin, ↓den_cmp, ↓den_and, ↓den_or, ↓den_not, ↓den_neg, ↓den_ite, ↓den_lst, ↓den_tup, ↓den_dnew, ↓den_sub, ↓den_slc, ↓den_rev, ↓den_bif, ↓den_lset, ↓den_dzip, ↓den_tzip, ↓den_isi, ↓den_call, ↓denL_nil, ↓denL_cons, ↓denO_nil, ↓denO_cons, ↓denT_nil, ↓denT_cons, ↓truR_def, ↓denSs_nil, ↓denSs_cons, ↓denS_ex, ↓denS_asg, ↓denS_par, ↓denS_put, ↓denS_put2, ↓denS_ite, ↓denS_ret, ↓denS_retn, ↓denS_rai, ↓denS_pass, bind_ok, bind_exc, bind_bad, toS_ok, toS_exc, seq_nx, seq_rt, seq_exc, getV_some, ofO_some, boolR_ok, ofC_some, ofU_some, ofT_true, ofT_false, ofE_some, ofM_some, asg_n, List.getElem?_cons_zero, List.getElem?_cons_succ, List.set_cons_zero, List.set_cons_succ, List.map_nil, List.map_cons, List.append_nil, if_true, if_false, Bool.false_eq_true, bin_add, bin_sub, cmp_lt, cmp_le, cmp_gt, cmp_ge, tru_bool, tru_int, len_scr, fin_rt, fin_nx, mk_primes, m1, m2, m3, m4, m5, m6, pow18, hi]
  by_cases h : c ≥ 10 ^ 18
  · simp only [↓den_v, ↓den_k, ↓den_bin, ↓den_cmp, ↓den_and, ↓den_or, ↓den_not, ↓den_neg, ↓den_ite, ↓den_lst, ↓den_tup, ↓den_dnew, ↓den_sub, ↓den_slc, ↓den_rev, ↓den_bif, ↓den_lset, ↓den_dzip, ↓den_tzip, ↓den_isi, ↓den_call, ↓denL_nil, ↓denL_cons, ↓denO_nil, ↓denO_cons, ↓denT_nil, ↓denT_cons, ↓truR_def, ↓denSs_nil, ↓denSs_cons, ↓denS_ex, ↓denS_asg, ↓denS_par, ↓denS_put, ↓denS_put2, ↓denS_ite, ↓denS_ret, ↓denS_retn, ↓denS_rai, ↓denS_pass, bind_ok, bind_exc, bind_bad, toS_ok, toS_exc, seq_nx, seq_rt, seq_exc, getV_some, ofO_some, boolR_ok, ofC_some, ofU_some, ofT_true, ofT_false, ofE_some, ofM_some, asg_n, List.getElem?_cons_zero, List.getElem?_cons_succ, List.set_cons_zero, List.set_cons_succ, List.map_nil, List.map_cons, List.append_nil, if_true, if_false, Bool.false_eq_true, bin_add, bin_sub, cmp_lt, cmp_le, cmp_gt, cmp_ge, tru_bool, tru_int, len_scr, fin_rt, fin_nx, decide_eq_true h, m3, hi, mk3]
    exact ⟨_, _, p, hp, rfl⟩
  · simp only [↓den_v, ↓den_k, ↓den_bin, ↓den_cmp, ↓den_and, ↓den_or, ↓den_not, ↓den_neg, ↓den_ite, ↓den_lst, ↓den_tup, ↓den_dnew, ↓den_sub, ↓den_slc, ↓den_rev, ↓den_bif, ↓den_lset, ↓den_dzip, ↓den_tzip, ↓den_isi, ↓den_call, ↓denL_nil, ↓denL_cons, ↓denO_nil, ↓denO_cons, ↓denT_nil, ↓denT_cons, ↓truR_def, ↓denSs_nil, ↓denSs_cons, ↓denS_ex, ↓denS_asg, ↓denS_par, ↓denS_put, ↓denS_put2, ↓denS_ite, ↓denS_ret, ↓denS_retn, ↓denS_rai, ↓denS_pass, bind_ok, bind_exc, bind_bad, toS_ok, toS_exc, seq_nx, seq_rt, seq_exc, getV_some, ofO_some, boolR_ok, ofC_some, ofU_some, ofT_true, ofT_false, ofE_some, ofM_some, asg_n, List.getElem?_cons_zero, List.getElem?_cons_succ, List.set_cons_zero, List.set_cons_succ, List.map_nil, List.map_cons, List.append_nil, if_true, if_false, Bool.false_eq_true, bin_add, bin_sub, cmp_lt, cmp_le, cmp_gt, cmp_ge, tru_bool, tru_int, len_scr, fin_rt, fin_nx, decide_eq_false h, m3, hi, mk3]
    exact ⟨_, _, p, hp, rfl⟩
theorem source_ok (j : Nat) (ns : List Int) (k : Nat) (hk : k < 12) (M : Mem) : ∃ c s p : Int, (0 < p ∧ p ≤ 2147483647) ∧ callN T (j + 1) 54 [.scr ns, .d (.int k)] M = .ok (.o M.length) (M ++ [.lst [.d (.int c), .d (.int s), .d (.int p)]]) := by
  have run : callN T (j + 1) 54 [.scr ns, .d (.int k)] M = fin false M.length (denSs (callN T j) b54 [some (.scr ns), some (.d (.int k)), none, none, none] M) := by
    simp only [callN, runF, T54]
    rfl
  rw [run]
  have rest := fun c => source_rest j ns k hk c M _ (by unfold b54; rfl)
  unfold b54
  by_cases h : (k : Int) < ns.length
  · simp only [↓den_v, ↓den_k, ↓den_bin, ↓den_cmp, ↓den_and, ↓den_or, ↓den_not, ↓den_neg, ↓den_ite, ↓den_lst, ↓den_tup, ↓den_dnew, ↓den_sub, ↓den_slc, ↓den_rev, ↓den_bif, ↓den_lset, ↓den_dzip, ↓den_tzip, ↓den_isi, ↓den_call, ↓denL_nil, ↓denL_cons, ↓denO_nil, ↓denO_cons, ↓denT_nil, ↓denT_cons, ↓truR_def, ↓denSs_nil, ↓denSs_cons, ↓denS_ex, ↓denS_asg, ↓denS_par, ↓denS_put, ↓denS_put2, ↓denS_ite, ↓denS_ret, ↓denS_retn, ↓denS_rai, ↓denS_pass, bind_ok, bind_exc, bind_bad, toS_ok, toS_exc, seq_nx, seq_rt, seq_exc, getV_some, ofO_some, boolR_ok, ofC_some, ofU_some, ofT_true, ofT_false, ofE_some, ofM_some, asg_n, List.getElem?_cons_zero, List.getElem?_cons_succ, List.set_cons_zero, List.set_cons_succ, List.map_nil, List.map_cons, List.append_nil, if_true, if_false, Bool.false_eq_true, bin_add, bin_sub, cmp_lt, cmp_le, cmp_gt, cmp_ge, tru_bool, tru_int, len_scr, fin_rt, fin_nx, decide_eq_true h, idx_scr (show k < ns.length by omega)]
    exact rest _
  · simp only [↓den_v, ↓den_k, ↓den_bin, ↓den_cmp, ↓den_and, ↓den_or, ↓den_not, ↓den_neg, ↓den_ite, ↓den_lst, ↓den_tup, ↓den_dnew, ↓den_sub, ↓den_slc, ↓den_rev, ↓den_bif, ↓den_lset, ↓den_dzip, ↓den_tzip, ↓den_isi, ↓den_call, ↓denL_nil, ↓denL_cons, ↓denO_nil, ↓denO_cons, ↓denT_nil, ↓denT_cons, ↓truR_def, ↓denSs_nil, ↓denSs_cons, ↓denS_ex, ↓denS_asg, ↓denS_par, ↓denS_put, ↓denS_put2, ↓denS_ite, ↓denS_ret, ↓denS_retn, ↓denS_rai, ↓denS_pass, bind_ok, bind_exc, bind_bad, toS_ok, toS_exc, seq_nx, seq_rt, seq_exc, getV_some, ofO_some, boolR_ok, ofC_some, ofU_some, ofT_true, ofT_false, ofE_some, ofM_some, asg_n, List.getElem?_cons_zero, List.getElem?_cons_succ, List.set_cons_zero, List.set_cons_succ, List.map_nil, List.map_cons, List.append_nil, if_true, if_false, Bool.false_eq_true, bin_add, bin_sub, cmp_lt, cmp_le, cmp_gt, cmp_ge, tru_bool, tru_int, len_scr, fin_rt, fin_nx, decide_eq_false h]
    exact rest _
theorem pick_ok (j n : Nat) (M : Mem) (c s p z : Int) (hp : 0 < p ∧ p ≤ 2147483647) (hz : 0 < z ∧ z ≤ 1000000) (hM : M[n]? = some (.lst [.d (.int c), .d (.int s), .d (.int p)])) : ∃ (r : Int) (c' s' : Int), (0 ≤ r ∧ r < z) ∧ callN T (j + 1) 55 [.o n, .d (.int z)] M = .ok (.d (.int r)) (M.set n (.lst [.d (.int c'), .d (.int s'), .d (.int p)])) := by
  have run : callN T (j + 1) 55 [.o n, .d (.int z)] M = fin false M.length (denSs (callN T j) b55 [some (.o n), some (.d (.int z)), none] M) := by
    simp only [callN, runF, T55]
    rfl
  rw [run]
  unfold b55
  have hn : n < M.length := (List.getElem?_eq_some_iff.mp hM).1
  have i0 : idxU (.o n) (.d (.int 0)) M = some (.d (.int c)) := by unfold idxU; dsimp only; rw [seqU_o hM]; rfl
  have i1 : idxU (.o n) (.d (.int 1)) M = some (.d (.int s)) := by unfold idxU; dsimp only; rw [seqU_o hM]; rfl
  have i2 : idxU (.o n) (.d (.int 2)) M = some (.d (.int p)) := by unfold idxU; dsimp only; rw [seqU_o hM]; rfl
  have p0 : ∀ u, putU (.o n) (.d (.int 0)) u M = some (M.set n (.lst [u, .d (.int s), .d (.int p)])) := fun u => by unfold putU; dsimp only; rw [hM]; rfl
  have p1 : ∀ u, putU (.o n) (.d (.int 1)) u M = some (M.set n (.lst [.d (.int c), u, .d (.int p)])) := fun u => by unfold putU; dsimp only; rw [hM]; rfl
  have m1 : ∀ i : Int, ∀ M, binU .Mod false (.d (.int i)) (.d (.int z)) M = some (.d (.int (i % z)), M) := fun i M => bin_mod hz.1
  have m2 : ∀ i : Int, ∀ M, binU .FloorDiv false (.d (.int i)) (.d (.int z)) M = some (.d (.int (i / z)), M) := fun i M => bin_div hz.1 (by omega)
  have m3 : ∀ i : Int, ∀ M, binU .Mult false (.d (.int i)) (.d (.int 48271)) M = some (.d (.int (i * 48271)), M) := fun i M => bin_mul (.inr rfl)
  have m4 : ∀ i : Int, ∀ M, binU .Mod false (.d (.int i)) (.d (.int p)) M = some (.d (.int (i % p)), M) := fun i M => bin_mod hp.1
  have hs : 0 ≤ s * 48271 % p ∧ s * 48271 % p < p := ⟨Int.emod_nonneg _ (by omega), Int.emod_lt_of_pos _ hp.1⟩
  have m5 : ∀ M, binU .Mult false (.d (.int (s * 48271 % p + 1))) (.d (.int (s * 48271 % p + 1))) M = some (.d (.int ((s * 48271 % p + 1) * (s * 48271 % p + 1))), M) := fun M => bin_mul (.inl (decide_eq_true (by omega)))
  have m6 : ∀ i : Int, ∀ M, binU .Mod false (.d (.int i)) (.d (.int 2147483423)) M = some (.d (.int (i % 2147483423)), M) := fun i M => bin_mod (by decide)
  have m7 : ∀ i : Int, ∀ M, binU .FloorDiv false (.d (.int i)) (.d (.int 7)) M = some (.d (.int (i / 7)), M) := fun i M => bin_div (by decide) (by decide)
  simp only [↓den_v, ↓den_k, ↓den_bin, ↓den_cmp, ↓den_and, ↓den_or, ↓den_not, ↓den_neg, ↓den_ite, ↓den_lst, ↓den_tup, ↓den_dnew, ↓den_sub, ↓den_slc, ↓den_rev, ↓den_bif, ↓den_lset, ↓den_dzip, ↓den_tzip, ↓den_isi, ↓den_call, ↓denL_nil, ↓denL_cons, ↓denO_nil, ↓denO_cons, ↓denT_nil, ↓denT_cons, ↓truR_def, ↓denSs_nil, ↓denSs_cons, ↓denS_ex, ↓denS_asg, ↓denS_par, ↓denS_put, ↓denS_put2, ↓denS_ite, ↓denS_ret, ↓denS_retn, ↓denS_rai, ↓denS_pass, bind_ok, bind_exc, bind_bad, toS_ok, toS_exc, seq_nx, seq_rt, seq_exc, getV_some, ofO_some, boolR_ok, ofC_some, ofU_some, ofT_true, ofT_false, ofE_some, ofM_some, asg_n, List.getElem?_cons_zero, List.getElem?_cons_succ, List.set_cons_zero, List.set_cons_succ, List.map_nil, List.map_cons, List.append_nil, if_true, if_false, Bool.false_eq_true, bin_add, bin_sub, cmp_lt, cmp_le, cmp_gt, cmp_ge, tru_bool, tru_int, len_scr, fin_rt, fin_nx, i0]
  by_cases h : c > 0
  · simp only [↓den_v, ↓den_k, ↓den_bin, ↓den_cmp, ↓den_and, ↓den_or, ↓den_not, ↓den_neg, ↓den_ite, ↓den_lst, ↓den_tup, ↓den_dnew, ↓den_sub, ↓den_slc, ↓den_rev, ↓den_bif, ↓den_lset, ↓den_dzip, ↓den_tzip, ↓den_isi, ↓den_call, ↓denL_nil, ↓denL_cons, ↓denO_nil, ↓denO_cons, ↓denT_nil, ↓denT_cons, ↓truR_def, ↓denSs_nil, ↓denSs_cons, ↓denS_ex, ↓denS_asg, ↓denS_par, ↓denS_put, ↓denS_put2, ↓denS_ite, ↓denS_ret, ↓denS_retn, ↓denS_rai, ↓denS_pass, bind_ok, bind_exc, bind_bad, toS_ok, toS_exc, seq_nx, seq_rt, seq_exc, getV_some, ofO_some, boolR_ok, ofC_some, ofU_some, ofT_true, ofT_false, ofE_some, ofM_some, asg_n, List.getElem?_cons_zero, List.getElem?_cons_succ, List.set_cons_zero, List.set_cons_succ, List.map_nil, List.map_cons, List.append_nil, if_true, if_false, Bool.false_eq_true, bin_add, bin_sub, cmp_lt, cmp_le, cmp_gt, cmp_ge, tru_bool, tru_int, len_scr, fin_rt, fin_nx, decide_eq_true h, m1, m2, p0, i0]
    exact ⟨_, _, _, ⟨Int.emod_nonneg _ (by omega), Int.emod_lt_of_pos _ hz.1⟩, rfl⟩
  · have i1' : ∀ u, idxU (.o n) (.d (.int 1)) (M.set n (.lst [.d (.int c), u, .d (.int p)])) = some u := fun u => by
      unfold idxU
      dsimp only
      rw [seqU_o (List.getElem?_set_self hn)]
      rfl
    simp only [↓den_v, ↓den_k, ↓den_bin, ↓den_cmp, ↓den_and, ↓den_or, ↓den_not, ↓den_neg, ↓den_ite, ↓den_lst, ↓den_tup, ↓den_dnew, ↓den_sub, ↓den_slc, ↓den_rev, ↓den_bif, ↓den_lset, ↓den_dzip, ↓den_tzip, ↓den_isi, ↓den_call, ↓denL_nil, ↓denL_cons, ↓denO_nil, ↓denO_cons, ↓denT_nil, ↓denT_cons, ↓truR_def, ↓denSs_nil, ↓denSs_cons, ↓denS_ex, ↓denS_asg, ↓denS_par, ↓denS_put, ↓denS_put2, ↓denS_ite, ↓denS_ret, ↓denS_retn, ↓denS_rai, ↓denS_pass, bind_ok, bind_exc, bind_bad, toS_ok, toS_exc, seq_nx, seq_rt, seq_exc, getV_some, ofO_some, boolR_ok, ofC_some, ofU_some, ofT_true, ofT_false, ofE_some, ofM_some, asg_n, List.getElem?_cons_zero, List.getElem?_cons_succ, List.set_cons_zero, List.set_cons_succ, List.map_nil, List.map_cons, List.append_nil, if_true, if_false, Bool.false_eq_true, bin_add, bin_sub, cmp_lt, cmp_le, cmp_gt, cmp_ge, tru_bool, tru_int, len_scr, fin_rt, fin_nx, decide_eq_false h, i1, i2, m3, m4, p1, i1', m5, m6, m7, m1]
    exact ⟨_, _, _, ⟨Int.emod_nonneg _ (by omega), Int.emod_lt_of_pos _ hz.1⟩, rfl⟩
end K45

set_option Elab.async false
set_option linter.all false
set_option maxRecDepth 100000
set_option maxHeartbeats 0
/-! K45c: the closed parts of the law. -/
namespace K45
open PySem PySem.Spec PyProof.Rows L2 Mx
theorem flat0 : callN T 30 56 [.d (.str "a"), .d (.str "bb")] [] = .ok (.d (.bool true)) [] := by kernel_rfl
theorem deep0 : callN T 30 57 [.d (.str "a"), .d (.str "bb"), .d (.str "q")] [] = .ok (.d (.bool true)) [] := by kernel_rfl
theorem join0 : callN T 30 58 [.d (.str "a"), .d (.str "bb"), .d (.str "q")] [] = .ok (.d (.bool true)) [] := by kernel_rfl
theorem flat1 : callN T 30 56 [.d (.str "q"), .d (.str "p")] [] = .ok (.d (.bool true)) [] := by kernel_rfl
theorem deep1 : callN T 30 57 [.d (.str "q"), .d (.str "p"), .d (.str "o")] [] = .ok (.d (.bool true)) [] := by kernel_rfl
theorem join1 : callN T 30 58 [.d (.str "q"), .d (.str "p"), .d (.str "o")] [] = .ok (.d (.bool true)) [] := by kernel_rfl
theorem flat2 : callN T 30 56 [.d (.str "x"), .d (.str "y")] [] = .ok (.d (.bool true)) [] := by kernel_rfl
theorem deep2 : callN T 30 57 [.d (.str "x"), .d (.str "y"), .d (.str "abc")] [] = .ok (.d (.bool true)) [] := by kernel_rfl
theorem join2 : callN T 30 58 [.d (.str "x"), .d (.str "y"), .d (.str "abc")] [] = .ok (.d (.bool true)) [] := by kernel_rfl
end K45

set_option Elab.async false
set_option linter.all false
set_option maxRecDepth 100000
set_option maxHeartbeats 0
namespace K45
open PySem PySem.Spec PyProof.Rows L2 Mx
theorem T59 : T 59 = ⟨1, 6, false, b59⟩ := by kernel_rfl
theorem cl56 : (T 56).cl = true := by kernel_rfl
theorem cl57 : (T 57).cl = true := by kernel_rfl
theorem cl58 : (T 58).cl = true := by kernel_rfl
def tri : Int → Str × Str × Str := fun r => if r = 0 then ("a", "bb", "q") else if r = 1 then ("q", "p", "o") else ("x", "y", "abc")
theorem flat_any (r : Int) (M : Mem) : callN T 30 56 [.d (.str (tri r).1), .d (.str (tri r).2.1)] M = .ok (.d (.bool true)) M := by
  unfold tri
  repeat' split
  · exact call_any cl56 rfl flat0 M
  · exact call_any cl56 rfl flat1 M
  · exact call_any cl56 rfl flat2 M
theorem deep_any (r : Int) (M : Mem) : callN T 30 57 [.d (.str (tri r).1), .d (.str (tri r).2.1), .d (.str (tri r).2.2)] M = .ok (.d (.bool true)) M := by
  unfold tri
  repeat' split
  · exact call_any cl57 rfl deep0 M
  · exact call_any cl57 rfl deep1 M
  · exact call_any cl57 rfl deep2 M
theorem join_any (r : Int) (M : Mem) : callN T 30 58 [.d (.str (tri r).1), .d (.str (tri r).2.1), .d (.str (tri r).2.2)] M = .ok (.d (.bool true)) M := by
  unfold tri
  repeat' split
  · exact call_any cl58 rfl join0 M
  · exact call_any cl58 rfl join1 M
  · exact call_any cl58 rfl join2 M
theorem names_at (r : Int) (h : 0 ≤ r ∧ r < 3) (M : Mem) : idxU (.d (.list [.list [.str "a", .str "bb", .str "q"], .list [.str "q", .str "p", .str "o"], .list [.str "x", .str "y", .str "abc"]])) (.d (.int r)) M = some (.d (.list [.str (tri r).1, .str (tri r).2.1, .str (tri r).2.2])) := by
  have h : r = 0 ∨ r = 1 ∨ r = 2 := by omega
  rcases h with rfl | rfl | rfl <;> rfl
theorem mk_1 (M : Mem) : mkLz false [.d (.str "a"), .d (.str "bb"), .d (.str "q")] M = some (.d (.list [.str "a", .str "bb", .str "q"]), M) := rfl
theorem mk_2 (M : Mem) : mkLz false [.d (.str "q"), .d (.str "p"), .d (.str "o")] M = some (.d (.list [.str "q", .str "p", .str "o"]), M) := rfl
theorem mk_3 (M : Mem) : mkLz false [.d (.str "x"), .d (.str "y"), .d (.str "abc")] M = some (.d (.list [.str "x", .str "y", .str "abc"]), M) := rfl
theorem mk_4 (M : Mem) (a b c : PyData) : mkLz false [.d a, .d b, .d c] M = some (.d (.list [a, b, c]), M) := rfl
theorem min12 (m : Bool) (M : Mem) (j : Int) : Bif.fn m .min [.d (.int 12), .d (.int j)] M = some (.d (.int (if j < 12 then j else 12)), M) := rfl
theorem max3 (m : Bool) (M : Mem) (j : Int) : Bif.fn m .max [.d (.int 3), .d (.int j)] M = some (.d (.int (if j > 3 then j else 3)), M) := rfl
theorem asg3 (M : Mem) (x y z : PyData) (ρ : DEnv) : Tg.asg M (.t (.cons (.n 3) (.cons (.n 4) (.cons (.n 5) .nil)))) (.d (.list [x, y, z])) ρ = some (((ρ.set 3 (some (.d x))).set 4 (some (.d y))).set 5 (some (.d z))) := rfl
theorem step45 (ns : List Int) (n : Nat) (hn : n ≤ 12) (it : Itm) (hi : it ∈ rngItems 0 n) (ρ : DEnv) (M : Mem) (hp : ∃ a b c d f, ρ = [some (.scr ns), a, b, c, d, f]) :
    ∃ ρ1, (Tg.n 1).asgI M it ρ = some ρ1 ∧ ∃ ρ2 M2, denSs (callN T 30) b59_0 ρ1 M = .nx ρ2 M2 ∧ ∃ a b c d f, ρ2 = [some (.scr ns), a, b, c, d, f] := by
  obtain ⟨a, b, c, d, f, rfl⟩ := hp
  unfold rngItems at hi
  obtain ⟨k, hk, rfl⟩ := List.mem_map.mp hi
  rw [List.mem_range] at hk
  refine ⟨[some (.scr ns), some (.d (.int (0 + (k : Int)))), b, c, d, f], rfl, ?_⟩
  obtain ⟨c', s', p', hp', es⟩ := source_ok 29 ns k (by omega) M
  obtain ⟨r, c2, s2, hr, ep⟩ := pick_ok 29 M.length (M ++ [.lst [.d (.int c'), .d (.int s'), .d (.int p')]]) c' s' p' 3 hp' (by decide) (by simp)
  have ez : (0 : Int) + (k : Int) = (k : Int) := by omega
  rw [ez]
  unfold b59_0
  simp only [↓den_v, ↓den_k, ↓den_bin, ↓den_cmp, ↓den_and, ↓den_or, ↓den_not, ↓den_neg, ↓den_ite, ↓den_lst, ↓den_tup, ↓den_dnew, ↓den_sub, ↓den_slc, ↓den_rev, ↓den_bif, ↓den_lset, ↓den_dzip, ↓den_tzip, ↓den_isi, ↓den_call, ↓denL_nil, ↓denL_cons, ↓denO_nil, ↓denO_cons, ↓denT_nil, ↓denT_cons, ↓truR_def, ↓denSs_nil, ↓denSs_cons, ↓denS_ex, ↓denS_asg, ↓denS_par, ↓denS_put, ↓denS_put2, ↓denS_ite, ↓denS_ret, ↓denS_retn, ↓denS_rai, ↓denS_pass, bind_ok, bind_exc, bind_bad, toS_ok, toS_exc, seq_nx, seq_rt, seq_exc, getV_some, ofO_some, boolR_ok, ofC_some, ofU_some, ofT_true, ofT_false, ofE_some, ofM_some, asg_n, List.getElem?_cons_zero, List.getElem?_cons_succ, List.set_cons_zero, List.set_cons_succ, List.map_nil, List.map_cons, List.append_nil, if_true, if_false, Bool.false_eq_true, bin_add, bin_sub, cmp_lt, cmp_le, cmp_gt, cmp_ge, tru_bool, tru_int, len_scr, fin_rt, fin_nx, es, ep, mk_4, names_at r hr, asg3, flat_any, deep_any, join_any, Bool.not_true]
  exact ⟨_, _, rfl, _, _, _, _, _, rfl⟩
theorem run59 (j : Nat) (ns : List Int) : callN T (j + 1) 59 [.scr ns] [] = fin false 0 (denSs (callN T j) b59 [some (.scr ns), none, none, none, none, none] []) := by
  simp only [callN, runF, T59]
  rfl
theorem rng59 (ns : List Int) : ∃ n : Nat, n ≤ 12 ∧ walkI .r1 [.d (.int (if (if (ns.length : Int) < 12 then (ns.length : Int) else 12) > 3 then (if (ns.length : Int) < 12 then (ns.length : Int) else 12) else 3))] [] = .ok (rngItems 0 n) [] := by
  have h : ∀ z : Int, 0 ≤ z → z ≤ 12 → ∃ n : Nat, n ≤ 12 ∧ walkI .r1 [.d (.int z)] [] = .ok (rngItems 0 n) [] := fun z h0 h1 => by
    refine ⟨z.toNat, by omega, ?_⟩
    show ofI (if okR z then some (rngItems 0 z.toNat) else none) [] = _
    rw [if_pos (by unfold okR; rw [Bool.and_eq_true, decide_eq_true_eq, decide_eq_true_eq]; omega)]
    rfl
  apply h
  · split
    · split <;> omega
    · omega
  · split
    · split <;> omega
    · omega
theorem law45 (ns : List Int) (hl : ns.length ≤ 63) : ∃ M', callN T (30 + 1) 59 [.scr ns] [] = .ok (.d (.bool true)) M' := by
  rw [run59]
  unfold b59
  rw [denSs_cons, denS_loop]
  simp only [↓den_v, ↓den_k, ↓den_bin, ↓den_cmp, ↓den_and, ↓den_or, ↓den_not, ↓den_neg, ↓den_ite, ↓den_lst, ↓den_tup, ↓den_dnew, ↓den_sub, ↓den_slc, ↓den_rev, ↓den_bif, ↓den_lset, ↓den_dzip, ↓den_tzip, ↓den_isi, ↓den_call, ↓denL_nil, ↓denL_cons, ↓denO_nil, ↓denO_cons, ↓denT_nil, ↓denT_cons, ↓truR_def, ↓denSs_nil, ↓denSs_cons, ↓denS_ex, ↓denS_asg, ↓denS_par, ↓denS_put, ↓denS_put2, ↓denS_ite, ↓denS_ret, ↓denS_retn, ↓denS_rai, ↓denS_pass, bind_ok, bind_exc, bind_bad, toS_ok, toS_exc, seq_nx, seq_rt, seq_exc, getV_some, ofO_some, boolR_ok, ofC_some, ofU_some, ofT_true, ofT_false, ofE_some, ofM_some, asg_n, List.getElem?_cons_zero, List.getElem?_cons_succ, List.set_cons_zero, List.set_cons_succ, List.map_nil, List.map_cons, List.append_nil, if_true, if_false, Bool.false_eq_true, bin_add, bin_sub, cmp_lt, cmp_le, cmp_gt, cmp_ge, tru_bool, tru_int, len_scr, fin_rt, fin_nx, min12, max3]
  obtain ⟨n, hn, hw⟩ := rng59 ns
  simp only [↓den_v, ↓den_k, ↓den_bin, ↓den_cmp, ↓den_and, ↓den_or, ↓den_not, ↓den_neg, ↓den_ite, ↓den_lst, ↓den_tup, ↓den_dnew, ↓den_sub, ↓den_slc, ↓den_rev, ↓den_bif, ↓den_lset, ↓den_dzip, ↓den_tzip, ↓den_isi, ↓den_call, ↓denL_nil, ↓denL_cons, ↓denO_nil, ↓denO_cons, ↓denT_nil, ↓denT_cons, ↓truR_def, ↓denSs_nil, ↓denSs_cons, ↓denS_ex, ↓denS_asg, ↓denS_par, ↓denS_put, ↓denS_put2, ↓denS_ite, ↓denS_ret, ↓denS_retn, ↓denS_rai, ↓denS_pass, bind_ok, bind_exc, bind_bad, toS_ok, toS_exc, seq_nx, seq_rt, seq_exc, getV_some, ofO_some, boolR_ok, ofC_some, ofU_some, ofT_true, ofT_false, ofE_some, ofM_some, asg_n, List.getElem?_cons_zero, List.getElem?_cons_succ, List.set_cons_zero, List.set_cons_succ, List.map_nil, List.map_cons, List.append_nil, if_true, if_false, Bool.false_eq_true, bin_add, bin_sub, cmp_lt, cmp_le, cmp_gt, cmp_ge, tru_bool, tru_int, len_scr, fin_rt, fin_nx, hw]
  obtain ⟨ρ', M', e, _⟩ := forL_inv (asg := (Tg.n 1).asgI) (body := denSs (callN T 30) b59_0) (fun ρ _ => ∃ a b c d f, ρ = [some (.scr ns), a, b, c, d, f]) (rngItems 0 n) (fun it hi ρ M hp => step45 ns n hn it hi ρ M hp) [some (.scr ns), none, none, none, none, none] [] ⟨_, _, _, _, _, rfl⟩
  rw [e]
  simp only [↓den_v, ↓den_k, ↓den_bin, ↓den_cmp, ↓den_and, ↓den_or, ↓den_not, ↓den_neg, ↓den_ite, ↓den_lst, ↓den_tup, ↓den_dnew, ↓den_sub, ↓den_slc, ↓den_rev, ↓den_bif, ↓den_lset, ↓den_dzip, ↓den_tzip, ↓den_isi, ↓den_call, ↓denL_nil, ↓denL_cons, ↓denO_nil, ↓denO_cons, ↓denT_nil, ↓denT_cons, ↓truR_def, ↓denSs_nil, ↓denSs_cons, ↓denS_ex, ↓denS_asg, ↓denS_par, ↓denS_put, ↓denS_put2, ↓denS_ite, ↓denS_ret, ↓denS_retn, ↓denS_rai, ↓denS_pass, bind_ok, bind_exc, bind_bad, toS_ok, toS_exc, seq_nx, seq_rt, seq_exc, getV_some, ofO_some, boolR_ok, ofC_some, ofU_some, ofT_true, ofT_false, ofE_some, ofM_some, asg_n, List.getElem?_cons_zero, List.getElem?_cons_succ, List.set_cons_zero, List.set_cons_succ, List.map_nil, List.map_cons, List.append_nil, if_true, if_false, Bool.false_eq_true, bin_add, bin_sub, cmp_lt, cmp_le, cmp_gt, cmp_ge, tru_bool, tru_int, len_scr, fin_rt, fin_nx]
  exact ⟨_, rfl⟩
end K45

set_option Elab.async false
set_option linter.all false
set_option maxRecDepth 100000
set_option maxHeartbeats 0
open PySem PySem.W PySem.Calls PyProof.Rows
theorem PySem.Challenge.cw_mixtrees_k45_written_trees_holds : PySem.Challenge.rw_mixtrees_k45_written_trees.Holds := by
  w_on; o_law
  refine HandSHeadRun.head_any (r := OpenLaw.row PySem.Challenge.rw_mixtrees_k45_written_trees) (q := view (OpenLaw.row PySem.Challenge.rw_mixtrees_k45_written_trees).prog [90]) (H := K45.hk) (ob := K45.ob) (M := 4000) (loose := K45.loose) (d := HandSHeadRun.topDef (OpenLaw.row PySem.Challenge.rw_mixtrees_k45_written_trees).prog 90) (kwd := []) K45.ob_eq
    (by kernel_rfl) (fun s => by kernel_rfl) K45.run (by kernel_rfl) (by kernel_rfl) (by kernel_rfl) (by rfl) (by first | assumption | decide +kernel) (by decide +kernel) ⟨rfl, rfl, rfl, rfl, rfl, by decide +kernel⟩ ?hw ?hc
  case hw => w_witness2
  case hc =>
    exact Mx.walk_mx (l := PySem.Challenge.rw_mixtrees_k45_written_trees) (k := 30) (i := 59) (r := K45.r59) (f := 59) (n := 200) rfl (by kernel_rfl) ⟨rfl, by decide, by decide⟩ (by kernel_rfl) rfl rfl rfl rfl K45.chk K45.rbs rfl K45.law45

