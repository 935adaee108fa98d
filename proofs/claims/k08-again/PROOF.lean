import PyProof.Rows.All
import Wide.All
import OpenK.AllK
import Wide.FinOn
import PyProof.EqAt
import PyProof.EqKinds
import PyProof.TupleCall
import PyProof.ListMulRoad
import PyProof.FactsAll.tuple_2
import KE.KUnpackStar
import KE.GoesEnum
import KE.GoesMore
import HandS.ForMost
import HandS.ForExc
import HandS.TupAny
import HandS.TupMul
import HandS.Zip
import HandS.Walk
import HandS.Small
import HandS.More
import HandS.ExcInit
import HandS.ExcInitHot
import HandS.RaiseFrom
import HandS.SuiteRaise
import HandS.MakeKwOnly
import HandS.ExcField
import HandS.ExcIs
import KE.KExcIs
import KE.KDictZip
import KE.KDictItemsList
import HandS.Evl
import HandS.IsInst
import HandS.Style
import HandS.ReplaceLit
import HandS.Lambda
import HandS.EndTab
import PySem.Challenge.RW_sourrow_k08_whole_shelves_done_again
set_option Elab.async false
set_option linter.all false
set_option maxRecDepth 100000
set_option maxHeartbeats 4000000
namespace S8
open PySem PySem.Spec PyProof.Rows L2
/-! ### an attribute among several targets -/
def gFld (K : PySem.W.Frag) (to : TE) (f : Str) : TG := fun v σ H Q => to σ H fun x H1 => ∃ a C dx fs, x = .ref a ∧ H1 a = some (.ins C dx fs) ∧ Cls K C ∧ NoAttr K C f ∧ fs.length < 1000 ∧ Q σ (upd H1 a (.ins C dx (putF f v fs)))
section
variable {X : Cx}
theorem pg_fld {o : Expr} {f : Str} {pos : Pos} {to : TE} (ho : PE X o to) : PG X (.Attribute o f pos) (gFld X.K to f) := by
  refine ⟨fun pins s σ H v u Q I r h => ?_⟩
  rw [arm_assign_Attribute]
  refine wpAny_bind (wpAny_holding (thn (ho.run pins s σ H _ I h) fun ov s1 ⟨x, H1, I1, r1, a, C, dx, fs, ex, ea, c, n, l, q⟩ => ?_))
  subst ex
  obtain rfl : ov = Value.ref a := r1
  refine wpAny_bind (wpAny_standAt (wpAny_bind (wpAny_holding (setattr_ok I1 ea c n l r fun s3 I3 => wpAny_release ⟨σ, _, I3, q⟩))))
/-! ### list.count of flat items -/
def rCntF (K : PySem.W.Frag) : V → List V → Hp → VK → Prop := fun x xs H Q => ∃ (p : Addr) (ys : List V) (y : V), x = .ref p ∧ xs = [y] ∧ SqL K H p ys ∧ flatV y = true ∧ ys.all flatV = true ∧ Q (.int ((ys.countP fun z => eqV z y : Nat) : Int)) H
theorem cnt_eqU {y : V} : ∀ {ys : List V} {us : List Value}, Vals ys us → ys.all flatV = true → us.countP (eqU y) = ys.countP fun z => eqV z y
  | _, _, .nil, _ => rfl
  | _, _, .cons r t, f => by
    rw [List.all_cons, Bool.and_eq_true] at f
    rw [List.countP_cons, List.countP_cons, cnt_eqU t f.2, eqU_of r f.1]
theorem mt_countF : MtR X "list.count" (rCntF X.K) := by
  intro pins s σ H x xs v us Q I rx rxs h
  obtain ⟨p, ys, y, rfl, rfl, hs, fy, fys, q⟩ := h
  cases rx
  obtain ⟨u, rfl, ru⟩ := rxs.one
  obtain ⟨its, rv, ⟨⟨cls, dd, data, sl⟩, n, ho, hc, hdn, hd⟩, hlen⟩ := I.list hs
  simp only at hc hd
  subst hc hd
  refine call_meets PySem.F.slot_list_count ⟨_, ho, rfl⟩ PySem.F.entry_list_count (PySem.F.args_list_count_2 _ _)
    (SeqAt.list_countAt p its.toArray n dd sl u (eqU y)) ⟨ho, fun y' hy' => mem_eqAt ru fy rv fys y' (by simpa using hy'), ?_⟩
  have ec : its.toArray.toList.countP (eqU y) = ys.countP fun z => eqV z y := cnt_eqU rv fys
  refine ⟨.int ((ys.countP fun z => eqV z y : Nat) : Int), H, I.tok _, ⟨s.toks, ?_⟩, q⟩
  show Value.int ((its.toArray.toList.countP (eqU y) : Nat) : Int) s.toks = Value.int ((ys.countP fun z => eqV z y : Nat) : Int) s.toks
  rw [ec]
end
end S8
set_option Elab.async false
set_option linter.all false
set_option maxRecDepth 100000
set_option maxHeartbeats 4000000
namespace S8
open PySem PySem.Spec PyProof.Rows L2
/-! ### tuple * k, k from 0 on -/
theorem tuple_mul1 (l : Addr) (items : Array Value) (n : Nat) (dd : Option Addr) (sl : Array (Option Value)) (u : Tok) :
    Meets (Builtin.«tuple.__mul__» ⟨[.ref l, .int 1 u], []⟩) (fun _ R s => s.heap.get? l = some { cls := .type "tuple", dict := dd, data := .seq items n, slots := sl } ∧
      R (.ok (.ret (Value.ref l))) s) :=
  .of_wp fun prog w A R s h => by
    obtain ⟨hp, g, d, tk, os⟩ := s
    obtain ⟨hl, h⟩ := h
    have f1 := AutoSeq1.idx_int
    wp_walk using wpAny_loadPart' hl
    repeat (first
      | (refine wpAny_ite_false (decide_eq_false (by decide)) ?_; wp_walk using wpAny_loadPart' hl)
      | (refine wpAny_ite_true (decide_eq_true (by simp)) ?_; wp_walk using wpAny_loadPart' hl))
    exact ⟨_, rfl, h⟩
theorem tuple_mul0 (l : Addr) (items : Array Value) (n : Nat) (dd : Option Addr) (sl : Array (Option Value)) (u : Tok) (hne : items.isEmpty = false) :
    Meets (Builtin.«tuple.__mul__» ⟨[.ref l, .int 0 u], []⟩) (fun _ R s => s.heap.get? l = some { cls := .type "tuple", dict := dd, data := .seq items n, slots := sl } ∧
      R (.ok (.ret (Value.ref s.heap.objs.size))) { s with heap := s.heap.push { cls := Value.type "tuple", data := Data.seq #[] }, toks := s.toks }) :=
  .of_wp fun prog w A R s h => by
    obtain ⟨hp, g, d, tk, os⟩ := s
    obtain ⟨hl, h⟩ := h
    have f1 := AutoSeq1.idx_int
    have c1 : (items.isEmpty || (0 : Int) == 1) = false := by rw [hne]; decide
    wp_walk using wpAny_loadPart' hl
    repeat (first
      | (refine wpAny_ite_false (decide_eq_false (by rw [c1]; exact Bool.false_ne_true)) ?_; wp_walk using wpAny_loadPart' hl)
      | (refine wpAny_ite_false (decide_eq_false (by decide)) ?_; wp_walk using wpAny_loadPart' hl)
      | (refine wpAny_ite_true (decide_eq_true (by simp)) ?_; wp_walk using wpAny_loadPart' hl))
    exact ⟨_, rfl, h⟩
def rRepN (K : PySem.W.Frag) : R2 := fun x y H Q => ∃ l k xs, x = .ref l ∧ y = .int k ∧ SqT K H l xs ∧ xs ≠ [] ∧ 0 ≤ k ∧ k ≤ 1000 ∧ xs.length ≤ 1000 ∧ (k = 1 → Q (.ref l) H) ∧ (k ≠ 1 → ∀ p, H p = none → Q (.ref p) (upd H p (.tup (List.replicate k.toNat xs).flatten)))
section
variable {X : Cx}
theorem op_repN : OpR X (binaryOp .Mult) (rRepN X.K) := by
  intro pins s σ H x y v u Q I rx ry h
  obtain ⟨l, k, xs, rfl, rfl, hT, hne, h1, h2, hz, q1, q2⟩ := h
  by_cases k2 : 2 ≤ k
  · exact op_repT pins s σ H _ _ v u Q I rx ry ⟨l, k, xs, rfl, rfl, hT, hne, k2, h2, hz, q2 (by omega)⟩
  · cases rx
    obtain ⟨t, rfl⟩ := ry
    obtain ⟨its, r, ⟨⟨cls, dd, data, sl⟩, ho, hc, n, hd⟩, hs⟩ := I.tuple hT
    simp only at hc hd
    subst hc hd
    have hle : its.length = xs.length := r.length.symm
    have hi : its.toArray.isEmpty = false := by
      cases its with
      | nil =>
        exact absurd (List.eq_nil_of_length_eq_zero hle.symm) hne
      | cons a b => rfl
    by_cases k1 : k = 1
    · subst k1
      refine wpAny_binaryOp_repeat_ref (T := "tuple") (U := "int") (by decide) ⟨_, ho, rfl⟩ (fun s' => typeIs_int s' 1 t) noFill_tuple_mul F.fills_int_mul F.slot_int_rmul repeat_tuple F.slot_int_index.lookup
        (call_meets F.slot_int_rmul (typeIs_int s 1 t) F.entry_int_rmul (F.args_int_rmul_2 _ _) (int_rmul_tuple 1 t l its.toArray n dd sl)
          ⟨ho, rfl, ⟨_, ho, rfl⟩, call_meets F.slot_tuple_mul ⟨_, ho, rfl⟩ F.entry_tuple_mul (F.args_tuple_mul_2 _ _) (tuple_mul1 l its.toArray n dd sl t) ⟨ho, ?_⟩⟩)
      exact ⟨.ref l, H, I, rfl, q1 rfl⟩
    · have k0 : k = 0 := by omega
      subst k0
      refine wpAny_binaryOp_repeat_ref (T := "tuple") (U := "int") (by decide) ⟨_, ho, rfl⟩ (fun s' => typeIs_int s' 0 t) noFill_tuple_mul F.fills_int_mul F.slot_int_rmul repeat_tuple F.slot_int_index.lookup
        (call_meets F.slot_int_rmul (typeIs_int s 0 t) F.entry_int_rmul (F.args_int_rmul_2 _ _) (int_rmul_tuple 0 t l its.toArray n dd sl)
          ⟨ho, rfl, ⟨_, ho, rfl⟩, call_meets F.slot_tuple_mul ⟨_, ho, rfl⟩ F.entry_tuple_mul (F.args_tuple_mul_2 _ _) (tuple_mul0 l its.toArray n dd sl t hi) ⟨ho, ?_⟩⟩)
      refine ⟨.ref s.heap.objs.size, _, I.laid (t' := s.toks) (o := .tup []) (fun b ob q => Heap.get?_push_of_some _ q) (Nat.le_refl _) ?_, rfl, q2 (by omega) _ (I.hok.fresh (Nat.le_refl _))⟩
      exact ⟨Nat.zero_le _, [], .nil, IsTup.new _ _⟩
/-! ### d.get(k, x) of a written dict with text keys -/
def tKGet2 (K : PySem.W.Frag) (d : Addr) (td ty tx : TE) : TE := fun σ H Q => td σ H fun x H1 => x = .ref d ∧ ty σ H1 fun y H2 => tx σ H2 fun z H3 => ∃ (k : Str) (r : Option (Value × V)), y = .str k ∧ PySem.W.nsIn K d k = some (r.map (·.1)) ∧ (∀ p, r = some p → RelV p.2 p.1) ∧ Q ((r.map (·.2)).getD z) H3
theorem kd_get2 {pins : List (Addr × Obj)} {s : Shared} {σ : L2.St} {H : Hp} {d : Addr} {es : Array DictEntry} {n : Nat} {A : Around} {E : Value → Shared → Prop} {k : Str} {t : Tok} {u : Value} {ro : Option Value} {Q : Value → Shared → Prop} (D : KDict X.K X.w d es n) (I : Inv X pins σ H s)
    (e : PySem.W.nsIn X.K d k = some ro) (h : Q (ro.getD u) { s with toks := s.toks + 1 }) :
    wpAny (model X.prog X.w) A (call (.builtin "dict.get") [.ref d, .str k t, u]) Q E s := by
  have M := PySem.W.mapOf_K (prog := X.prog) (w := X.w) I.kIn D.at_ D.lit
  refine call_meetsIn PySem.F.slot_dict_get M.typeIs PySem.F.entry_dict_get (PySem.F.args_dict_get_3 _ _ _) (meets_dict_get_default (strKind X.prog X.w) d (PySem.strKind_is X.prog X.w k t) D.low u) ⟨_, M, ?_⟩
  rw [PySem.W.find_K D.at_ e]
  exact h
theorem pe_kget2 {o e f : Expr} {apos cpos : Pos} {td ty tx : TE} {d : Addr} {es : Array DictEntry} {n : Nat} (D : KDict X.K X.w d es n) (ho : PE X o td) (he : PE X e ty) (hf : PE X f tx) (m : M2 X o "get" apos e f cpos) :
    PE X (.Call (.Attribute o "get" apos) [e, f] [] cpos) (tKGet2 X.K d td ty tx) := by
  refine ⟨fun pins s σ H Q I h => ?_⟩
  refine wpAny_Call_method m.base m.few m.line PySem.F.plainAttrs_dict PySem.F.slot_dict_get PySem.F.type_dict_get (thn (ho.run pins s σ H _ I h) fun u s1 ⟨x, H1, I1, rx, ex, q1⟩ => ?_)
  subst ex
  obtain rfl : u = Value.ref d := rx
  have M := PySem.W.mapOf_K (prog := X.prog) (w := X.w) I1.kIn D.at_ D.lit
  refine ⟨M.typeIs, fun b q => by cases q; exact ⟨_, I1.kIn _ _ D.at_, rfl⟩, ?_⟩
  rw [m.trees]
  refine Calls.callWith_builtin rfl (Calls.evalArgs_plain (Calls.spliced_cons (thn (he.run pins s1 σ H1 _ I1 q1) fun iv s2 ⟨y, H2, I2, ry, q2⟩ =>
    Calls.spliced_cons (thn (hf.run pins s2 σ H2 _ I2 q2) fun fv s3 ⟨z, H3, I3, rz, k, r, ek, en, hr, q3⟩ => Calls.spliced_nil ?_))))
  subst ek
  obtain ⟨t, rfl⟩ := (show ∃ t, iv = Value.str k t from ry)
  refine kd_get2 D I3 en ⟨(r.map (·.2)).getD z, H3, I3.tok _, ?_, q3⟩
  cases r with
  | none => exact rz
  | some p => exact hr p rfl
end
end S8
set_option Elab.async false
set_option linter.all false
set_option maxRecDepth 100000
set_option maxHeartbeats 4000000
namespace S8
open PySem PySem.Spec PyProof.Rows L2
/-! ### a, *b = a tuple -/
theorem star_tuple {prog : Program} {w : World} {A : Around} {E : Value → Shared → Prop} {s : Shared} {l : Addr} {x : Value} {xs : List Value} {Q : List Value → Shared → Prop} (hl : IsTup s.heap l (x :: xs).toArray) (hh : A.handled = none) (hz : xs.length ≤ 1000)
    (h : ∀ (h' : Heap) (tk : Nat), (∀ b o, s.heap.get? b = some o → h'.get? b = some o) → Q [x, .ref h'.objs.size] { s with heap := h'.push { cls := .type "list", data := .seq xs.toArray }, toks := tk }) : wpAny (model prog w) A (unpackItems (.ref l) 2 (some 1)) Q E s := by
  have hlt : l ≠ s.heap.objs.size := by obtain ⟨o, ho, _⟩ := hl; exact Nat.ne_of_lt (Heap.lt_size ho)
  have hll : l < s.heap.objs.size := by obtain ⟨o, ho, _⟩ := hl; exact Heap.lt_size ho
  have hsz : (x :: xs).toArray.size = xs.length + 1 := by simp
  unfold unpackItems
  refine wpAny_bind ?_
  unfold notIterableAtAll
  refine wpAny_bind (wpAny_specialOf hl.typeIs slot_tuple_iter.lookup ?_)
  refine wpAny_pure ?_
  simp only [Bool.false_eq_true, if_false]
  refine wpAny_bind (wpAny_holding (iter_tuple hl ?_))
  refine wpAny_bind (wpAny_holding (draw_tuple hlt 1 0 _ _ ⟨_, Heap.get?_push_size _ rfl, rfl, rfl⟩ (hl.push _) (by rw [hsz]; omega) fun h₁ hit₁ hs₁ => ?_))
  have hl₁ : IsTup h₁ l (x :: xs).toArray := (hl.push _).extBut hs₁.extBut hlt
  rw [Nat.zero_add] at hit₁
  have hit₁' := hit₁
  obtain ⟨oi, hoi, _⟩ := hit₁'
  have hl₁' := hl₁
  obtain ⟨ol, hol, _⟩ := hl₁'
  rw [List.drop_zero]
  have hfl : ((x :: xs).toArray.toList.take 1) = [x] := by simp
  rw [hfl]
  rw [if_neg (show ¬ (([x] : List Value).length < 1) by simp)]
  refine wpAny_bind (wpAny_holding (PySem.W.kun_collect (s := { s with heap := h₁ }) (T := "tuple_iterator") (.inr (.inr (.inr rfl))) (Walks.tuple (A := A.in1) hh s.heap.objs.size l hlt (x :: xs).toArray) (fun j u st => st.1.typeIs) (k := 1) (by rw [hsz]; omega) ⟨hit₁, hl₁⟩ (Heap.lt_size hoi) (Heap.lt_size hol) (fun h₂ tk hk => ?_) (by rw [hsz, sizeLine_eq]; omega)))
  have e1 : (x :: xs).toArray.toList.drop 1 = xs := by simp
  rw [e1]
  show wpAny _ _ (if xs.length < 0 then _ else _) _ _ _
  rw [if_neg (Nat.not_lt_zero _)]
  show wpAny _ _ (newList (xs.take (xs.length - 0)) >>= fun d => pure ([x] ++ [d] ++ xs.drop (xs.length - 0))) _ _ _
  have e2 : xs.take (xs.length - 0) = xs := by simp
  have e3 : xs.drop (xs.length - 0) = [] := by simp
  rw [e2, e3]
  have he : ∀ b o, s.heap.get? b = some o → h₂.get? b = some o := fun b o e => by
    have hb : b ≠ s.heap.objs.size := Nat.ne_of_lt (Heap.lt_size e)
    exact hk b o hb (hs₁.extBut b o hb (Heap.get?_push_of_some _ e))
  refine wpAny_bind ?_
  unfold newList
  exact wpAny_newObj_type (wpAny_pure (h h₂ tk he)) (by show xs.toArray.size ≤ sizeLine; rw [sizeLine_eq]; simp; omega)
/-- a, *b = e -/
def gStar (K : PySem.W.Frag) (t : TGs) : TG := fun v σ H Q => ∃ a x xs, v = .ref a ∧ SqT K H a (x :: xs) ∧ xs.length ≤ 1000 ∧ ∀ p, H p = none → t [x, .ref p] σ (upd H p (.lst xs)) Q
theorem pg_star {X : Cx} {es : List Expr} {k : Nat} {pos : Pos} {t : TGs} (hc : X.calm = true) (h : PGs X es t) (hn : (assignEach es X.env).length = 2 := by rfl) (hst : (assignEach es X.env).findIdx? (·.1) = some 1 := by rfl) :
    PG X (.Tuple es k pos) (gStar X.K t) := by
  refine ⟨fun pins s σ H v u Q I r hw => ?_⟩
  obtain ⟨a, x, xs, e1, hq, hl, hw⟩ := hw
  subst e1
  cases r
  obtain ⟨its, rv, ht, hz⟩ := I.tuple hq
  cases rv with
  | @cons _ u0 _ us r0 rs =>
    rw [assign_Tuple]
    refine wpAny_bind (wpAny_standAt ?_)
    unfold unpack
    rw [hn, hst]
    refine wpAny_bind (wpAny_holding (star_tuple ht (I.ok.hd hc) (by rw [← rs.length]; exact hl) fun h' tk k => ?_))
    have I1 : Inv X pins σ H { s with heap := h', toks := tk } := I.kept k
    have I2 := Inv.lnew (t' := tk) I1 rs (by rw [sizeLine_eq]; omega)
    have hf : H h'.objs.size = none := I1.hok.fresh (Nat.le_refl _)
    exact h.run pins _ σ _ [x, .ref h'.objs.size] _ Q I2 (.cons r0 (.cons rfl .nil)) (hw _ hf)
/-- the target behind a star -/
theorem pgs_cons1 {X : Cx} {e : Expr} {p : Pos} {t : TG} (h1 : PG X e t) : PGs X [.Starred e p] (gCons t gNil) := by
  refine ⟨fun pins s σ H vs us Q I r h => ?_⟩
  obtain ⟨v, vr, e1, h⟩ := h
  subst e1
  cases r with
  | cons r rr =>
    have hs : (assignEach (.Starred e p :: []) X.env).map (·.2) = [assign e X.env] := rfl
    rw [hs]
    refine assignInOrder_cons (thn (h1.run pins s σ H _ _ _ I r h) fun _ s1 ⟨σ1, H1, I1, q1⟩ => ?_)
    obtain ⟨e2, q2⟩ := q1
    subst e2
    cases rr
    exact assignInOrder_nil ⟨σ1, H1, I1, q2⟩
end S8
set_option Elab.async false
set_option linter.all false
set_option maxRecDepth 100000
set_option maxHeartbeats 4000000
namespace S8
open PySem PySem.Spec PyProof.Rows L2
/-! ### lists, tuples and texts walked by enumerate and zip -/
/-- what is walked -/
inductive Kd where
  | lst (a : Addr) | tup (a : Addr) | str (z : Str)
def signs (z : Str) : List V := z.cps.toList.map fun c => V.str ⟨#[c]⟩
def Kd.v : Kd → V
  | .lst a => .ref a
  | .tup a => .ref a
  | .str z => .str z
def Kd.adr : Kd → Option Addr
  | .lst a => some a
  | .tup a => some a
  | .str _ => none
def Kd.src (k : Kd) (K : PySem.W.Frag) (H : Hp) (xs : List V) : Prop := match k with
  | .lst a => SqL K H a xs
  | .tup a => SqT K H a xs
  | .str z => xs = signs z
def Kd.cell (k : Kd) (it : Addr) (i : Nat) (h : Heap) : Prop := match k with
  | .lst a => h.IsListIter it a i
  | .tup a => h.IsTupleIter it a i
  | .str z => ∃ t, h.IsStrIter it (strIterType z) z t i
theorem Kd.obj {k : Kd} {it : Addr} {i : Nat} {h : Heap} (c : k.cell it i h) : ∃ o vs, h.get? it = some o ∧ o.data = .fields vs := by
  cases k with
  | lst a => obtain ⟨o, h1, _, h2⟩ := c; exact ⟨o, _, h1, h2⟩
  | tup a => obtain ⟨o, h1, _, h2⟩ := c; exact ⟨o, _, h1, h2⟩
  | str z => obtain ⟨t, o, h1, _, h2⟩ := c; exact ⟨o, _, h1, h2⟩
theorem Kd.keep {k : Kd} {it : Addr} {i : Nat} {h h' : Heap} (c : k.cell it i h) (e : ∀ o, h.get? it = some o → h'.get? it = some o) : k.cell it i h' := by
  cases k with
  | lst a => obtain ⟨o, h1, h2⟩ := c; exact ⟨o, e _ h1, h2⟩
  | tup a => obtain ⟨o, h1, h2⟩ := c; exact ⟨o, e _ h1, h2⟩
  | str z => obtain ⟨t, o, h1, h2⟩ := c; exact ⟨t, o, e _ h1, h2⟩
section
variable {X : Cx} {pins : List (Addr × Obj)} {σ : L2.St} {H : Hp} {s : Shared}
theorem Kd.inj {k : Kd} {xs ys : List V} (I : Inv X pins σ H s) (h : k.src X.K H xs) (h' : k.src X.K H ys) : xs = ys := by
  cases k with
  | lst a => exact I.list_inj h h'
  | tup a => exact I.tuple_inj h h'
  | str z =>
    have e1 : xs = signs z := h
    have e2 : ys = signs z := h'
    rw [e1, e2]
theorem Kd.draws {k : Kd} {xs : List V} {it : Addr} {i : Nat} {A : Around} (I : Inv X pins σ H s) (q : k.src X.K H xs) (c : k.cell it i s.heap) (hh : A.handled = none) :
    ∃ (fp : List Addr) (P : Nat → Value → Prop) (St : Nat → Heap → Prop), Draws X.prog X.w A it fp xs.length P St ∧ St i s.heap ∧ it ∈ fp ∧ (∀ h', St (i + 1) h' → k.cell it (i + 1) h') ∧ (∀ j y, P j y → ∃ x, xs[j]? = some x ∧ RelV x y) ∧
      ∀ b ∈ fp, b = it ∨ k.adr = some b := by
  obtain ⟨o0, vs0, g0, d0⟩ := Kd.obj c
  cases k with
  | lst a =>
    obtain ⟨its, rv, pl, hz⟩ := I.list q
    have pl' := pl.isList
    obtain ⟨o1, g1, c1, n1, d1⟩ := id pl'
    have hne : a ≠ it := fun e => by
      rw [e, g0] at g1
      cases g1
      rw [d0] at d1
      cases d1
    have D := Draws.list (prog := X.prog) (w := X.w) hh it a hne its.toArray
    have hl : its.toArray.size = xs.length := by rw [List.size_toArray, rv.length]
    rw [hl] at D
    refine ⟨_, _, _, D, ⟨c, pl'⟩, by simp, fun h' st => st.1, fun j y hy => ?_, fun b hb => ?_⟩
    · have hy' : its[j]? = some y := by simpa using hy
      have hj : j < xs.length := by
        rw [rv.length]
        exact (List.getElem?_eq_some_iff.mp hy').1
      obtain ⟨u, hu, ru⟩ := rv.get (List.getElem?_eq_getElem hj)
      rw [hy'] at hu
      cases hu
      exact ⟨_, List.getElem?_eq_getElem hj, ru⟩
    · have e' : b = it ∨ b = a := by simpa using hb
      rcases e' with z | z
      · exact .inl z
      · exact .inr (by rw [z] <;> rfl)
  | tup a =>
    obtain ⟨its, rv, pl, hz⟩ := I.tuple q
    obtain ⟨o1, g1, c1, n1, d1⟩ := id pl
    have hne : a ≠ it := fun e => by
      rw [e, g0] at g1
      cases g1
      rw [d0] at d1
      cases d1
    have D := Draws.tuple (prog := X.prog) (w := X.w) hh it a hne its.toArray
    have hl : its.toArray.size = xs.length := by rw [List.size_toArray, rv.length]
    rw [hl] at D
    refine ⟨_, _, _, D, ⟨c, pl⟩, by simp, fun h' st => st.1, fun j y hy => ?_, fun b hb => ?_⟩
    · have hy' : its[j]? = some y := by simpa using hy
      have hj : j < xs.length := by
        rw [rv.length]
        exact (List.getElem?_eq_some_iff.mp hy').1
      obtain ⟨u, hu, ru⟩ := rv.get (List.getElem?_eq_getElem hj)
      rw [hy'] at hu
      cases hu
      exact ⟨_, List.getElem?_eq_getElem hj, ru⟩
    · have e' : b = it ∨ b = a := by simpa using hb
      rcases e' with z | z
      · exact .inl z
      · exact .inr (by rw [z] <;> rfl)
  | str z =>
    obtain ⟨t, c⟩ := c
    have D := Draws.text (prog := X.prog) (w := X.w) hh it z t
    have e : xs = signs z := q
    have hl : z.cps.size = xs.length := by rw [e, signs, List.length_map, Array.length_toList]
    rw [hl] at D
    refine ⟨_, _, _, D, c, by simp, fun h' st => ⟨t, st⟩, fun j y hy => ?_, fun b hb => .inl (by simpa using hb)⟩
    obtain ⟨cc, u, h1, h2⟩ := hy
    refine ⟨V.str ⟨#[cc]⟩, ?_, ⟨u, h2⟩⟩
    rw [e, signs, List.getElem?_map, Array.getElem?_toList, h1]
    rfl
/-- what is walked isn't one of the iterator's own objects -/
theorem Kd.src_ne {k : Kd} {xs : List V} {c : Addr} (I : Inv X pins σ H s) (q : k.src X.K H xs) (f : FpOk X pins H c) : k.adr ≠ some c := by
  have kk : ∀ o, X.K.lookup c = some o → False := fun o e => by
    have b := I.ok.mod.kin _ _ e
    obtain ⟨b1, b2⟩ := I.ok.bs _ _ b
    rcases f.2.2.2.1 with z | z
    · exact I.ok.noex _ _ b z
    · exact Nat.lt_irrefl _ (Nat.lt_of_lt_of_le (Heap.lt_size b1) z)
  have tt : ∀ o, H c = some o → False := fun o e => by
    rw [f.1] at e
    cases e
  intro e
  cases k with
  | lst a =>
    obtain rfl : a = c := Option.some.inj e
    rcases (show SqL X.K H a xs from q) with (h | ⟨o, h⟩) | h
    · exact tt _ h
    · exact tt _ h
    · obtain ⟨o, its, n, h, _⟩ := h
      exact kk _ h
  | tup a =>
    obtain rfl : a = c := Option.some.inj e
    rcases (show SqT X.K H a xs from q) with (h | ⟨o, h⟩) | h
    · exact tt _ h
    · exact tt _ h
    · obtain ⟨o, its, n, h, _⟩ := h
      exact kk _ h
  | str z => cases e
theorem Kd.begins {k : Kd} {xs : List V} {u : Value} (I : Inv X pins σ H s) (q : k.src X.K H xs) (r : RelV k.v u) :
    ∃ (o : Obj) (Hb : Heap → Prop), Begins u o Hb ∧ Hb s.heap ∧ ∀ (h : Heap) (it : Addr), h.get? it = some o → k.cell it 0 h := by
  cases k with
  | lst a =>
    obtain ⟨its, rv, pl, hz⟩ := I.list q
    cases (show u = Value.ref a from r)
    exact ⟨_, _, begins_list a its.toArray, pl.isList, fun h it e => ⟨_, e, rfl, rfl⟩⟩
  | tup a =>
    obtain ⟨its, rv, pl, hz⟩ := I.tuple q
    cases (show u = Value.ref a from r)
    exact ⟨_, _, begins_tuple a its.toArray, pl, fun h it e => ⟨_, e, rfl, rfl⟩⟩
  | str z =>
    obtain ⟨t, rfl⟩ := (show ∃ t, u = Value.str z t from r)
    exact ⟨_, _, begins_text z t, True.intro, fun h it e => ⟨t, _, e, rfl, rfl⟩⟩
end
end S8
set_option Elab.async false
set_option linter.all false
set_option maxRecDepth 100000
set_option maxHeartbeats 4000000
namespace PySem
namespace S8X
open HandSPX
section
variable {M : Model} {A : Around} {E : Value → Shared → Prop} {h : Heap} {g : Array GenState} {d : Drawn} {t : Nat} {os : OsState}
variable {nm q : Str} {C N : Addr} {bs bm bmB : List Value} {hdct : Bool} {sn : List Str} {sub : List Value} {ab : Bool} {col : Option Bool} {dd : Option Addr} {k0 k1 k2 k3 k5 : Option Value} {B newId initId : String}
theorem check_new_kw (F : ExcBaseFacts B newId initId bmB) (hT : ∀ X : String, bm.contains (.type X) = bmB.contains (.type X)) {rest : List Value} {kw : List (Str × Value)} {Q : Unit → Shared → Prop}
    (hC : h.get? C = some (excClassObj nm q C N bs bm hdct sn sub ab col dd k0 k1 k2 k3 k5 newId)) (hq : Q () ⟨h, g, d, t, os⟩) : wpAny M A (checkBuiltinCall newId ⟨.ref C :: rest, kw⟩) Q E ⟨h, g, d, t, os⟩ := by
  have hcont : (Value.ref C :: bm).contains (.type B) = true := by rw [List.contains_cons, hT, F.hasB, Bool.or_true]
  have hstar := F.noStar
  simp only [checkBuiltinCall, F.newKind, F.newSplit, F.newRow]
  repeat (first | refine wpAny_loadPart_at hC ?_ | (refine wpAny_isSubtype_exc hC ?_; rw [hcont]) | refine wpAny_staticBase_exc hC ?_ | refine wpAny_madeBy_exc hC ?_ | simp only [bne_self_eq_false, Bool.false_eq_true, if_false] | wp_step)
  exact hq
theorem check_tcall_kw {rest : List Value} {n : Str} {v : Value} {Q : Unit → Shared → Prop} (hC : h.get? C = some (excClassObj nm q C N bs bm hdct sn sub ab col dd k0 k1 k2 k3 k5 newId))
    (hq : Q () ⟨h, g, d, t, os⟩) : wpAny M A (checkBuiltinCall "type.__call__" ⟨.ref C :: rest, [(n, v)]⟩) Q E ⟨h, g, d, t, os⟩ := by
  have f3 := tc_sub
  have hT : (⟨h, g, d, t, os⟩ : Shared).TypeIs (.ref C) "type" := ⟨_, hC, rfl⟩
  simp only [checkBuiltinCall, tc_kind, tc_split]
  repeat (any_goals (first | assumption | with_reducible refine wpAny_loadPart_at hC ?_ | with_reducible refine wpAny_onRaise ?_ | with_reducible refine wpAny_map ?_ | wp_step))
end
section
variable {prog : Program} {w : World} {A : Around} {E : Value → Shared → Prop} {R : Result → Shared → Prop} {h : Heap} {g : Array GenState} {d : Drawn} {t : Nat} {os : OsState}
variable {nm q : Str} {C N : Addr} {bs bm bmB : List Value} {hdct : Bool} {sn : List Str} {sub : List Value} {ab : Bool} {col : Option Bool} {dd : Option Addr} {k0 k1 k2 k3 k5 : Option Value} {B newId initId : String}
theorem new_kw (F : ExcBaseFacts B newId initId bmB) (hT : ∀ X : String, bm.contains (.type X) = bmB.contains (.type X)) {rest : List Value} {kw : List (Str × Value)}
    (hC : h.get? C = some (excClassObj nm q C N bs bm hdct sn sub ab col dd k0 k1 k2 k3 k5 newId))
    (hq : R (.ok (.ret (.ref (h.objs.size + 1)))) ⟨(h.push { cls := .type "tuple", data := .seq rest.toArray }).push
      { cls := .ref C, data := .fields #[.ref h.objs.size, .none, .none, .none, .bool false, .none] }, g, d, t, os⟩) (hrest : rest.length ≤ sizeLine) :
    codeAny (model prog w) A (.builtin newId ⟨.ref C :: rest, kw⟩) R ⟨h, g, d, t, os⟩ := by
  have hends := F.ends
  have hcB : (Value.ref C :: bm).contains (.type B) = true := by rw [List.contains_cons, hT, F.hasB, Bool.or_true]
  have hcA : (Value.ref C :: bm).contains (.type "AttributeError") = false := by rw [List.contains_cons, hT, F.noAttr]; rfl
  have hcN : (Value.ref C :: bm).contains (.type "NameError") = false := by rw [List.contains_cons, hT, F.noName]; rfl
  refine codeAny_builtinAt F.entry ?_
  unfold Builtin.«BaseException.__new__»
  refine wpAt_bind ?_
  show wpAt _ _ _ (stack >>= _) _ _ _
  refine wpAt_bind (wpAt_stack fun p below => wpAt_of_wpAny ?_)
  wp_walk
  refine wpAt_of_wpAny ?_
  rw [F.owner]
  repeat (first | with_reducible refine wpAny_madeHere_exc F.canon hC ?_ | with_reducible refine wpAny_loadPart_at hC ?_ | (with_reducible refine wpAny_isSubtype_exc hC ?_; first | rw [hcB] | rw [hcA] | rw [hcN]) | wp_step)
  show R _ _
  rw [Heap.size_push]
  exact hq
theorem type_call_kw (F : ExcBaseFacts B newId initId bmB) (hT : ∀ X : String, bm.contains (.type X) = bmB.contains (.type X)) {rest : List Value} {kw : List (Str × Value)} {fI : Addr} {Q : Fin → Shared → Prop}
    (hC : h.get? C = some (excClassObj nm q C N bs bm hdct sn sub ab col dd k0 k1 k2 k3 k5 newId))
    (hi : W.Looks (model prog w) h (typeLookup (.ref C) "__init__") (some (.ref fI))) (hb : ∀ self, W.Looks (model prog w) h (bindSpecial (.ref fI) self) (.ref fI, [self])) (hrest : rest.length ≤ sizeLine)
    (hq : codeAny (model prog w) A (.call (.ref fI) ⟨.ref (h.objs.size + 1) :: rest, kw⟩)
      (fun r s' => match r with | .ok (.ret v) => v = .none ∧ Q (.done (.ret (.ref (h.objs.size + 1)))) s' | .ok _ => False | .error e => E e s')
      ⟨(h.push (W.kdv_tup rest)).push (excO C h.objs.size), g, d, t, os⟩) :
    wpAny (model prog w) A (Builtin.«type.__call__» ⟨.ref C :: rest, kw⟩) Q E ⟨h, g, d, t, os⟩ := by
  repeat (first | with_reducible refine wpAny_loadPart_at hC ?_ | with_reducible refine wpAny_madeBy_exc hC ?_ | wp_step)
  refine codeAny_call_builtin_code (Code.quiet_builtin _ F.quiet) (check_new_kw F hT hC ?_)
  refine new_kw F hT hC ?_ hrest
  show wpAny _ _ _ _ _ _
  have k : ∀ b o, h.get? b = some o → ((h.push (W.kdv_tup rest)).push (excO C h.objs.size)).get? b = some o := fun b o e => Heap.get?_push_of_some _ (Heap.get?_push_of_some _ e)
  have hC₁ := k _ _ hC
  have hget : ((h.push (W.kdv_tup rest)).push (excO C h.objs.size)).get? (h.objs.size + 1) = some (excO C h.objs.size) := by heap_get
  have hcC : (Value.ref C :: bm).contains (.ref C) = true := by simp
  have i1 := hi.keeps k
  have b1 := (hb (.ref (h.objs.size + 1))).keeps k
  unfold isInstance
  repeat (first | with_reducible refine wpAny_loadPart_at hget ?_ | (with_reducible refine wpAny_isSubtype_exc hC₁ ?_; rw [hcC]) | wp_step)
  show wpAny _ _ (typeLookup (.ref C) _) _ _ _
  refine i1.at ?_
  refine wpAny_holding (wpAny_bind (b1.at ?_))
  refine wpAny_bind (wpAny_call (codeAny_mono hq fun r s' z => ?_))
  rcases r with e | (v | _ | _ | _) <;> first | exact z | exact z.elim | skip
  obtain ⟨rfl, z⟩ := z
  first
    | exact wpAny_pure (wpAny_pure z)
    | (wp_walk; exact z)
theorem call_kw (F : ExcBaseFacts B newId initId bmB) (hT : ∀ X : String, bm.contains (.type X) = bmB.contains (.type X)) {rest : List Value} {n : Str} {v : Value} {fI : Addr}
    (hC : h.get? C = some (excClassObj nm q C N bs bm hdct sn sub ab col dd k0 k1 k2 k3 k5 newId))
    (hi : W.Looks (model prog w) h (typeLookup (.ref C) "__init__") (some (.ref fI))) (hb : ∀ self, W.Looks (model prog w) h (bindSpecial (.ref fI) self) (.ref fI, [self])) (hrest : rest.length ≤ sizeLine)
    (hq : codeAny (model prog w) (A.under (.builtin "type.__call__" ⟨.ref C :: rest, [(n, v)]⟩)) (.call (.ref fI) ⟨.ref (h.objs.size + 1) :: rest, [(n, v)]⟩) (W.InitBack (h.objs.size + 1) R)
      ⟨(h.push (W.kdv_tup rest)).push (excO C h.objs.size), g, d, t, os⟩) :
    codeAny (model prog w) A (.call (.ref C) ⟨rest, [(n, v)]⟩) R ⟨h, g, d, t, os⟩ := by
  have f1 := tc_lookup
  have f2 := tc_bind (.ref C)
  have hTy : (⟨h, g, d, t, os⟩ : Shared).TypeIs (.ref C) "type" := ⟨_, hC, rfl⟩
  refine codeAny_of_tree ?_
  show wpAny _ _ (callAny (.ref C) _) _ _ _
  repeat (any_goals (first | assumption | with_reducible refine wpAny_loadPart_at hC ?_ | wp_step))
  refine ⟨rfl, ?_⟩
  refine codeAny_call_builtin_at (Code.quiet_builtin _ (by decide +kernel)) entry_typeCall (check_tcall_kw hC (type_call_kw F hT hC hi hb hrest ?_))
  refine codeAny_mono hq fun r s' z => ?_
  rcases r with e | (v | _ | _ | _) <;> exact z
end
end S8X
end PySem
set_option Elab.async false
set_option linter.all false
set_option maxRecDepth 100000
set_option maxHeartbeats 400000
namespace S8
open PySem PySem.Spec PyProof.Rows L2 L2H HotX
/-! ### an own exception class with a keyword-only __init__(self, *, f): RowError.__init__(self, f); self.f = f -/
structure RowErr (K : PySem.W.Frag) (R : Addr) : Prop where
  sp : PySem.W.specialIn K (.ref R) "__getattribute__" = some (some (.builtin "type.__getattribute__"))
  rd : PySem.W.readsIn K R (.type "type") = true
  vi : PySem.W.findCls K (.ref R) (.type "type") "__init__" = some (.val (.builtin "ValueError.__init__"))
section
variable {X : Cx}
theorem pe_rowinit {R : Addr} {e : Expr} {es : List Expr} {ta : TA} {p1 p2 pos : Pos} {pl : Sem Bool} (hg : Gl X "RowError") (hm : X.mg "RowError" = some (.ref R)) (T : RowErr X.K R) (ha : PA X (e :: es) ta)
    (hc : eval (.Call (.Attribute (.Name "RowError" p1) "__init__" p2) (e :: es) [] pos) X.env = (do
      let ov ← eval (.Name "RowError" p1) X.env
      standAt p2.atName
      let (f, first) ← holding [ov] (getMethod ov "__init__" pl)
      callWith pos f first (backTo pos (starEach (e :: es) X.env)) (backToKw pos (keywordEach [] X.env))) := by rfl)
    (he : starEach (e :: es) X.env = (false, eval e X.env) :: starEach es X.env := by rfl) (hpl : (backTo pos (starEach es X.env)).any (·.1) = false := by rfl) :
    PE X (.Call (.Attribute (.Name "RowError" p1) "__init__" p2) (e :: es) [] pos) (tVeI X.K ta) := by
  refine ⟨fun pins s σ H Q I h => ?_⟩
  refine PySem.W.methodCall_KW (ld_glob I hg hm ?_ (by decide)) hc
  refine PySem.W.method_cls I.kIn T.sp (PySem.W.cls_value I.kIn T.rd T.vi (by decide +kernel) ?_)
  show wpAny _ _ (callWith pos (Value.builtin "ValueError.__init__") [] (backTo pos (starEach (e :: es) X.env)) []) _ _ _
  refine PyProof.Rows.callWith_method1 (thn (ha.run pos pins _ σ H _ (I.tok _) h) fun us s1 ⟨vs, H1, I1, r1, a, C, ws, ev, hl, T, ea, q⟩ => ?_) he hpl
  subst ev
  cases r1 with
  | @cons _ u0 _ ur ra rw' =>
    obtain rfl : u0 = Value.ref a := ra
    have hlen : ur.length ≤ sizeLine := by
      rw [← Paired.length rw', sizeLine_eq]
      omega
    exact oinit_ok T I1 ea hlen fun s' J => ⟨.non, H1, J, rfl, q⟩
def spKwI (K : PySem.W.Frag) (f : Str) : Sp := fun vs H Q _ => ∃ (a C : Addr) (v : V), vs = [.ref a, v] ∧ OexC K C ∧ PySem.W.findIn K (.ref C) f = some none ∧ H a = some (exo a C none) ∧
  ∀ dx, H dx = none → dx ≠ a → Q .non (upd (upd H dx (exd dx [(f, v)])) a (exo a C (some dx)))
/-- the body, in any context -/
theorem kwi_body {R : Addr} {f : Str} {p1 p2 p3 p4 p5 p6 p7 p8 p9 p10 : Pos} {pl : Sem Bool} (hg : Gl X "RowError") (hm : X.mg "RowError" = some (.ref R)) (T : RowErr X.K R) (hN : X.N = (["self", f] : List Str)) (v0 : Vis X.env.scope "self") (v1 : Vis X.env.scope f)
    (hd : (f == ("__debug__" : Str)) = false) (hcd : (f == ("__classdict__" : Str)) = false) {vs : List V} {H : Hp} {Q : VK} {E : XK} (hsp : spKwI X.K f vs H Q E)
    (hc : eval (.Call (.Attribute (.Name "RowError" p1) "__init__" p2) [.Name "self" p3, .Name f p4] [] p5) X.env = (do
      let ov ← eval (.Name "RowError" p1) X.env
      standAt p2.atName
      let (f', first) ← holding [ov] (getMethod ov "__init__" pl)
      callWith p5 f' first (backTo p5 (starEach [.Name "self" p3, .Name f p4] X.env)) (backToKw p5 (keywordEach [] X.env))))
    (hs : swapsWith (.Name f p9) (some (.Attribute (.Name "self" p7) f p8)) p10.line X.env = pure false) :
    ∃ t, PSs X [.Expr (.Call (.Attribute (.Name "RowError" p1) "__init__" p2) [.Name "self" p3, .Name f p4] [] p5) p6, .Assign [.Attribute (.Name "self" p7) f p8] (.Name f p9) p10] t ∧ t { nx := fun _ H' => Q .non H', rt := Q } (L2.start (["self", f] : List Str) vs) H := by
  have n0 : X.N[0]? = some ("self" : Str) := by rw [hN]; rfl
  have n1 : X.N[1]? = some f := by rw [hN]; rfl
  refine ⟨_, pss_cons (ps_expr (pe_rowinit hg hm T (pa_cons (pe_var n0 v0) (pa_cons (pe_var n1 v1 hd hcd) pa_nil)) hc)) (pss_one (ps_ost (pe_var n0 v0) (pe_var n1 v1 hd hcd) hs)), ?_⟩
  obtain ⟨a, C, v, rfl, TC, hno, ea, q⟩ := hsp
  exact ⟨_, rfl, _, rfl, a, C, [v], rfl, Nat.succ_le_of_lt (by decide : 0 < 1000), TC, ea, _, rfl, _, rfl, a, C, rfl, TC, hno, .inl ⟨ea, fun dx n ne => q dx n ne⟩⟩
def one1 (P : V → Hp → Prop) : List V → Hp → Prop
  | [v], H => P v H
  | _, _ => False
theorem one1_of {P : V → Hp → Prop} : ∀ {zs : List V} {H : Hp}, one1 P zs H → ∃ v, zs = [v] ∧ P v H
  | [v], H, h => ⟨v, rfl, h⟩
  | [], _, h => h.elim
  | _ :: _ :: _, _, h => h.elim
theorem one1_te {te : TE} {σ : L2.St} {H : Hp} {P : V → Hp → Prop} (h : te σ H P) : tCons te tNil σ H (one1 P) := h
/-- C(f = e) -/
def tMkKw (C : Addr) (f : Str) (te : TE) : L2.St → Hp → XK → Prop := fun σ H Q => te σ H fun v H1 => ∀ d, H1 d = none → Q (.ref C) (some d) (upd H1 d (.xd [(f, v)]))
theorem kw_end {H1 : Hp} {a C d : Addr} {f : Str} {v : V} (ha : H1 a = none) (hda : d ≠ a) : upd (del (upd (upd (upd H1 a (exo a C none)) d (exd d [(f, v)])) a (exo a C (some d))) a) d (.xd [(f, v)]) = upd H1 d (.xd [(f, v)]) := by
  funext b
  by_cases hb : b = d
  · rw [hb, upd_same, upd_same]
  · rw [upd_ne hb, upd_ne hb]
    by_cases hc : b = a
    · rw [hc, del_same, ha]
    · rw [del_ne hc, upd_ne hc, upd_ne hb, upd_ne hc]
variable {CX : CXT} {x f : Str} {e : Expr} {te : TE} {p kp pos : Pos} {C fI : Addr} {k : Nat} {fd : FuncData}
theorem pmk5_kw (T : OexC X.K C) (hno : PySem.W.findIn X.K (.ref C) f = some none) (iC : PySem.W.findIn X.K (.ref C) "__init__" = some (some (.ref fI))) (tI : PySem.W.typeIn X.K (.ref fI) = some (.type "function"))
    (F1 : FnOk X.prog X.w X.K X.mg X.base CX k fI fd ["self", f] (spKwI X.K f)) (hr : Room (k + 1) X.A) (hb : ∀ (s : Shared) (a v : Value), BindsTo s fd ⟨[a], [(f, v)]⟩ [("self", a), (f, v)]) (hx : Passes CX X (fun _ _ _ => False))
    (hg : Gl X x) (hm : X.mg x = some (.ref C)) (he : PE X e te) (hdb : (x == ("__debug__" : Str)) = false := by decide)
    (hall : (backToKw pos (keywordEach [⟨some f, e, kp⟩] X.env)).all (·.1.isSome) = true := by rfl) (hks : (backToKw pos (keywordEach [⟨some f, e, kp⟩] X.env)).filterMap (·.1) = [f] := by rfl)
    (hpl : ((backTo pos (starEach [] X.env)).any (·.1) || (backToKw pos (keywordEach [⟨some f, e, kp⟩] X.env)).any (·.1.isNone)) = false := by rfl) :
    PMk5 X (.Call (.Name x p) [] [⟨some f, e, kp⟩] pos) (tMkKw C f te) := by
  intro pins s σ H Q I h
  obtain ⟨nm, q, N, bs, bm, sn, sub, ab, col, dd, k0, k1, k2, k3, k5, hC, hbm⟩ := T.cls
  refine wpAny_Call_Name_kw (ld_glob I hg hm ?_ hdb)
  refine PySem.W.callWith_KW0 (h₀ := X.base) I.ok.mod.kin T.kC hall ?_ hpl
  refine thn ((pk_cons he pk_nil).run pos pins s σ H _ I (one1_te h)) fun ws s1 ⟨zs, H1, I1, rz, q1⟩ => ⟨I1.kIn, ?_⟩
  rw [hks]
  obtain ⟨v, rfl, q1⟩ := one1_of q1
  obtain ⟨w', rfl, rv⟩ := rz.one
  show wpAny _ _ (call (.ref C) [] [(f, w')]) _ _ _
  obtain ⟨hp, g, dr, tk, os⟩ := s1
  have hsz : hp.objs.size ≤ hp.objs.size + 1 := Nat.le_succ _
  have hn : H1 (hp.objs.size + 1) = none := I1.hok.fresh hsz
  have kk : ∀ b o, hp.get? b = some o → ((hp.push (PySem.W.kdv_tup [])).push (PySem.HandSPX.excO C hp.objs.size)).get? b = some o := fun b o e => Heap.get?_push_of_some _ (Heap.get?_push_of_some _ e)
  have hget : ((hp.push (PySem.W.kdv_tup [])).push (PySem.HandSPX.excO C hp.objs.size)).get? (hp.objs.size + 1) = some (PySem.HandSPX.excO C hp.objs.size) := by heap_get
  have I2 : Inv X pins σ (upd H1 (hp.objs.size + 1) (exo (hp.objs.size + 1) C none)) ⟨(hp.push (PySem.W.kdv_tup [])).push (PySem.HandSPX.excO C hp.objs.size), g, dr, tk, os⟩ :=
    I1.laid (t' := tk) (a := hp.objs.size + 1) (o := exo (hp.objs.size + 1) C none) (h' := (hp.push (PySem.W.kdv_tup [])).push (PySem.HandSPX.excO C hp.objs.size)) kk hsz (exo_ok hget)
  have r2 : Vals [V.ref (hp.objs.size + 1), v] [Value.ref (hp.objs.size + 1), w'] := .cons rfl (.cons rv .nil)
  have hq : spKwI X.K f [V.ref (hp.objs.size + 1), v] (upd H1 (hp.objs.size + 1) (exo (hp.objs.size + 1) C none))
      (fun v' H2 => v' = .non ∧ ∃ d, H2 = upd (upd (upd H1 (hp.objs.size + 1) (exo (hp.objs.size + 1) C none)) d (exd d [(f, v)])) (hp.objs.size + 1) (exo (hp.objs.size + 1) C (some d)) ∧ H1 d = none ∧ d ≠ hp.objs.size + 1) (fun _ _ _ => False) :=
    ⟨hp.objs.size + 1, C, v, rfl, T, hno, upd_same, fun dx n ne => ⟨rfl, dx, rfl, by rw [upd_ne ne] at n; exact n, ne⟩⟩
  refine wpAny_call (PySem.S8X.call_kw F.excBase_ValueError (fun Y => PySem.HandSPX.refsVE_contains Y bm hbm) (I1.kIn _ _ hC) (PySem.W.looks_findIn I1.kIn iC) (fun self => PySem.W.bind_fn I1.kIn self tI) (Nat.zero_le _)
    (codeAny_mono (F1.run _ X.stack _ _ ⟨[Value.ref (hp.objs.size + 1)], [(f, w')]⟩ [Value.ref (hp.objs.size + 1), w'] _ _ (fun _ _ _ => False) (hr.make C [] [(f, w')]) (I2.env0.make C [] [(f, w')]) (hb _ _ _) r2 hq) fun r s' hq' => ?_))
  cases r with
  | error er => exact hx pins σ _ _ er s' I2 hq'
  | ok fl =>
    cases fl with
    | ret u =>
      obtain ⟨v', H2, os2, bare2, un2, hok2, rv', ev, d, eH, hd1, hda⟩ := hq'
      subst ev
      obtain ⟨h2, g2, d2, t2, os'⟩ := s'
      have ea : H2 (hp.objs.size + 1) = some (exo (hp.objs.size + 1) C (some d)) := by rw [eH, upd_same]
      have ed : H2 d = some (exd d [(f, v)]) := by rw [eH, upd_ne hda, upd_same]
      obtain ⟨t0, G, J, kG, ge, hoe, na⟩ := mk_end0 (d2 := d2) (t2 := t2) I1 hsz kk un2 hok2 os2 bare2 ea ed hd1
      rw [eH, kw_end hn hda] at J na
      refine ⟨rv', ⟨hp.objs.size + 1, _, _, ⟨G, g2, d2, t2, os'⟩, _, .ref C, some d, rfl, J, kG, ge, hoe, ⟨rfl, rfl, fun vs hv => ?_⟩, rfl, rfl, na, rfl, bare2, raises_own T.exC T.tyC, q1 d hd1⟩, fun a oe vs ea2 hg2 hd2 => ?_⟩
      · cases hv
        rfl
      · cases ea2
        have hg3 : h2.get? (hp.objs.size + 1) = some oe := hg2
        rw [hoe] at hg3
        cases hg3
        cases hd2
        show (4 : Nat) < 6
        decide
    | next => exact False.elim hq'
    | brk => exact False.elim hq'
    | cont => exact False.elim hq'
end
end S8
set_option Elab.async false
set_option linter.all false
set_option maxRecDepth 100000
set_option maxHeartbeats 400000
namespace HotX
open PySem PySem.Spec PyProof.Rows
/-- the heap behind «from v»: field 3 is v, field 4 is True -/
def causeFrom (h : Heap) (a : Addr) (v : Value) : Heap := (h.update a (Obj.mapFields (·.setIfInBounds 3 v))).update a (Obj.mapFields (·.setIfInBounds 4 (.bool true)))
theorem causeFrom_at {h : Heap} {a : Addr} {v : Value} {oe : Obj} {vs : Array Value} (ha : h.get? a = some oe) (hd : oe.data = .fields vs) :
    (causeFrom h a v).get? a = some ((oe.mapFields (·.setIfInBounds 3 v)).mapFields (·.setIfInBounds 4 (.bool true))) ∧ ((oe.mapFields (·.setIfInBounds 3 v)).mapFields (·.setIfInBounds 4 (.bool true))).data = .fields ((vs.setIfInBounds 3 v).setIfInBounds 4 (.bool true)) := by
  have hd3 := Obj.data_mapFields hd (·.setIfInBounds 3 v)
  have ha3 := Heap.get?_update_self (Obj.mapFields (·.setIfInBounds 3 v)) ha (Obj.isFreed_of_fields hd3)
  have hd4 := Obj.data_mapFields hd3 (·.setIfInBounds 4 (.bool true))
  exact ⟨Heap.get?_update_self (Obj.mapFields (·.setIfInBounds 4 (.bool true))) ha3 (Obj.isFreed_of_fields hd4), hd4⟩
theorem causeFrom_other {h : Heap} {a b : Addr} {v : Value} (hne : a ≠ b) : (causeFrom h a v).get? b = h.get? b := by
  unfold causeFrom
  rw [Heap.get?_update_other _ _ hne, Heap.get?_update_other _ _ hne]
theorem raise_made_hotC {prog : Program} {w : World} {A : Around} {E : Value → Shared → Prop} {env : Env} {s : Shared} {x c : Sem Value} {Q : Flow → Shared → Prop} {x1 : Addr}
    (h : wpAny (model prog w) A x (fun v s₁ => ∃ a oe vs cls, v = .ref a ∧ s₁.heap.get? a = some oe ∧ oe.cls = cls ∧ oe.data = .fields vs ∧ vs[1]? = some .none ∧ 4 < vs.size ∧ x1 ≠ a ∧ HotAt A x1 s₁.heap ∧
      (∀ (Q' : Value → Shared → Prop), Q' (.ref x1) s₁ → wpAny (model prog w) A c Q' E s₁) ∧ PySem.W.Looks (model prog w) s₁.heap (isInstance (.ref x1) (.type "BaseException")) true ∧
      PySem.W.Looks (model prog w) s₁.heap (isSubtype cls (.type "BaseException")) true ∧ PySem.W.Looks (model prog w) (causeFrom s₁.heap a (.ref x1)) (typeOf cls) (.type "type") ∧
      E (.ref a) { s₁ with heap := (causeFrom s₁.heap a (.ref x1)).update a (Obj.mapFields (·.setIfInBounds 2 (.ref x1))) }) E s) :
    wpAny (model prog w) A (raiseStmt env (some x) (some c)) Q E s := by
  unfold raiseStmt
  dsimp only
  refine wpAny_bind (wpAny_mono h (fun v s₁ h₁ => ?_) fun _ _ x => x)
  obtain ⟨a, oe, vs, cls, rfl, ha, hcls, hd, h1, hi, hne, hot, hcs, LI1, L1, L3, hE⟩ := h₁
  have LT : PySem.W.Looks (model prog w) s₁.heap (typeOf (.ref a)) cls := fun A Q E s k q => wpAny_typeOf_ref (k _ _ ha) (by rw [hcls]; exact q)
  have LI : PySem.W.Looks (model prog w) s₁.heap (isInstance (.ref a) (.type "BaseException")) true := LT.andThen L1
  have hnt : ∀ {Q' : Bool → Shared → Prop}, Q' false s₁ → wpAny (model prog w) A (isType (.ref a)) Q' E s₁ := by
    intro Q' hq
    simp only [isType, loadHead]
    refine wpAny_bind (wpAny_loadPart ha ?_)
    rw [hd]; exact wpAny_pure hq
  have hnt1 : ∀ {Q' : Bool → Shared → Prop}, Q' false s₁ → wpAny (model prog w) A (isType (.ref x1)) Q' E s₁ := by
    intro Q' hq
    obtain ⟨_, o1, vs1, g1, d1, _⟩ := hot
    simp only [isType, loadHead]
    refine wpAny_bind (wpAny_loadPart g1 ?_)
    rw [d1]; exact wpAny_pure hq
  have hd3 := Obj.data_mapFields hd (·.setIfInBounds 3 (Value.ref x1))
  have ha3 := Heap.get?_update_self (Obj.mapFields (·.setIfInBounds 3 (Value.ref x1))) ha (Obj.isFreed_of_fields hd3)
  obtain ⟨ha4, hd4⟩ := causeFrom_at (v := .ref x1) ha hd
  have s3 : 3 < vs.size := by omega
  have s4 : 4 < (vs.setIfInBounds 3 (Value.ref x1)).size := by rw [set_size]; exact hi
  have s2 : 2 < ((vs.setIfInBounds 3 (Value.ref x1)).setIfInBounds 4 (Value.bool true)).size := by rw [set_size, set_size]; omega
  have h14 : ((vs.setIfInBounds 3 (Value.ref x1)).setIfInBounds 4 (Value.bool true))[1]? = some Value.none := set_other (by decide) (set_other (by decide) h1)
  have hcls4 : ((oe.mapFields (·.setIfInBounds 3 (Value.ref x1))).mapFields (·.setIfInBounds 4 (.bool true))).cls = cls := by rw [Obj.cls_mapFields, Obj.cls_mapFields]; exact hcls
  have LT4 : PySem.W.Looks (model prog w) (causeFrom s₁.heap a (.ref x1)) (typeOf (.ref a)) cls := fun A Q E s k q => wpAny_typeOf_ref (k _ _ ha4) (by rw [hcls4]; exact q)
  have hnt4 : ∀ {Q' : Bool → Shared → Prop}, Q' false { s₁ with heap := causeFrom s₁.heap a (.ref x1) } → wpAny (model prog w) A (isType (.ref a)) Q' E { s₁ with heap := causeFrom s₁.heap a (.ref x1) } := by
    intro Q' hq
    simp only [isType, loadHead]
    refine wpAny_bind (wpAny_loadPart ha4 ?_)
    rw [hd4]; exact wpAny_pure hq
  have hot4 : HotAt A x1 (causeFrom s₁.heap a (.ref x1)) := by
    obtain ⟨q1, o, vs', q2, q3, q4⟩ := hot
    exact ⟨q1, o, vs', by rw [causeFrom_other (Ne.symm hne)]; exact q2, q3, q4⟩
  have rest : wpAny (model prog w) A (do
      let b ← isType (.ref a)
      if b = true then do
        let e ← holding [.ref a] (raisedFor (.ref a) (.ref a))
        setFlight e none
        raiseNew e
      else do
        let e ← raisedInstance (.ref a)
        setFlight e none
        raiseNew e : Sem Flow) Q E { s₁ with heap := causeFrom s₁.heap a (.ref x1) } := by
    refine wpAny_bind (hnt4 ?_)
    simp only [Bool.false_eq_true, if_false]
    unfold raisedInstance
    refine wpAny_bind (wpAny_bind (LT4.here (wpAny_bind (L3.here ?_))))
    rw [if_pos (beq_self_eq_true _)]
    refine wpAny_pure ?_
    unfold setFlight
    refine wpAny_bind (wpAny_bind (wpAny_field ha4 hd4 h14 ?_))
    rw [if_neg (by decide)]
    refine wpAny_pure ?_
    exact raiseNew_hot hot4 hne ha4 hd4 s2 hE
  refine wpAny_bind (wpAny_holding (hcs _ (wpAny_bind (wpAny_pure ?_))))
  dsimp only
  refine wpAny_bind (wpAny_holding ?_)
  unfold excFromValue isExcClass
  refine wpAny_bind (wpAny_bind (hnt ?_))
  simp only [Bool.false_eq_true, if_false]
  refine wpAny_pure ?_
  simp only [Bool.false_eq_true, if_false]
  refine wpAny_bind (LI.here ?_)
  simp only [if_true]
  refine wpAny_pure ?_
  rw [if_neg (show ¬ ((Value.ref x1 == Value.none) = true) from by simp)]
  refine wpAny_bind (wpAny_holding (wpAny_bind (wpAny_bind (hnt1 ?_))))
  simp only [Bool.false_eq_true, if_false]
  refine wpAny_pure ?_
  simp only [Bool.false_eq_true, if_false]
  refine wpAny_bind (LI1.here ?_)
  simp only [if_true]
  refine wpAny_pure ?_
  refine wpAny_bind (wpAny_setField ha hd s3 (wpAny_bind (wpAny_setField ha3 hd3 s4 ?_)))
  exact rest
end HotX
namespace S8
open PySem PySem.Spec PyProof.Rows L2 L2H HotX
/-- raise C(..) from n, in the suite of «except .. as n» -/
theorem ps_raiseHC {X : Cx} {W : WX} {e : Expr} {t : L2.St → Hp → XK → Prop} {a : Addr} {oe : Obj} {cls : Value} {d : Option Addr} {i : Nat} {n : Str} {cpos pos : Pos} (hp : (a, oe) ∈ X.pn) (hot : Hot1 X.A (a, oe)) (hz : Zc cls d oe)
    (tk : L2.Takes X W) (he : PMk5 X e t) (hN : X.N[i]? = some n) (hl : X.env.kindOf n = some .local) (hd : (n == ("__debug__" : Str)) = false := by decide) :
    PS X (.Raise (some e) (some (.Name n cpos)) pos) (fun _ σ H => σ[i]? = some (some (.ref a)) ∧ PySem.W.subIn X.K cls (.type "BaseException") = some true ∧ t σ H fun cls d H' => W cls d σ H') := by
  refine ⟨fun pins s σ H D I h => ?_⟩
  obtain ⟨hσ, hsub, h⟩ := h
  obtain ⟨hh, v1, e1, c1⟩ := hot
  show wpAny _ _ (do standAt pos; raiseStmt X.env (some (do let v ← eval e X.env; standAt pos; pure v)) (some (do let v ← eval (.Name n cpos) X.env; standAt pos; pure v))) _ _ _
  refine wpAny_bind (wpAny_standAt (raise_made_hotC (x1 := a) (wpAny_bind (wpAny_mono (he pins s σ H _ I h) (fun u s1 hu => wpAny_bind (wpAny_standAt (wpAny_pure ?_))) fun _ _ x => x))))
  obtain ⟨⟨b, oe2, vs, sI, H', cls2, d2, rfl, J, k, hne, hb, hz2, hd2, h1, na, os, ag, r, q⟩, h5⟩ := hu
  have hi : 4 < vs.size := h5 b oe2 vs rfl hb hd2
  have k4 : ∀ c u, sI.heap.get? c = some u → (causeFrom s1.heap b (.ref a)).get? c = some u := fun c u z => by
    have nab : b ≠ c := fun y => by
      rw [← y, hne] at z
      cases z
    rw [causeFrom_other nab]
    exact k c u z
  obtain ⟨r1, _⟩ := r (model X.prog X.w) s1.heap (J.kIn.keeps k)
  obtain ⟨_, r2⟩ := r (model X.prog X.w) (causeFrom s1.heap b (.ref a)) (J.kIn.keeps k4)
  have P1 := (J.pin (a, oe) (List.mem_append_left _ hp)).1
  have nap : a ≠ b := fun z => by
    rw [z, hne] at P1
    cases P1
  have P2 := k _ _ P1
  obtain ⟨hb4, hd4⟩ := causeFrom_at (v := .ref a) hb hd2
  have h12 : (((vs.setIfInBounds 3 (Value.ref a)).setIfInBounds 4 (Value.bool true)).setIfInBounds 2 (Value.ref a))[1]? = some Value.none := set_other (by decide) (set_other (by decide) (set_other (by decide) h1))
  have LT1 : PySem.W.Looks (model X.prog X.w) s1.heap (typeOf (.ref a)) cls := fun A Q E s k q => wpAny_typeOf_ref (k _ _ P2) (by rw [hz.1]; exact q)
  have LI1 : PySem.W.Looks (model X.prog X.w) s1.heap (isInstance (.ref a) (.type "BaseException")) true := LT1.andThen (PySem.W.looks_subIn (J.kIn.keeps k) hsub)
  have hcs : ∀ (Q' : Value → Shared → Prop), Q' (.ref a) s1 → wpAny (model X.prog X.w) X.A (do let v ← eval (.Name n cpos) X.env; standAt pos; pure v) Q' X.xe s1 := fun Q' q' => by
    obtain ⟨m, hn, hlk⟩ := J.loc
    obtain ⟨u, ru, lk⟩ := hlk i n (.ref a) hN hσ (.inl hl)
    obtain rfl : u = Value.ref a := ru
    rcases lk with ⟨_, hm⟩ | ⟨hk, _⟩
    · exact wpAny_bind (wpAny_Name (wpAny_loadName_local J.ok.kind hl (hn.keeps k) hm (wpAny_bind (wpAny_standAt (wpAny_pure q')))) hd)
    · rcases hk with hk | hk <;> rw [hl] at hk <;> cases hk
  refine ⟨b, oe2, vs, cls2, rfl, hb, hz2.1, hd2, h1, hi, nap, ⟨hh, oe, v1, P2, e1, c1⟩, hcs, LI1, r1, r2, tk _ _ (XE.new J (fun c u z => ?_) hne (Heap.get?_update_self _ hb4 (Obj.isFreed_of_fields (Obj.data_mapFields hd4 _)))
    ⟨by rw [Obj.cls_mapFields, Obj.cls_mapFields, Obj.cls_mapFields]; exact hz2.1, by rw [HandSPX.dict_mapFields, HandSPX.dict_mapFields, HandSPX.dict_mapFields]; exact hz2.2.1⟩ (Obj.data_mapFields hd4 _) h12 na os ag q)⟩
  have nab : b ≠ c := fun y => by
    rw [← y, hne] at z
    cases z
  show ((causeFrom s1.heap b (.ref a)).update b (Obj.mapFields (·.setIfInBounds 2 (.ref a)))).get? c = some u
  rw [Heap.get?_update_other _ _ nab]
  exact k4 c u z
end S8
set_option Elab.async false
set_option linter.all false
set_option maxRecDepth 100000
set_option maxHeartbeats 400000
namespace S8
open PySem PySem.Spec PyProof.Rows L2 L2H HotX
section
variable {X : Cx} {pins : List (Addr × Obj)} {σ : L2.St} {H : Hp} {s : Shared}
/-- the frame's own dict has changed: the slots are forgotten -/
theorem gone_inv {h' : Heap} {m' : Str → Option Value} (I : Inv X pins σ H s) (hs : ∀ b, b ≠ X.env.locals → h'.get? b = s.heap.get? b) (hn' : h'.Ns X.env.locals m') : Inv X pins (List.replicate X.N.length none) H { s with heap := h' } := by
  have neL : ∀ b o, X.s_0.heap.get? b = some o → b ≠ X.env.locals := fun b o e => Nat.ne_of_lt (Nat.lt_of_lt_of_le (Heap.lt_size e) I.ok.above)
  refine ⟨I.ok, I.os, I.bare, ⟨fun b o e n hb hx => ?_, fun b o e n hb hx => ?_, I.base.free, fun b o e hx => ?_, I.base.tups, I.base.frzs, I.base.tbls⟩, ⟨_, hn', fun j y v' e1 e2 e3 => ?_⟩, fun y c e => ?_, I.free, I.freeC, fun p hp => ?_, fun b ob e => ?_, by simp⟩
  · exact (hs b (neL b o e)).trans (I.base.keep b o e n hb hx)
  · obtain ⟨sl, e1⟩ := I.base.slot b o e n hb hx
    exact ⟨sl, (hs b (neL b o e)).trans e1⟩
  · obtain ⟨o', e1⟩ := I.base.there b o e hx
    exact ⟨o', (hs b (neL b o e)).trans e1⟩
  · rw [List.getElem?_replicate] at e2
    split at e2 <;> cases e2
  · obtain ⟨w', o, ho, hd⟩ := I.cell y c e
    exact ⟨w', o, (hs c (I.cne y c e)).trans ho, hd⟩
  · obtain ⟨e, n, ne, nf, d⟩ := I.pin p hp
    exact ⟨(hs p.1 ne).trans e, n, ne, nf, d⟩
  · refine (I.hok b ob e).stay (fun c w' hc q => (hs c ?_).trans q) (fun _ q => q) fun _ _ q => q
    intro z
    subst z
    rcases hc with hc | hc
    · rw [← hc, I.free] at e; cases e
    · rw [I.free] at hc; cases hc
end
/-- noted by this frame -/
theorem sky_note {M : Model} {A : Around} {E₁ : Value → Shared → Prop} {env : Env} {outer : List Env} {L a : Addr} {Z : Obj → Prop} {B : Heap} {s : Shared} {Q : Unit → Shared → Prop} (hZ : HandSPX.Steady Z) (hfr : A.frames = some (env :: outer)) (hf : env.frame = some L)
    (x : Sky B (env :: outer) a Z L s.heap) (hQ : ∀ h', HandSPX.HeldZ B (env :: outer) a Z L h' → s.heap.UpToSlots h' → Q () { s with heap := h' }) : wpAny M A (noteFrame (.ref a) env) Q E₁ s := by
  rcases x with ⟨hB, hn, hl, oe, vs, he, hz, hd, h1⟩ | fl | hh
  · exact HandSPX.look_newZ hZ hfr hl hf he hB hn hd h1 hz hQ
  · exact HandSPX.looks_onZ hZ hfr hf fl hQ
  · exact HandSPX.againZ hf hh.2.2.2 (hQ s.heap hh (Heap.UpToSlots.refl _))
theorem ff_of {h h' base : Heap} (k : ∀ b o, h.get? b = some o → (∀ vs, o.data ≠ .fields vs) → ∃ o', h'.get? b = some o' ∧ ∀ vs, o'.data ≠ .fields vs) : ∀ {l : List Env}, h.FunFrames base l → h'.FunFrames base l
  | [], _ => trivial
  | _ :: _, ⟨hk, ⟨L, o, hf, hn, ho, hd⟩, hr⟩ => ⟨hk, let ⟨o', ho', hd'⟩ := k L o ho hd; ⟨L, o', hf, hn, ho', hd'⟩, ff_of k hr⟩
/-- the context of an except suite that may raise, with its own wish -/
abbrev suiteE (X : Cx) (a : Addr) (pn : List (Addr × Obj)) (xe : Value → Shared → Prop) : Cx := { X with A := X.A.mark (some (.ref a)), calm := false, pn := pn, xe := xe }
section
variable {X : Cx} {pins : List (Addr × Obj)} {σ : L2.St} {H : Hp} {s : Shared} {xe : Value → Shared → Prop}
theorem suiteE_of {a : Addr} {pn pn' : List (Addr × Obj)} (I : Inv (X.suite a pn) pn' σ H s) : Inv (suiteE X a pn xe) pn' σ H s := Inv.unwish (X := suiteE X a pn xe) (E := fun _ _ => False) I
theorem unsuiteE {a : Addr} {q : Addr × Obj} {pn' : List (Addr × Obj)} (I : Inv (suiteE X a (q :: (X.pn ++ pins)) xe) pn' σ H s) (ok : X.Ok) : Inv X pins σ H s :=
  Inv.unsuite (X := X) (a := a) (q := q) (pn' := pn') (show Inv (X.suite a (q :: (X.pn ++ pins))) pn' σ H s from I.wish fun _ _ => False) ok
/-- what is in the air leaves an «except .. as n» suite: n goes, the exception is in X's air -/
theorem as_out {M : Model} {A : Around} {n : Str} {pos : Pos} {Wout : WX} {E : Value → Shared → Prop} {a2 : Addr} {B : Heap} {sI : Shared} {cls : Value} {d : Option Addr} (hs : X.stack = X.env :: X.outer) (hf : X.env.frame = some X.env.locals) (hfr : A.frames = some (X.env :: X.outer))
    (hl : X.env.kindOf n = some .local) (J : Inv X pins σ H sI) (nb : ∀ b o, sI.heap.get? b = some o → b ∉ frs X.stack → B.get? b = some o) (up : sI.heap.UpToSlots s.heap) (sky : Sky B X.stack a2 (Zc cls d) X.env.locals s.heap) (na : H a2 = none) (os : s.os = sI.os) (ag : AllBare s.gens)
    (hW : ∀ σ', Wout cls d σ' H) (hE : ∀ s', XE X Wout (.ref a2) s' → E (.ref a2) s') {F2 : Value → Shared → Prop} {F1 : Value → Shared → Prop} :
    wpAny M A (noteFrame (.ref a2) X.env) (fun _ s3 => wpAny M A (do bindName X.env n .none; unbindBehindTheSuite X.env n pos) (fun _ s4 => wpAny M A (passOn "try.except-as" (.ref a2) X.env : Sem Flow) (fun _ _ => False) E s4) F2 s3) F1 s := by
  have sky' : Sky B (X.env :: X.outer) a2 (Zc cls d) X.env.locals s.heap := by rw [← hs]; exact sky
  refine sky_note Zc.steady hfr hf sky' fun h3 hh up3 => ?_
  have up' := up.trans up3
  have J3 : Inv X pins σ H { s with heap := h3 } := J.landed nb hh.1 up' os ag
  obtain ⟨m, hn, _⟩ := J3.loc
  have hcls : (X.env.scope.kind == .class || (X.env.scope.kind == .module && X.env.locals != X.env.globals)) = false := by rw [J.ok.kind]; rfl
  refine wpAny_nameGoes_keeps hl hn hcls fun h4 v hn4 hs4 => ?_
  obtain ⟨o4, es4, ep4, ho4, hd4, r4⟩ := id hn4
  obtain ⟨o3, es3, ep3, ho3, hd3, _⟩ := id hn
  obtain ⟨hB, hBn, hFF, oe, vs, T, oT, ts, he, hz, hde, h1, hnT, hTe, hT, hdT, h3'⟩ := id hh
  have sb : ∀ b, b ≠ X.env.locals → h4.get? b = h3.get? b := fun b hb => hs4.2 b hb
  have nrec : ∀ {b : Addr} {o : Obj} {vs : Array Value}, h3.get? b = some o → o.data = .fields vs → b ≠ X.env.locals := fun {b o vs} e dd z => by
    rw [z, ho3] at e
    cases e
    rw [hd3] at dd
    cases dd
  have hBL : B.get? X.env.locals = none := (hFF.mem (List.mem_filterMap.mpr ⟨X.env, List.mem_cons_self, hf⟩)).1
  have held4 : HandSPX.HeldZ B (X.env :: X.outer) a2 (Zc cls d) X.env.locals h4 :=
    ⟨fun b o e => (sb b (fun z => by rw [z, hBL] at e; cases e)).trans (hB b o e), hBn, ff_of (fun b o e dd => by
      by_cases hb : b = X.env.locals
      · exact ⟨o4, by rw [hb]; exact ho4, fun vs z => by rw [hd4] at z; cases z⟩
      · exact ⟨o, (sb b hb).trans e, dd⟩) hFF,
     oe, vs, T, oT, ts, (sb a2 (nrec he hde)).trans he, hz, hde, h1, hnT, hTe, (sb T (nrec hT hdT)).trans hT, hdT, h3'⟩
  obtain ⟨mI, ⟨oI, esI, epI, hoI, hdI, _⟩, _⟩ := id J.loc
  have hoI' : (sI.heap.update X.env.locals fun _ => o4).get? X.env.locals = some o4 := Heap.get?_update_self (fun _ => o4) hoI (by
    show o4.isFreed = false
    obtain ⟨c4, d4, dt4, sl4⟩ := o4
    dsimp only at hd4
    subst hd4
    rfl)
  have hother : ∀ b, b ≠ X.env.locals → (sI.heap.update X.env.locals fun _ => o4).get? b = sI.heap.get? b := fun b hb => Heap.get?_update_other _ _ (Ne.symm hb)
  have J4 := gone_inv (h' := sI.heap.update X.env.locals fun _ => o4) J hother ⟨o4, es4, ep4, hoI', hd4, r4⟩
  have a2g := (sb a2 (nrec he hde)).trans he
  unfold PySem.passOn
  refine wpAny_bind (wpAny_field a2g hde h1 ?_)
  rw [if_neg (show ¬ ((Value.ref T == Value.none) = true) from by simp)]
  have fin : wpAny M A (setFlight (.ref a2) X.env.frame) (fun _ s4 => wpAny M A (throw (.ref a2) : Sem Flow) (fun _ _ => False) E s4) E { s with heap := h4, toks := s.toks + 1 } := by
    rw [hf]
    refine HandSPX.setFlight_onZ held4 fun h5 hh5 up5 => wpAny_throw (hE _ ?_)
    refine ⟨a2, B, { sI with heap := sI.heap.update X.env.locals fun _ => o4 }, pins, _, H, cls, d, rfl, J4, fun b o e hb => ?_, fun b o e dd => ?_, .inr (.inr (by rw [hs]; exact hh5)), na, os, ag, hW _⟩
    · have hb' : b ≠ X.env.locals := fun z => hb (by rw [hs, z]; exact List.mem_filterMap.mpr ⟨X.env, List.mem_cons_self, hf⟩)
      exact nb b o ((hother b hb').symm.trans e) hb
    · by_cases hb : b = X.env.locals
      · rw [hb] at e ⊢
        have e' : o4 = o := Option.some.inj (hoI'.symm.trans e)
        rw [← e'] at dd ⊢
        exact up5 _ _ ho4 dd
      · have e1 : sI.heap.get? b = some o := (hother b hb).symm.trans e
        obtain ⟨sl, e2⟩ := up' b o e1 dd
        obtain ⟨sl2, e3⟩ := up5 b _ ((sb b hb).trans e2) dd
        exact ⟨sl2, e3⟩
  first
    | exact wpAny_bind (wpAny_pure (wpAny_bind fin))
    | exact wpAny_bind fin
/-- what the clause 'except x as n' wishes, its suite raising out -/
def wAsX (K : PySem.W.Frag) (c : Value) (i : Nat) (ts : Addr → Value → Option Addr → TS) (Wout : WX) (D : Ends) : WX := fun cls d σ H =>
  ∃ b, PySem.W.exmOne K cls c = some b ∧ (b = true → ∀ a, H a = none → ts a cls d D (σ.set i (some (.ref a))) H) ∧ (b = false → Wout cls d σ H)
end
section
variable {X : Cx} {x n : Str} {c : Value} {i : Nat} {body suite : List Stmt} {b₀ : Stmt} {np pos pos' : Pos} {tb : WX → TS} {ts : Addr → Value → Option Addr → TS} {Wout : WX}
/-- try: body, except x as n: suite, where the suite only raises (it is never left otherwise) -/
theorem ps_try_asX (hs : X.stack = X.env :: X.outer) (hf : X.env.frame = some X.env.locals) (hN : X.N.Nodup) (hi : X.N[i]? = some n) (hln : X.env.kindOf n = some .local) (hc : Names X x c) (hpa : ∀ hd : Option Value, PassesOwnAt (model X.prog X.w) (X.A.mark hd) X.A X.env X.xe)
    (tk : L2.Takes X Wout) (hW : ∀ cls d σ σ' H, Wout cls d σ H → Wout cls d σ' H)
    (hb : ∀ (W : WX) (pn : List (Addr × Obj)) (xe : Value → Shared → Prop), L2N.Takes (X.tr pn xe) W → PassesOwn (model X.prog X.w) X.A X.env xe → PSs (X.tr pn xe) body (tb W))
    (hsu : ∀ (a : Addr) (oe : Obj) (cls : Value) (d : Option Addr) (pn : List (Addr × Obj)) (xe : Value → Shared → Prop), Hot1 (X.A.mark (some (.ref a))) (a, oe) → L2N.Zn cls d oe → L2.Takes (suiteE X a ((a, oe) :: pn) xe) Wout → PSs (suiteE X a ((a, oe) :: pn) xe) (b₀ :: suite) (ts a cls d)) :
    PS X (.Try body [.ExceptHandler (some (.Name x np)) (some n) (b₀ :: suite) pos'] [] [] pos) (fun D σ H => tb (wAsX X.K c i (fun a cls d D' => ts a cls d { nx := fun _ _ => False, rt := fun _ _ => False }) Wout D) D σ H) := by
  refine ⟨fun pins s σ H D I h => ?_⟩
  have ok := I.ok
  have hfr : X.A.frames = some (X.env :: X.outer) := by rw [ok.frames, hs]
  have hloc : Loc X.env.scope n := .inl hln
  have notFr : ∀ {B h : Heap} {a : Addr} {o : Obj} {vs : Array Value}, h.FunFrames B (X.env :: X.outer) → h.get? a = some o → o.data = .fields vs → a ∉ frs (X.env :: X.outer) := fun {B h a o vs} ff e dd hm => by
    obtain ⟨_, o', e', hnf⟩ := ff.mem hm
    rw [e] at e'; cases e'
    exact hnf _ dd
  refine wpAny_Try_except ?_
  refine wpAny_mono ((hb (wAsX X.K c i (fun a cls d D' => ts a cls d { nx := fun _ _ => False, rt := fun _ _ => False }) Wout D) (X.pn ++ pins) (fun e s₁ => wpAny (model X.prog X.w) X.A (noteFrame e X.env) (fun _ s₂ => wpAny (model X.prog X.w) X.A (setFlight e none) (fun _ s₃ =>
    wpAny (model X.prog X.w) X.A (handleBy e X.env [.ExceptHandler (some (.Name x np)) (some n) (b₀ :: suite) pos']) (SP X pins D) X.xe s₃) X.xe s₂) X.xe s₁) (fun u s' xx => ?_) PassesOwn.looking).run [] s σ H D (I.toTry _) h) (fun f s1 hsp => ?_) (fun e s1 he => he)
  · obtain ⟨a, B, sI, pins', σ', H', cls, d, rfl, J', nb, up, sky, na, os, ag, b, hb1, hyes, hno⟩ := xx
    have J : Inv X pins σ' H' sI := J'.ofTry ok
    have sky' : Sky B (X.env :: X.outer) a (L2N.Zn cls d) X.env.locals s'.heap := by rw [← hs]; exact sky
    show wpAny (model X.prog X.w) X.A (noteFrame (.ref a) X.env) _ _ _
    refine L2N.Sky.land L2N.Zn.steady hfr hf sky' fun h3 fl3 up3 => ?_
    have J3 : Inv X pins σ' H' { s' with heap := h3 } := J.landed nb fl3.1 (up.trans up3) os ag
    obtain ⟨oe3, vs3, he3, hz3, hd3⟩ := fl3.there
    have nfr : a ∉ frs (X.env :: X.outer) := notFr fl3.2.2.1 he3 hd3
    have nL : a ≠ X.env.locals := fun z => nfr (List.mem_filterMap.mpr ⟨X.env, List.mem_cons_self, by rw [hf, z]⟩)
    have nF : a ∉ X.fs := fun hm => by
      obtain ⟨e, he, q⟩ := List.mem_filterMap.mp hm
      exact nfr (List.mem_filterMap.mpr ⟨e, List.mem_cons_of_mem _ he, q⟩)
    have S3 := J3.suite he3 hd3 na nL nF
    refine wpAny_handleBy_cons (codeAny_handlers_test ?_) (by intro q; cases q)
    have LT : PySem.W.Looks (model X.prog X.w) h3 (typeOf (.ref a)) cls := fun A Q E s k q => wpAny_typeOf_ref (k _ _ he3) (by rw [hz3.1]; exact q)
    have LM := PySem.W.exm_one (M := model X.prog X.w) (J3.kIn) LT hb1
    have test : ∀ {Q : Value → Shared → Prop} {E : Value → Shared → Prop}, Q c { s' with heap := h3 } → wpAny (model X.prog X.w) (X.A.mark (some (.ref a))) (eval (.Name x np) X.env) Q E { s' with heap := h3 } := fun {Q E} q => by
      obtain ⟨hg, hdbg, hm | ⟨hm, hv, hnn⟩⟩ := hc
      · exact ld_glob (X := X.suite a ((a, oe3) :: (X.pn ++ pins))) S3 hg hm q hdbg
      · exact ld_blt (X := X.suite a ((a, oe3) :: (X.pn ++ pins))) S3 hg hm hv q hnn hdbg
    refine test (LM.here ?_)
    cases b with
    | true =>
      refine codeAny_handlers_suite_as ?_
      refine HandSPX.lands_againZ fl3 fun h4 fl4 up4 => ?_
      have J4 : Inv X pins σ' H' { s' with heap := h4 } := J.landed nb fl4.1 ((up.trans up3).trans up4) os ag
      obtain ⟨oe4, vs4, he4, hz4, hd4⟩ := fl4.there
      have S4 := J4.suite he4 hd4 na nL nF
      refine store_ok (X := X.suite a ((a, oe4) :: (X.pn ++ pins))) (v := .ref a) S4 hN hi hloc rfl (fun s5 S5 => ?_) (.inr hln)
      refine wpAny_mono ((hsu a oe4 cls d (X.pn ++ pins) _ ⟨rfl, vs4, hd4, hz4.2.2 vs4 hd4⟩ hz4 (fun u2 s2 x2 => ?_)).run [] s5 _ H' _ (suiteE_of S5) (hyes rfl a na)) (fun f s6 hsp => ?_) (fun e6 s6 z => z)
      · obtain ⟨a2, B2, sI2, pn2, σ2, H2, cls2, d2, rfl, I2, nb2, up2, sky2, na2, os2, ag2, w2⟩ := x2
        show wpAny (model X.prog X.w) (X.A.mark (some (.ref a))) (noteFrame (.ref a2) X.env) _ _ s2
        exact as_out (X := X) (A := X.A.mark (some (.ref a))) hs hf hfr hln (unsuiteE I2 ok) nb2 up2 sky2 na2 os2 ag2 (fun σ'' => hW _ _ _ _ _ w2) (fun s' x => hpa (some (.ref a)) _ _ (tk _ _ x))
      · cases f with
        | next => exact hsp.elim fun _ z => z.elim fun _ z => z.2.elim
        | brk => exact hsp.elim fun _ z => z.elim fun _ z => z.2.elim
        | cont => exact hsp.elim fun _ z => z.elim fun _ z => z.2.elim
        | ret u => exact hsp.elim fun _ z => z.elim fun _ z => z.elim fun _ z => z.2.2.elim
    | false =>
      show wpAny _ X.A (handleBy (.ref a) X.env []) _ _ _
      refine wpAny_handleBy_nil ?_
      have fl3' := flyingZ_imp (fun o z => z.zc) fl3
      obtain ⟨k1, k2, k3, oe, vs, T, oT, ts', he, hz, hd, h1, hr⟩ := id fl3'
      unfold PySem.passOn
      refine wpAny_bind (wpAny_field he hd h1 ?_)
      rw [if_neg (show ¬ ((Value.ref T == Value.none) = true) from by simp)]
      have fin : wpAny (model X.prog X.w) X.A (setFlight (.ref a) X.env.frame) (fun _ s4 => wpAny (model X.prog X.w) X.A (throw (.ref a) : Sem Flow) (SP X pins D) X.xe s4) X.xe { s' with heap := h3 } := by
        rw [hf]
        refine HandSPX.setFlight_upZ fl3' fun h4 hh4 up4 => wpAny_throw (tk _ _ ?_)
        exact ⟨a, B, sI, pins, σ', H', cls, d, rfl, J, nb, (up.trans up3).trans up4, .inr (.inr (by rw [hs]; exact hh4)), na, os, ag, hno rfl⟩
      first
        | exact wpAny_bind (wpAny_pure (wpAny_bind fin))
        | exact wpAny_bind fin
  · cases f with
    | next =>
      obtain ⟨σ', H', J', q⟩ := hsp
      exact wpAny_execs_nil ⟨σ', H', J'.ofTry ok, q⟩
    | brk =>
      obtain ⟨σ', H', J', q⟩ := hsp
      exact ⟨σ', H', J'.ofTry ok, q⟩
    | cont =>
      obtain ⟨σ', H', J', q⟩ := hsp
      exact ⟨σ', H', J'.ofTry ok, q⟩
    | ret u =>
      obtain ⟨v, σ', H', J', r, q⟩ := hsp
      exact ⟨v, σ', H', J'.ofTry ok, r, q⟩
end
end S8
set_option Elab.async false
set_option linter.all false
set_option maxRecDepth 100000
set_option maxHeartbeats 400000
namespace S8
open PySem PySem.Spec PyProof.Rows L2 L2H HotX
section
variable {X : Cx} {CX : CXT} {x f : Str} {e : Expr} {te : TE} {p kp pos : Pos} {C fI : Addr} {k : Nat} {fd : FuncData}
theorem pmk5_kwH (T : OexC X.K C) (hno : PySem.W.findIn X.K (.ref C) f = some none) (iC : PySem.W.findIn X.K (.ref C) "__init__" = some (some (.ref fI))) (tI : PySem.W.typeIn X.K (.ref fI) = some (.type "function"))
    (F1 : FnH X.prog X.w X.K X.mg X.base CX k fI fd ["self", f] (spKwI X.K f)) (hr : RoomH (k + 1) X.A) (hc : HotC X) (hb : ∀ (s : Shared) (a v : Value), BindsTo s fd ⟨[a], [(f, v)]⟩ [("self", a), (f, v)]) (hx : Passes CX X (fun _ _ _ => False))
    (hg : Gl X x) (hm : X.mg x = some (.ref C)) (he : PE X e te) (hdb : (x == ("__debug__" : Str)) = false := by decide)
    (hall : (backToKw pos (keywordEach [⟨some f, e, kp⟩] X.env)).all (·.1.isSome) = true := by rfl) (hks : (backToKw pos (keywordEach [⟨some f, e, kp⟩] X.env)).filterMap (·.1) = [f] := by rfl)
    (hpl : ((backTo pos (starEach [] X.env)).any (·.1) || (backToKw pos (keywordEach [⟨some f, e, kp⟩] X.env)).any (·.1.isNone)) = false := by rfl) :
    PMk5 X (.Call (.Name x p) [] [⟨some f, e, kp⟩] pos) (tMkKw C f te) := by
  intro pins s σ H Q I h
  obtain ⟨pn, hot, hpn⟩ := hc
  obtain ⟨nm, q, N, bs, bm, sn, sub, ab, col, dd, k0, k1, k2, k3, k5, hC, hbm⟩ := T.cls
  refine wpAny_Call_Name_kw (ld_glob I hg hm ?_ hdb)
  refine PySem.W.callWith_KW0 (h₀ := X.base) I.ok.mod.kin T.kC hall ?_ hpl
  refine thn ((pk_cons he pk_nil).run pos pins s σ H _ I (one1_te h)) fun ws s1 ⟨zs, H1, I1, rz, q1⟩ => ⟨I1.kIn, ?_⟩
  rw [hks]
  obtain ⟨v, rfl, q1⟩ := one1_of q1
  obtain ⟨w', rfl, rv⟩ := rz.one
  show wpAny _ _ (call (.ref C) [] [(f, w')]) _ _ _
  obtain ⟨hp, g, dr, tk, os⟩ := s1
  have hsz : hp.objs.size ≤ hp.objs.size + 1 := Nat.le_succ _
  have hn : H1 (hp.objs.size + 1) = none := I1.hok.fresh hsz
  have kk : ∀ b o, hp.get? b = some o → ((hp.push (PySem.W.kdv_tup [])).push (PySem.HandSPX.excO C hp.objs.size)).get? b = some o := fun b o e => Heap.get?_push_of_some _ (Heap.get?_push_of_some _ e)
  have hget : ((hp.push (PySem.W.kdv_tup [])).push (PySem.HandSPX.excO C hp.objs.size)).get? (hp.objs.size + 1) = some (PySem.HandSPX.excO C hp.objs.size) := by heap_get
  have I2 : Inv X pins σ (upd H1 (hp.objs.size + 1) (exo (hp.objs.size + 1) C none)) ⟨(hp.push (PySem.W.kdv_tup [])).push (PySem.HandSPX.excO C hp.objs.size), g, dr, tk, os⟩ :=
    I1.laid (t' := tk) (a := hp.objs.size + 1) (o := exo (hp.objs.size + 1) C none) (h' := (hp.push (PySem.W.kdv_tup [])).push (PySem.HandSPX.excO C hp.objs.size)) kk hsz (exo_ok hget)
  have r2 : Vals [V.ref (hp.objs.size + 1), v] [Value.ref (hp.objs.size + 1), w'] := .cons rfl (.cons rv .nil)
  have hq : spKwI X.K f [V.ref (hp.objs.size + 1), v] (upd H1 (hp.objs.size + 1) (exo (hp.objs.size + 1) C none))
      (fun v' H2 => v' = .non ∧ ∃ d, H2 = upd (upd (upd H1 (hp.objs.size + 1) (exo (hp.objs.size + 1) C none)) d (exd d [(f, v)])) (hp.objs.size + 1) (exo (hp.objs.size + 1) C (some d)) ∧ H1 d = none ∧ d ≠ hp.objs.size + 1) (fun _ _ _ => False) :=
    ⟨hp.objs.size + 1, C, v, rfl, T, hno, upd_same, fun dx n ne => ⟨rfl, dx, rfl, by rw [upd_ne ne] at n; exact n, ne⟩⟩
  have P1 := I2.pin pn (List.mem_append_left _ hpn)
  have hpin : PinOk X.stack (upd H1 (hp.objs.size + 1) (exo (hp.objs.size + 1) C none)) ⟨(hp.push (PySem.W.kdv_tup [])).push (PySem.HandSPX.excO C hp.objs.size), g, dr, tk, os⟩ pn :=
    ⟨P1.1, P1.2.1, fun hmm => (List.mem_cons.mp (I2.stkSub pn.1 hmm)).elim P1.2.2.1 P1.2.2.2.1, P1.2.2.2.2⟩
  refine wpAny_call (PySem.S8X.call_kw F.excBase_ValueError (fun Y => PySem.HandSPX.refsVE_contains Y bm hbm) (I1.kIn _ _ hC) (PySem.W.looks_findIn I1.kIn iC) (fun self => PySem.W.bind_fn I1.kIn self tI) (Nat.zero_le _)
    (codeAny_mono (F1.run _ X.stack _ _ ⟨[Value.ref (hp.objs.size + 1)], [(f, w')]⟩ [Value.ref (hp.objs.size + 1), w'] _ _ (fun _ _ _ => False) pn (hr.make C [] [(f, w')]) ⟨hot.1, hot.2⟩ hpin (I2.env0.make C [] [(f, w')]) (hb _ _ _) r2 hq) fun r s' hq' => ?_))
  cases r with
  | error er => exact hx pins σ _ _ er s' I2 hq'
  | ok fl =>
    cases fl with
    | ret u =>
      obtain ⟨v', H2, os2, bare2, un2, hok2, rv', ev, d, eH, hd1, hda⟩ := hq'
      subst ev
      obtain ⟨h2, g2, d2, t2, os'⟩ := s'
      have ea : H2 (hp.objs.size + 1) = some (exo (hp.objs.size + 1) C (some d)) := by rw [eH, upd_same]
      have ed : H2 d = some (exd d [(f, v)]) := by rw [eH, upd_ne hda, upd_same]
      obtain ⟨t0, G, J, kG, ge, hoe, na⟩ := mk_end0 (d2 := d2) (t2 := t2) I1 hsz kk un2 hok2 os2 bare2 ea ed hd1
      rw [eH, kw_end hn hda] at J na
      refine ⟨rv', ⟨hp.objs.size + 1, _, _, ⟨G, g2, d2, t2, os'⟩, _, .ref C, some d, rfl, J, kG, ge, hoe, ⟨rfl, rfl, fun vs hv => ?_⟩, rfl, rfl, na, rfl, bare2, raises_own T.exC T.tyC, q1 d hd1⟩, fun a oe vs ea2 hg2 hd2 => ?_⟩
      · cases hv
        rfl
      · cases ea2
        have hg3 : h2.get? (hp.objs.size + 1) = some oe := hg2
        rw [hoe] at hg3
        cases hg3
        cases hd2
        show (4 : Nat) < 6
        decide
    | next => exact False.elim hq'
    | brk => exact False.elim hq'
    | cont => exact False.elim hq'
/-- in a context where nothing is handled, and the wish is of any exception -/
theorem L2N_takes {X : Cx} {W : WX} (tk : L2.Takes X W) : L2N.Takes X W := fun u s' ⟨a, B, sI, pins, σ, H, cls, d, e, I, nb, up, sky, na, os, ag, w⟩ => tk u s' ⟨a, B, sI, pins, σ, H, cls, d, e, I, nb, up, by
    rcases sky with ⟨hB, hn, hl, oe, vs, he, hz, hd, h1⟩ | fl | ⟨q1, q2, q3, q4⟩
    · exact .inl ⟨hB, hn, hl, oe, vs, he, hz.zc, hd, h1⟩
    · exact .inr (.inl (flyingZ_imp (fun o z => z.zc) fl))
    · exact .inr (.inr ⟨q1, q2, q3, tracedZ_imp (fun o z => z.zc) q4⟩), na, os, ag, w⟩
theorem PMk_of_N {X : Cx} {e : Expr} {t : L2.St → Hp → XK → Prop} (h : L2N.PMk X e t) : L2.PMk X e t := fun pins s σ H Q I q => thn (h pins s σ H Q I q) fun _ _ ⟨a, oe, vs, sI, H', cls, d, e1, J, k, hne, ha, hz, r⟩ => ⟨a, oe, vs, sI, H', cls, d, e1, J, k, hne, ha, hz.zc, r⟩
end
end S8
set_option Elab.async false
set_option linter.all false
set_option maxRecDepth 100000
set_option maxHeartbeats 400000
namespace S8
open PySem PySem.Spec PyProof.Rows L2 L2H HotX
/-! ### the exception that a suite holds: isinstance, a field; its class and dict are told by the reading -/
def rIsX (K : PySem.W.Frag) (a : Addr) (cls : Value) (d : Option Addr) : List V → Hp → VK → Prop := fun xs H Q => ∃ (D : Addr) (c : V) (cv : Value) (b : Bool), cls = .ref D ∧ ExcC K D ∧ (d = none ∨ ∃ dd fs, d = some dd ∧ H dd = some (.xd fs)) ∧
  xs = [.ref a, c] ∧ (∀ u, RelV c u → u = cv) ∧ PySem.W.kitOne K (.ref D) cv = some b ∧ Q (.bl b) H
def tXfV (K : PySem.W.Frag) (a : Addr) (cls : Value) (d : Option Addr) (f : Str) (te : TE) : TE := fun σ H Q => te σ H fun x H1 => x = .ref a ∧ ∃ (C dd : Addr) (fs : List (Str × V)) (v : V), cls = .ref C ∧ XfC K C ∧ PySem.W.findIn K (.ref C) f = some none ∧ d = some dd ∧ H1 dd = some (.xd fs) ∧ fs.lookup f = some v ∧ Q v H1
section
variable {X : Cx} {a : Addr} {oe : Obj} {cls : Value} {d : Option Addr} {pn : List (Addr × Obj)}
theorem call_isX (hz : Zc cls d oe) (hf : ∃ vs, oe.data = .fields vs) : CallR (X.suite a ((a, oe) :: pn)) (.builtin "isinstance") (rIsX X.K a cls d) := by
  intro pins s σ H xs us Q I r h
  obtain ⟨D, c, cv, b, rfl, C, hd, rfl, hcv, e, q⟩ := h
  cases r with
  | cons rx rr =>
    cases rr with
    | cons rt rr =>
      cases rr
      cases rx
      have ec := hcv _ rt
      subst ec
      obtain ⟨hget, _⟩ := I.pin (a, oe) (List.mem_append.mpr (.inl List.mem_cons_self))
      obtain ⟨vs, hv⟩ := hf
      have hcl : (PySem.W.clsIn X.K D).isSome = true := by
        obtain ⟨cd, hc, _⟩ := PySem.W.any_some C.hd
        rw [hc]
        rfl
      have J : ∃ od, PySem.W.InstAt s.heap a oe D od := by
        obtain ⟨oc, od, oda, osl⟩ := oe
        obtain ⟨h1, h2⟩ := hz
        dsimp only at h1 h2 hv
        subst h1 h2 hv
        rcases hd with rfl | ⟨dd, fs, rfl, hd⟩
        · exact ⟨none, hget, rfl, rfl, trivial⟩
        · obtain ⟨o, ho⟩ := objOk_get (I.hok dd _ hd)
          exact ⟨some o, hget, rfl, rfl, ho⟩
      obtain ⟨od, J⟩ := J
      exact PySem.W.kia_one (PySem.W.kitx_exc hcl C.hg C.hk C.hs C.ha C.hn C.ht C.hm) I.kIn J e (fun z => nomatch z) fun tk => ⟨.bl b, H, I.kept (t' := tk) fun _ _ z => z, rfl, q⟩
theorem pe_xfV {e : Expr} {te : TE} {pos : Pos} {n : Str} (hz : Zc cls d oe) (hf : ∃ vs, oe.data = .fields vs) (he : PE (X.suite a ((a, oe) :: pn)) e te) (hb : attributeBase e n X.env (eval e X.env) = eval e X.env := by rfl) :
    PE (X.suite a ((a, oe) :: pn)) (.Attribute e n pos) (tXfV X.K a cls d n te) := by
  refine ⟨fun pins s σ H Q I h => ?_⟩
  refine attr_of hb (thn (he.run pins s σ H _ I h) fun u s1 hh => ?_)
  obtain ⟨x, H1, I1, rx, ex, C, dd, fs, v, ec, T, hno, ed, ea, l, q⟩ := hh
  subst ex
  obtain rfl : u = Value.ref a := rx
  subst ec
  subst ed
  obtain ⟨ha, _⟩ := I1.pin (a, oe) (List.mem_append_left _ List.mem_cons_self)
  obtain ⟨vs, hd⟩ := hf
  have hx : ObjOk X.prog X.w H1 s1.heap dd (.xd fs) := I1.hok dd _ ea
  obtain ⟨mA, hns, hr⟩ := hx
  obtain ⟨od, ho, hl⟩ := lookIn_ns hns
  obtain ⟨u, hu, ru⟩ := RelO.some_of (v := v) (o := mA n) (by rw [← l]; exact hr n)
  have J : PySem.W.InstAt s1.heap a oe C (some od) := ⟨ha, hz.1, by unfold PySem.W.notCls; rw [hd] <;> rfl, by rw [hz.2]; exact ho⟩
  exact HandSPX.exc_get I1.kIn J T.ga T.gg T.exC (PySem.W.findObj_own T.hdC hno rfl (by rw [hl, hu])) (handed_of ru) ⟨v, H1, I1.tok _, ru, q⟩
end
end S8
set_option Elab.async false
set_option linter.all false
set_option maxRecDepth 100000
set_option maxHeartbeats 1000000
namespace S8
open PySem PySem.Spec PyProof.Rows L2
open AutoSeq1 (wpAny_loadPart')
/-! ### enumerate(x), x a list, a tuple, a text -/
theorem meets_enumerate_newB1 {v : Value} {o : Obj} {H : Heap → Prop} (B : Begins v o H) :
    Meets (Builtin.«enumerate.__new__» ⟨[.type "enumerate", v], []⟩) (fun _ R s => H s.heap ∧
      R (.ok (.ret (.ref (s.heap.push o).objs.size))) { s with heap := (s.heap.push o).push { cls := .type "enumerate", data := .fields #[.none, .bool false, .ref s.heap.objs.size, rawInt 0, .none, .none] } }) :=
  .of_wp fun prog w A R s h => by
    obtain ⟨hp, g, d, tk, os⟩ := s; obtain ⟨h1, h⟩ := h
    have hsub := sub_enumerate
    have q1 : ∀ {A' : Around} {E : Value → Shared → Prop} {Q : Value → Shared → Prop}, Q (.ref hp.objs.size) ⟨hp.push o, g, d, tk, os⟩ → wpAny (model prog w) A' (pyIter v) Q E ⟨hp, g, d, tk, os⟩ :=
      fun q => B.iter prog w _ _ ⟨hp, g, d, tk, os⟩ _ h1 q
    wp_walk using q1
    refine wpAny_stack_any fun st => wpAny_pure ?_
    split
    · rename_i c _ _ _ _ _
      cases (c == Value.type "enumerate")
      · wp_walk using q1
        exact ⟨_, rfl, h⟩
      · wp_walk using q1
        exact ⟨_, rfl, h⟩
    · wp_walk using q1
      exact ⟨_, rfl, h⟩
theorem enum_begins1 {prog : Program} {w : World} {A : Around} {E : Value → Shared → Prop} {s : Shared} {v : Value} {o : Obj} {H : Heap → Prop} {Q : Value → Shared → Prop} (B : Begins v o H) (h1 : H s.heap)
    (h : ∀ h', IsEnum h' (s.heap.objs.size + 1) s.heap.objs.size 0 .none → h'.get? s.heap.objs.size = some o → h'.objs.size = s.heap.objs.size + 2 →
      (∀ b o, s.heap.get? b = some o → h'.get? b = some o) → Q (.ref (s.heap.objs.size + 1)) { s with heap := h' }) :
    wpAny (model prog w) A (call (.type "enumerate") [v]) Q E s := by
  refine callType_new F.called_enumerate (by decide) (F.typeCall_enumerate_1 _) (F.newCall_enumerate_1 _) (fun obj => F.args_object_init_2 obj _) F.entry_enumerate_new (meets_enumerate_newB1 B) ⟨h1, ?_⟩
  have hz : (s.heap.push o).objs.size = s.heap.objs.size + 1 := Heap.size_push ..
  show _ ∧ _
  rw [hz]
  have he : IsEnum ((s.heap.push o).push { cls := .type "enumerate", data := .fields #[.none, .bool false, .ref s.heap.objs.size, rawInt 0, .none, .none] }) (s.heap.objs.size + 1) s.heap.objs.size 0 .none := by
    have := Heap.get?_push_size (s.heap.push o) (o := { cls := .type "enumerate", data := .fields #[.none, .bool false, .ref s.heap.objs.size, rawInt 0, .none, .none] }) rfl
    rw [hz] at this; exact this
  refine ⟨⟨_, he, rfl⟩, h _ he (Heap.get?_push_of_some _ (Heap.get?_push_size _ B.free)) (by rw [Heap.size_push, hz]) fun b o x => Heap.get?_push_of_some _ (Heap.get?_push_of_some _ x)⟩
def Itek (K : PySem.W.Frag) (k : Kd) : It :=
  ⟨fun i H => ∃ (xs : List V) (x : V), k.src K H xs ∧ xs[i]? = some x, fun i H v H' => ∃ T x, v = .ref T ∧ H T = none ∧ H' = upd H T (.tup [.int (i : Nat), x]) ∧ ∀ xs, k.src K H xs → xs[i]? = some x, fun i H => ∃ xs : List V, k.src K H xs ∧ xs.length = i⟩
theorem turn_enumk {P : Program} {w : World} {K : PySem.W.Frag} {elts : List Expr} {kk : Nat} {tpos : Pos} (k : Kd) (e it : Addr) :
    Turn P w K (.Tuple elts kk tpos) (Itek K k) [e, it] e (fun i h => (∃ old, IsEnum h e it ((i : Nat) : Int) old) ∧ k.cell it i h ∧ e ≠ it) where
  mem := by simp
  obj := fun i h st b hb => by
    obtain ⟨⟨old, he⟩, hc, _⟩ := st
    obtain ⟨o, vs, ho, hd⟩ := Kd.obj hc
    have e' : b = e ∨ b = it := by simpa using hb
    rcases e' with z | z
    · rw [z]; exact ⟨_, he, fun v q => nomatch q⟩
    · rw [z]; exact ⟨o, ho, fun v q => by rw [hd] at q; cases q⟩
  keep := fun i h h' st k' => let ⟨⟨old, he⟩, hi, hne⟩ := st; ⟨⟨old, k' e (by simp) _ he⟩, Kd.keep hi fun o q => k' it (by simp) o q, hne⟩
  item := by
    intro X hP hw hK hc i pins s σ H E I hf st hg
    subst hP hw hK
    obtain ⟨⟨old, he⟩, hit, hne⟩ := st
    obtain ⟨xs, x, hq, hx⟩ := hg
    have hel : e < s.heap.objs.size := Heap.lt_size he
    have hil : it < s.heap.objs.size := by obtain ⟨_, _, q, _⟩ := Kd.obj hit; exact Heap.lt_size q
    obtain ⟨fp, P', St', D, hst, hif, hst', hP', hfp⟩ := Kd.draws (A := X.A.in1) I hq hit (I.ok.hd hc)
    have hef : e ∉ fp := fun z => by
      rcases hfp e z with y | y
      · exact hne y
      · exact Kd.src_ne I hq (hf e (by simp)) y
    have hlt : i < xs.length := (List.getElem?_eq_some_iff.mp hx).1
    refine wpAny_pyNext_enum_itemC D he hst hlt hne hef fun u h' tk hPu ho hs' hT hsz hk => ?_
    obtain ⟨x', hx', ru⟩ := hP' i u hPu
    rw [hx] at hx'
    cases hx'
    refine ⟨_, rfl, wpAny_letOwnedTupleGo_enum (s := { s with heap := h', toks := tk + 1 }) ho fun h'' he' sb => ?_⟩
    have hT2 : h''.get? s.heap.objs.size = some { cls := .type "tuple", data := .seq #[.int i tk, u] } := (sb.2 _ (Nat.ne_of_gt hel)).trans hT
    have new : ObjOk X.prog X.w (upd H s.heap.objs.size (.tup [.int (i : Nat), x])) h'' s.heap.objs.size (.tup [.int (i : Nat), x]) :=
      ⟨by show 2 ≤ sizeLine; decide, [.int i tk, u], .cons ⟨_, rfl⟩ (.cons ru .nil), ⟨_, hT2, rfl, _, rfl⟩⟩
    have I1 : Inv X pins σ (upd H s.heap.objs.size (.tup [.int (i : Nat), x])) { s with heap := h'', toks := tk + 1 } :=
      I.turnedNew (ch := [e, it]) (fun b ob hb q => (sb.2 b (fun z => hb (by simp [z]))).trans (hk b ob (fun z => hb (by simp [z])) (fun z => hb (by simp [z])) q)) hf (Nat.le_refl _) new
    refine ⟨.ref s.heap.objs.size, _, I1, rfl, ⟨_, x, rfl, I.hok.fresh (Nat.le_refl _), rfl, fun ys hy => by rw [Kd.inj I hy hq]; exact hx⟩, ⟨⟨u, ?_⟩, Kd.keep (hst' _ hs') fun o q => (sb.2 it (Ne.symm hne)).trans q, hne⟩, fun b hb => ?_⟩
    · have e1 : ((i + 1 : Nat) : Int) = (i : Int) + 1 := by omega
      rw [e1]; exact he'
    · have hb' : b < s.heap.objs.size := by
        have e' : b = e ∨ b = it := by simpa using hb
        rcases e' with z | z
        · rw [z]; exact hel
        · rw [z]; exact hil
      rw [upd_ne (Nat.ne_of_lt hb')]
      exact (hf b hb).1
  done := by
    intro X hP hw hK hc i pins s σ H E I hf st hg
    subst hP hw hK
    obtain ⟨⟨old, he⟩, hit, hne⟩ := st
    obtain ⟨xs, hq, hx⟩ := hg
    obtain ⟨f0, f1, f2, f3, f4, f5⟩ := hf it (by simp)
    obtain ⟨fp, P', St', D, hst, hif, hst', hP', hfp⟩ := Kd.draws (A := X.A.in1) I hq hit (I.ok.hd hc)
    subst hx
    exact wpAny_pyNext_enum_endD D he hst fun h' eb => ⟨rfl, I.turned (t' := s.toks) (fun b o hb q => eb b o hb q) f0 f1 f3 f4 f5⟩
  self := fun A i s Q E st h => let ⟨⟨_, he⟩, _⟩ := st; wpAny_pyIter_enum he h
def iEnumk (K : PySem.W.Frag) (ta : TA) : TI := fun σ H R => ta σ H fun vs H1 => ∃ (k : Kd) (xs : List V), vs = [k.v] ∧ k.src K H1 xs ∧ R (Itek K k) H1
theorem pi_enumk {X : Cx} {e : Expr} {ta : TA} {p pos tpos : Pos} {elts : List Expr} {kk : Nat} (hg : Gl X "enumerate") (hm : X.mg "enumerate" = none) (ha : PA X [e] ta) (hs : starEach [e] X.env = [(false, eval e X.env)] := by rfl) :
    PI X (.Tuple elts kk tpos) (.Call (.Name "enumerate" p) [e] [] pos) (iEnumk X.K ta) := by
  refine ⟨fun pins s σ H R I h => ?_⟩
  refine Call_ (ld_blt I hg hm boot_enumerate (PyProof.Rows.callWith_type1 (thn (ha.run pos pins s σ H _ I h) fun us s1 ⟨vs, H1, I1, r1, q1⟩ => ?_) hs rfl))
  obtain ⟨k, xs, ex, hq, q⟩ := q1
  subst ex
  obtain ⟨u, rfl, r⟩ := r1.one
  obtain ⟨o, Hb, B, hb, hc⟩ := Kd.begins I1 hq r
  refine enum_begins1 B hb fun h' he ho hsz hk => wpAny_pyIter_enum he ?_
  have I2 : Inv X pins σ H1 { s1 with heap := h' } := I1.kept (t' := s1.toks) hk
  refine ⟨s1.heap.objs.size + 1, [s1.heap.objs.size + 1, s1.heap.objs.size], _, _, H1, rfl, I2, turn_enumk k (s1.heap.objs.size + 1) s1.heap.objs.size, ⟨⟨.none, he⟩, hc _ _ ho, Nat.succ_ne_self _⟩, fun b hb => ?_, q⟩
  have e' : b = s1.heap.objs.size + 1 ∨ b = s1.heap.objs.size := by simpa using hb
  have hle : s1.heap.objs.size ≤ b := by
    rcases e' with z | z
    · rw [z]; exact Nat.le_add_right _ _
    · rw [z]; exact Nat.le_refl _
  exact I1.fpOk hle (I1.hok.fresh hle)
theorem for_enumk {K : PySem.W.Frag} {k : Kd} {xs : List V} {g : TG} {tb : TS} {D : Ends} {σ : L2.St} {H : Hp} (Pv : Nat → L2.St → Hp → Prop) (h0 : Pv 0 σ H) (hq : ∀ i σ H, Pv i σ H → k.src K H xs)
    (hs : ∀ (i : Nat) (x : V) (T : Addr) (σ : L2.St) (H : Hp), xs[i]? = some x → Pv i σ H → H T = none → g (.ref T) σ (upd H T (.tup [.int (i : Nat), x])) fun σ2 H2 => tb { D with nx := Pv (i + 1), ct := Pv (i + 1), bk := D.nx } σ2 H2) (hd : ∀ σ H, Pv xs.length σ H → D.nx σ H) :
    ∃ W : Nat → Nat → L2.St → Hp → Prop, (∃ m, W 0 m σ H) ∧ ∀ i m σ H, W i m σ H →
      ((Itek K k).stop i H ∧ D.nx σ H) ∨ ((Itek K k).go i H ∧ ∃ N : L2.St → Hp → Prop, (∀ σ' H', N σ' H' → ∃ m', m' < m ∧ W (i + 1) m' σ' H') ∧ ∀ v H', (Itek K k).yld i H v H' → g v σ H' fun σ2 H2 => tb { D with nx := N, ct := N, bk := D.nx } σ2 H2) := by
  refine ⟨fun i m σ H => m = xs.length - i ∧ i ≤ xs.length ∧ Pv i σ H, ⟨xs.length, rfl, Nat.zero_le _, h0⟩, ?_⟩
  rintro i m σ H ⟨rfl, hi, p⟩
  have qx := hq i σ H p
  by_cases hlt : i < xs.length
  · have hx : xs[i]? = some xs[i] := List.getElem?_eq_getElem hlt
    refine .inr ⟨⟨xs, _, qx, hx⟩, Pv (i + 1), fun σ' H' p' => ⟨xs.length - (i + 1), by omega, rfl, hlt, p'⟩, fun v H' y => ?_⟩
    obtain ⟨T, x', rfl, hT, rfl, f1⟩ := y
    exact hs i x' T σ H (f1 xs qx) p hT
  · have e : i = xs.length := by omega
    subst e
    exact .inl ⟨⟨xs, qx, rfl⟩, hd σ H p⟩
end S8
set_option Elab.async false
set_option linter.all false
set_option maxRecDepth 100000
set_option maxHeartbeats 1000000
namespace S8
open PySem PySem.Spec PyProof.Rows L2
/-! ### zip(x, y), each a list, a tuple, a text -/
def Itzk (K : PySem.W.Frag) (k1 k2 : Kd) : It :=
  ⟨fun i H => ∃ (xs ys : List V) (x y : V), k1.src K H xs ∧ k2.src K H ys ∧ xs[i]? = some x ∧ ys[i]? = some y,
    fun i H v H' => ∃ T x y, v = .ref T ∧ H T = none ∧ H' = upd H T (.tup [x, y]) ∧ (∀ xs, k1.src K H xs → xs[i]? = some x) ∧ ∀ ys, k2.src K H ys → ys[i]? = some y,
    fun i H => ∃ xs ys : List V, k1.src K H xs ∧ k2.src K H ys ∧ i ≤ xs.length ∧ i ≤ ys.length ∧ (xs.length = i ∨ ys.length = i)⟩
structure Five (z TI TO i1 i2 : Addr) : Prop where
  TIz : TI ≠ z
  TOz : TO ≠ z
  TITO : TI ≠ TO
  TIi1 : TI ≠ i1
  TIi2 : TI ≠ i2
  zi1 : z ≠ i1
  zi2 : z ≠ i2
  TOi1 : TO ≠ i1
  TOi2 : TO ≠ i2
  i12 : i1 ≠ i2
theorem sep_of {X : Cx} {pins : List (Addr × Obj)} {σ : L2.St} {H : Hp} {s : Shared} {z TI TO i1 i2 : Addr} {k1 k2 : Kd} {xs ys : List V} {fp1 fp2 : List Addr} (F5 : Five z TI TO i1 i2) (I : Inv X pins σ H s) (hf : ∀ b ∈ [z, TI, TO, i1, i2], FpOk X pins H b) (q1 : k1.src X.K H xs) (q2 : k2.src X.K H ys)
    (m1 : i1 ∈ fp1) (m2 : i2 ∈ fp2) (h1 : ∀ b ∈ fp1, b = i1 ∨ k1.adr = some b) (h2 : ∀ b ∈ fp2, b = i2 ∨ k2.adr = some b) : ZipSep2 z TI TO i1 i2 fp1 fp2 := by
  have n1 : ∀ c ∈ [z, TI, TO, i1, i2], c ≠ i1 → c ∉ fp1 := fun c hc hn hm => (h1 c hm).elim hn fun e => Kd.src_ne I q1 (hf c hc) e
  have n2 : ∀ c ∈ [z, TI, TO, i1, i2], c ≠ i2 → c ∉ fp2 := fun c hc hn hm => (h2 c hm).elim hn fun e => Kd.src_ne I q2 (hf c hc) e
  have zf1 := n1 z (by simp) F5.zi1
  have Tf1 := n1 TO (by simp) F5.TOi1
  have zf2 := n2 z (by simp) F5.zi2
  have Tf2 := n2 TO (by simp) F5.TOi2
  exact ⟨F5.TIz, F5.TOz, F5.TITO, F5.TIi1, m1, zf1, Tf1, F5.TIi2, m2, zf2, Tf2, n2 i1 (by simp) F5.i12, n1 i2 (by simp) (Ne.symm F5.i12)⟩
theorem turn_zipk {P : Program} {w : World} {K : PySem.W.Frag} {elts : List Expr} {kk : Nat} {tpos : Pos} (k1 k2 : Kd) {z TI TO i1 i2 : Addr} (F5 : Five z TI TO i1 i2) :
    Turn P w K (.Tuple elts kk tpos) (Itzk K k1 k2) [z, TI, TO, i1, i2] z (fun i h => IsZip h z TI TO .none ∧ IsTupOf2 h TI (.ref i1) (.ref i2) ∧ (∃ x y, IsTupOf2 h TO x y) ∧ k1.cell i1 i h ∧ k2.cell i2 i h) where
  mem := by simp
  obj := fun i h st c hc => by
    obtain ⟨hz, hTI, ⟨x, y, hTO⟩, c1, c2⟩ := st
    obtain ⟨o1, v1, e1, d1⟩ := Kd.obj c1
    obtain ⟨o2, v2, e2, d2⟩ := Kd.obj c2
    have e' : c = z ∨ c = TI ∨ c = TO ∨ c = i1 ∨ c = i2 := by simpa using hc
    rcases e' with q | q | q | q | q
    · rw [q]; exact ⟨_, hz, fun v q => nomatch q⟩
    · rw [q]; exact ⟨_, hTI, fun v q => nomatch q⟩
    · rw [q]; exact ⟨_, hTO, fun v q => nomatch q⟩
    · rw [q]; exact ⟨o1, e1, fun v q => by rw [d1] at q; cases q⟩
    · rw [q]; exact ⟨o2, e2, fun v q => by rw [d2] at q; cases q⟩
  keep := fun i h h' st k => by
    obtain ⟨hz, hTI, ⟨x, y, hTO⟩, c1, c2⟩ := st
    exact ⟨k z (by simp) _ hz, k TI (by simp) _ hTI, ⟨x, y, k TO (by simp) _ hTO⟩, Kd.keep c1 fun o q => k i1 (by simp) o q, Kd.keep c2 fun o q => k i2 (by simp) o q⟩
  item := by
    intro X hP hw hK hc i pins s σ H E I hf st hg
    subst hP hw hK
    obtain ⟨hz, hTI, ⟨x0, y0, hTO⟩, c1, c2⟩ := st
    obtain ⟨xs, ys, x, y, hqx, hqy, hx, hy⟩ := hg
    obtain ⟨fp1, P1, St1, D1, st1, m1, st1', hP1, hfp1⟩ := Kd.draws (A := X.A.in1) I hqx c1 (I.ok.hd hc)
    obtain ⟨fp2, P2, St2, D2, st2, m2, st2', hP2, hfp2⟩ := Kd.draws (A := X.A.in1) I hqy c2 (I.ok.hd hc)
    have S := sep_of F5 I hf hqx hqy m1 m2 hfp1 hfp2
    have hlt1 : i < xs.length := (List.getElem?_eq_some_iff.mp hx).1
    have hlt2 : i < ys.length := (List.getElem?_eq_some_iff.mp hy).1
    have hzl : z < s.heap.objs.size := Heap.lt_size hz
    refine wpAny_pyNext_zipD2_item S D1 D2 hz hTI hTO st1 st2 hlt1 hlt2 fun u u2 h' tk y1 y2 b1 b2 d1 d2 hT hsz hk => ?_
    obtain ⟨x', hx', ru⟩ := hP1 i u y1
    rw [hx] at hx'
    cases hx'
    obtain ⟨x', hx', ru2⟩ := hP2 i u2 y2
    rw [hy] at hx'
    cases hx'
    refine ⟨_, rfl, wpAny_letOwnedTupleGo_zip (s := { s with heap := h', toks := tk }) b1 fun h'' z'' sb => ?_⟩
    have hT2 : h''.get? s.heap.objs.size = some { cls := .type "tuple", data := .seq #[u, u2] } := (sb.2 _ (Nat.ne_of_gt hzl)).trans hT
    have new : ObjOk X.prog X.w (upd H s.heap.objs.size (.tup [x, y])) h'' s.heap.objs.size (.tup [x, y]) :=
      ⟨by show 2 ≤ sizeLine; decide, [u, u2], .cons ru (.cons ru2 .nil), ⟨_, hT2, rfl, _, rfl⟩⟩
    have I1 : Inv X pins σ (upd H s.heap.objs.size (.tup [x, y])) { s with heap := h'', toks := tk } :=
      I.turnedNew (t' := tk) (ch := [z, TI, TO, i1, i2]) (fun c o hb q => (sb.2 c (fun q' => hb (by simp [q']))).trans (hk c o (fun q' => hb (by simp [q'])) (fun q' => hb (by simp [q'])) (fun q' => hb (by simp [q'])) (fun q' => hb (by simp [q'])) q)) hf (Nat.le_refl _) new
    refine ⟨.ref s.heap.objs.size, _, I1, rfl, ⟨_, x, y, rfl, I.hok.fresh (Nat.le_refl _), rfl, fun l hl => by rw [Kd.inj I hl hqx]; exact hx, fun l hl => by rw [Kd.inj I hl hqy]; exact hy⟩, ⟨z'', ?_, ⟨u, u2, ?_⟩, ?_, ?_⟩, fun c hcm => ?_⟩
    · exact (sb.2 _ F5.TIz).trans (hk _ _ F5.TIz F5.TITO F5.TIi1 F5.TIi2 hTI)
    · exact (sb.2 _ F5.TOz).trans b2
    · exact Kd.keep (st1' _ d1) fun o q => (sb.2 _ (Ne.symm F5.zi1)).trans q
    · exact Kd.keep (st2' _ d2) fun o q => (sb.2 _ (Ne.symm F5.zi2)).trans q
    · have hlt : c < s.heap.objs.size := by
        have e' : c = z ∨ c = TI ∨ c = TO ∨ c = i1 ∨ c = i2 := by simpa using hcm
        rcases e' with q | q | q | q | q
        · rw [q]; exact hzl
        · rw [q]; exact Heap.lt_size hTI
        · rw [q]; exact Heap.lt_size hTO
        · rw [q]; obtain ⟨_, _, e1, _⟩ := Kd.obj c1; exact Heap.lt_size e1
        · rw [q]; obtain ⟨_, _, e2, _⟩ := Kd.obj c2; exact Heap.lt_size e2
      rw [upd_ne (Nat.ne_of_lt hlt)]
      exact (hf c hcm).1
  done := by
    intro X hP hw hK hc i pins s σ H E I hf st hg
    subst hP hw hK
    obtain ⟨hz, hTI, ⟨x0, y0, hTO⟩, c1, c2⟩ := st
    obtain ⟨xs, ys, hqx, hqy, l1, l2, hend⟩ := hg
    obtain ⟨fp1, P1, St1, D1, st1, m1, st1', hP1, hfp1⟩ := Kd.draws (A := X.A.in1) I hqx c1 (I.ok.hd hc)
    obtain ⟨fp2, P2, St2, D2, st2, m2, st2', hP2, hfp2⟩ := Kd.draws (A := X.A.in1) I hqy c2 (I.ok.hd hc)
    have S := sep_of F5 I hf hqx hqy m1 m2 hfp1 hfp2
    exact wpAny_pyNext_zipD2_end S D1 D2 hz hTI hTO st1 st2 l1 l2 (hend.elim (fun e => .inl e.symm) fun e => .inr e.symm) fun h' tk hk => ⟨rfl, I.turnedL (t' := tk) (ch := [z, TI, TO, i1, i2]) (fun c o hb q =>
      hk c o (fun q' => hb (by simp [q'])) (fun q' => hb (by simp [q'])) (fun q' => hb (by simp [q'])) (fun q' => hb (by simp [q'])) q) hf⟩
  self := fun A i s Q E st h => wpAny_pyIter_zip st.1 h
theorem five_new (N : Nat) : Five (N + 4) (N + 2) (N + 3) N (N + 1) :=
  ⟨show (N + 2 : Nat) ≠ N + 4 by omega, show (N + 3 : Nat) ≠ N + 4 by omega, show (N + 2 : Nat) ≠ N + 3 by omega, show (N + 2 : Nat) ≠ N by omega, show (N + 2 : Nat) ≠ N + 1 by omega, show (N + 4 : Nat) ≠ N by omega, show (N + 4 : Nat) ≠ N + 1 by omega, show (N + 3 : Nat) ≠ N by omega, show (N + 3 : Nat) ≠ N + 1 by omega, show N ≠ (N + 1 : Nat) by omega⟩
def iZipk (K : PySem.W.Frag) (ta : TA) : TI := fun σ H R => ta σ H fun vs H1 => ∃ (k1 k2 : Kd) (xs ys : List V), vs = [k1.v, k2.v] ∧ k1.src K H1 xs ∧ k2.src K H1 ys ∧ R (Itzk K k1 k2) H1
theorem pi_zipk {X : Cx} {e e2 : Expr} {ta : TA} {p pos tpos : Pos} {elts : List Expr} {kk : Nat} (hg : Gl X "zip") (hm : X.mg "zip" = none) (ha : PA X [e, e2] ta)
    (hs : starEach [e, e2] X.env = (false, eval e X.env) :: starEach [e2] X.env := by rfl) (hpl : (backTo pos (starEach [e2] X.env)).any (·.1) = false := by rfl) :
    PI X (.Tuple elts kk tpos) (.Call (.Name "zip" p) [e, e2] [] pos) (iZipk X.K ta) := by
  refine ⟨fun pins s σ H R I h => ?_⟩
  refine Call_ (ld_blt I hg hm PyProof.Rows.boot_zip (PyProof.Rows.callWith_type1 (thn (ha.run pos pins s σ H _ I h) fun us s1 ⟨vs, H1, I1, r1, q1⟩ => ?_) hs hpl))
  obtain ⟨k1, k2, xs, ys, ex, hqx, hqy, q⟩ := q1
  subst ex
  cases r1 with
  | cons r rr =>
    cases rr with
    | cons r' rr =>
      cases rr
      obtain ⟨o1, Hb1, B1, hb1, hc1⟩ := Kd.begins I1 hqx r
      obtain ⟨o2, Hb2, B2, hb2, hc2⟩ := Kd.begins I1 hqy r'
      refine zip_begins2 B1 B2 hb1 hb2 fun h' hz hTI hTO g1 g2 hsz hk => wpAny_pyIter_zip hz ?_
      have I2 : Inv X pins σ H1 { s1 with heap := h' } := I1.kept (t' := s1.toks) hk
      refine ⟨s1.heap.objs.size + 4, [s1.heap.objs.size + 4, s1.heap.objs.size + 2, s1.heap.objs.size + 3, s1.heap.objs.size, s1.heap.objs.size + 1], _, _, H1, rfl, I2, turn_zipk k1 k2 (five_new s1.heap.objs.size), ⟨hz, hTI, ⟨_, _, hTO⟩, hc1 _ _ g1, hc2 _ _ g2⟩, fun c hcm => ?_, q⟩
      have e' : c = s1.heap.objs.size + 4 ∨ c = s1.heap.objs.size + 2 ∨ c = s1.heap.objs.size + 3 ∨ c = s1.heap.objs.size ∨ c = s1.heap.objs.size + 1 := by simpa using hcm
      have hle : s1.heap.objs.size ≤ c := by
        rcases e' with z | z | z | z | z
        · rw [z]; exact Nat.le_add_right _ _
        · rw [z]; exact Nat.le_add_right _ _
        · rw [z]; exact Nat.le_add_right _ _
        · rw [z]; exact Nat.le_refl _
        · rw [z]; exact Nat.le_add_right _ _
      exact I1.fpOk hle (I1.hok.fresh hle)
/-- a loop over zip of two of one length -/
theorem for_zipk {K : PySem.W.Frag} {k1 k2 : Kd} {xs ys : List V} {g : TG} {tb : TS} {D : Ends} {σ : L2.St} {H : Hp} (hl : xs.length = ys.length) (Pv : Nat → L2.St → Hp → Prop) (h0 : Pv 0 σ H) (hq : ∀ i σ H, Pv i σ H → k1.src K H xs ∧ k2.src K H ys)
    (hs : ∀ (i : Nat) (x y : V) (T : Addr) (σ : L2.St) (H : Hp), xs[i]? = some x → ys[i]? = some y → Pv i σ H → H T = none → g (.ref T) σ (upd H T (.tup [x, y])) fun σ2 H2 => tb { D with nx := Pv (i + 1), ct := Pv (i + 1), bk := D.nx } σ2 H2) (hd : ∀ σ H, Pv xs.length σ H → D.nx σ H) :
    ∃ W : Nat → Nat → L2.St → Hp → Prop, (∃ m, W 0 m σ H) ∧ ∀ i m σ H, W i m σ H →
      ((Itzk K k1 k2).stop i H ∧ D.nx σ H) ∨ ((Itzk K k1 k2).go i H ∧ ∃ N : L2.St → Hp → Prop, (∀ σ' H', N σ' H' → ∃ m', m' < m ∧ W (i + 1) m' σ' H') ∧ ∀ v H', (Itzk K k1 k2).yld i H v H' → g v σ H' fun σ2 H2 => tb { D with nx := N, ct := N, bk := D.nx } σ2 H2) := by
  refine ⟨fun i m σ H => m = xs.length - i ∧ i ≤ xs.length ∧ Pv i σ H, ⟨xs.length, rfl, Nat.zero_le _, h0⟩, ?_⟩
  rintro i m σ H ⟨rfl, hi, p⟩
  obtain ⟨qx, qy⟩ := hq i σ H p
  by_cases hlt : i < xs.length
  · have hx : xs[i]? = some xs[i] := List.getElem?_eq_getElem hlt
    have hlt2 : i < ys.length := by omega
    have hy : ys[i]? = some ys[i] := List.getElem?_eq_getElem hlt2
    refine .inr ⟨⟨xs, ys, _, _, qx, qy, hx, hy⟩, Pv (i + 1), fun σ' H' p' => ⟨xs.length - (i + 1), by omega, rfl, hlt, p'⟩, fun v H' y => ?_⟩
    obtain ⟨T, x', y', rfl, hT, rfl, f1, f2⟩ := y
    exact hs i x' y' T σ H (f1 xs qx) (f2 ys qy) p hT
  · have e : i = xs.length := by omega
    subst e
    exact .inl ⟨⟨xs, ys, qx, qy, Nat.le_refl _, by omega, Or.inl rfl⟩, hd σ H p⟩
end S8
set_option Elab.async false
set_option linter.all false
set_option maxRecDepth 100000
set_option maxHeartbeats 1000000
namespace PySem
open PySem.W
/-! ### zip over three, its tuple held -/
section
variable {prog : Program} {w : World} {A : Around} {E : Value → Shared → Prop} {s : Shared} {z TI TO T i1 i2 i3 : Addr} {fp1 fp2 fp3 : List Addr} {n1 n2 n3 i : Nat} {P1 P2 P3 : Nat → Value → Prop} {St1 St2 St3 : Nat → Heap → Prop} {f : Bool} {oT : Obj}
theorem zipD3_held_item {Q : Value → Shared → Prop} (S : ZipSep3 z TI TO i1 i2 i3 fp1 fp2 fp3) (D1 : Draws prog w A i1 fp1 n1 P1 St1) (D2 : Draws prog w A i2 fp2 n2 P2 St2) (D3 : Draws prog w A i3 fp3 n3 P3 St3)
    (hz : IsZipHeld s.heap z TI TO T f) (hT : s.heap.get? T = some oT) (hTI : IsTupOf3 s.heap TI (.ref i1) (.ref i2) (.ref i3)) (st1 : St1 i s.heap) (st2 : St2 i s.heap) (st3 : St3 i s.heap) (hlt1 : i < n1) (hlt2 : i < n2) (hlt3 : i < n3)
    (hQ : ∀ x1 x2 x3 h' tk, P1 i x1 → P2 i x2 → P3 i x3 → IsZipHeld h' z TI TO T true → St1 (i + 1) h' → St2 (i + 1) h' → St3 (i + 1) h' → IsTupOf3 h' s.heap.objs.size x1 x2 x3 → h'.objs.size = s.heap.objs.size + 1 →
      (∀ c o, c ≠ z → c ≠ i1 → c ≠ i2 → c ≠ i3 → s.heap.get? c = some o → h'.get? c = some o) → Q (.ref s.heap.objs.size) { s with heap := h', toks := tk }) :
    wpAny (model prog w) A (Builtin.«zip.__next__» ⟨[.ref z], []⟩) (fun fin s' => ∃ v, fin = .done (.ret v) ∧ Q v s') E s := by
  obtain ⟨hp, g, d, tk0, os⟩ := s
  show wpAny _ _ (field (.ref z) 2 >>= _) _ _ _
  refine wpAny_bind (wpAny_field hz rfl (x := .bool false) rfl ?_)
  show wpAny _ _ (field (.ref z) 3 >>= _) _ _ _
  refine wpAny_bind (wpAny_field hz rfl (x := .ref TI) rfl ?_)
  refine wpAny_bind (wpAny_seqItems hTI rfl ?_)
  show wpAny _ _ (Builtin.SmallTypes.ownedTupleIsFree (.ref z) >>= _) _ _ _
  refine wpAny_bind (wpAny_tupleHeld_zip hz hT fun h1 hz1 hs1 => ?_)
  simp only [Bool.false_eq_true, if_false]
  refine wpAny_bind ?_
  rw [← Array.forIn_toList]
  simp only [List.forIn_cons, List.forIn_nil]
  refine wpAny_bind (wpAny_bind (wpAny_holding ?_))
  show wpAny _ _ (Builtin.SmallTypes.nextOf (.ref i1) >>= _) _ _ ⟨h1, g, d, tk0, os⟩
  refine wpAny_bind (D1.item i _ _ _ hlt1 (D1.over st1 hs1 S.zf1) fun x1 p1 tk1 hx1 sn1 hp1 => wpAny_pure ?_)
  replace hp1 : Heap.SameBut i1 h1 p1 := hp1
  refine wpAny_pure ?_
  refine wpAny_bind (wpAny_bind (wpAny_holding ?_))
  show wpAny _ _ (Builtin.SmallTypes.nextOf (.ref i2) >>= _) _ _ ⟨p1, g, d, tk1, os⟩
  refine wpAny_bind (D2.item i _ _ _ hlt2 (D2.over (D2.over st2 hs1 S.zf2) hp1 S.sep1_2) fun x2 p2 tk2 hx2 sn2 hp2 => wpAny_pure ?_)
  replace hp2 : Heap.SameBut i2 p1 p2 := hp2
  refine wpAny_pure ?_
  refine wpAny_bind (wpAny_bind (wpAny_holding ?_))
  show wpAny _ _ (Builtin.SmallTypes.nextOf (.ref i3) >>= _) _ _ ⟨p2, g, d, tk2, os⟩
  refine wpAny_bind (D3.item i _ _ _ hlt3 (D3.over (D3.over (D3.over st3 hs1 S.zf3) hp1 S.sep1_3) hp2 S.sep2_3) fun x3 p3 tk3 hx3 sn3 hp3 => wpAny_pure ?_)
  replace hp3 : Heap.SameBut i3 p2 p3 := hp3
  refine wpAny_pure (wpAny_pure ?_)
  show wpAny _ _ (newTuple [x1, x2, x3] >>= _) _ _ ⟨p3, g, d, tk3, os⟩
  refine wpAny_bind (wpAny_newTuple ?_)
  have hsz : p3.objs.size = hp.objs.size := by rw [hp3.1, hp2.1, hp1.1, hs1.1]
  have hz3 : IsZipHeld p3 z TI TO T true := hp3.extBut _ _ S.zi3 (hp2.extBut _ _ S.zi2 (hp1.extBut _ _ S.zi1 hz1))
  have hk : ∀ c o, c ≠ z → c ≠ i1 → c ≠ i2 → c ≠ i3 → hp.get? c = some o → p3.get? c = some o := fun c o cz c1 c2 c3 e => hp3.extBut _ _ c3 (hp2.extBut _ _ c2 (hp1.extBut _ _ c1 (hs1.extBut _ _ cz e)))
  have j1 : St1 (i + 1) p3 := D1.over (D1.over sn1 hp2 S.sep2_1) hp3 S.sep3_1
  have j2 : St2 (i + 1) p3 := D2.over sn2 hp3 S.sep3_2
  refine wpAny_pure ⟨_, rfl, ?_⟩
  show Q (.ref p3.objs.size) _
  have hp4 : IsTupOf3 (p3.push { cls := .type "tuple", data := .seq #[x1, x2, x3] }) p3.objs.size x1 x2 x3 := Heap.get?_push_size _ rfl
  have hz4 : (p3.push { cls := .type "tuple", data := .seq #[x1, x2, x3] }).objs.size = p3.objs.size + 1 := Heap.size_push ..
  rw [hsz] at hp4 hz4 ⊢
  exact hQ x1 x2 x3 _ tk3 hx1 hx2 hx3 (Heap.get?_push_of_some _ hz3) (D1.frame _ _ _ j1 fun b hb o e => Heap.get?_push_of_some _ e) (D2.frame _ _ _ j2 fun b hb o e => Heap.get?_push_of_some _ e) (D3.frame _ _ _ sn3 fun b hb o e => Heap.get?_push_of_some _ e) hp4 hz4
    fun c o cz c1 c2 c3 e => Heap.get?_push_of_some _ (hk c o cz c1 c2 c3 e)
theorem zipD3_held_end {Q : Fin → Shared → Prop} (S : ZipSep3 z TI TO i1 i2 i3 fp1 fp2 fp3) (D1 : Draws prog w A i1 fp1 n1 P1 St1)
    (hz : IsZipHeld s.heap z TI TO T f) (hT : s.heap.get? T = some oT) (hTI : IsTupOf3 s.heap TI (.ref i1) (.ref i2) (.ref i3)) (st1 : St1 n1 s.heap)
    (hE : ∀ h' tk e, (∀ c o, c ≠ z → c ≠ i1 → c ≠ i2 → c ≠ i3 → s.heap.get? c = some o → h'.get? c = some o) → (∃ o, h'.get? e = some o ∧ o.cls = .type "StopIteration") → E (.ref e) { s with heap := h', toks := tk }) :
    wpAny (model prog w) A (Builtin.«zip.__next__» ⟨[.ref z], []⟩) Q E s := by
  obtain ⟨hp, g, d, tk0, os⟩ := s
  show wpAny _ _ (field (.ref z) 2 >>= _) _ _ _
  refine wpAny_bind (wpAny_field hz rfl (x := .bool false) rfl ?_)
  show wpAny _ _ (field (.ref z) 3 >>= _) _ _ _
  refine wpAny_bind (wpAny_field hz rfl (x := .ref TI) rfl ?_)
  refine wpAny_bind (wpAny_seqItems hTI rfl ?_)
  show wpAny _ _ (Builtin.SmallTypes.ownedTupleIsFree (.ref z) >>= _) _ _ _
  refine wpAny_bind (wpAny_tupleHeld_zip hz hT fun h1 hz1 hs1 => ?_)
  simp only [Bool.false_eq_true, if_false]
  refine wpAny_bind ?_
  rw [← Array.forIn_toList]
  simp only [List.forIn_cons, List.forIn_nil]
  refine wpAny_bind (wpAny_bind (wpAny_holding ?_))
  show wpAny _ _ (Builtin.SmallTypes.nextOf (.ref i1) >>= _) _ _ ⟨h1, g, d, tk0, os⟩
  refine wpAny_bind (D1.done ⟨h1, g, d, tk0, os⟩ _ _ (D1.over st1 hs1 S.zf1) fun q e hq he => ?_)
  exact hE q tk0 e (fun c o cz c1 c2 c3 x => hq _ _ c1 (hs1.extBut _ _ cz x)) he
theorem pyNext_zipD3_held_item {Q : Option Value → Shared → Prop} (S : ZipSep3 z TI TO i1 i2 i3 fp1 fp2 fp3) (D1 : Draws prog w A.in1 i1 fp1 n1 P1 St1) (D2 : Draws prog w A.in1 i2 fp2 n2 P2 St2) (D3 : Draws prog w A.in1 i3 fp3 n3 P3 St3)
    (hz : IsZipHeld s.heap z TI TO T f) (hT : s.heap.get? T = some oT) (hTI : IsTupOf3 s.heap TI (.ref i1) (.ref i2) (.ref i3)) (st1 : St1 i s.heap) (st2 : St2 i s.heap) (st3 : St3 i s.heap) (hlt1 : i < n1) (hlt2 : i < n2) (hlt3 : i < n3)
    (hQ : ∀ x1 x2 x3 h' tk, P1 i x1 → P2 i x2 → P3 i x3 → IsZipHeld h' z TI TO T true → St1 (i + 1) h' → St2 (i + 1) h' → St3 (i + 1) h' → IsTupOf3 h' s.heap.objs.size x1 x2 x3 → h'.objs.size = s.heap.objs.size + 1 →
      (∀ c o, c ≠ z → c ≠ i1 → c ≠ i2 → c ≠ i3 → s.heap.get? c = some o → h'.get? c = some o) → Q (some (.ref s.heap.objs.size)) { s with heap := h', toks := tk }) :
    wpAny (model prog w) A (pyNext (.ref z)) Q E s := by
  have hTy : s.TypeIs (.ref z) "zip" := ⟨_, hz, rfl⟩
  unfold pyNext
  exact wpAny_bind (wpAny_attempt (wpAny_callSpecial?_slot (name := Str.ofString "__next__") hTy F.slot_zip_next
    (wpAny_call_entry F.slot_zip_next hTy F.entry_zip_next
      (zipD3_held_item S D1 D2 D3 hz hT hTI st1 st2 st3 hlt1 hlt2 hlt3 fun x1 x2 x3 h' tk a1 a2 a3 a4 a5 a6 a7 a8 a9 a10 => wpAny_pure (hQ x1 x2 x3 h' tk a1 a2 a3 a4 a5 a6 a7 a8 a9 a10)) (F.args_zip_next_1 _))))
theorem pyNext_zipD3_held_end {Q : Option Value → Shared → Prop} (S : ZipSep3 z TI TO i1 i2 i3 fp1 fp2 fp3) (D1 : Draws prog w A.in1 i1 fp1 n1 P1 St1)
    (hz : IsZipHeld s.heap z TI TO T f) (hT : s.heap.get? T = some oT) (hTI : IsTupOf3 s.heap TI (.ref i1) (.ref i2) (.ref i3)) (st1 : St1 n1 s.heap)
    (hQ : ∀ h' tk, (∀ c o, c ≠ z → c ≠ i1 → c ≠ i2 → c ≠ i3 → s.heap.get? c = some o → h'.get? c = some o) → Q none { s with heap := h', toks := tk }) : wpAny (model prog w) A (pyNext (.ref z)) Q E s := by
  have hTy : s.TypeIs (.ref z) "zip" := ⟨_, hz, rfl⟩
  unfold pyNext
  refine wpAny_bind (wpAny_attempt (wpAny_callSpecial?_slot (name := Str.ofString "__next__") hTy F.slot_zip_next
    (wpAny_call_entry F.slot_zip_next hTy F.entry_zip_next (zipD3_held_end S D1 hz hT hTI st1 fun h' tk e hk he => ?_) (F.args_zip_next_1 _))))
  obtain ⟨o, ho, hc⟩ := he
  refine wpAny_bind (wpAny_isInstance (T := "StopIteration") (b := true) ⟨o, ho, hc⟩ isSubtype_stop ?_)
  exact wpAny_pure (hQ _ _ hk)
end
end PySem
set_option Elab.async false
set_option linter.all false
set_option maxRecDepth 100000
set_option maxHeartbeats 1000000
set_option pp.maxSteps 1500
set_option pp.deepTerms false
namespace S8
open PySem PySem.Spec PyProof.Rows L2
theorem zip_no_len : typeLookup (.type "zip") "__len__" = pure none := by rw [typeLookup_type, builtinLookup_eq_fast]; kernel_rfl
theorem zip_no_hint : typeLookup (.type "zip") "__length_hint__" = pure none := by rw [typeLookup_type, builtinLookup_eq_fast]; kernel_rfl
/-! ### list(zip(x, y, z)) -/
structure Six (z TI TO i1 i2 i3 : Addr) : Prop where
  TIz : TI ≠ z
  TOz : TO ≠ z
  TITO : TI ≠ TO
  TIi1 : TI ≠ i1
  TIi2 : TI ≠ i2
  TIi3 : TI ≠ i3
  zi1 : z ≠ i1
  zi2 : z ≠ i2
  zi3 : z ≠ i3
  TOi1 : TO ≠ i1
  TOi2 : TO ≠ i2
  TOi3 : TO ≠ i3
  i12 : i1 ≠ i2
  i13 : i1 ≠ i3
  i23 : i2 ≠ i3
section
variable {X : Cx} {pins : List (Addr × Obj)} {σ : L2.St} {H : Hp} {s : Shared} {z TI TO i1 i2 i3 : Addr} {k1 k2 k3 : Kd} {xs ys us : List V}
theorem sep3_of {fp1 fp2 fp3 : List Addr} (F6 : Six z TI TO i1 i2 i3) (I : Inv X pins σ H s) (hf : ∀ b ∈ [z, TI, TO, i1, i2, i3], FpOk X pins H b) (q1 : k1.src X.K H xs) (q2 : k2.src X.K H ys) (q3 : k3.src X.K H us)
    (m1 : i1 ∈ fp1) (m2 : i2 ∈ fp2) (m3 : i3 ∈ fp3) (h1 : ∀ b ∈ fp1, b = i1 ∨ k1.adr = some b) (h2 : ∀ b ∈ fp2, b = i2 ∨ k2.adr = some b) (h3 : ∀ b ∈ fp3, b = i3 ∨ k3.adr = some b) : ZipSep3 z TI TO i1 i2 i3 fp1 fp2 fp3 := by
  have n1 : ∀ c ∈ [z, TI, TO, i1, i2, i3], c ≠ i1 → c ∉ fp1 := fun c hc hn hm => (h1 c hm).elim hn fun e => Kd.src_ne I q1 (hf c hc) e
  have n2 : ∀ c ∈ [z, TI, TO, i1, i2, i3], c ≠ i2 → c ∉ fp2 := fun c hc hn hm => (h2 c hm).elim hn fun e => Kd.src_ne I q2 (hf c hc) e
  have n3 : ∀ c ∈ [z, TI, TO, i1, i2, i3], c ≠ i3 → c ∉ fp3 := fun c hc hn hm => (h3 c hm).elim hn fun e => Kd.src_ne I q3 (hf c hc) e
  exact ⟨F6.TIz, F6.TOz, F6.TITO, F6.TIi1, m1, n1 z (by simp) F6.zi1, n1 TO (by simp) F6.TOi1, F6.TIi2, m2, n2 z (by simp) F6.zi2, n2 TO (by simp) F6.TOi2, F6.TIi3, m3, n3 z (by simp) F6.zi3, n3 TO (by simp) F6.TOi3,
    n2 i1 (by simp) F6.i12, n3 i1 (by simp) F6.i13, n1 i2 (by simp) (Ne.symm F6.i12), n3 i2 (by simp) F6.i23, n1 i3 (by simp) (Ne.symm F6.i13), n2 i3 (by simp) (Ne.symm F6.i23)⟩
theorem Kd.src_mono {K : PySem.W.Frag} {k : Kd} {xs : List V} {H H' : Hp} {S : Addr} (q : k.src K H xs) (ne : k.adr ≠ some S) (e : ∀ b o, b ≠ S → H b = some o → H' b = some o) : k.src K H' xs := by
  cases k with
  | lst a =>
    have na : a ≠ S := fun z => ne (by rw [z] <;> rfl)
    rcases (show SqL K H a xs from q) with (h | ⟨o, h⟩) | h
    · exact .inl (.inl (e _ _ na h))
    · exact .inl (.inr ⟨o, e _ _ na h⟩)
    · exact .inr h
  | tup a =>
    have na : a ≠ S := fun z => ne (by rw [z] <;> rfl)
    rcases (show SqT K H a xs from q) with (h | ⟨o, h⟩) | h
    · exact .inl (.inl (e _ _ na h))
    · exact .inl (.inr ⟨o, e _ _ na h⟩)
    · exact .inr h
  | str z => exact q
/-- the zip's own objects -/
def ZSt (k1 k2 k3 : Kd) (z TI TO i1 i2 i3 : Addr) (i : Nat) (h : Heap) : Prop :=
  ((IsZip h z TI TO .none ∧ ∃ a b c, IsTupOf3 h TO a b c) ∨ ∃ T f oT, PySem.IsZipHeld h z TI TO T f ∧ h.get? T = some oT ∧ T ∉ [z, TI, TO, i1, i2, i3]) ∧ IsTupOf3 h TI (.ref i1) (.ref i2) (.ref i3) ∧ k1.cell i1 i h ∧ k2.cell i2 i h ∧ k3.cell i3 i h ∧ ∃ o, h.get? TO = some o
theorem ZSt.lt {i : Nat} {h : Heap} (st : ZSt k1 k2 k3 z TI TO i1 i2 i3 i h) : z < h.objs.size := by
  rcases st.1 with ⟨hz, _⟩ | ⟨T, f, oT, hz, _⟩
  · exact Heap.lt_size hz
  · exact Heap.lt_size hz
/-- a write to S alone -/
theorem ZSt.over {i : Nat} {h h' : Heap} {S : Addr} (st : ZSt k1 k2 k3 z TI TO i1 i2 i3 i h) (hS : S ∉ [z, TI, TO, i1, i2, i3]) (hs : ∃ o, h'.get? S = some o) (k : ∀ b o, b ≠ S → h.get? b = some o → h'.get? b = some o) : ZSt k1 k2 k3 z TI TO i1 i2 i3 i h' := by
  have n : ∀ b ∈ [z, TI, TO, i1, i2, i3], b ≠ S := fun b hb e => hS (e ▸ hb)
  obtain ⟨a, b, c1, c2, c3, oO, hO⟩ := st
  refine ⟨?_, k _ _ (n TI (by simp)) b, Kd.keep c1 (fun o e => k _ _ (n i1 (by simp)) e), Kd.keep c2 (fun o e => k _ _ (n i2 (by simp)) e), Kd.keep c3 (fun o e => k _ _ (n i3 (by simp)) e), oO, k _ _ (n TO (by simp)) hO⟩
  rcases a with ⟨hz, a1, a2, a3, hT⟩ | ⟨T, f, oT, hz, hT, hn⟩
  · exact .inl ⟨k _ _ (n z (by simp)) hz, a1, a2, a3, k _ _ (n TO (by simp)) hT⟩
  · by_cases e : T = S
    · obtain ⟨o, ho⟩ := hs
      exact .inr ⟨T, f, o, k _ _ (n z (by simp)) hz, by rw [e]; exact ho, hn⟩
    · exact .inr ⟨T, f, oT, k _ _ (n z (by simp)) hz, k _ _ e hT, hn⟩
/-- one turn: a new tuple -/
theorem zst_item {A : Around} {E : Value → Shared → Prop} {i : Nat} {x y u : V} {Q : Option Value → Shared → Prop} (hh : A.handled = none) (F6 : Six z TI TO i1 i2 i3) (I : Inv X pins σ H s) (hf : ∀ b ∈ [z, TI, TO, i1, i2, i3], FpOk X pins H b) (q1 : k1.src X.K H xs) (q2 : k2.src X.K H ys) (q3 : k3.src X.K H us)
    (st : ZSt k1 k2 k3 z TI TO i1 i2 i3 i s.heap) (hx : xs[i]? = some x) (hy : ys[i]? = some y) (hu : us[i]? = some u)
    (h : ∀ T s', H T = none → Inv X pins σ (upd H T (.tup [x, y, u])) s' → (∀ b ∈ [z, TI, TO, i1, i2, i3], FpOk X pins (upd H T (.tup [x, y, u])) b) → ZSt k1 k2 k3 z TI TO i1 i2 i3 (i + 1) s'.heap → Q (some (.ref T)) s') :
    wpAny (model X.prog X.w) A (pyNext (.ref z)) Q E s := by
  obtain ⟨fp1, P1, St1, D1, st1, m1, st1', hP1, hfp1⟩ := Kd.draws (A := A.in1) I q1 st.2.2.1 hh
  obtain ⟨fp2, P2, St2, D2, st2, m2, st2', hP2, hfp2⟩ := Kd.draws (A := A.in1) I q2 st.2.2.2.1 hh
  obtain ⟨fp3, P3, St3, D3, st3, m3, st3', hP3, hfp3⟩ := Kd.draws (A := A.in1) I q3 st.2.2.2.2.1 hh
  have S := sep3_of F6 I hf q1 q2 q3 m1 m2 m3 hfp1 hfp2 hfp3
  have l1 : i < xs.length := (List.getElem?_eq_some_iff.mp hx).1
  have l2 : i < ys.length := (List.getElem?_eq_some_iff.mp hy).1
  have l3 : i < us.length := (List.getElem?_eq_some_iff.mp hu).1
  have hTI := st.2.1
  have olds : ∀ b ∈ [z, TI, TO, i1, i2, i3], b < s.heap.objs.size := fun b hb => by
    have e' : b = z ∨ b = TI ∨ b = TO ∨ b = i1 ∨ b = i2 ∨ b = i3 := by simpa using hb
    rcases e' with q | q | q | q | q | q
    · rw [q]; exact st.lt
    · rw [q]; exact Heap.lt_size hTI
    · rw [q]; obtain ⟨o, e⟩ := st.2.2.2.2.2; exact Heap.lt_size e
    · rw [q]; obtain ⟨_, _, e1, _⟩ := Kd.obj st.2.2.1; exact Heap.lt_size e1
    · rw [q]; obtain ⟨_, _, e1, _⟩ := Kd.obj st.2.2.2.1; exact Heap.lt_size e1
    · rw [q]; obtain ⟨_, _, e1, _⟩ := Kd.obj st.2.2.2.2.1; exact Heap.lt_size e1
  have fin : ∀ (v1 v2 v3 : Value) (h' : Heap) (tk : Nat), P1 i v1 → P2 i v2 → P3 i v3 → ((IsZip h' z TI TO .none ∧ ∃ a b c, IsTupOf3 h' TO a b c) ∨ ∃ T f oT, PySem.IsZipHeld h' z TI TO T f ∧ h'.get? T = some oT ∧ T ∉ [z, TI, TO, i1, i2, i3]) → (∃ o, h'.get? TO = some o) → St1 (i + 1) h' → St2 (i + 1) h' → St3 (i + 1) h' →
      IsTupOf3 h' s.heap.objs.size v1 v2 v3 → (∀ c o, c ≠ z → c ≠ TO → c ≠ i1 → c ≠ i2 → c ≠ i3 → s.heap.get? c = some o → h'.get? c = some o) → Q (some (.ref s.heap.objs.size)) { s with heap := h', toks := tk } := by
    intro v1 v2 v3 h' tk p1 p2 p3 hz hO s1 s2 s3 hT hk
    obtain ⟨x', hx', r1⟩ := hP1 i v1 p1
    rw [hx] at hx'
    cases hx'
    obtain ⟨x', hx', r2⟩ := hP2 i v2 p2
    rw [hy] at hx'
    cases hx'
    obtain ⟨x', hx', r3⟩ := hP3 i v3 p3
    rw [hu] at hx'
    cases hx'
    have new : ObjOk X.prog X.w (upd H s.heap.objs.size (.tup [x, y, u])) h' s.heap.objs.size (.tup [x, y, u]) :=
      ⟨by show 3 ≤ sizeLine; decide, [v1, v2, v3], .cons r1 (.cons r2 (.cons r3 .nil)), ⟨_, hT, rfl, _, rfl⟩⟩
    have I1 : Inv X pins σ (upd H s.heap.objs.size (.tup [x, y, u])) { s with heap := h', toks := tk } :=
      I.turnedNew (t' := tk) (ch := [z, TI, TO, i1, i2, i3]) (fun c o hb q => hk c o (fun q' => hb (by simp [q'])) (fun q' => hb (by simp [q'])) (fun q' => hb (by simp [q'])) (fun q' => hb (by simp [q'])) (fun q' => hb (by simp [q'])) q) hf (Nat.le_refl _) new
    refine h _ _ (I.hok.fresh (Nat.le_refl _)) I1 (fun b hb => ⟨?_, (hf b hb).2⟩) ⟨hz, hk _ _ F6.TIz F6.TITO F6.TIi1 F6.TIi2 F6.TIi3 hTI, st1' _ s1, st2' _ s2, st3' _ s3, hO⟩
    have hlt := olds b hb
    rw [upd_ne (Nat.ne_of_lt hlt)]
    exact (hf b hb).1
  have nT : s.heap.objs.size ∉ [z, TI, TO, i1, i2, i3] := fun hm => Nat.lt_irrefl _ (olds _ hm)
  rcases st.1 with ⟨hz, a1, a2, a3, hTO⟩ | ⟨T, f, oT, hz, hT, hn⟩
  · exact wpAny_pyNext_zipD3_item S D1 D2 D3 hz hTI hTO st1 st2 st3 l1 l2 l3 fun v1 v2 v3 h' tk p1 p2 p3 b1 b2 s1 s2 s3 hTn hsz hk => fin v1 v2 v3 h' tk p1 p2 p3 (.inr ⟨_, false, _, b1, hTn, nT⟩) ⟨_, b2⟩ s1 s2 s3 hTn hk
  · refine pyNext_zipD3_held_item S D1 D2 D3 hz hT hTI st1 st2 st3 l1 l2 l3 fun v1 v2 v3 h' tk p1 p2 p3 b1 s1 s2 s3 hTn hsz hk => fin v1 v2 v3 h' tk p1 p2 p3 (.inr ⟨T, true, oT, b1, hk _ _ (fun e => hn (by simp [e])) (fun e => hn (by simp [e])) (fun e => hn (by simp [e])) (fun e => hn (by simp [e])) hT, hn⟩) (let ⟨o, e⟩ := st.2.2.2.2.2; ⟨o, hk _ _ F6.TOz F6.TOi1 F6.TOi2 F6.TOi3 e⟩) s1 s2 s3 hTn fun c o a b c' d e => hk c o a c' d e
theorem zst_end {A : Around} {E : Value → Shared → Prop} {Q : Option Value → Shared → Prop} (hh : A.handled = none) (F6 : Six z TI TO i1 i2 i3) (I : Inv X pins σ H s) (hf : ∀ b ∈ [z, TI, TO, i1, i2, i3], FpOk X pins H b) (q1 : k1.src X.K H xs) (q2 : k2.src X.K H ys) (q3 : k3.src X.K H us)
    (l2 : xs.length = ys.length) (l3 : xs.length = us.length) (st : ZSt k1 k2 k3 z TI TO i1 i2 i3 xs.length s.heap) (h : ∀ s', Inv X pins σ H s' → Q none s') : wpAny (model X.prog X.w) A (pyNext (.ref z)) Q E s := by
  obtain ⟨fp1, P1, St1, D1, st1, m1, st1', hP1, hfp1⟩ := Kd.draws (A := A.in1) I q1 st.2.2.1 hh
  obtain ⟨fp2, P2, St2, D2, st2, m2, st2', hP2, hfp2⟩ := Kd.draws (A := A.in1) I q2 st.2.2.2.1 hh
  obtain ⟨fp3, P3, St3, D3, st3, m3, st3', hP3, hfp3⟩ := Kd.draws (A := A.in1) I q3 st.2.2.2.2.1 hh
  have S := sep3_of F6 I hf q1 q2 q3 m1 m2 m3 hfp1 hfp2 hfp3
  have hTI := st.2.1
  have fin : ∀ (h' : Heap) (tk : Nat), (∀ c o, c ≠ z → c ≠ TO → c ≠ i1 → c ≠ i2 → c ≠ i3 → s.heap.get? c = some o → h'.get? c = some o) → Q none { s with heap := h', toks := tk } := fun h' tk hk =>
    h _ (I.turnedL (t' := tk) (ch := [z, TI, TO, i1, i2, i3]) (fun c o hb q => hk c o (fun q' => hb (by simp [q'])) (fun q' => hb (by simp [q'])) (fun q' => hb (by simp [q'])) (fun q' => hb (by simp [q'])) (fun q' => hb (by simp [q'])) q) hf)
  rcases st.1 with ⟨hz, a1, a2, a3, hTO⟩ | ⟨T, f, oT, hz, hT, hn⟩
  · exact wpAny_pyNext_zipD3_end S D1 D2 D3 hz hTI hTO st1 st2 st3 (Nat.le_refl _) (Nat.le_of_eq l2) (Nat.le_of_eq l3) (.inl rfl) fin
  · exact pyNext_zipD3_held_end S D1 hz hT hTI st1 fun h' tk hk => fin h' tk fun c o a b c' d e => hk c o a c' d e
/-- what has been gathered -/
def Gath (xs ys us : List V) (S : Addr) (H0 H : Hp) (as : List Addr) : Prop :=
  H S = some (.lst (as.map V.ref)) ∧ (∀ b o, b ≠ S → H0 b = some o → H b = some o) ∧ ∀ (j : Nat) (a : Addr), as[j]? = some a → a ≠ S ∧ H0 a = none ∧ ∃ x y u, xs[j]? = some x ∧ ys[j]? = some y ∧ us[j]? = some u ∧ H a = some (.tup [x, y, u])
theorem lz_loop {A : Around} {H0 : Hp} {S : Addr} {res : Value} {R : Result → Shared → Prop} (hh : A.handled = none) (F6 : Six z TI TO i1 i2 i3) (hS : S ∉ [z, TI, TO, i1, i2, i3]) (q1 : k1.src X.K H0 xs) (q2 : k2.src X.K H0 ys) (q3 : k3.src X.K H0 us)
    (n1 : k1.adr ≠ some S) (n2 : k2.adr ≠ some S) (n3 : k3.adr ≠ some S) (l2 : xs.length = ys.length) (l3 : xs.length = us.length) (hz : xs.length ≤ sizeLine)
    (hR : ∀ s' H' as, Inv X pins σ H' s' → as.length = xs.length → Gath xs ys us S H0 H' as → R (.ok (.ret res)) s') :
    ∀ (k i : Nat) (s : Shared) (H : Hp) (as : List Addr), xs.length - i = k → i ≤ xs.length → as.length = i → Inv X pins σ H s → (∀ b ∈ [z, TI, TO, i1, i2, i3], FpOk X pins H b) → ZSt k1 k2 k3 z TI TO i1 i2 i3 i s.heap → Gath xs ys us S H0 H as →
      codeAny (model X.prog X.w) A (.builtin "list.extend.loop" ⟨[.ref S, .ref z, res], []⟩) R s := by
  intro k
  induction k with
  | zero =>
    intro i s H as hk hi hal I hf st G
    have hin : i = xs.length := by omega
    subst hin
    refine codeAny_builtin PySem.F.entry_extend_loop ?_
    rw [Around.under_plainId PySem.F.plain_extend_loop _]
    show wpAny _ A.in1 (pyNext (.ref z) >>= _) _ _ _
    exact wpAny_bind (zst_end (A := A.in1) hh F6 I hf (Kd.src_mono q1 n1 G.2.1) (Kd.src_mono q2 n2 G.2.1) (Kd.src_mono q3 n3 G.2.1) l2 l3 st fun s' I' => wpAny_pure (hR s' H as I' hal G))
  | succ k ih =>
    intro i s H as hk hi hal I hf st G
    have hlt : i < xs.length := by omega
    have hx : xs[i]? = some xs[i] := List.getElem?_eq_getElem hlt
    have hlt2 : i < ys.length := by omega
    have hy : ys[i]? = some ys[i] := List.getElem?_eq_getElem hlt2
    have hlt3 : i < us.length := by omega
    have hu : us[i]? = some us[i] := List.getElem?_eq_getElem hlt3
    refine codeAny_builtin PySem.F.entry_extend_loop ?_
    rw [Around.under_plainId PySem.F.plain_extend_loop _]
    show wpAny _ A.in1 (pyNext (.ref z) >>= _) _ _ _
    refine wpAny_bind (zst_item (A := A.in1) hh F6 I hf (Kd.src_mono q1 n1 G.2.1) (Kd.src_mono q2 n2 G.2.1) (Kd.src_mono q3 n3 G.2.1) st hx hy hu fun T s' nT I1 hf1 st1 => ?_)
    have neS : S ≠ T := ne_of_none G.1 nT
    have hS1 : upd H T (.tup [xs[i], ys[i], us[i]]) S = some (.lst (as.map V.ref)) := by rw [upd_ne neS]; exact G.1
    obtain ⟨z1, its, n, r, hl, e⟩ := I1.lstM hS1
    have hzas : (as.map V.ref).length = i := by rw [List.length_map, hal]
    have hits : its.toArray.size = i := by rw [List.size_toArray, ← hl, hzas]
    show wpAny _ A.in1 (updateSeq S (·.push (.ref T)) >>= _) _ _ _
    refine wpAny_bind ?_
    refine wpAny_updateSeq e rfl (wpAny_pure ⟨plainId_quiet PySem.F.plain_extend_loop _, ?_⟩) (by rw [hits]; omega) (by show (its.toArray.push (.ref T)).size ≤ sizeLine + 1; rw [Array.size_push, hits]; omega)
    have I2 : Inv X pins σ (upd (upd H T (.tup [xs[i], ys[i], us[i]])) S (.lst ((as ++ [T]).map V.ref))) { s' with heap := s'.heap.update S (Obj.mapSeq (·.push (.ref T))) } :=
      I1.lset (t' := s'.toks) (its' := its ++ [.ref T]) hS1 e (by simp) (by rw [List.map_append]; exact r.append (.cons rfl .nil)) (by rw [List.length_map, List.length_append, hal]; show i + 1 ≤ sizeLine; omega)
    refine ih (i + 1) _ _ (as ++ [T]) (by omega) hlt (by rw [List.length_append, hal]; rfl) I2 (fun b hb => ⟨?_, (hf1 b hb).2⟩) (st1.over hS ⟨_, Heap.get?_update_self _ e rfl⟩ fun b o hb q => (Heap.get?_update_other _ _ (Ne.symm hb)).trans q) ⟨upd_same, fun b o hb q => ?_, fun j a ha => ?_⟩
    · exact (upd_ne (fun q : b = S => hS (by rw [← q]; exact hb))).trans (hf1 b hb).1
    · have q1 := G.2.1 b o hb q
      rw [upd_ne hb, upd_ne (ne_of_none q1 nT)]
      exact q1
    · rcases Nat.lt_trichotomy j as.length with h1 | h1 | h1
      · rw [List.getElem?_append_left h1] at ha
        obtain ⟨g1, g2, x, y, u, e1, e2, e3, e4⟩ := G.2.2 j a ha
        refine ⟨g1, g2, x, y, u, e1, e2, e3, ?_⟩
        rw [upd_ne g1, upd_ne (ne_of_none e4 nT)]
        exact e4
      · subst h1
        have hb : T = a := by simpa using ha
        subst hb
        have ej : as.length = i := hal
        refine ⟨Ne.symm neS, ?_, xs[i], ys[i], us[i], by rw [ej]; exact hx, by rw [ej]; exact hy, by rw [ej]; exact hu, by rw [upd_ne (Ne.symm neS), upd_same]⟩
        cases q : H0 T with
        | none => rfl
        | some o =>
          have q2 := G.2.1 T o (Ne.symm neS) q
          rw [nT] at q2
          cases q2
      · have hnone : (as ++ [T])[j]? = none := List.getElem?_eq_none (by rw [List.length_append, List.length_singleton]; omega)
        rw [hnone] at ha; cases ha
theorem lz_call {E : Value → Shared → Prop} {Q : Value → Shared → Prop} (hc : X.calm = true) (F6 : Six z TI TO i1 i2 i3) (I : Inv X pins σ H s) (hf : ∀ b ∈ [z, TI, TO, i1, i2, i3], FpOk X pins H b) (st : ZSt k1 k2 k3 z TI TO i1 i2 i3 0 s.heap) (hb : ∀ b ∈ [z, TI, TO, i1, i2, i3], b < s.heap.objs.size)
    (q1 : k1.src X.K H xs) (q2 : k2.src X.K H ys) (q3 : k3.src X.K H us) (l2 : xs.length = ys.length) (l3 : xs.length = us.length) (hz : xs.length ≤ sizeLine)
    (hz0 : IsZip s.heap z TI TO .none) (hQ : ∀ S s' H' as, H S = none → Inv X pins σ H' s' → as.length = xs.length → Gath xs ys us S H H' as → Q (.ref S) s') : wpAny (model X.prog X.w) X.A (call (.type "list") [.ref z]) Q E s := by
  have hh : X.A.in1.handled = none := I.ok.hd hc
  refine callType_codes (Q₁ := fun obj s₁ => obj = .ref s.heap.objs.size ∧ s₁ = { s with heap := s.heap.push { cls := .type "list", data := .seq #[] } }) PySem.F.called_list (PySem.F.typeCall_list_1 _) PySem.F.entry_list_init
    (PySem.code_list_new _ ⟨rfl, rfl⟩) fun obj s₁ h₁ => ?_
  obtain ⟨rfl, rfl⟩ := h₁
  have hS : (s.heap.push { cls := .type "list", data := .seq #[] }).get? s.heap.objs.size = some { cls := .type "list", data := .seq #[] } := Heap.get?_push_size _ rfl
  have nS : s.heap.objs.size ∉ [z, TI, TO, i1, i2, i3] := fun hm => Nat.lt_irrefl _ (hb _ hm)
  have nSz : s.heap.objs.size ≠ z := fun e => nS (by rw [e]; simp)
  have HS : H s.heap.objs.size = none := I.hok.fresh (Nat.le_refl _)
  have I1 : Inv X pins σ (upd H s.heap.objs.size (.lst [])) { s with heap := s.heap.push { cls := .type "list", data := .seq ([] : List Value).toArray } } := I.lnew (t' := s.toks) .nil (Nat.zero_le _)
  have nadr : ∀ {k : Kd} {ws : List V}, k.src X.K H ws → k.adr ≠ some s.heap.objs.size := fun {k ws} q => Kd.src_ne I q (I.fpOk (Nat.le_refl _) HS)
  have st1 : ZSt k1 k2 k3 z TI TO i1 i2 i3 0 (s.heap.push { cls := .type "list", data := .seq #[] }) := st.over nS ⟨_, hS⟩ fun b o _ e => Heap.get?_push_of_some _ e
  refine ⟨⟨_, hS, rfl⟩, PySem.F.args_list_init_2 _ _, ?_⟩
  show wpAny _ _ (do let old ← Builtin.List.listItems (.ref s.heap.objs.size); Builtin.List.listUpdate (.ref s.heap.objs.size) (fun _ => #[]); letGo old.toList.reverse; Builtin.List.listExtendWith (.ref s.heap.objs.size) (.ref z) .none) _ _ _
  refine wpAny_bind ?_
  unfold Builtin.List.listItems
  refine wpAny_bind (wpAny_seqItems hS rfl (wpAny_pure ?_))
  show wpAny _ _ (updateSeq s.heap.objs.size (fun _ => #[]) >>= fun _ => letGo (#[] : Array Value).toList.reverse >>= fun _ => Builtin.List.listExtendWith (.ref s.heap.objs.size) (.ref z) .none) _ _ _
  refine wpAny_bind (wpAny_updateSeq hS rfl ?_)
  have I2 := I1.lset (t' := s.toks) (its' := ([] : List Value)) (ys := []) (f := fun _ => #[]) upd_same (n := 0) hS rfl .nil (Nat.zero_le _)
  obtain ⟨_, its2, n2, r2, hl2, hS2⟩ := I2.lstM upd_same
  cases r2
  refine wpAny_bind (wpAny_letGo ?_)
  have st2 := st1.over nS ⟨_, hS2⟩ fun b o hb q => (Heap.get?_update_other _ _ (Ne.symm hb)).trans q
  have hz2 : IsZip ((s.heap.push { cls := .type "list", data := .seq #[] }).update s.heap.objs.size (Obj.mapSeq fun _ => #[])) z TI TO .none := (Heap.get?_update_other _ _ nSz).trans (Heap.get?_push_of_some _ hz0)
  unfold Builtin.List.listExtendWith
  refine wpAny_bind (wpAny_typeOf (T := "zip") ⟨_, hz2, rfl⟩ ?_)
  have h1 : Builtin.List.listSameRef (.ref s.heap.objs.size) (.ref z) = false := by simp [Builtin.List.listSameRef, nSz]
  have h2 : (Value.type "zip" == Value.type "list") = false := by decide
  have h3 : (Value.type "zip" == Value.type "tuple") = false := by decide
  simp only [h1, h2, h3, Bool.or_false, Bool.false_eq_true, if_false]
  refine wpAny_bind (wpAny_pyIter_zip hz2 ?_)
  refine wpAny_bind (wpAny_holding ?_)
  unfold Builtin.List.listLengthHint
  refine wpAny_bind (wpAny_specialOf (T := "zip") ⟨_, hz2, rfl⟩ zip_no_len ?_)
  show wpAny _ _ (specialOf (Value.ref z) (Str.ofString "__length_hint__") >>= _) _ _ _
  refine wpAny_bind (wpAny_specialOf (T := "zip") ⟨_, hz2, rfl⟩ zip_no_hint ?_)
  refine wpAny_pure ?_
  show wpAny _ _ (rule "list.extend.makes-room" >>= fun _ => Builtin.List.listTouch (.ref s.heap.objs.size) >>= fun _ =>
    again (.builtin "list.extend.loop" ⟨[.ref s.heap.objs.size, .ref z, .none], []⟩)) _ _ _
  refine wpAny_bind (wpAny_rule ?_)
  refine wpAny_bind ?_
  show wpAny _ _ (updateSeq s.heap.objs.size (·.push .none) >>= fun _ => updateSeq s.heap.objs.size (·.pop)) _ _ _
  refine wpAny_bind (wpAny_updateSeq hS2 rfl ?_)
  have I3 := I2.lset (t' := s.toks) (its' := [Value.none]) (ys := [V.non]) (f := (·.push .none)) upd_same hS2 (by simp) (.cons rfl .nil) (by show 1 ≤ sizeLine; decide)
  obtain ⟨_, its3, n3, r3, hl3, hS3⟩ := I3.lstM upd_same
  obtain ⟨u3, rfl, ru3⟩ := r3.one
  refine wpAny_updateSeq (hz := by seq_fits) hS3 rfl ?_
  have I4 := I3.lset (t' := s.toks) (its' := []) (ys := []) (f := (·.pop)) upd_same hS3 (by simp) .nil (Nat.zero_le _)
  obtain ⟨_, its4, n4, r4, hl4, hS4⟩ := I4.lstM upd_same
  cases r4
  have st3 := st2.over nS ⟨_, hS3⟩ fun b o hb q => (Heap.get?_update_other _ _ (Ne.symm hb)).trans q
  have st4 := st3.over nS ⟨_, hS4⟩ fun b o hb q => (Heap.get?_update_other _ _ (Ne.symm hb)).trans q
  have eH : upd (upd (upd (upd H s.heap.objs.size (.lst [])) s.heap.objs.size (.lst [])) s.heap.objs.size (.lst [V.non])) s.heap.objs.size (.lst []) = upd H s.heap.objs.size (.lst []) := by rw [upd_upd, upd_upd, upd_upd]
  rw [eH] at I4
  have e0 : ∀ b o, b ≠ s.heap.objs.size → H b = some o → upd H s.heap.objs.size (.lst []) b = some o := fun b o hb q => by rw [upd_ne hb]; exact q
  refine wpAny_pure ⟨plainId_quiet PySem.F.plain_extend_loop _, lz_loop (A := X.A.in1) (H0 := H) hh F6 nS q1 q2 q3 (nadr q1) (nadr q2) (nadr q3) l2 l3 hz (fun s' H' as I' hl G => ⟨rfl, hQ _ s' H' as HS I' hl G⟩) xs.length 0 _ _ [] (Nat.sub_zero _) (Nat.zero_le _) rfl I4 (fun b hb => ⟨?_, (hf b hb).2⟩) st4 ⟨upd_same, e0, fun j a ha => by simp at ha⟩⟩
  exact (upd_ne (fun q : b = s.heap.objs.size => nS (by rw [← q]; exact hb))).trans (hf b hb).1
end
end S8
set_option Elab.async false
set_option linter.all false
set_option maxRecDepth 100000
set_option maxHeartbeats 1000000
set_option pp.maxSteps 1500
namespace S8
open PySem PySem.Spec PyProof.Rows L2
theorem six_new (N : Nat) : Six (N + 5) (N + 3) (N + 4) N (N + 1) (N + 2) := by
  constructor <;> first | (show ((N + 3 : Nat) : Nat) ≠ _; omega) | (show ((N + 4 : Nat) : Nat) ≠ _; omega) | (show ((N + 5 : Nat) : Nat) ≠ _; omega) | (show (N : Nat) ≠ _; omega) | (show ((N + 1 : Nat) : Nat) ≠ _; omega)
def tListZip3 (K : PySem.W.Frag) (ta : TA) : TE := fun σ H Q => ta σ H fun vs H1 => ∃ (k1 k2 k3 : Kd) (xs ys us : List V), vs = [k1.v, k2.v, k3.v] ∧ k1.src K H1 xs ∧ k2.src K H1 ys ∧ k3.src K H1 us ∧ xs.length = ys.length ∧ xs.length = us.length ∧ xs.length ≤ sizeLine ∧
  ∀ (S : Addr) (H' : Hp) (as : List Addr), H1 S = none → as.length = xs.length → Gath xs ys us S H1 H' as → Q (.ref S) H'
theorem pe_listzip3 {X : Cx} {e1 e2 e3 : Expr} {ta : TA} {p p2 q pos : Pos} (hg : Gl X "list") (hm : X.mg "list" = none) (hg2 : Gl X "zip") (hm2 : X.mg "zip" = none) (ha : PA X [e1, e2, e3] ta) (hc : X.calm = true := by rfl)
    (hs : starEach [e1, e2, e3] X.env = (false, eval e1 X.env) :: starEach [e2, e3] X.env := by rfl) (hpl : (backTo q (starEach [e2, e3] X.env)).any (·.1) = false := by rfl) :
    PE X (.Call (.Name "list" p) [.Call (.Name "zip" p2) [e1, e2, e3] [] q] [] pos) (tListZip3 X.K ta) := by
  refine ⟨fun pins s σ H Q I h => ?_⟩
  refine Call_ (ld_blt I hg hm (u := .type "list") (by decide +kernel) ?_)
  refine PyProof.Rows.callWith_type1 (PyProof.Rows.args_cons ?_ rfl) rfl rfl
  refine Call_ (ld_blt I hg2 hm2 PyProof.Rows.boot_zip ?_)
  refine PyProof.Rows.callWith_type1 (thn (ha.run q pins s σ H _ I h) fun vs s1 ⟨zs, H1, I1, r1, q1⟩ => ?_) hs hpl
  obtain ⟨k1, k2, k3, xs, ys, us, ex, q1, q2, q3, l2, l3, hz, fin⟩ := q1
  subst ex
  cases r1 with
  | cons r rr =>
    cases rr with
    | cons r' rr =>
      cases rr with
      | cons r'' rr =>
        cases rr
        obtain ⟨o1, Hb1, B1, hb1, hc1⟩ := Kd.begins I1 q1 r
        obtain ⟨o2, Hb2, B2, hb2, hc2⟩ := Kd.begins I1 q2 r'
        obtain ⟨o3, Hb3, B3, hb3, hc3⟩ := Kd.begins I1 q3 r''
        refine zip_begins3 B1 B2 B3 hb1 hb2 hb3 fun h' hzz hTI hTO g1 g2 g3 hsz hk => PyProof.Rows.args_nil ?_
        have I2 : Inv X pins σ H1 { s1 with heap := h' } := I1.kept (t' := s1.toks) hk
        have all6 : ∀ c ∈ [s1.heap.objs.size + 5, s1.heap.objs.size + 3, s1.heap.objs.size + 4, s1.heap.objs.size, s1.heap.objs.size + 1, s1.heap.objs.size + 2], s1.heap.objs.size ≤ c ∧ c < s1.heap.objs.size + 6 := fun c hcm => by
          have e' : c = s1.heap.objs.size + 5 ∨ c = s1.heap.objs.size + 3 ∨ c = s1.heap.objs.size + 4 ∨ c = s1.heap.objs.size ∨ c = s1.heap.objs.size + 1 ∨ c = s1.heap.objs.size + 2 := by simpa using hcm
          rcases e' with z | z | z | z | z | z <;> rw [z] <;> exact ⟨by first | exact Nat.le_add_right _ _ | exact Nat.le_refl _, by first | exact Nat.add_lt_add_left (by decide) _ | exact Nat.lt_add_of_pos_right (by decide)⟩
        refine lz_call (s := { s1 with heap := h' }) hc (six_new s1.heap.objs.size) I2 (fun c hcm => I1.fpOk (all6 c hcm).1 (I1.hok.fresh (all6 c hcm).1)) ⟨.inl ⟨hzz, _, _, _, hTO⟩, hTI, hc1 _ _ g1, hc2 _ _ g2, hc3 _ _ g3, _, hTO⟩ (fun c hcm => by
          show c < h'.objs.size
          rw [hsz]
          exact (all6 c hcm).2) q1 q2 q3 l2 l3 hz hzz fun S s' H' as hS I' hl G => ?_
        exact ⟨.ref S, H', I', rfl, fin S H' as hS hl G⟩
end S8
set_option Elab.async false
set_option linter.all false
set_option maxRecDepth 100000
set_option maxHeartbeats 400000
namespace S8
open PySem PySem.Spec PyProof.Rows L2 Evl
/-! ### The mirror: what the program computes, in plain Lean -/
/-- a text of these signs; a text of one sign, as a value -/
def txt (l : List Nat) : Str := ⟨l.toArray⟩
def ch (c : Nat) : V := .str ⟨#[c]⟩
def iv (n : Nat) : V := .int (n : Int)
def abcde : List Nat := [97, 98, 99, 100, 101]
/-- a rule -/
structure Ru where
  kind : Nat
  near : Nat
  many : Int
  beats : Int
  later : Nat
structure Ru.Ok (r : Ru) : Prop where
  k : r.kind ∈ abcde
  n : r.near ∈ abcde
  l : r.later ∈ abcde
  ne : r.later ≠ r.kind
  m : 1 ≤ r.many ∧ r.many ≤ 2
  b : 1 ≤ r.beats ∧ r.beats ≤ 4
def Ru.vals (r : Ru) : List V := [ch r.kind, ch r.near, .int r.many, .int r.beats, ch r.later]
/-- the neighbours of a place that no bar parts from it -/
def beside (row bars : List Nat) (p : Nat) : List Nat :=
  (if 0 < p ∧ p - 1 ∉ bars then [row.getD (p - 1) 0] else []) ++ if p + 1 < row.length ∧ p ∉ bars then [row.getD (p + 1) 0] else []
def cnt1 (nr : List Nat) (kind : Nat) (r : Ru) (old : Int) : Int := if r.kind = kind ∧ r.many ≤ (nr.count r.near : Int) then (if old + 1 < r.beats then old + 1 else r.beats) else 0
def cntRow (nr : List Nat) (kind : Nat) (rs : List Ru) (olds : List Int) : List Int := List.zipWith (cnt1 nr kind) rs olds
def cntAt (row bars : List Nat) (rs : List Ru) (cs : List (List Int)) (p : Nat) : List Int := cntRow (beside row bars p) (row.getD p 0) rs (cs.getD p [])
def counted (row bars : List Nat) (rs : List Ru) (cs : List (List Int)) : List (List Int) := (List.range row.length).map (cntAt row bars rs cs)
/-- the ripe rules' later kinds -/
def ripe (rs : List Ru) (c : List Int) : List Nat := ((rs.zip c).filter fun x => decide (x.2 = x.1.beats)).map fun x => x.1.later
def turn1 (rs : List Ru) (kind : Nat) (c : List Int) : Nat × List Int := match ripe rs c with
  | [] => (kind, c)
  | l :: _ => (l, List.replicate rs.length 0)
def beatR (row bars : List Nat) (rs : List Ru) (cs : List (List Int)) : List Nat := (List.range row.length).map fun p => (turn1 rs (row.getD p 0) (cntAt row bars rs cs p)).1
def beatC (row bars : List Nat) (rs : List Ru) (cs : List (List Int)) : List (List Int) := (List.range row.length).map fun p => (turn1 rs (row.getD p 0) (cntAt row bars rs cs p)).2
/-- the state of a shelf -/
structure Sta where
  row : List Nat
  cnt : List (List Int)
  wal : List Bool
structure Sta.Ok (n : Nat) (s : Sta) : Prop where
  c : s.cnt.length = s.row.length
  w : s.wal.length = s.row.length
  z : s.row.length ≤ 12
  e : ∀ c ∈ s.cnt, c.length = n
def Sta.bars (s : Sta) : List Nat := (List.range (s.row.length - 1)).filter fun p => s.wal.getD p false
def sta0 : Sta := ⟨[], [], []⟩
inductive Deed where
  | put (p : Int) (k : Str) | take (p : Int) | bar (p : Int) | unbar (p : Int) | tick
def Deed.vals : Deed → List V
  | .put p k => [.str "put", .int p, .str k]
  | .take p => [.str "take", .int p]
  | .bar p => [.str "bar", .int p]
  | .unbar p => [.str "unbar", .int p]
  | .tick => [.str "tick"]
inductive Res where
  | non | sgn (c : Nat) | plc (l : List Nat)
inductive Out where
  | told (r : Res) | jar (p : Int) | row | count
def isK (k : Str) : Bool := decide (k.cps.size = 1) && decide (k.cps.toList.getD 0 0 ∈ abcde)
def Sta.tick (rs : List Ru) (s : Sta) : Sta := ⟨beatR s.row s.bars rs s.cnt, beatC s.row s.bars rs s.cnt, s.wal⟩
def Sta.put (n : Nat) (s : Sta) (p : Nat) (k : Str) : Sta := ⟨s.row.take p ++ k.cps.toList ++ s.row.drop p, s.cnt.take p ++ [List.replicate n 0] ++ s.cnt.drop p, s.wal.take p ++ [false] ++ s.wal.drop p⟩
def Sta.take (s : Sta) (p : Nat) : Sta := ⟨s.row.take p ++ s.row.drop (p + 1), s.cnt.take p ++ s.cnt.drop (p + 1), s.wal.take p ++ s.wal.drop (p + 1)⟩
def diff (row new : List Nat) : List Nat := (List.range row.length).filter fun p => !decide (new.getD p 0 = row.getD p 0)
def act (rs : List Ru) (s : Sta) : Deed → Out × Sta
  | .put p k => if ¬ (0 ≤ p ∧ p ≤ s.row.length) then (.jar p, s) else if isK k = false then (.row, s) else if s.row.length = 12 then (.count, s) else (.told .non, s.put rs.length p.toNat k)
  | .take p => if ¬ (0 ≤ p ∧ p < s.row.length) then (.jar p, s) else (.told (.sgn (s.row.getD p.toNat 0)), s.take p.toNat)
  | .bar p => if ¬ (0 ≤ p ∧ p < s.row.length) then (.jar p, s) else if s.wal.getD p.toNat false = true then (.jar p, s) else (.told .non, { s with wal := s.wal.set p.toNat true })
  | .unbar p => if ¬ (0 ≤ p ∧ p < s.row.length) then (.jar p, s) else if s.wal.getD p.toNat false = false then (.jar p, s) else (.told .non, { s with wal := s.wal.set p.toNat false })
  | .tick => (.told (.plc (diff s.row (s.tick rs).row)), s.tick rs)
/-- an item of a list of deeds: a deed, or a tuple of a wrong size -/
def szOf (z : Str) : Int := if z = "put" then 3 else if z = "take" then 2 else if z = "bar" then 2 else if z = "unbar" then 2 else if z = "tick" then 1 else 0
inductive Item where
  | ok (d : Deed) | no (vs : List V)
def Item.vals : Item → List V
  | .ok d => d.vals
  | .no vs => vs
def Item.Ok : Item → Prop
  | .ok _ => True
  | .no vs => vs = [] ∨ ∃ z r, vs = V.str z :: r ∧ szOf z ≠ (vs.length : Int)
/-- the items done in turn from s: the state at the end, or the place of the first one that isn't done -/
def doAll (rs : List Ru) : Sta → Nat → List Item → Sum Nat Sta
  | s, _, [] => .inr s
  | s, i, .no _ :: _ => .inl i
  | s, i, .ok d :: r => match act rs s d with
    | (.told _, s') => doAll rs s' (i + 1) r
    | _ => .inl i
end S8
set_option Elab.async false
set_option linter.all false
set_option maxRecDepth 100000
set_option maxHeartbeats 400000
namespace S8
open PySem PySem.Spec PyProof.Rows L2
/-! ### The texts by their places; slots: parameters, then the other names -/
def top (i : Nat) : Stmt := PySem.Challenge.pw_sourrow_k08_whole_shelves_done_again.main.body.getD i (.Pass ⟨0, 0, 0, 0⟩)
abbrev sIsKind : Stmt := top 16
abbrev nIsKind : List Str := ["sign"]
abbrev pIsKind : List Str := ["sign"]
theorem scIsKind : FnScope nIsKind pIsKind (defScope sIsKind) := ⟨rfl, rfl, rfl, by decide +kernel, rfl, by decide +kernel, by decide +kernel⟩
abbrev sIsRule : Stmt := top 17
abbrev nIsRule : List Str := ["rule"]
abbrev pIsRule : List Str := ["rule"]
theorem scIsRule : FnScope nIsRule pIsRule (defScope sIsRule) := ⟨rfl, rfl, rfl, by decide +kernel, rfl, by decide +kernel, by decide +kernel⟩
abbrev sNeed : Stmt := top 18
abbrev nNeed : List Str := ["rules", "number", "rule"]
abbrev pNeed : List Str := ["rules"]
theorem scNeed : FnScope nNeed pNeed (defScope sNeed) := ⟨rfl, rfl, rfl, by decide +kernel, rfl, by decide +kernel, by decide +kernel⟩
abbrev sBeside : Stmt := top 19
abbrev nBeside : List Str := ["row", "bars", "place", "found"]
abbrev pBeside : List Str := ["row", "bars", "place"]
theorem scBeside : FnScope nBeside pBeside (defScope sBeside) := ⟨rfl, rfl, rfl, by decide +kernel, rfl, by decide +kernel, by decide +kernel⟩
abbrev sCounted : Stmt := top 20
abbrev nCounted : List Str := ["row", "bars", "rules", "counts", "found", "place", "kind", "near", "new", "rule", "old", "is_so"]
abbrev pCounted : List Str := ["row", "bars", "rules", "counts"]
theorem scCounted : FnScope nCounted pCounted (defScope sCounted) := ⟨rfl, rfl, rfl, by decide +kernel, rfl, by decide +kernel, by decide +kernel⟩
abbrev sTurned : Stmt := top 21
abbrev nTurned : List Str := ["row", "rules", "counts", "kinds", "found", "kind", "some", "ripe", "rule", "count"]
abbrev pTurned : List Str := ["row", "rules", "counts"]
theorem scTurned : FnScope nTurned pTurned (defScope sTurned) := ⟨rfl, rfl, rfl, by decide +kernel, rfl, by decide +kernel, by decide +kernel⟩
abbrev sBeatOf : Stmt := top 22
abbrev nBeatOf : List Str := ["world", "row", "counts"]
abbrev pBeatOf : List Str := ["world", "row", "counts"]
theorem scBeatOf : FnScope nBeatOf pBeatOf (defScope sBeatOf) := ⟨rfl, rfl, rfl, by decide +kernel, rfl, by decide +kernel, by decide +kernel⟩
abbrev sInit : Stmt := inClass (top 30) 0
abbrev nInit : List Str := ["self", "rules", "rule"]
abbrev pInit : List Str := ["self", "rules"]
theorem scInit : FnScope nInit pInit (defScope sInit) := ⟨rfl, rfl, rfl, by decide +kernel, rfl, by decide +kernel, by decide +kernel⟩
abbrev sPut : Stmt := inClass (top 30) 1
abbrev nPut : List Str := ["self", "place", "kind"]
abbrev pPut : List Str := ["self", "place", "kind"]
theorem scPut : FnScope nPut pPut (defScope sPut) := ⟨rfl, rfl, rfl, by decide +kernel, rfl, by decide +kernel, by decide +kernel⟩
abbrev sNeedP : Stmt := inClass (top 30) 2
abbrev nNeedP : List Str := ["self", "place", "most"]
abbrev pNeedP : List Str := ["self", "place", "most"]
theorem scNeedP : FnScope nNeedP pNeedP (defScope sNeedP) := ⟨rfl, rfl, rfl, by decide +kernel, rfl, by decide +kernel, by decide +kernel⟩
abbrev sTake : Stmt := inClass (top 30) 3
abbrev nTake : List Str := ["self", "place", "kind"]
abbrev pTake : List Str := ["self", "place"]
theorem scTake : FnScope nTake pTake (defScope sTake) := ⟨rfl, rfl, rfl, by decide +kernel, rfl, by decide +kernel, by decide +kernel⟩
abbrev sBar : Stmt := inClass (top 30) 4
abbrev nBar : List Str := ["self", "place"]
abbrev pBar : List Str := ["self", "place"]
theorem scBar : FnScope nBar pBar (defScope sBar) := ⟨rfl, rfl, rfl, by decide +kernel, rfl, by decide +kernel, by decide +kernel⟩
abbrev sUnbar : Stmt := inClass (top 30) 5
abbrev nUnbar : List Str := ["self", "place"]
abbrev pUnbar : List Str := ["self", "place"]
theorem scUnbar : FnScope nUnbar pUnbar (defScope sUnbar) := ⟨rfl, rfl, rfl, by decide +kernel, rfl, by decide +kernel, by decide +kernel⟩
abbrev sBars : Stmt := inClass (top 30) 6
abbrev nBars : List Str := ["self", "place"]
abbrev pBars : List Str := ["self"]
theorem scBars : FnScope nBars pBars (defScope sBars) := ⟨rfl, rfl, rfl, by decide +kernel, rfl, by decide +kernel, by decide +kernel⟩
abbrev sTick : Stmt := inClass (top 30) 7
abbrev nTick : List Str := ["self", "old", "place"]
abbrev pTick : List Str := ["self"]
theorem scTick : FnScope nTick pTick (defScope sTick) := ⟨rfl, rfl, rfl, by decide +kernel, rfl, by decide +kernel, by decide +kernel⟩
abbrev sLook : Stmt := inClass (top 30) 8
abbrev nLook : List Str := ["self", "kind", "some", "wall"]
abbrev pLook : List Str := ["self"]
theorem scLook : FnScope nLook pLook (defScope sLook) := ⟨rfl, rfl, rfl, by decide +kernel, rfl, by decide +kernel, by decide +kernel⟩
abbrev sWorld : Stmt := inClass (top 30) 9
abbrev nWorld : List Str := ["self"]
abbrev pWorld : List Str := ["self"]
theorem scWorld : FnScope nWorld pWorld (defScope sWorld) := ⟨rfl, rfl, rfl, by decide +kernel, rfl, by decide +kernel, by decide +kernel⟩
abbrev sDeeds : Stmt := inClass (top 30) 10
abbrev nDeeds : List Str := ["self"]
abbrev pDeeds : List Str := ["self"]
theorem scDeeds : FnScope nDeeds pDeeds (defScope sDeeds) := ⟨rfl, rfl, rfl, by decide +kernel, rfl, by decide +kernel, by decide +kernel⟩
abbrev sDo : Stmt := top 31
abbrev nDo : List Str := ["shelf", "deed", "word", "rest"]
abbrev pDo : List Str := ["shelf", "deed"]
theorem scDo : FnScope nDo pDo (defScope sDo) := ⟨rfl, rfl, rfl, by decide +kernel, rfl, by decide +kernel, by decide +kernel⟩
abbrev sAgain : Stmt := top 32
abbrev nAgain : List Str := ["rules", "deeds", "shelf", "number", "deed", "e"]
abbrev pAgain : List Str := ["rules", "deeds"]
theorem scAgain : FnScope nAgain pAgain (defScope sAgain) := ⟨rfl, rfl, rfl, by decide +kernel, rfl, by decide +kernel, by decide +kernel⟩
abbrev sMix : Stmt := top 34
abbrev nMix : List Str := ["_law_script", "_law_seed", "_law_mixed", "_law_cell"]
abbrev pMix : List Str := ["_law_script", "_law_seed"]
theorem scMix : FnScope nMix pMix (defScope sMix) := ⟨rfl, rfl, rfl, by decide +kernel, rfl, by decide +kernel, by decide +kernel⟩
abbrev sNext : Stmt := top 35
abbrev nNext : List Str := ["_law_h", "_law_many", "_law_cell"]
abbrev pNext : List Str := ["_law_h", "_law_many"]
theorem scNext : FnScope nNext pNext (defScope sNext) := ⟨rfl, rfl, rfl, by decide +kernel, rfl, by decide +kernel, by decide +kernel⟩
abbrev sAlike : Stmt := top 36
abbrev nAlike : List Str := ["_law_found", "_law_due", "_law_k"]
abbrev pAlike : List Str := ["_law_found", "_law_due"]
theorem scAlike : FnScope nAlike pAlike (defScope sAlike) := ⟨rfl, rfl, rfl, by decide +kernel, rfl, by decide +kernel, by decide +kernel⟩
abbrev sRules : Stmt := top 37
abbrev nRules : List Str := ["_law_h", "_law_kinds", "_law_many", "_law_found", "_law_k", "_law_kind_here", "_law_near", "_law_later"]
abbrev pRules : List Str := ["_law_h", "_law_kinds", "_law_many"]
theorem scRules : FnScope nRules pRules (defScope sRules) := ⟨rfl, rfl, rfl, by decide +kernel, rfl, by decide +kernel, by decide +kernel⟩
abbrev sLBeside : Stmt := top 38
abbrev nLBeside : List Str := ["_law_row", "_law_bars_here", "_law_place", "_law_found"]
abbrev pLBeside : List Str := ["_law_row", "_law_bars_here", "_law_place"]
theorem scLBeside : FnScope nLBeside pLBeside (defScope sLBeside) := ⟨rfl, rfl, rfl, by decide +kernel, rfl, by decide +kernel, by decide +kernel⟩
abbrev sLBeat : Stmt := top 39
abbrev nLBeat : List Str := ["_law_world", "_law_row", "_law_counts", "_law_later", "_law_fresh", "_law_place", "_law_near", "_law_some", "_law_turn_to", "_law_k", "_law_kind_here", "_law_other", "_law_many", "_law_beats_of", "_law_last", "_law_held"]
abbrev pLBeat : List Str := ["_law_world", "_law_row", "_law_counts"]
theorem scLBeat : FnScope nLBeat pLBeat (defScope sLBeat) := ⟨rfl, rfl, rfl, by decide +kernel, rfl, by decide +kernel, by decide +kernel⟩
abbrev sKind : Stmt := top 40
abbrev nKind : List Str := ["_law_call", "e", "_law_kinds"]
abbrev pKind : List Str := ["_law_call"]
theorem scKind : FnScope nKind pKind (defScope sKind) := ⟨rfl, rfl, rfl, by decide +kernel, rfl, by decide +kernel, by decide +kernel⟩
abbrev sLShelf : Stmt := top 41
abbrev nLShelf : List Str := ["_law_rules_here"]
abbrev pLShelf : List Str := ["_law_rules_here"]
theorem scLShelf : FnScope nLShelf pLShelf (defScope sLShelf) := ⟨rfl, rfl, rfl, by decide +kernel, rfl, by decide +kernel, by decide +kernel⟩
abbrev sLBars : Stmt := top 42
abbrev nLBars : List Str := ["_law_w", "_law_place"]
abbrev pLBars : List Str := ["_law_w"]
theorem scLBars : FnScope nLBars pLBars (defScope sLBars) := ⟨rfl, rfl, rfl, by decide +kernel, rfl, by decide +kernel, by decide +kernel⟩
abbrev sDone : Stmt := top 43
abbrev nDone : List Str := ["_law_w", "_law_deed_here", "_law_word", "_law_row", "_law_result", "_law_place", "_law_kind_here"]
abbrev pDone : List Str := ["_law_w", "_law_deed_here"]
theorem scDone : FnScope nDone pDone (defScope sDone) := ⟨rfl, rfl, rfl, by decide +kernel, rfl, by decide +kernel, by decide +kernel⟩
abbrev sLDeed : Stmt := top 44
abbrev nLDeed : List Str := ["_law_h", "_law_w", "_law_wild", "_law_wish", "_law_many", "_law_place", "_law_kind_here", "_law_shut"]
abbrev pLDeed : List Str := ["_law_h", "_law_w", "_law_wild"]
theorem scLDeed : FnScope nLDeed pLDeed (defScope sLDeed) := ⟨rfl, rfl, rfl, by decide +kernel, rfl, by decide +kernel, by decide +kernel⟩
abbrev sReal : Stmt := top 45
abbrev nReal : List Str := ["_law_shelf_here", "_law_deed_here", "_law_word"]
abbrev pReal : List Str := ["_law_shelf_here", "_law_deed_here"]
theorem scReal : FnScope nReal pReal (defScope sReal) := ⟨rfl, rfl, rfl, by decide +kernel, rfl, by decide +kernel, by decide +kernel⟩
abbrev sTold : Stmt := top 46
abbrev nTold : List Str := ["_law_shelf_here", "_law_deed_here", "_law_found", "_law_kind_here"]
abbrev pTold : List Str := ["_law_shelf_here", "_law_deed_here"]
theorem scTold : FnScope nTold pTold (defScope sTold) := ⟨rfl, rfl, rfl, by decide +kernel, rfl, by decide +kernel, by decide +kernel⟩
abbrev sStands : Stmt := top 47
abbrev nStands : List Str := ["_law_shelf_here", "_law_w", "_law_rows", "_law_k"]
abbrev pStands : List Str := ["_law_shelf_here", "_law_w"]
theorem scStands : FnScope nStands pStands (defScope sStands) := ⟨rfl, rfl, rfl, by decide +kernel, rfl, by decide +kernel, by decide +kernel⟩
abbrev sLaw : Stmt := top 48
abbrev nLaw : List Str := ["_law_script", "_law_h", "_law_turn", "_law_rules_here", "_law_w", "_law_time", "_law_deeds", "_law_shelf_here", "_law_deed_here", "_law_at", "_law_fresh", "_law_odd", "_law_some", "_law_sizes", "_law_bad", "_law_k", "_law_good", "_law_due"]
abbrev pLaw : List Str := ["_law_script"]
theorem scLaw : FnScope nLaw pLaw (defScope sLaw) := ⟨rfl, rfl, rfl, by decide +kernel, rfl, by decide +kernel, by decide +kernel⟩
abbrev sXRow : Stmt := inClass (top 2) 0
abbrev nXRow : List Str := ["self", "place"]
abbrev pXRow : List Str := ["self", "place"]
theorem scXRow : FnScope nXRow pXRow (defScope sXRow) := ⟨rfl, rfl, rfl, by decide +kernel, rfl, by decide +kernel, by decide +kernel⟩
abbrev sXJar : Stmt := inClass (top 8) 0
abbrev nXJar : List Str := ["self", "place"]
abbrev pXJar : List Str := ["self", "place"]
theorem scXJar : FnScope nXJar pXJar (defScope sXJar) := ⟨rfl, rfl, rfl, by decide +kernel, rfl, by decide +kernel, by decide +kernel⟩
abbrev sXDeed : Stmt := inClass (top 9) 0
abbrev nXDeed : List Str := ["self", "number"]
abbrev pXDeed : List Str := ["self", "number"]
theorem scXDeed : FnScope nXDeed pXDeed (defScope sXDeed) := ⟨rfl, rfl, rfl, by decide +kernel, rfl, by decide +kernel, by decide +kernel⟩
end S8
set_option Elab.async false
set_option linter.all false
set_option maxRecDepth 100000
set_option maxHeartbeats 400000
set_option pp.maxSteps 2000
namespace S8
open PySem PySem.Spec PyProof.Rows L2 Evl
/-! ### what the module's names hold -/
def Glb (mg : Str → Option Value) (x : Str) (v : V) : Prop := ∃ u, mg x = some u ∧ RelV v u
structure Bt (mg : Str → Option Value) : Prop where
  len : mg "len" = none
  min : mg "min" = none
  max : mg "max" = none
  enu : mg "enumerate" = none
  zip : mg "zip" = none
  tup : mg "tuple" = none
  lst : mg "list" = none
  rng : mg "range" = none
  isi : mg "isinstance" = none
  str : mg "str" = none
  int : mg "int" = none
  bool : mg "bool" = none
  ve : mg "ValueError" = none
  kinds : Glb mg "KINDS" (.str "abcde")
  mJ : Glb mg "MOST_JARS" (.int 12)
  mR : Glb mg "MOST_RULES" (.int 5)
  mB : Glb mg "MOST_BEATS" (.int 4)
  gPut : Glb mg "PUT" (.str "put")
  gTake : Glb mg "TAKE" (.str "take")
  gBar : Glb mg "BAR" (.str "bar")
  gOpen : Glb mg "OPEN" (.str "unbar")
  gBeat : Glb mg "BEAT" (.str "tick")
section
variable {X : Cx}
theorem pe_g {x : Str} {v : V} {pos : Pos} (hg : Gl X x) (h : Glb X.mg x v) (hd : (x == ("__debug__" : Str)) = false := by decide) : PE X (.Name x pos) (tC v) := by
  obtain ⟨u, h1, h2⟩ := h
  exact pe_glob hg h1 h2 hd
end
section
variable {σ : L2.St} {H : Hp} {z : V} {vs : List V} {x y : V}
theorem rc_of {r : List V → Hp → VK → Prop} (h : ∀ H1, Ex H H1 → ∀ Q : VK, Q z H1 → r vs H1 Q) : RC r vs H z := fun H1 e Q q => h H1 e Q (q H1 (Ex.refl H1))
theorem rv_of {r : R2} (h : ∀ H1, Ex H H1 → ∀ Q : VK, Q z H1 → r x y H1 Q) : RV r x y H z := fun H1 e Q q => h H1 e Q (q H1 (Ex.refl H1))
/-- len of a text -/
theorem ev_lenZ {ta : TE} {s : Str} (h : Ev ta σ H (.str s)) (hz : s.length ≤ sizeLine) : Ev (tCB (fun xs H Q => ∃ z, xs = [.str z] ∧ z.length ≤ sizeLine ∧ Q (.int z.length) H) (tCons ta tNil)) σ H (.int s.length) :=
  ev_cb (ea_cons h ea_nil) (rc_of fun H1 _ Q q => ⟨s, rfl, hz, q⟩)
theorem ev_eq {ta tb : TE} (ha : Ev ta σ H x) (hb : Ev tb σ H y) (hs : scal x y = true) : Ev (tOp rEq ta tb) σ H (.bl (decide (x = y))) := ev_op ha hb (rv_eq hs)
theorem ev_ne {ta tb : TE} (ha : Ev ta σ H x) (hb : Ev tb σ H y) (hs : scal x y = true) : Ev (tOp rNe ta tb) σ H (.bl (!decide (x = y))) := ev_op ha hb (rv_ne hs)
theorem ev_I0 {ta tb : TE} {g : Int → Int → V} {i j : Int} (ha : Ev ta σ H (.int i)) (hb : Ev tb σ H (.int j)) : Ev (tOp (rI0 g) ta tb) σ H (g i j) := ev_op ha hb rv_I0
theorem ev_ixT {K : PySem.W.Frag} {ta tb : TE} {p : Addr} {xs : List V} {i : Int} (ha : Ev ta σ H (.ref p)) (hb : Ev tb σ H (.int i)) (h : H p = some (.tup xs)) (hi : atI xs i = some z) : Ev (tOp (rIxT K) ta tb) σ H z := ev_op ha hb (rv_ixT (st_of h) hi)
theorem ev_lenS {K : PySem.W.Frag} {ta : TE} {p : Addr} {xs : List V} (h : Ev ta σ H (.ref p)) (hp : H p = some (.tup xs)) :
    Ev (tCB (fun xs H Q => ∃ p ys, xs = [.ref p] ∧ (SqL K H p ys ∨ SqT K H p ys) ∧ Q (.int ys.length) H) (tCons ta tNil)) σ H (.int xs.length) :=
  ev_cb (ea_cons h ea_nil) (rc_of fun H1 e Q q => ⟨p, xs, rfl, .inr (st_of (e _ _ hp)), q⟩)
theorem dec_str {a b : Str} : decide (V.str a = V.str b) = decide (a = b) := by
  by_cases h : a = b
  · rw [h]; simp
  · rw [decide_eq_false h, decide_eq_false (fun z => h (V.str.inj z))]
theorem dec_int {a b : Int} : decide (V.int a = V.int b) = decide (a = b) := by
  by_cases h : a = b
  · rw [h]; simp
  · rw [decide_eq_false h, decide_eq_false (fun z => h (V.int.inj z))]
theorem dec_ch {a b : Nat} : decide (ch a = ch b) = decide (a = b) := by
  by_cases h : a = b
  · rw [h]; simp
  · rw [decide_eq_false h]
    refine decide_eq_false fun z => h ?_
    have z1 := V.str.inj z
    have z2 : (#[a] : Array Nat) = #[b] := congrArg Str.cps z1
    simpa using z2
end
theorem cps_abcde : ("abcde" : Str).cps.toList = abcde := by decide +kernel
theorem len_txt (l : List Nat) : (txt l).length = l.length := by
  show l.toArray.size = l.length
  simp
/-! ### is_kind -/
def spIsKind : Sp := fun vs H Q _ => ∃ z : Str, vs = [.str z] ∧ z.length ≤ sizeLine ∧ RetV (.bl (isK z)) H Q
section
variable {P : Program} {w : World} {K : PySem.W.Frag} {mg : Str → Option Value} {base : Heap}
theorem ok_isKind {f : Addr} {fd : FuncData} (F : Fun K "is_kind" "is_kind" sIsKind f fd) (B : Bt mg) : FnOk P w K mg base CX0 1 f fd pIsKind spIsKind := by
  refine F.ok scIsKind (fun vs H Q E h => ?_) (fun cdv A outer s H vs Q E hr h => ?_)
  · obtain ⟨z, rfl, _⟩ := h
    rfl
  · refine ⟨_, pss_one (ps_ret (pe_and (pe_cmpR op_eq (pe_callB call_len_str (by rfl) B.len boot_len (pa_cons (pv 0) pa_nil)) pe_int (nomark _)) (pe_one (pe_cmpR op_in_sign (pv 0) (pe_g (by rfl) B.kinds) (by rfl))))), ?_⟩
    obtain ⟨z, rfl, hz, k⟩ := h
    refine s_ret (ev_andV (ev_eq (ev_lenZ (ev_var rfl) hz) ev_c rfl) fun h1 => (ev_op (ev_var rfl) ev_c (rv_of (z := .bl (decide (z.cps.toList.getD 0 0 ∈ abcde))) fun H1 _ Q q => ⟨z.cps.toList.getD 0 0, "abcde", ?_, rfl, ?_⟩))) fun H1 e => ?_
    · rw [dec_int] at h1
      have h2 : z.cps.size = 1 := by
        have := of_decide_eq_true h1
        have h3 : (z.length : Int) = 1 := this
        have h4 : z.length = 1 := by omega
        exact h4
      have h3 : z.cps.toList.length = 1 := by rw [Array.length_toList]; exact h2
      obtain ⟨⟨l⟩⟩ := z
      match l, h3 with
      | [c], _ => rfl
    · rw [cps_abcde]
      exact q
    · have e1 : (decide (V.int (z.length : Int) = V.int 1) && decide (z.cps.toList.getD 0 0 ∈ abcde)) = isK z := by
        rw [dec_int]
        have e2 : decide ((z.length : Int) = 1) = decide (z.cps.size = 1) := by
          by_cases h : z.cps.size = 1
          · rw [decide_eq_true h, decide_eq_true (by have : z.length = 1 := h; omega)]
          · rw [decide_eq_false h, decide_eq_false (fun q => h (by have : z.length = 1 := by omega
                                                                   exact this))]
        rw [e2]
        rfl
      have q := k H1 e
      rw [← e1] at q
      exact q
end
end S8
set_option Elab.async false
set_option linter.all false
set_option maxRecDepth 100000
set_option maxHeartbeats 400000
set_option pp.maxSteps 2000
namespace S8
open PySem PySem.Spec PyProof.Rows L2 Evl
section
variable {σ : L2.St} {H : Hp} {x y u : V} {k k' : Bool} {ta tb tc : TE} {r r' : R2}
theorem ev_chain (ha : Ev ta σ H x) (hb : Ev tb σ H y) (hr : RV r x y H (.bl k)) (hc : k = true → Ev tc σ H u) (hr' : k = true → RV r' y u H (.bl k')) : Ev (tChain r r' ta tb tc) σ H (.bl (k && k')) := fun H1 e Q q =>
  ha H1 e _ fun H2 e2 => hb H2 (e.trans e2) _ fun H3 e3 => hr H3 ((e.trans e2).trans e3) _ fun H4 e4 => ⟨k, rfl, by
    cases k with
    | true =>
      rw [if_pos rfl]
      refine hc rfl H4 (((e.trans e2).trans e3).trans e4) _ fun H5 e5 => hr' rfl H5 ((((e.trans e2).trans e3).trans e4).trans e5) _ fun H6 e6 => ?_
      exact q H6 ((((e2.trans e3).trans e4).trans e5).trans e6)
    | false =>
      rw [if_neg Bool.false_ne_true]
      exact q H4 ((e2.trans e3).trans e4)⟩
end
/-! ### is_rule: of a rule as the law makes them it is True -/
def spIsRule : Sp := fun vs H Q _ => ∃ (a : Addr) (r : Ru), vs = [.ref a] ∧ H a = some (.tup r.vals) ∧ r.Ok ∧ RetV (.bl true) H Q
theorem isK_ch {c : Nat} (h : c ∈ abcde) : isK ⟨#[c]⟩ = true := by
  show (decide (1 = 1) && decide (c ∈ abcde)) = true
  rw [decide_eq_true h]
  rfl
section
variable {P : Program} {w : World} {K : PySem.W.Frag} {mg : Str → Option Value} {base : Heap}
theorem ok_isRule {f f1 : Addr} {fd fd1 : FuncData} (F : Fun K "is_rule" "is_rule" sIsRule f fd) (B : Bt mg) (g1 : mg "is_kind" = some (.ref f1)) (k1 : PySem.W.keepIn K (.ref f1) = true) (b1 : Binds K fd1 pIsKind []) (G1 : FnOk P w K mg base CX0 1 f1 fd1 pIsKind spIsKind) :
    FnOk P w K mg base CX0 2 f fd pIsRule spIsRule := by
  refine F.ok scIsRule (fun vs H Q E h => ?_) (fun cdv A outer s H vs Q E hr h => ?_)
  · obtain ⟨a, r, rfl, _⟩ := h
    rfl
  · refine ⟨_, pss_cons (ps_if (PW.pt (pw_or (pt_cmpR op_ne (pe_callB call_len_seq (by rfl) B.len boot_len (pa_cons (pv 0) pa_nil)) pe_int (nomark _))
        (pw_or (pt_not (pt_val (pe_call G1 hr (by rfl) g1 k1 b1 .nil pass0 (pa_cons (pe_ix ix_tup (pv 0) pe_int (fun _ _ => rfl)) pa_nil))))
        (pw_or (pt_not (pt_val (pe_call G1 hr (by rfl) g1 k1 b1 .nil pass0 (pa_cons (pe_ix ix_tup (pv 0) pe_int (fun _ _ => rfl)) pa_nil))))
        (pw_or1 (pt_not (pt_val (pe_call G1 hr (by rfl) g1 k1 b1 .nil pass0 (pa_cons (pe_ix ix_tup (pv 0) pe_int (fun _ _ => rfl)) pa_nil)))))))))
      (pss_one (ps_ret pe_bl)) pss_nil)
      (pss_one (ps_ret (pe_and (pe_cmpR op_ne (pe_ix ix_tup (pv 0) pe_int (fun _ _ => rfl)) (pe_ix ix_tup (pv 0) pe_int (fun _ _ => rfl)) (nomark _))
        (pe_and (pe_chain op_le op_le pe_int (pe_ix ix_tup (pv 0) pe_int (fun _ _ => rfl)) pe_int) (pe_one (pe_chain op_le op_le pe_int (pe_ix ix_tup (pv 0) pe_int (fun _ _ => rfl)) (pe_g (by rfl) B.mB))))))), ?_⟩
    obtain ⟨a, r, rfl, ha, R, k⟩ := h
    have ka : ∀ {i : Int} {c : Nat}, atI r.vals i = some (ch c) → c ∈ abcde → ∀ H1, Ex H H1 → EvT (tNot (tB (tCall spIsKind [] E0 (tCons (tOp (rIxT K) (tVar 0) (tC (.int i))) tNil)))) (L2.start nIsRule [.ref a]) H1 false := fun {i c} hi hc H1 e => by
      refine et_is (et_not (et_B (ev_call (vs := [ch c]) (ea_cons (ev_ixT (ev_var rfl) ev_c (e _ _ ha) hi) ea_nil) (z := .bl true) ?_))) rfl
      refine fun H2 e2 Q q E' => ⟨⟨#[c]⟩, rfl, by show 1 ≤ sizeLine; decide, fun H3 e3 => ?_⟩
      rw [isK_ch hc]
      exact q H3 e3
    refine q_when (b := false) (et_is (et_or (et_test (ev_ne (ev_lenS (ev_var rfl) ha) ev_c rfl)) fun _ => et_or (ka (i := 0) (by rfl) R.k H (Ex.refl H)) fun _ => et_or (ka (i := 1) (by rfl) R.n H (Ex.refl H)) fun _ => ka (i := 4) (by rfl) R.l H (Ex.refl H)) (by rfl)) (fun q => Bool.noConfusion q) fun _ H1 e1 => ?_
    refine s_ret (ev_is (ev_andV (ev_ne (ev_ixT (ev_var rfl) ev_c (e1 _ _ ha) (by rfl)) (ev_ixT (ev_var rfl) ev_c (e1 _ _ ha) (by rfl)) rfl) fun _ => ev_andV (ev_chain ev_c (ev_ixT (ev_var rfl) ev_c (e1 _ _ ha) (by rfl)) rv_I0 (fun _ => ev_c) fun _ => rv_I0)
      fun _ => ev_chain ev_c (ev_ixT (ev_var rfl) ev_c (e1 _ _ ha) (by rfl)) rv_I0 (fun _ => ev_c) fun _ => rv_I0) (w := .bl true) ?_) fun H2 e2 => k H2 (e1.trans e2)
    show V.bl (!decide (ch r.later = ch r.kind) && ((decide ((1 : Int) ≤ r.many) && decide (r.many ≤ 2)) && (decide ((1 : Int) ≤ r.beats) && decide (r.beats ≤ 4)))) = V.bl true
    rw [dec_ch, decide_eq_false R.ne, decide_eq_true R.m.1, decide_eq_true R.m.2, decide_eq_true R.b.1, decide_eq_true R.b.2]
    rfl
end
/-! ### lists of objects -/
def Pr {α β : Type} (P : α → β → Prop) : List α → List β → Prop
  | [], [] => True
  | a :: as, b :: bs => P a b ∧ Pr P as bs
  | _, _ => False
section
variable {α β : Type} {P P' : α → β → Prop}
theorem Pr.length : ∀ {as : List α} {bs : List β}, Pr P as bs → as.length = bs.length
  | [], [], _ => rfl
  | _ :: _, _ :: _, h => congrArg Nat.succ (Pr.length h.2)
  | [], _ :: _, h => h.elim
  | _ :: _, [], h => h.elim
theorem Pr.mono (f : ∀ a b, P a b → P' a b) : ∀ {as : List α} {bs : List β}, Pr P as bs → Pr P' as bs
  | [], [], _ => trivial
  | _ :: _, _ :: _, h => ⟨f _ _ h.1, Pr.mono f h.2⟩
  | [], _ :: _, h => h.elim
  | _ :: _, [], h => h.elim
theorem Pr.monoM : ∀ {as : List α} {bs : List β}, (∀ a b, a ∈ as → b ∈ bs → P a b → P' a b) → Pr P as bs → Pr P' as bs
  | [], [], _, _ => trivial
  | _ :: _, _ :: _, f, h => ⟨f _ _ List.mem_cons_self List.mem_cons_self h.1, Pr.monoM (fun a b ha hb => f a b (List.mem_cons_of_mem _ ha) (List.mem_cons_of_mem _ hb)) h.2⟩
  | [], _ :: _, _, h => h.elim
  | _ :: _, [], _, h => h.elim
theorem Pr.append : ∀ {as as' : List α} {bs bs' : List β}, Pr P as bs → Pr P as' bs' → Pr P (as ++ as') (bs ++ bs')
  | [], _, [], _, _, h' => h'
  | _ :: _, _, _ :: _, _, h, h' => ⟨h.1, Pr.append h.2 h'⟩
  | [], _, _ :: _, _, h, _ => h.elim
  | _ :: _, _, [], _, h, _ => h.elim
theorem Pr.take : ∀ (n : Nat) {as : List α} {bs : List β}, Pr P as bs → Pr P (as.take n) (bs.take n)
  | 0, _, _, _ => trivial
  | _ + 1, [], [], _ => trivial
  | n + 1, _ :: _, _ :: _, h => ⟨h.1, Pr.take n h.2⟩
  | _ + 1, [], _ :: _, h => h.elim
  | _ + 1, _ :: _, [], h => h.elim
theorem Pr.drop : ∀ (n : Nat) {as : List α} {bs : List β}, Pr P as bs → Pr P (as.drop n) (bs.drop n)
  | 0, _, _, h => h
  | _ + 1, [], [], _ => trivial
  | n + 1, _ :: _, _ :: _, h => Pr.drop n h.2
  | _ + 1, [], _ :: _, h => h.elim
  | _ + 1, _ :: _, [], h => h.elim
theorem Pr.get : ∀ {i : Nat} {as : List α} {bs : List β} {a : α} {b : β}, Pr P as bs → as[i]? = some a → bs[i]? = some b → P a b
  | 0, _ :: _, _ :: _, _, _, h, e1, e2 => by
    cases e1
    cases e2
    exact h.1
  | i + 1, _ :: _, _ :: _, _, _, h, e1, e2 => Pr.get (i := i) h.2 (by simpa using e1) (by simpa using e2)
  | _, [], [], _, _, _, e1, _ => by simp at e1
  | _, [], _ :: _, _, _, h, _, _ => h.elim
  | _, _ :: _, [], _, _, h, _, _ => h.elim
theorem Pr.getL {i : Nat} {as : List α} {bs : List β} {a : α} (h : Pr P as bs) (e : as[i]? = some a) : ∃ b, bs[i]? = some b ∧ P a b := by
  have hi : i < bs.length := by rw [← h.length]; exact (List.getElem?_eq_some_iff.mp e).1
  exact ⟨bs[i], List.getElem?_eq_getElem hi, h.get e (List.getElem?_eq_getElem hi)⟩
theorem Pr.getR {i : Nat} {as : List α} {bs : List β} {b : β} (h : Pr P as bs) (e : bs[i]? = some b) : ∃ a, as[i]? = some a ∧ P a b := by
  have hi : i < as.length := by rw [h.length]; exact (List.getElem?_eq_some_iff.mp e).1
  exact ⟨as[i], List.getElem?_eq_getElem hi, h.get (List.getElem?_eq_getElem hi) e⟩
theorem Pr.snoc {as : List α} {bs : List β} {a : α} {b : β} (h : Pr P as bs) (h' : P a b) : Pr P (as ++ [a]) (bs ++ [b]) := h.append ⟨h', trivial⟩
theorem Pr.memL {as : List α} {bs : List β} {a : α} (h : Pr P as bs) (ha : a ∈ as) : ∃ b, b ∈ bs ∧ P a b := by
  obtain ⟨i, e⟩ := List.mem_iff_getElem?.mp ha
  obtain ⟨b, e2, p⟩ := h.getL e
  exact ⟨b, List.mem_of_getElem? e2, p⟩
end
theorem map_get {α : Type} {f : α → V} {l : List α} {i : Nat} {y : V} (h : (l.map f)[i]? = some y) : ∃ a, l[i]? = some a ∧ y = f a := by
  rw [List.getElem?_map] at h
  cases e : l[i]? with
  | none => rw [e] at h; cases h
  | some a => rw [e] at h; exact ⟨a, rfl, (Option.some.inj h).symm⟩
/-- a tuple of tuples -/
def TupsAt {α : Type} (f : α → List V) (H : Hp) (p : Addr) (xs : List α) : Prop := ∃ as : List Addr, H p = some (.tup (as.map V.ref)) ∧ Pr (fun a x => H a = some (.tup (f x))) as xs
theorem TupsAt.ex {α : Type} {f : α → List V} {H H' : Hp} {p : Addr} {xs : List α} (h : TupsAt f H p xs) (e : ∀ b l, H b = some (.tup l) → H' b = some (.tup l)) : TupsAt f H' p xs := by
  obtain ⟨as, h1, h2⟩ := h
  exact ⟨as, e _ _ h1, h2.mono fun a x => e _ _⟩
abbrev RulesAt : Hp → Addr → List Ru → Prop := TupsAt Ru.vals
def RsOk (rs : List Ru) : Prop := rs.length ≤ 4 ∧ ∀ r ∈ rs, r.Ok
/-! ### need_rules: of rules as the law makes them nothing is said -/
def spNeed : Sp := fun vs H Q _ => ∃ (p : Addr) (rs : List Ru), vs = [.ref p] ∧ RulesAt H p rs ∧ RsOk rs ∧ RetV .non H Q
section
variable {P : Program} {w : World} {K : PySem.W.Frag} {mg : Str → Option Value} {base : Heap}
theorem ok_need {f f1 : Addr} {fd fd1 : FuncData} (F : Fun K "need_rules" "need_rules" sNeed f fd) (B : Bt mg) (g1 : mg "is_rule" = some (.ref f1)) (k1 : PySem.W.keepIn K (.ref f1) = true) (b1 : Binds K fd1 pIsRule []) (G1 : FnOk P w K mg base CX0 2 f1 fd1 pIsRule spIsRule) :
    FnOk P w K mg base CX0 3 f fd pNeed spNeed := by
  refine F.ok scNeed (fun vs H Q E h => ?_) (fun cdv A outer s H vs Q E hr h => ?_)
  · obtain ⟨a, r, rfl, _⟩ := h
    rfl
  · refine ⟨_, pss_one (ps_for PassesOwn.never rfl (pi_enumk (by rfl) B.enu (pa_cons (pv 0) pa_nil)) (pg_tup (by rfl) (pgs_cons (pg_name (i := 1) scNeed.nd rfl (.inl rfl)) (pgs_cons (pg_name (i := 2) scNeed.nd rfl (.inl rfl)) pgs_nil)))
      (pss_one (ps_if (PW.pt (pw_or (pt_cmpR op_eq (pv 1) (pe_g (by rfl) B.mR) (nomark _)) (pw_or1 (pt_not (pt_val (pe_call G1 hr (by rfl) g1 k1 b1 .nil pass0 (pa_cons (pv 2) pa_nil))))))) (pss_one ps_never) pss_nil))), ?_⟩
    obtain ⟨p, rs, rfl, ⟨as, hp, hr1⟩, R, k⟩ := h
    have hl := hr1.length
    have hz : rs.length ≤ 4 := R.1
    refine ⟨_, rfl, .tup p, as.map V.ref, rfl, st_of hp, for_enumk (k := .tup p) (fun i σ H' => (∃ v1 v2, σ = [some (.ref p), v1, v2]) ∧ Ex H H') ⟨⟨_, _, rfl⟩, Ex.refl H⟩ (fun i σ H' q => st_of (q.2 _ _ hp)) ?_ fun σ H' q => k H' q.2⟩
    rintro i x T σ H' hx ⟨⟨v1, v2, rfl⟩, e⟩ nT
    obtain ⟨a, ha, rfl⟩ := map_get hx
    obtain ⟨r, hr2, hr3⟩ := hr1.getL ha
    have hi : i < 4 := by
      have := (List.getElem?_eq_some_iff.mp ha).1
      omega
    have e2 := e.trans (Ex.new (o := .tup [.int (i : Nat), .ref a]) nT)
    refine ⟨T, _, rfl, st_of upd_same, rfl, _, _, rfl, _, _, rfl, rfl, ?_⟩
    refine s_when (b := false) (et_is (et_or (et_test (ev_eq (ev_var rfl) ev_c rfl)) fun _ => et_not (et_B (ev_call (vs := [.ref a]) (ea_cons (ev_var rfl) ea_nil) (z := .bl true) (fun H2 e3 Q2 q2 E' => ⟨a, r, rfl, e3 _ _ (e2 _ _ hr3), R.2 r (List.mem_of_getElem? hr2), fun H3 e4 => q2 H3 e4⟩)))) ?_)
      (fun q => Bool.noConfusion q) fun _ H2 e3 => ⟨⟨_, _, rfl⟩, e2.trans e3⟩
    rw [dec_int, decide_eq_false (by omega)]
    rfl
end
end S8
set_option Elab.async false
set_option linter.all false
set_option maxRecDepth 100000
set_option maxHeartbeats 400000
set_option pp.maxSteps 2000
namespace S8
open PySem PySem.Spec PyProof.Rows L2 Evl
theorem atI_txt {row : List Nat} {i : Nat} (h : i < row.length) : atI (txt row).cps.toList (i : Int) = some (row.getD i 0) := by
  refine atI_nat ?_
  show row.toArray.toList[i]? = _
  rw [List.getElem?_eq_getElem (by simpa using h)]
  simp [List.getD_eq_getElem?_getD, List.getElem?_eq_getElem h]
theorem inV_nat {n : Nat} {l : List Nat} : inV (.int (n : Int)) (l.map iv) = decide (n ∈ l) := by
  unfold inV
  rw [List.any_map]
  by_cases h : n ∈ l
  · rw [decide_eq_true h]
    refine List.any_eq_true.mpr ⟨n, h, ?_⟩
    show ((n : Int) == (n : Int)) = true
    simp
  · rw [decide_eq_false h]
    refine List.any_eq_false.mpr fun m hm => ?_
    show ¬ ((m : Int) == (n : Int)) = true
    intro z
    have := eq_of_beq z
    exact h (by have e : m = n := by omega
                rw [← e]; exact hm)
theorem flat_nats {l : List Nat} : (l.map iv).all flatV = true := by
  rw [List.all_map]
  exact List.all_eq_true.mpr fun _ _ => rfl
theorem ev_ixS {σ : L2.St} {H : Hp} {ta tb : TE} {row : List Nat} {i : Nat} (ha : Ev ta σ H (.str (txt row))) (hb : Ev tb σ H (.int (i : Int))) (h : i < row.length) (hz : row.length ≤ 100000) : Ev (tOp rIxS ta tb) σ H (ch (row.getD i 0)) :=
  ev_op ha hb (rv_ixS (by rw [len_txt]; exact hz) (atI_txt h))
/-! ### beside -/
def spBeside : Sp := fun vs H Q _ => ∃ (row bars : List Nat) (b : Addr) (p : Nat), vs = [.str (txt row), .ref b, iv p] ∧ H b = some (.tup (bars.map iv)) ∧ p < row.length ∧ row.length ≤ 12 ∧ RetL ((beside row bars p).map ch) H Q
section
variable {P : Program} {w : World} {K : PySem.W.Frag} {mg : Str → Option Value} {base : Heap}
theorem ok_beside {f : Addr} {fd : FuncData} (F : Fun K "beside" "beside" sBeside f fd) (B : Bt mg) : FnOk P w K mg base CX0 1 f fd pBeside spBeside := by
  refine F.ok scBeside (fun vs H Q E h => ?_) (fun cdv A outer s H vs Q E hr h => ?_)
  · obtain ⟨row, bars, b, p, rfl, _⟩ := h
    rfl
  · refine ⟨_, pss_cons (ps_set (i := 3) scBeside.nd rfl (.inl rfl) (pe_lst pa_nil))
      (pss_cut (ps_if (PW.pt (pw_and (pt_cmpR op_gt (pv 2) pe_int (nomark _)) (pw_and1 (pt_cmpR op_notIn_seq (pe_op op_sub (pv 2) pe_int) (pv 1) (by rfl)))))
        (pss_one (ps_expr (pe_bm PySem.F.plainAttrs_list PySem.F.slot_list_append PySem.F.type_list_append mt_append (pv 3) (pa_cons (pe_ix ix_str (pv 0) (pe_op op_sub (pv 2) pe_int) (fun _ _ => rfl)) pa_nil)))) pss_nil)
      (pss_cut (ps_if (PW.pt (pw_and (pt_cmpR op_lt (pv 2) (pe_op op_sub (pe_callB call_len_str (by rfl) B.len boot_len (pa_cons (pv 0) pa_nil)) pe_int) (nomark _)) (pw_and1 (pt_cmpR op_notIn_seq (pv 2) (pv 1) (by rfl)))))
        (pss_one (ps_expr (pe_bm PySem.F.plainAttrs_list PySem.F.slot_list_append PySem.F.type_list_append mt_append (pv 3) (pa_cons (pe_ix ix_str (pv 0) (pe_op op_add (pv 2) pe_int) (fun _ _ => rfl)) pa_nil)))) pss_nil)
      (pss_one (ps_ret (pv 3))))), ?_⟩
    obtain ⟨row, bars, b, p, rfl, hb, hp, hz, k⟩ := h
    refine q_asgL (el_lst ea_nil (by decide)) fun l H1 nl e1 h1 => ?_
    have hzs : (txt row).length ≤ sizeLine := by rw [len_txt]; exact sz_of (by omega)
    refine q_cut (M := fun σ' H' => σ' = [some (.str (txt row)), some (.ref b), some (iv p), some (.ref l)] ∧ Ex H H' ∧ H' l = some (.lst ((if 0 < p ∧ p - 1 ∉ bars then [row.getD (p - 1) 0] else []).map ch))) ?_ ?_
    · have eb : (decide ((0 : Int) < (p : Int)) && !inV (.int ((p : Int) - 1)) (bars.map iv)) = decide (0 < p ∧ p - 1 ∉ bars) := by
        by_cases h0 : 0 < p
        · rw [decide_eq_true (show (0 : Int) < (p : Int) by omega), show (p : Int) - 1 = ((p - 1 : Nat) : Int) by omega, inV_nat, Bool.true_and]
          by_cases h2 : p - 1 ∈ bars
          · rw [decide_eq_true h2, decide_eq_false (fun q => q.2 h2)]
            rfl
          · rw [decide_eq_false h2, decide_eq_true ⟨h0, h2⟩]
            rfl
        · rw [decide_eq_false (show ¬ (0 : Int) < (p : Int) by omega), decide_eq_false (fun q => h0 q.1)]
          rfl
      refine s_when (et_is (et_and (et_test (ev_I0 (ev_var rfl) ev_c)) (fun h0 => et_test (ev_op (ev_I0 (ev_var rfl) ev_c) (ev_var rfl) (rv_niT (st_of (e1 _ _ hb)) rfl flat_nats)))) eb) (fun q H2 e2 => ?_) (fun q H2 e2 => ?_)
      · have q' := of_decide_eq_true q
        refine s_app (l := l) (xs := []) (e2 _ _ h1) (ev_var rfl) (ev_ixS (i := p - 1) (ev_var rfl) (ev_is (ev_I0 (ev_var rfl) ev_c) (by show V.int ((p : Int) - 1) = V.int ((p - 1 : Nat) : Int); rw [show (p : Int) - 1 = ((p - 1 : Nat) : Int) by omega])) (by omega) (by omega)) (by decide) fun H3 e3 => ⟨rfl, Ex.mut ((e1.trans e2).trans e3) nl, ?_⟩
        rw [if_pos q']
        exact upd_same
      · have q' := of_decide_eq_false q
        refine ⟨rfl, e1.trans e2, ?_⟩
        rw [if_neg q']
        exact e2 _ _ h1
    · rintro σ' H2 ⟨rfl, e2, h2⟩
      refine q_cut (M := fun σ' H' => σ' = [some (.str (txt row)), some (.ref b), some (iv p), some (.ref l)] ∧ Ex H H' ∧ H' l = some (.lst ((beside row bars p).map ch))) ?_ ?_
      · have eb : (decide ((p : Int) < ((txt row).length : Int) - 1) && !inV (.int (p : Int)) (bars.map iv)) = decide (p + 1 < row.length ∧ p ∉ bars) := by
          rw [len_txt, inV_nat]
          by_cases h0 : p + 1 < row.length
          · rw [decide_eq_true (show (p : Int) < (row.length : Int) - 1 by omega), Bool.true_and]
            by_cases h2 : p ∈ bars
            · rw [decide_eq_true h2, decide_eq_false (fun q => q.2 h2)]
              rfl
            · rw [decide_eq_false h2, decide_eq_true ⟨h0, h2⟩]
              rfl
          · rw [decide_eq_false (show ¬ (p : Int) < (row.length : Int) - 1 by omega), Bool.false_and]
            exact (decide_eq_false (fun q => h0 q.1)).symm
        refine s_when (et_is (et_and (et_test (ev_I0 (ev_var rfl) (ev_I0 (ev_lenZ (ev_var rfl) hzs) ev_c))) (fun h0 => et_test (ev_op (ev_var rfl) (ev_var rfl) (rv_niT (st_of (e2 _ _ hb)) rfl flat_nats)))) eb) (fun q H3 e3 => ?_) (fun q H3 e3 => ?_)
        · have q' := of_decide_eq_true q
          refine s_app (l := l) (e3 _ _ h2) (ev_var rfl) (ev_ixS (i := p + 1) (ev_var rfl) (ev_is (ev_I0 (ev_var rfl) ev_c) rfl) (by omega) (by omega)) (by split <;> simp) fun H4 e4 => ⟨rfl, Ex.mut ((e2.trans e3).trans e4) nl, ?_⟩
          unfold beside
          rw [if_pos q', List.map_append]
          exact upd_same
        · have q' := of_decide_eq_false q
          refine ⟨rfl, e2.trans e3, ?_⟩
          unfold beside
          rw [if_neg q', List.append_nil]
          exact e3 _ _ h2
      · rintro σ' H3 ⟨rfl, e3, h3⟩
        exact s_ret (ev_var rfl) fun H4 e4 => k.go (Ex.refl H) nl (e3.trans e4) (e4 _ _ h3)
end
end S8
set_option Elab.async false
set_option linter.all false
set_option maxRecDepth 100000
set_option maxHeartbeats 400000
set_option pp.maxSteps 2000
namespace S8
open PySem PySem.Spec PyProof.Rows L2 Evl
section
variable {K : PySem.W.Frag} {σ : L2.St} {H : Hp} {x y z : V} {ta tb te to : TE}
theorem ev_cntF {p : Addr} {ys : List V} (ho : Ev to σ H (.ref p)) (hp : H p = some (.lst ys)) (he : Ev te σ H y) (fy : flatV y = true) (fys : ys.all flatV = true) :
    Ev (tBM K "list" (rCntF K) to (tCons te tNil)) σ H (.int ((ys.countP fun z => eqV z y : Nat) : Int)) := fun H1 e Q q =>
  ho H1 e _ fun H2 e2 => ⟨Or.inl ⟨rfl, ys, sq_of (e2 _ _ (e _ _ hp))⟩, he H2 (e.trans e2) _ fun H3 e3 => ⟨p, ys, y, rfl, rfl, sq_of (e3 _ _ (e2 _ _ (e _ _ hp))), fy, fys, q H3 (e2.trans e3)⟩⟩
theorem cnt_ch {l : List Nat} {c : Nat} : ((l.map ch).countP fun z => eqV z (ch c)) = l.count c := by
  rw [List.countP_map]
  unfold List.count
  congr 1
  funext a
  show ((⟨#[a]⟩ : Str) == (⟨#[c]⟩ : Str)) = (a == c)
  by_cases h : a = c
  · rw [h]; simp
  · have h1 : (a == c) = false := by simpa using h
    rw [h1]
    refine beq_eq_false_iff_ne.mpr fun z => h ?_
    have z2 : (#[a] : Array Nat) = #[c] := congrArg Str.cps z
    simpa using z2
theorem flat_chs {l : List Nat} : (l.map ch).all flatV = true := by
  rw [List.all_map]
  exact List.all_eq_true.mpr fun _ _ => rfl
theorem flat_ints {l : List Int} : (l.map V.int).all flatV = true := by
  rw [List.all_map]
  exact List.all_eq_true.mpr fun _ _ => rfl
/-- tuple(a list) -/
theorem eu_tupL {p : Addr} {xs : List V} (h : Ev te σ H (.ref p)) (hp : H p = some (.lst xs)) :
    EvU (tCB (fun xs H Q => ∃ p ys, xs = [.ref p] ∧ ((SqL K H p ys ∧ ∀ l, H l = none → Q (.ref l) (upd H l (.tup ys))) ∨ (SqT K H p ys ∧ Q (.ref p) H))) (tCons te tNil)) σ H xs := fun H1 e Q q =>
  h H1 e _ fun H2 e2 => ⟨p, xs, rfl, .inl ⟨sq_of (e2 _ _ (e _ _ hp)), fun l hl => q l _ (fresh_back e2 hl) (e2.trans (Ex.new hl)) upd_same⟩⟩
theorem ev_min2 {i j : Int} (ha : Ev ta σ H (.int i)) (hb : Ev tb σ H (.int j)) : Ev (tCB (fun xs H Q => ∃ i j, xs = [.int i, .int j] ∧ Q (.int (if j < i then j else i)) H) (tCons ta (tCons tb tNil))) σ H (.int (if j < i then j else i)) :=
  ev_cb (ea_cons ha (ea_cons hb ea_nil)) (rc_of fun H1 _ Q q => ⟨i, j, rfl, q⟩)
end
theorem signs_txt (row : List Nat) : signs (txt row) = row.map ch := by
  unfold signs txt
  simp [ch]
/-- a list of tuples -/
def ListAt {α : Type} (f : α → List V) (H : Hp) (p : Addr) (xs : List α) : Prop := ∃ as : List Addr, H p = some (.lst (as.map V.ref)) ∧ Pr (fun a x => H a = some (.tup (f x))) as xs
abbrev iLs (c : List Int) : List V := c.map V.int
abbrev CntsAt : Hp → Addr → List (List Int) → Prop := TupsAt iLs
structure BeatOk (rs : List Ru) (row : List Nat) (cs : List (List Int)) : Prop where
  c : cs.length = row.length
  z : row.length ≤ 12
  e : ∀ c ∈ cs, c.length = rs.length
/-! ### counted -/
def spCounted : Sp := fun vs H Q _ => ∃ (row bars : List Nat) (rs : List Ru) (cs : List (List Int)) (b r c : Addr), vs = [.str (txt row), .ref b, .ref r, .ref c] ∧ H b = some (.tup (bars.map iv)) ∧ RulesAt H r rs ∧ RsOk rs ∧ CntsAt H c cs ∧ BeatOk rs row cs ∧
  ∀ p H', H p = none → Ex H H' → ListAt iLs H' p (counted row bars rs cs) → Q (.ref p) H'
theorem cntRow_take {nr : List Nat} {kind : Nat} {rs : List Ru} {c : List Int} {j : Nat} {r : Ru} {o : Int} (hr : rs[j]? = some r) (ho : c[j]? = some o) : (cntRow nr kind rs c).take (j + 1) = (cntRow nr kind rs c).take j ++ [cnt1 nr kind r o] := by
  have h : (cntRow nr kind rs c)[j]? = some (cnt1 nr kind r o) := by
    unfold cntRow
    rw [List.getElem?_zipWith, hr, ho]
  rw [List.take_add_one, h]
  rfl
section
variable {P : Program} {w : World} {K : PySem.W.Frag} {mg : Str → Option Value} {base : Heap}
theorem ok_counted {f f1 : Addr} {fd fd1 : FuncData} (F : Fun K "counted" "counted" sCounted f fd) (B : Bt mg) (g1 : mg "beside" = some (.ref f1)) (k1 : PySem.W.keepIn K (.ref f1) = true) (b1 : Binds K fd1 pBeside []) (G1 : FnOk P w K mg base CX0 1 f1 fd1 pBeside spBeside) :
    FnOk P w K mg base CX0 2 f fd pCounted spCounted := by
  refine F.ok scCounted (fun vs H Q E h => ?_) (fun cdv A outer s H vs Q E hr h => ?_)
  · obtain ⟨row, bars, rs, cs, b, r, c, rfl, _⟩ := h
    rfl
  · refine ⟨_, pss_cons (ps_set (i := 4) scCounted.nd rfl (.inl rfl) (pe_lst pa_nil))
      (pss_cons (ps_for PassesOwn.never rfl (pi_enumk (by rfl) B.enu (pa_cons (pv 0) pa_nil)) (pg_tup (by rfl) (pgs_cons (pg_name (i := 5) scCounted.nd rfl (.inl rfl)) (pgs_cons (pg_name (i := 6) scCounted.nd rfl (.inl rfl)) pgs_nil)))
        (pss_cons (ps_set (i := 7) scCounted.nd rfl (.inl rfl) (pe_call G1 hr (by rfl) g1 k1 b1 .nil pass0 (pa_cons (pv 0) (pa_cons (pv 1) (pa_cons (pv 5) pa_nil)))))
        (pss_cons (ps_set (i := 8) scCounted.nd rfl (.inl rfl) (pe_lst pa_nil))
        (pss_cons (ps_for PassesOwn.never rfl (pi_zipk (by rfl) B.zip (pa_cons (pv 2) (pa_cons (pe_ix ix_tup (pv 3) (pv 5) (fun _ _ => rfl)) pa_nil))) (pg_tup (by rfl) (pgs_cons (pg_name (i := 9) scCounted.nd rfl (.inl rfl)) (pgs_cons (pg_name (i := 10) scCounted.nd rfl (.inl rfl)) pgs_nil)))
          (pss_cons (ps_set (i := 11) scCounted.nd rfl (.inl rfl) (pe_and (pe_cmpR op_eq (pe_ix ix_tup (pv 9) pe_int (fun _ _ => rfl)) (pv 6) (nomark _))
            (pe_one (pe_cmpR op_ge (pe_bm PySem.F.plainAttrs_list PySem.F.slot_list_count PySem.F.type_list_count mt_countF (pv 7) (pa_cons (pe_ix ix_tup (pv 9) pe_int (fun _ _ => rfl)) pa_nil)) (pe_ix ix_tup (pv 9) pe_int (fun _ _ => rfl)) (nomark _)))))
          (pss_one (ps_expr (pe_bm PySem.F.plainAttrs_list PySem.F.slot_list_append PySem.F.type_list_append mt_append (pv 8) (pa_cons (pe_ifExp (pt_val (pv 11)) (pe_callB (call_min2 rfl) (by rfl) B.min (by decide +kernel) (pa_cons (pe_ix ix_tup (pv 9) pe_int (fun _ _ => rfl)) (pa_cons (pe_op op_add (pv 10) pe_int) pa_nil))) pe_int) pa_nil))))))
        (pss_one (ps_expr (pe_bm PySem.F.plainAttrs_list PySem.F.slot_list_append PySem.F.type_list_append mt_append (pv 4) (pa_cons (pe_callTy call_tuple_of (by rfl) B.tup (by decide +kernel) (pa_cons (pv 8) pa_nil)) pa_nil))))))))
      (pss_one (ps_ret (pv 4)))), ?_⟩
    obtain ⟨row, bars, rs, cs, b, r, c, rfl, hb, ⟨ras, hra, hrp⟩, R, ⟨cas, hca, hcp⟩, O, k⟩ := h
    have hz := O.z
    have hrl := hrp.length
    have hcl := hcp.length
    have hr4 := R.1
    refine q_asgL (el_lst ea_nil (by decide)) fun l H1 nl e1 h1 => ?_
    refine ⟨_, rfl, .str (txt row), row.map ch, rfl, (signs_txt row).symm, for_enumk (k := .str (txt row)) (fun i σ' H' => (∃ v5 v6 v7 v8 v9 v10 v11, σ' = [some (.str (txt row)), some (.ref b), some (.ref r), some (.ref c), some (.ref l), v5, v6, v7, v8, v9, v10, v11]) ∧ Ex H H' ∧
      ∃ as : List Addr, H' l = some (.lst (as.map V.ref)) ∧ Pr (fun a x => H' a = some (.tup (iLs x))) as ((List.range i).map (cntAt row bars rs cs))) ⟨⟨_, _, _, _, _, _, _, rfl⟩, e1, [], h1, trivial⟩ (fun i σ H' _ => (signs_txt row).symm) ?_ ?_⟩
    · rintro i x T σ' H2 hx ⟨⟨v5, v6, v7, v8, v9, v10, v11, rfl⟩, e2, as, hl2, hp2⟩ nT
      obtain ⟨kd, hk, rfl⟩ := map_get hx
      have hi : i < row.length := (List.getElem?_eq_some_iff.mp hk).1
      have nlT : l ≠ T := ne_of_none hl2 nT
      refine ⟨T, _, rfl, st_of upd_same, rfl, _, _, rfl, _, _, rfl, rfl, ?_⟩
      have e3 : Ex H (upd H2 T (.tup [.int (i : Nat), ch kd])) := e2.trans (Ex.new nT)
      have x3 : Ex H2 (upd H2 T (.tup [.int (i : Nat), ch kd])) := Ex.new nT
      generalize upd H2 T (.tup [.int (i : Nat), ch kd]) = H3 at e3 x3
      -- near
      refine q_asgL (xs := (beside row bars i).map ch) (el_call (vs := [.str (txt row), .ref b, iv i]) (ea_cons (ev_var rfl) (ea_cons (ev_var rfl) (ea_cons (ev_var rfl) ea_nil))) (fun H4 e4 Q4 q4 E4 => ⟨row, bars, b, i, rfl, e4 _ _ (e3 _ _ hb), hi, hz, q4⟩)) fun nr H4 nnr e4 h4 => ?_
      refine q_asgL (el_lst ea_nil (by decide)) fun nw H5 nnw e5 h5 => ?_
      obtain ⟨ca, hca2, hcx⟩ := hcp.getR (show cs[i]? = some (cs.getD i []) by rw [List.getD_eq_getElem?_getD, List.getElem?_eq_getElem (by rw [O.c]; exact hi)]; rfl)
      have hcxl : (cs.getD i []).length = rs.length := O.e _ (by rw [List.getD_eq_getElem?_getD, List.getElem?_eq_getElem (by rw [O.c]; exact hi)]; exact List.getElem_mem _)
      have E5 := (e3.trans e4).trans e5
      have hix : atI (cas.map V.ref) ((i : Nat) : Int) = some (.ref ca) := atI_nat (by rw [List.getElem?_map, hca2]; rfl)
      -- zip(rules, counts[place])
      refine ⟨_, rfl, _, rfl, _, rfl, c, cas.map V.ref, (i : Int), .ref ca, rfl, rfl, st_of (E5 _ _ hca), hix, .tup r, .tup ca, ras.map V.ref, iLs (cs.getD i []), rfl, st_of (E5 _ _ hra), st_of (E5 _ _ hcx), for_zipk (k1 := .tup r) (k2 := .tup ca) (by rw [List.length_map, List.length_map, hcxl, hrl])
        (fun j σ' H' => (∃ v9 v10 v11, σ' = [some (.str (txt row)), some (.ref b), some (.ref r), some (.ref c), some (.ref l), some (iv i), some (ch kd), some (.ref nr), some (.ref nw), v9, v10, v11]) ∧ Ex H4 H' ∧ H' nw = some (.lst (iLs ((cntRow (beside row bars i) kd rs (cs.getD i [])).take j)))) ⟨⟨_, _, _, rfl⟩, e5, h5⟩
        (fun j σ' H' q => ⟨st_of (q.2.1 _ _ (e4 _ _ (e3 _ _ hra))), st_of (q.2.1 _ _ (e4 _ _ (e3 _ _ hcx)))⟩) ?_ ?_⟩
      · rintro j x y T2 σ' H6 hx6 hy6 ⟨⟨v9, v10, v11, rfl⟩, e6, h6⟩ nT2
        obtain ⟨ra, hra6, rfl⟩ := map_get hx6
        obtain ⟨o, ho6, rfl⟩ := map_get hy6
        obtain ⟨ru, hru, hrv⟩ := hrp.getL hra6
        have hj : j < 4 := by
          have := (List.getElem?_eq_some_iff.mp hru).1
          omega
        refine ⟨T2, _, rfl, st_of upd_same, rfl, _, _, rfl, _, _, rfl, rfl, ?_⟩
        have e7 : Ex H4 (upd H6 T2 (.tup [.ref ra, .int o])) := e6.trans (Ex.new nT2)
        have h7 : upd H6 T2 (.tup [.ref ra, .int o]) nw = some (.lst (iLs ((cntRow (beside row bars i) kd rs (cs.getD i [])).take j))) := Ex.new nT2 _ _ h6
        generalize upd H6 T2 (.tup [.ref ra, .int o]) = H7 at e7 h7
        have hrv7 : H7 ra = some (.tup ru.vals) := e7 _ _ (e4 _ _ (e3 _ _ hrv))
        refine q_asg (v := .bl (decide (ru.kind = kd) && decide (ru.many ≤ ((beside row bars i).count ru.near : Int)))) (ev_is (ev_andV (ev_eq (ev_ixT (ev_var rfl) ev_c hrv7 (by rfl)) (ev_var rfl) rfl) fun _ => ev_I0 (ev_cntF (ev_var rfl) (e7 _ _ h4) (ev_ixT (ev_var rfl) ev_c hrv7 (by rfl)) rfl flat_chs) (ev_ixT (ev_var rfl) ev_c hrv7 (by rfl))) ?_) fun H8 e8 => ?_
        · show V.bl (decide (ch ru.kind = ch kd) && decide (ru.many ≤ (((List.map ch (beside row bars i)).countP fun z => eqV z (ch ru.near) : Nat) : Int))) = _
          rw [dec_ch, cnt_ch]
        · refine s_app (l := nw) (e8 _ _ h7) (ev_var rfl) (v := .int (cnt1 (beside row bars i) kd ru o)) (ev_if (et_B (ev_var rfl)) (fun hb => ev_is (ev_min2 (ev_ixT (ev_var rfl) ev_c (e8 _ _ hrv7) (by rfl)) (ev_I0 (ev_var rfl) ev_c)) ?_) (fun hb => ev_is ev_c ?_)) (by rw [List.length_map, List.length_take]; omega) fun H9 e9 => ?_
          · rw [Bool.and_eq_true, decide_eq_true_eq, decide_eq_true_eq] at hb
            unfold cnt1
            rw [if_pos hb]
          · unfold cnt1
            rw [if_neg (fun q => by rw [decide_eq_true q.1, decide_eq_true q.2] at hb; exact Bool.noConfusion hb)]
          · refine ⟨⟨_, _, _, rfl⟩, Ex.mut ((e7.trans e8).trans e9) nnw, ?_⟩
            rw [cntRow_take hru ho6, upd_same]
            unfold iLs
            rw [List.map_append]
            rfl
      · rintro σ' H6 ⟨⟨v9, v10, v11, rfl⟩, e6, h6⟩
        have hfull : (cntRow (beside row bars i) kd rs (cs.getD i [])).take (ras.map V.ref).length = cntAt row bars rs cs i := by
          rw [List.length_map, hrl]
          unfold cntAt
          have ekd : row.getD i 0 = kd := by rw [List.getD_eq_getElem?_getD, hk]; rfl
          rw [ekd]
          refine List.take_of_length_le ?_
          unfold cntRow
          rw [List.length_zipWith]
          omega
        rw [hfull] at h6
        refine s_appU (l := l) (e6 _ _ (e4 _ _ (x3 _ _ hl2))) (ev_var rfl) (eu_tupL (ev_var rfl) h6) (by
          rw [List.length_map, hp2.length, List.length_map, List.length_range]
          omega) fun t H7 nt e7 h7 => ?_
        have E7 := (((e3.trans e4).trans e6).trans e7)
        refine ⟨⟨_, _, _, _, _, _, _, rfl⟩, Ex.mut E7 nl, as ++ [t], by rw [upd_same, List.map_append]; rfl, ?_⟩
        have nlt : t ≠ l := Ne.symm (ne_of_none (e6 _ _ (e4 _ _ (x3 _ _ hl2))) nt)
        rw [List.range_succ, List.map_append]
        refine Pr.snoc (hp2.mono fun a x hax => ?_) (by rw [upd_ne nlt]; exact h7)
        have nal : a ≠ l := fun q => by rw [q, hl2] at hax; cases hax
        rw [upd_ne nal]
        exact e7 _ _ (e6 _ _ (e4 _ _ (x3 _ _ hax)))
    · rintro σ' H2 ⟨⟨v5, v6, v7, v8, v9, v10, v11, rfl⟩, e2, as, hl2, hp2⟩
      refine s_ret (ev_var rfl) fun H3 e3 => k l H3 nl (e2.trans e3) ⟨as, e3 _ _ hl2, ?_⟩
      rw [List.length_map] at hp2
      exact hp2.mono fun a x hax => e3 _ _ hax
end
end S8
set_option Elab.async false
set_option linter.all false
set_option maxRecDepth 100000
set_option maxHeartbeats 400000
set_option pp.maxSteps 2000
namespace S8
open PySem PySem.Spec PyProof.Rows L2 Evl
/-! ### a value of which something is known -/
def EvX (te : TE) (σ : L2.St) (H : Hp) (P : V → Hp → Prop) : Prop := ∀ H1, Ex H H1 → ∀ Q : VK, (∀ v H2, Ex H1 H2 → P v H2 → Q v H2) → te σ H1 Q
section
variable {K : PySem.W.Frag} {σ : L2.St} {H : Hp} {x y z v : V} {ta tb te to : TE} {t : TT} {P : V → Hp → Prop} {D : Ends}
theorem ex_U {xs : List V} (h : EvU te σ H xs) : EvX te σ H (fun v H' => ∃ p, v = .ref p ∧ H' p = some (.tup xs)) := fun H1 e Q q => h H1 e Q fun p H2 _ e2 h2 => q _ H2 e2 ⟨p, rfl, h2⟩
theorem ex_V (h : Ev te σ H v) (hp : ∀ H', Ex H H' → P v H') : EvX te σ H P := fun H1 e Q q => h H1 e Q fun H2 e2 => q v H2 e2 (hp H2 (e.trans e2))
theorem ex_mono {P' : V → Hp → Prop} (h : EvX te σ H P) (f : ∀ v H', Ex H H' → P v H' → P' v H') : EvX te σ H P' := fun H1 e Q q => h H1 e Q fun v H2 e2 p => q v H2 e2 (f v H2 (e.trans e2) p)
theorem ex_if {b : Bool} (h : EvT t σ H b) (h1 : b = true → EvX ta σ H P) (h2 : b = false → EvX tb σ H P) : EvX (tIf t ta tb) σ H P := fun H1 e Q q => h H1 e _ fun H2 e2 => by
  cases b with
  | true =>
    show ta σ H2 Q
    exact h1 rfl H2 (e.trans e2) Q fun v H3 e3 => q v H3 (e2.trans e3)
  | false =>
    show tb σ H2 Q
    exact h2 rfl H2 (e.trans e2) Q fun v H3 e3 => q v H3 (e2.trans e3)
theorem s_appX {l : Addr} {xs : List V} (hl : H l = some (.lst xs)) (ha : Ev ta σ H (.ref l)) (h : EvX te σ H P) (hz : xs.length < 100000) (k : ∀ v H1, Ex H H1 → P v H1 → D.nx σ (upd H1 l (.lst (xs ++ [v])))) :
    tDrop (tBM K "list" rAppend ta (tCons te tNil)) D σ H := ha H (Ex.refl H) _ fun H1 e1 =>
  ⟨Or.inl ⟨rfl, xs, sq_of (e1 l _ hl)⟩, h H1 e1 _ fun v H2 e2 hp => ⟨l, xs, v, rfl, rfl, e2 l _ (e1 l _ hl), sz_lt hz, k v H2 (e1.trans e2) hp⟩⟩
/-- (0,) * n -/
theorem eu_rep0 {n : Nat} (h : EvU ta σ H [.int 0]) (hn : Ev tb σ H (.int (n : Int))) (hz : n ≤ 1000) : EvX (tOp (rRepN K) ta tb) σ H (fun v H' => ∃ p, v = .ref p ∧ H' p = some (.tup (List.replicate n (.int 0)))) := fun H1 e Q q =>
  h H1 e _ fun l H2 nl e2 h2 => hn H2 (e.trans e2) _ fun H3 e3 => ⟨l, (n : Int), [.int 0], rfl, rfl, st_of (e3 _ _ h2), by simp, by omega, by omega, by decide, fun h1 => by
    have e1 : n = 1 := by omega
    subst e1
    exact q _ H3 (e2.trans e3) ⟨l, rfl, e3 _ _ h2⟩, fun h1 p np => by
    have ef : (List.replicate ((n : Int)).toNat ([V.int 0])).flatten = List.replicate n (V.int 0) := by
      rw [show ((n : Int)).toNat = n by omega]
      exact List.flatten_replicate_singleton
    rw [ef]
    exact q _ _ (e2.trans (e3.trans (Ex.new np))) ⟨p, rfl, upd_same⟩⟩
theorem Kd.src_ex {k : Kd} {xs : List V} {H' : Hp} (q : k.src K H xs) (e : Ex H H') : k.src K H' xs := by
  cases k with
  | lst a => exact ex_l e (show SqL K H a xs from q)
  | tup a => exact ex_t e (show SqT K H a xs from q)
  | str z => exact q
theorem walk_zipk {k1 k2 : Kd} {xs ys : List V} (hl : xs.length = ys.length) : Walk (Itzk K k1 k2) xs.length (fun H => k1.src K H xs ∧ k2.src K H ys) (YPair (fun i => xs[i]?) (fun i => ys[i]?)) := by
  refine ⟨fun i _ hi q => ?_, fun _ q => ⟨xs, ys, q.1, q.2, Nat.le_refl _, by omega, .inl rfl⟩, fun i H v H' _ q y => ?_⟩
  · have h2 : i < ys.length := by omega
    exact ⟨xs, ys, xs[i], ys[i], q.1, q.2, by simp [hi], by simp [h2]⟩
  · obtain ⟨T, x, z, h1, h2, h3, h4, h5⟩ := y
    exact ⟨T, x, z, h1, h2, h3, h4 xs q.1, h5 ys q.2⟩
/-- a comprehension over zip -/
theorem el_lcZ {k1 k2 : Kd} {xs ys : List V} {ta : TA} {i j : Nat} {vs : List Nat} (f : Nat → Bool) (v : Nat → V) (h : EvA ta σ H [k1.v, k2.v]) (h1 : k1.src K H xs) (h2 : k2.src K H ys) (hl : xs.length = ys.length) (hz : xs.length ≤ 40000)
    (hw : ∀ x y, wipe (((wipe σ vs).set i (some x)).set j (some y)) vs = wipe σ vs)
    (ht : ∀ (m : Nat) (x y : V) H1, Ex H H1 → xs[m]? = some x → ys[m]? = some y → EvT t (((wipe σ vs).set i (some x)).set j (some y)) H1 (f m))
    (he : ∀ (m : Nat) (x y : V) H1, Ex H H1 → xs[m]? = some x → ys[m]? = some y → f m = true → Ev te (((wipe σ vs).set i (some x)).set j (some y)) H1 (v m)) :
    EvL (tLc (iZipk K ta) (gTup K 2 (gCons (gName i) (gCons (gName j) gNil))) t te vs) σ H (given xs.length f v) := fun H0 e Q q => h H0 e _ fun H1 e1 =>
  ⟨k1, k2, xs, ys, rfl, Kd.src_ex h1 (e.trans e1), Kd.src_ex h2 (e.trans e1), fun Dl hD =>
  lc_it (walk_zipk (K := K) (k1 := k1) (k2 := k2) hl) (Cw H1 f v Dl) ⟨hD, Ex.new hD, upd_same⟩ (fun m H' _ p => ⟨Kd.src_ex h1 ((e.trans e1).trans p.2.1), Kd.src_ex h2 ((e.trans e1).trans p.2.1)⟩) (fun m x H' H'' hm p y => by
    obtain ⟨T, a, b, rfl, nT, rfl, ea, eb⟩ := y
    have p' : Cw H1 f v Dl m (upd H' T (.tup [a, b])) := ⟨p.1, p.2.1.trans (Ex.new nT), Ex.new nT _ _ p.2.2⟩
    exact ⟨T, [a, b], rfl, st_of upd_same, rfl, _, _, rfl, _, _, rfl, rfl, hw a b, cw_turn p' (by omega) (ht m a b H1 (e.trans e1) ea eb) (he m a b H1 (e.trans e1) ea eb)⟩)
    fun H' p => q Dl H' (fresh_back e1 p.1) (e1.trans p.2.1) p.2.2⟩
theorem dpall_map {α : Type} {f : α → V} {g : α → PyData} {l : List α} (h : ∀ a ∈ l, Dp K H (f a) (g a)) : DpAll K H (l.map f) (l.map g) := by
  induction l with
  | nil => exact .nil
  | cons a l ih => exact .cons (h a List.mem_cons_self) (ih fun b hb => h b (List.mem_cons_of_mem _ hb))
end
theorem lay_map {α : Type} {g : α → PyData} : ∀ {l : List α}, (∀ a ∈ l, (g a).canLay0 = true) → PyData.canLayAll0 (l.map g) = true
  | [], _ => rfl
  | a :: l, h => by
    show (PyData.canLay0 (g a) && PyData.canLayAll0 (l.map g)) = true
    rw [h a List.mem_cons_self, lay_map fun b hb => h b (List.mem_cons_of_mem _ hb)]
    rfl
theorem depth_map {α : Type} {g : α → PyData} {m : Nat} : ∀ {l : List α}, (∀ a ∈ l, (g a).depth ≤ m) → PyData.depthAll (l.map g) ≤ m
  | [], _ => Nat.zero_le _
  | a :: l, h => by
    have h1 := h a List.mem_cons_self
    have h2 := depth_map (l := l) fun b hb => h b (List.mem_cons_of_mem _ hb)
    show max (PyData.depth (g a)) (PyData.depthAll (l.map g)) ≤ m
    exact Nat.max_le.mpr ⟨h1, h2⟩
theorem shaped_list {α : Type} {g : α → PyData} {m : Nat} {l : List α} (h : ∀ a ∈ l, (g a).canLay0 = true) (h2 : ∀ a ∈ l, (g a).depth ≤ m) (hm : m ≤ 60) : SeqAt.shaped (.list (l.map g)) = true := by
  unfold SeqAt.shaped
  have h1 : PyData.canLay0 (.list (l.map g)) = true := lay_map h
  have h3 : PyData.depth (.list (l.map g)) ≤ 64 := by
    have := depth_map h2
    show PyData.depthAll (l.map g) + 1 ≤ 64
    omega
  rw [h1, decide_eq_true h3]
  rfl
theorem lay_ch {c : Nat} (h : c ∈ abcde) : PyData.canLay0 (.str ⟨#[c]⟩) = true := by
  have : c = 97 ∨ c = 98 ∨ c = 99 ∨ c = 100 ∨ c = 101 := by simpa [abcde] using h
  rcases this with rfl | rfl | rfl | rfl | rfl <;> decide +kernel
section
variable {K : PySem.W.Frag} {σ : L2.St} {H : Hp} {ta : TE}
/-- x != [], x a list of signs -/
theorem ev_neNil {l : List Nat} {p : Addr} (ha : Ev ta σ H (.ref p)) (hp : H p = some (.lst (l.map ch))) (hl : ∀ c ∈ l, c ∈ abcde) : Ev (tOp (rNeD K) ta (tLst tNil)) σ H (.bl (!l.isEmpty)) := fun H1 e Q q =>
  ha H1 e _ fun H2 e2 => ⟨by decide, fun r nr => ⟨.list (l.map fun c => .str ⟨#[c]⟩), .list [], .lst (sq_of (Ex.new nr _ _ (e2 _ _ (e _ _ hp)))) (dpall_map fun c _ => .str _), .lst (sq_of upd_same) .nil,
    shaped_list (m := 1) (fun c hc => lay_ch (hl c hc)) (fun c hc => Nat.zero_le _) (by decide), by decide, by
      have q' := q _ (e2.trans (Ex.new (o := .lst []) nr))
      cases l with
      | nil => exact q'
      | cons c l => exact q'⟩⟩
end
end S8
set_option Elab.async false
set_option linter.all false
set_option maxRecDepth 100000
set_option maxHeartbeats 400000
set_option pp.maxSteps 2000
namespace S8
open PySem PySem.Spec PyProof.Rows L2 Evl
def turnR (rs : List Ru) (row : List Nat) (cs : List (List Int)) : List Nat := (List.range row.length).map fun p => (turn1 rs (row.getD p 0) (cs.getD p [])).1
def turnC (rs : List Ru) (row : List Nat) (cs : List (List Int)) : List (List Int) := (List.range row.length).map fun p => (turn1 rs (row.getD p 0) (cs.getD p [])).2
/-! ### turned -/
def spTurned : Sp := fun vs H Q _ => ∃ (row : List Nat) (rs : List Ru) (cs : List (List Int)) (r c : Addr), vs = [.str (txt row), .ref r, .ref c] ∧ RulesAt H r rs ∧ RsOk rs ∧ ListAt iLs H c cs ∧ BeatOk rs row cs ∧
  ∀ p t H', H p = none → Ex H H' → H' p = some (.tup [.str (txt (turnR rs row cs)), .ref t]) → CntsAt H' t (turnC rs row cs) → Q (.ref p) H'
theorem given_zip {α : Type} {f : α → Bool} {g : α → V} {d : α} (l : List α) : ∀ n, n ≤ l.length → given n (fun m => f (l.getD m d)) (fun m => g (l.getD m d)) = ((l.take n).filter f).map g
  | 0, _ => rfl
  | n + 1, h => by
    have ih := given_zip (f := f) (g := g) (d := d) l n (by omega)
    have hn : l[n]? = some (l.getD n d) := by rw [List.getD_eq_getElem?_getD, List.getElem?_eq_getElem (by omega)]; rfl
    have et : l.take (n + 1) = l.take n ++ [l.getD n d] := by rw [List.take_add_one, hn]; rfl
    rw [et, List.filter_append, List.map_append, ← ih]
    cases hf : f (l.getD n d) with
    | true =>
      rw [given_yes hf, List.filter_cons, if_pos hf]
      rfl
    | false =>
      rw [given_no hf, List.filter_cons, if_neg (by rw [hf]; decide)]
      exact (List.append_nil _).symm
theorem ripe_mem {rs : List Ru} {c : List Int} (R : RsOk rs) : ∀ x ∈ ripe rs c, x ∈ abcde := fun x hx => by
  unfold ripe at hx
  obtain ⟨⟨r, o⟩, h1, h2⟩ := List.mem_map.mp hx
  have h3 := (List.mem_filter.mp h1).1
  have h4 := (List.of_mem_zip h3).1
  rw [← h2]
  exact (R.2 r h4).l
theorem join_chs (l : List Nat) : Txt.join (⟨#[]⟩ : Str) (l.map fun c => (⟨#[c]⟩ : Str)) = txt l := by
  have e := SX.join_S [] (l.map fun c => [c])
  have e2 : ∀ l : List Nat, TL.joinL [] (l.map fun c => [c]) = l := fun l => by
    induction l with
    | nil => rfl
    | cons a l ih =>
      cases l with
      | nil => rfl
      | cons b l =>
        show [a] ++ ([] ++ TL.joinL [] ((b :: l).map fun c => [c])) = a :: b :: l
        rw [ih]
        rfl
  rw [e2, List.map_map] at e
  exact e
section
variable {P : Program} {w : World} {K : PySem.W.Frag} {mg : Str → Option Value} {base : Heap}
theorem ok_turned {f : Addr} {fd : FuncData} (F : Fun K "turned" "turned" sTurned f fd) (B : Bt mg) : FnOk P w K mg base CX0 1 f fd pTurned spTurned := by
  refine F.ok scTurned (fun vs H Q E h => ?_) (fun cdv A outer s H vs Q E hr h => ?_)
  · obtain ⟨row, rs, cs, r, c, rfl, _⟩ := h
    rfl
  · refine ⟨_, pss_cons (ps_par (i := 3) (j := 4) (by rfl) scTurned.nd rfl rfl (by decide) rfl rfl (pa_cons (pe_lst pa_nil) (pa_cons (pe_lst pa_nil) pa_nil)) (by rfl))
      (pss_cons (ps_for PassesOwn.never rfl (pi_zipk (by rfl) B.zip (pa_cons (pv 0) (pa_cons (pv 2) pa_nil))) (pg_tup (by rfl) (pgs_cons (pg_name (i := 5) scTurned.nd rfl (.inl rfl)) (pgs_cons (pg_name (i := 6) scTurned.nd rfl (.inl rfl)) pgs_nil)))
        (pss_cons (ps_setLc (i := 7) (own := [("rule", 8), ("count", 9)]) (g := gTup K 2 (gCons (gName 8) (gCons (gName 9) gNil))) (tt := tTest (tOp rEq (tVar 9) (tOp (rIxT K) (tVar 8) (tC (.int 3))))) (te := tOp (rIxT K) (tVar 8) (tC (.int 4))) (by rfl) scTurned.nd rfl rfl (sw_true rfl rfl rfl (by decide +kernel)) (pi_zipk (by rfl) B.zip (pa_cons (pv 1) (pa_cons (pv 6) pa_nil)))
          (blkOk_by (own := [("rule", 8), ("count", 9)]) (N := nTurned) (sc := defScope sTurned) (by decide +kernel)) (fun _ _ _ _ _ => pg_tup (by rfl) (pgs_cons (pg_name (i := 8) scTurned.nd rfl (.inl rfl)) (pgs_cons (pg_name (i := 9) scTurned.nd rfl (.inl rfl)) pgs_nil)))
          (fun _ _ _ _ _ => pts_one (pt_cmpR op_eq (pv 9) (pe_ix ix_tup (pv 8) pe_int (fun _ _ => rfl)) (nomark _))) (fun _ _ _ _ _ => pe_ix ix_tup (pv 8) pe_int (fun _ _ => rfl)))
        (pss_cons (ps_expr (pe_bm PySem.F.plainAttrs_list PySem.F.slot_list_append PySem.F.type_list_append mt_append (pv 3) (pa_cons (pe_ifExp (pt_cmpR (op_neD hr.units) (pv 7) (pe_lst pa_nil) (nomark _)) (pe_ix ix_list (pv 7) pe_int (fun _ _ => rfl)) (pv 5)) pa_nil)))
        (pss_one (ps_expr (pe_bm PySem.F.plainAttrs_list PySem.F.slot_list_append PySem.F.type_list_append mt_append (pv 4) (pa_cons (pe_ifExp (pt_cmpR (op_neD hr.units) (pv 7) (pe_lst pa_nil) (nomark _)) (pe_op op_repN (pe_tup (pa_cons pe_int pa_nil)) (pe_callB call_len_seq (by rfl) B.len boot_len (pa_cons (pv 1) pa_nil))) (pv 6)) pa_nil)))))))
      (pss_one (ps_ret (pe_tup (pa_cons (pe_join pe_str (pv 3)) (pa_cons (pe_callTy call_tuple_of (by rfl) B.tup (by decide +kernel) (pa_cons (pv 4) pa_nil)) pa_nil)))))), ?_⟩
    obtain ⟨row, rs, cs, r, c, rfl, ⟨ras, hra, hrp⟩, R, ⟨cas, hca, hcp⟩, O, k⟩ := h
    have hz := O.z
    have hrl := hrp.length
    have hcl := hcp.length
    have hr4 := R.1
    refine ⟨by decide, fun kl nk => ⟨by decide, fun fl nf => ⟨_, _, rfl, ?_⟩⟩⟩
    have nkf : kl ≠ fl := fun q => by rw [q, upd_same] at nf; cases nf
    have nf0 : H fl = none := by rw [upd_ne (Ne.symm nkf)] at nf; exact nf
    have e1 : Ex H (upd (upd H kl (.lst [])) fl (.lst [])) := (Ex.new nk).trans (Ex.new nf)
    have hk1 : upd (upd H kl (.lst [])) fl (.lst []) kl = some (.lst []) := by rw [upd_ne nkf, upd_same]
    have hf1 : upd (upd H kl (.lst [])) fl (.lst []) fl = some (.lst []) := upd_same
    show tSeq _ _ _ _ (upd (upd H kl (.lst [])) fl (.lst []))
    generalize upd (upd H kl (.lst [])) fl (.lst []) = H1 at e1 hk1 hf1
    refine ⟨_, rfl, _, rfl, .str (txt row), .lst c, row.map ch, cas.map V.ref, rfl, (signs_txt row).symm, sq_of (e1 _ _ hca), for_zipk (k1 := .str (txt row)) (k2 := .lst c) (by rw [List.length_map, List.length_map, hcl, O.c])
      (fun i σ' H' => (∃ v5 v6 v7 v8 v9, σ' = [some (.str (txt row)), some (.ref r), some (.ref c), some (.ref kl), some (.ref fl), v5, v6, v7, v8, v9]) ∧ Ex H H' ∧ H' kl = some (.lst (((List.range i).map fun p => (turn1 rs (row.getD p 0) (cs.getD p [])).1).map ch)) ∧
        ∃ as : List Addr, H' fl = some (.lst (as.map V.ref)) ∧ Pr (fun a x => H' a = some (.tup (iLs x))) as ((List.range i).map fun p => (turn1 rs (row.getD p 0) (cs.getD p [])).2)) ⟨⟨_, _, _, _, _, rfl⟩, e1, hk1, [], hf1, trivial⟩ (fun i σ' H' q => ⟨(signs_txt row).symm, sq_of (q.2.1 _ _ hca)⟩) ?_ ?_⟩
    · rintro i x y T σ' H2 hx hy ⟨⟨v5, v6, v7, v8, v9, rfl⟩, e2, hk2, as, hf2, hp2⟩ nT
      obtain ⟨kd, hk, rfl⟩ := map_get hx
      obtain ⟨ca, hca2, rfl⟩ := map_get hy
      obtain ⟨ci, hci, hcx⟩ := hcp.getL hca2
      have hi : i < row.length := (List.getElem?_eq_some_iff.mp hk).1
      have ekd : row.getD i 0 = kd := by rw [List.getD_eq_getElem?_getD, hk]; rfl
      have eci : cs.getD i [] = ci := by rw [List.getD_eq_getElem?_getD, hci]; rfl
      have hcil : ci.length = rs.length := O.e _ (List.mem_of_getElem? hci)
      refine ⟨T, _, rfl, st_of upd_same, rfl, _, _, rfl, _, _, rfl, rfl, ?_⟩
      have e3 : Ex H (upd H2 T (.tup [ch kd, .ref ca])) := e2.trans (Ex.new nT)
      have x3 : Ex H2 (upd H2 T (.tup [ch kd, .ref ca])) := Ex.new nT
      generalize upd H2 T (.tup [ch kd, .ref ca]) = H3 at e3 x3
      -- ripe
      have el : (rs.zip ci).length = rs.length := by rw [List.length_zip]; omega
      have eg : given (ras.map V.ref).length (fun m => decide (((rs.zip ci).getD m (⟨0, 0, 0, 0, 0⟩, 0)).2 = ((rs.zip ci).getD m (⟨0, 0, 0, 0, 0⟩, 0)).1.beats)) (fun m => ch ((rs.zip ci).getD m (⟨0, 0, 0, 0, 0⟩, 0)).1.later) = (ripe rs ci).map ch := by
        rw [List.length_map, hrl, ← el]
        rw [given_zip (f := fun x : Ru × Int => decide (x.2 = x.1.beats)) (g := fun x : Ru × Int => ch x.1.later) (d := (⟨0, 0, 0, 0, 0⟩, 0)) (rs.zip ci) (rs.zip ci).length (Nat.le_refl _), List.take_length]
        unfold ripe
        rw [List.map_map]
        rfl
      have hzip : ∀ {m : Nat} {x y : V}, (ras.map V.ref)[m]? = some x → (iLs ci)[m]? = some y → ∃ (ra : Addr) (ru : Ru) (o : Int), x = .ref ra ∧ y = .int o ∧ H ra = some (.tup ru.vals) ∧ (rs.zip ci).getD m (⟨0, 0, 0, 0, 0⟩, 0) = (ru, o) := fun {m x y} h1 h2 => by
        obtain ⟨ra, h3, rfl⟩ := map_get h1
        obtain ⟨o, h4, rfl⟩ := map_get h2
        obtain ⟨ru, h5, h6⟩ := hrp.getL h3
        refine ⟨ra, ru, o, rfl, rfl, h6, ?_⟩
        rw [List.getD_eq_getElem?_getD, show (rs.zip ci)[m]? = some (ru, o) from List.getElem?_zip_eq_some.mpr ⟨h5, h4⟩]
        rfl
      refine q_asgL (xs := (ripe rs ci).map ch) (eg ▸ el_lcZ (k1 := .tup r) (k2 := .tup ca) (xs := ras.map V.ref) (ys := iLs ci) _ _ (ea_cons (ev_var rfl) (ea_cons (ev_var rfl) ea_nil)) (st_of (e3 _ _ hra)) (st_of (e3 _ _ hcx)) (by rw [List.length_map, List.length_map, hcil, hrl]) (by rw [List.length_map]; omega) (fun _ _ => rfl)
        (fun m x y H4 e4 hx4 hy4 => ?_) (fun m x y H4 e4 hx4 hy4 _ => ?_)) fun rp H4 nrp e4 h4 => ?_
      · obtain ⟨ra, ru, o, rfl, rfl, h6, e6⟩ := hzip hx4 hy4
        refine et_is (et_test (ev_eq (ev_var rfl) (ev_ixT (ev_var rfl) ev_c (e4 _ _ (e3 _ _ h6)) (by rfl)) rfl)) ?_
        rw [e6, dec_int]
      · obtain ⟨ra, ru, o, rfl, rfl, h6, e6⟩ := hzip hx4 hy4
        refine ev_is (ev_ixT (ev_var rfl) ev_c (e4 _ _ (e3 _ _ h6)) (by rfl)) ?_
        rw [e6]
      -- kinds.append
      have hk4 := e4 _ _ (x3 _ _ hk2)
      have hf4 := e4 _ _ (x3 _ _ hf2)
      have nrk : rp ≠ kl := Ne.symm (ne_of_none (x3 _ _ hk2) nrp)
      have nrf : rp ≠ fl := Ne.symm (ne_of_none (x3 _ _ hf2) nrp)
      have t1 : ∀ l rest, ripe rs ci = l :: rest → turn1 rs kd ci = (l, List.replicate rs.length 0) := fun l rest q => by unfold turn1; rw [q]
      have t0 : ripe rs ci = [] → turn1 rs kd ci = (kd, ci) := fun q => by unfold turn1; rw [q]
      refine q_app (l := kl) (v := ch (turn1 rs kd ci).1) hk4 (ev_var rfl) (ev_if (et_test (ev_neNil (ev_var rfl) h4 (ripe_mem R))) (fun hb => ?_) (fun hb => ?_)) (by rw [List.length_map, List.length_map, List.length_range]; omega) fun H5 e5 => ?_
      · cases hq : ripe rs ci with
        | nil => rw [hq] at hb; exact Bool.noConfusion hb
        | cons l rest =>
          rw [t1 l rest hq]
          rw [hq] at h4
          exact ev_op (ev_var rfl) ev_c (rv_ixL (sq_of h4) (atI_nat (j := 0) rfl))
      · cases hq : ripe rs ci with
        | nil => rw [t0 hq]; exact ev_var rfl
        | cons l rest => rw [hq] at hb; exact Bool.noConfusion hb
      -- found.append
      have hf5 : upd H5 kl (.lst (((List.range i).map fun p => (turn1 rs (row.getD p 0) (cs.getD p [])).1).map ch ++ [ch (turn1 rs kd ci).1])) fl = some (.lst (as.map V.ref)) := by rw [upd_ne (Ne.symm nkf)]; exact e5 _ _ hf4
      have hr5 : upd H5 kl (.lst (((List.range i).map fun p => (turn1 rs (row.getD p 0) (cs.getD p [])).1).map ch ++ [ch (turn1 rs kd ci).1])) rp = some (.lst ((ripe rs ci).map ch)) := by rw [upd_ne nrk]; exact e5 _ _ h4
      have hk5 : upd H5 kl (.lst (((List.range i).map fun p => (turn1 rs (row.getD p 0) (cs.getD p [])).1).map ch ++ [ch (turn1 rs kd ci).1])) kl = some (.lst (((List.range i).map fun p => (turn1 rs (row.getD p 0) (cs.getD p [])).1).map ch ++ [ch (turn1 rs kd ci).1])) := upd_same
      have E5 : Ex H (upd H5 kl (.lst (((List.range i).map fun p => (turn1 rs (row.getD p 0) (cs.getD p [])).1).map ch ++ [ch (turn1 rs kd ci).1]))) := Ex.mut ((e3.trans e4).trans e5) nk
      have tk : ∀ a xs, H2 a = some (.tup xs) → upd H5 kl (.lst (((List.range i).map fun p => (turn1 rs (row.getD p 0) (cs.getD p [])).1).map ch ++ [ch (turn1 rs kd ci).1])) a = some (.tup xs) := fun a xs q => by
        rw [upd_ne (fun z => by rw [z, hk2] at q; cases q)]
        exact e5 _ _ (e4 _ _ (x3 _ _ q))
      generalize upd H5 kl (.lst (((List.range i).map fun p => (turn1 rs (row.getD p 0) (cs.getD p [])).1).map ch ++ [ch (turn1 rs kd ci).1])) = H6 at hf5 hr5 hk5 E5 tk
      refine s_appX (l := fl) (P := fun v H' => ∃ p, v = .ref p ∧ H' p = some (.tup (iLs (turn1 rs kd ci).2))) hf5 (ev_var rfl) (ex_if (et_test (ev_neNil (ev_var rfl) hr5 (ripe_mem R))) (fun hb => ?_) (fun hb => ?_)) (by rw [List.length_map, hp2.length, List.length_map, List.length_range]; omega) fun v H7 e7 ⟨p, ev, hp7⟩ => ?_
      · cases hq : ripe rs ci with
        | nil => rw [hq] at hb; exact Bool.noConfusion hb
        | cons l rest =>
          rw [t1 l rest hq]
          refine ex_mono (eu_rep0 (n := rs.length) (eu_tup (ea_cons ev_c ea_nil) (by decide)) (ev_is (ev_lenS (ev_var rfl) (E5 _ _ hra)) (by rw [List.length_map, hrl])) (by omega)) fun v H' _ ⟨p, e, q⟩ => ⟨p, e, ?_⟩
          rw [q]
          unfold iLs
          rw [List.map_replicate]
      · cases hq : ripe rs ci with
        | nil => rw [t0 hq]; exact ex_V (ev_var rfl) fun H' e' => ⟨ca, rfl, e' _ _ (E5 _ _ hcx)⟩
        | cons l rest => rw [hq] at hb; exact Bool.noConfusion hb
      · subst ev
        have npf : p ≠ fl := fun q => by rw [q, e7 _ _ hf5] at hp7; cases hp7
        refine ⟨⟨_, _, _, _, _, rfl⟩, Ex.mut (E5.trans e7) nf0, ?_, as ++ [p], by rw [upd_same, List.map_append]; rfl, ?_⟩
        · rw [upd_ne nkf, e7 _ _ hk5, List.range_succ, List.map_append, List.map_append, ← ekd, ← eci]
          rfl
        · rw [List.range_succ, List.map_append]
          refine Pr.snoc (hp2.mono fun a x hax => ?_) (by rw [upd_ne npf, hp7, ← ekd, ← eci])
          rw [upd_ne (fun z => by rw [z, hf2] at hax; cases hax)]
          exact e7 _ _ (tk _ _ hax)
    · rintro σ' H2 ⟨⟨v5, v6, v7, v8, v9, rfl⟩, e2, hk2, as, hf2, hp2⟩
      rw [List.length_map] at hk2 hp2
      refine ⟨⟨_, rfl⟩, _, rfl, ⟨#[]⟩, kl, (turnR rs row cs).map fun c => (⟨#[c]⟩ : Str), rfl, rfl, .inl (sq_of (by rw [hk2]; unfold turnR; rw [List.map_map, List.map_map, List.map_map]; rfl)), ?_, ?_⟩
      · rw [List.length_map, List.map_map]
        have : ((fun x : Str => x.length) ∘ fun c => (⟨#[c]⟩ : Str)) = fun c : Nat => 1 := rfl
        rw [this]
        have e1 : ∀ l : List Nat, (l.map fun _ => 1).sum = l.length := fun l => by
          induction l with
          | nil => rfl
          | cons a l ih =>
            rw [List.map_cons, List.sum_cons, ih, List.length_cons]
            omega
        rw [e1]
        have e2 : (turnR rs row cs).length = row.length := by unfold turnR; rw [List.length_map, List.length_range]
        rw [e2]
        show row.length + row.length * 0 ≤ 16777216
        omega
      · refine (eu_tupL (ev_var rfl) hf2) H2 (Ex.refl H2) _ fun t H3 nt e3 h3 => ⟨by show 2 ≤ sizeLine; decide, fun p np => ?_⟩
        rw [join_chs]
        refine k p t _ (fresh_back (e2.trans e3) np) ((e2.trans e3).trans (Ex.new np)) upd_same ⟨as, Ex.new np _ _ h3, hp2.mono fun a x hax => Ex.new np _ _ (e3 _ _ hax)⟩
/-! ### beat_of -/
theorem turnR_counted (row bars : List Nat) (rs : List Ru) (cs : List (List Int)) : turnR rs row (counted row bars rs cs) = beatR row bars rs cs := by
  unfold turnR beatR
  refine List.map_congr_left fun p hp => ?_
  have h : (counted row bars rs cs).getD p [] = cntAt row bars rs cs p := by
    unfold counted
    rw [List.getD_eq_getElem?_getD, List.getElem?_map, List.getElem?_range (List.mem_range.mp hp)]
    rfl
  rw [h]
theorem turnC_counted (row bars : List Nat) (rs : List Ru) (cs : List (List Int)) : turnC rs row (counted row bars rs cs) = beatC row bars rs cs := by
  unfold turnC beatC
  refine List.map_congr_left fun p hp => ?_
  have h : (counted row bars rs cs).getD p [] = cntAt row bars rs cs p := by
    unfold counted
    rw [List.getD_eq_getElem?_getD, List.getElem?_map, List.getElem?_range (List.mem_range.mp hp)]
    rfl
  rw [h]
theorem counted_ok {row bars : List Nat} {rs : List Ru} {cs : List (List Int)} (O : BeatOk rs row cs) : BeatOk rs row (counted row bars rs cs) := by
  refine ⟨by unfold counted; rw [List.length_map, List.length_range], O.z, fun c hc => ?_⟩
  unfold counted at hc
  obtain ⟨p, hp, rfl⟩ := List.mem_map.mp hc
  have hp' : p < cs.length := by rw [O.c]; exact List.mem_range.mp hp
  unfold cntAt cntRow
  rw [List.length_zipWith]
  have := O.e (cs.getD p []) (by rw [List.getD_eq_getElem?_getD, List.getElem?_eq_getElem hp']; exact List.getElem_mem _)
  omega
def spBeatOf : Sp := fun vs H Q _ => ∃ (row bars : List Nat) (rs : List Ru) (cs : List (List Int)) (wo b r c : Addr) (z : V), vs = [.ref wo, .str (txt row), .ref c] ∧ H wo = some (.tup [z, .ref b, .ref r]) ∧ H b = some (.tup (bars.map iv)) ∧ RulesAt H r rs ∧ RsOk rs ∧ CntsAt H c cs ∧ BeatOk rs row cs ∧
  ∀ p t H', H p = none → Ex H H' → H' p = some (.tup [.str (txt (beatR row bars rs cs)), .ref t]) → CntsAt H' t (beatC row bars rs cs) → Q (.ref p) H'
theorem ok_beatOf {f f1 f2 : Addr} {fd fd1 fd2 : FuncData} (F : Fun K "beat_of" "beat_of" sBeatOf f fd) (B : Bt mg) (g1 : mg "counted" = some (.ref f1)) (k1 : PySem.W.keepIn K (.ref f1) = true) (b1 : Binds K fd1 pCounted []) (G1 : FnOk P w K mg base CX0 2 f1 fd1 pCounted spCounted)
    (g2 : mg "turned" = some (.ref f2)) (k2 : PySem.W.keepIn K (.ref f2) = true) (b2 : Binds K fd2 pTurned []) (G2 : FnOk P w K mg base CX0 1 f2 fd2 pTurned spTurned) :
    FnOk P w K mg base CX0 3 f fd pBeatOf spBeatOf := by
  refine F.ok scBeatOf (fun vs H Q E h => ?_) (fun cdv A outer s H vs Q E hr h => ?_)
  · obtain ⟨row, bars, rs, cs, wo, b, r, c, z, rfl, _⟩ := h
    rfl
  · refine ⟨_, pss_one (ps_ret (pe_call G2 (hr.mono (by decide)) (by rfl) g2 k2 b2 .nil pass0 (pa_cons (pv 1) (pa_cons (pe_ix ix_tup (pv 0) pe_int (fun _ _ => rfl))
      (pa_cons (pe_call G1 hr (by rfl) g1 k1 b1 .nil pass0 (pa_cons (pv 1) (pa_cons (pe_ix ix_tup (pv 0) pe_int (fun _ _ => rfl)) (pa_cons (pe_ix ix_tup (pv 0) pe_int (fun _ _ => rfl)) (pa_cons (pv 2) pa_nil))))) pa_nil))))), ?_⟩
    obtain ⟨row, bars, rs, cs, wo, b, r, c, z, rfl, hw, hb, hR, R, hC, O, k⟩ := h
    refine ⟨_, rfl, _, rfl, _, _, _, _, rfl, rfl, st_of hw, (by rfl : atI [z, V.ref b, V.ref r] 2 = some (.ref r)), _, rfl, _, rfl, _, _, _, _, rfl, rfl, st_of hw, (by rfl : atI [z, V.ref b, V.ref r] 1 = some (.ref b)), _, rfl, _, _, _, _, rfl, rfl, st_of hw, (by rfl : atI [z, V.ref b, V.ref r] 2 = some (.ref r)), _, rfl,
      row, bars, rs, cs, b, r, c, rfl, hb, hR, R, hC, O, fun p H1 np e1 h1 => ?_⟩
    refine ⟨row, rs, counted row bars rs cs, r, p, rfl, hR.ex fun b l q => e1 _ _ q, R, h1, counted_ok O, fun p2 t H2 np2 e2 h2 ht => ?_⟩
    rw [turnR_counted] at h2
    rw [turnC_counted] at ht
    exact k p2 t H2 (fresh_back e1 np2) (e1.trans e2) h2 ht
end
end S8
set_option Elab.async false
set_option linter.all false
set_option maxRecDepth 100000
set_option maxHeartbeats 400000
set_option pp.maxSteps 2000
namespace S8
open PySem PySem.Spec PyProof.Rows L2 Evl
/-! ### cuts -/
theorem cutV_hd {xs : List V} {p : Nat} (h : p ≤ xs.length) : cutV xs none (some (p : Int)) = xs.take p := by
  unfold cutV
  rw [HT.sIx_none, HT.sIx_nat, List.drop_zero, Nat.min_eq_left h, Nat.sub_zero]
theorem cutV_tl {xs : List V} {p : Nat} (h : p ≤ xs.length) : cutV xs (some (p : Int)) none = xs.drop p := by
  unfold cutV
  rw [HT.sIx_none, HT.sIx_nat, Nat.min_eq_left h]
  exact List.take_of_length_le (by rw [List.length_drop]; omega)
theorem txt_take {row : List Nat} {p : Nat} (h : p ≤ row.length) : cutS (txt row) none (some (p : Int)) = txt (row.take p) := by
  unfold cutS
  rw [HT.sIx_none, HT.sIx_nat, List.drop_zero, len_txt, Nat.min_eq_left h, Nat.sub_zero]
  rfl
theorem txt_drop {row : List Nat} {p : Nat} (h : p ≤ row.length) : cutS (txt row) (some (p : Int)) none = txt (row.drop p) := by
  unfold cutS
  rw [HT.sIx_none, HT.sIx_nat, len_txt, Nat.min_eq_left h]
  unfold txt
  congr 1
  show ((row.toArray.toList.drop p).take _).toArray = _
  rw [List.toList_toArray, List.take_of_length_le (by rw [List.length_drop]; omega)]
theorem txt_app (a b : List Nat) : txt a ++ txt b = txt (a ++ b) := by
  show (⟨a.toArray ++ b.toArray⟩ : Str) = _
  unfold txt
  congr 1
  simp
theorem txt_cps (k : Str) : txt k.cps.toList = k := by
  unfold txt
  simp
/-! ### tuples, new or old -/
def EvW (te : TE) (σ : L2.St) (H : Hp) (xs : List V) : Prop := EvX te σ H fun v H' => ∃ p, v = .ref p ∧ H' p = some (.tup xs)
section
variable {K : PySem.W.Frag} {σ : L2.St} {H : Hp} {ta tb te tv : TE} {t : TT} {x y z v : V} {D : Ends} {tz : TS} {P : V → Hp → Prop} {xs ys : List V}
theorem ew_old {p : Addr} (h : Ev te σ H (.ref p)) (hp : H p = some (.tup xs)) : EvW te σ H xs := ex_V h fun H' e => ⟨p, rfl, e _ _ hp⟩
theorem ew_is (h : EvW te σ H xs) (e : xs = ys) : EvW te σ H ys := e ▸ h
theorem ew_slice {p : Addr} {lo hi : Option Int} {tl th : TO} (h : Ev te σ H (.ref p)) (hp : H p = some (.tup xs)) (h1 : EvO tl σ H lo) (h2 : EvO th σ H hi) : EvW (tSl (rSlA K) te tl th) σ H (cutV xs lo hi) := fun H1 e Q q =>
  h H1 e _ fun H2 e2 => h1 H2 (e.trans e2) _ fun H3 e3 => h2 H3 ((e.trans e2).trans e3) _ fun H4 e4 => ⟨p, xs, rfl, st_of (e4 _ _ (e3 _ _ (e2 _ _ (e _ _ hp)))), fun hw => q _ H4 ((e2.trans e3).trans e4) ⟨p, rfl, by
      rw [e4 _ _ (e3 _ _ (e2 _ _ (e _ _ hp)))]
      unfold cutV
      rw [hw.1, hw.2, List.drop_zero, Nat.sub_zero, List.take_length]⟩, fun _ r nr => q _ _ (((e2.trans e3).trans e4).trans (Ex.new nr)) ⟨r, rfl, upd_same⟩⟩
theorem ew_cat (h1 : EvW ta σ H xs) (h2 : EvW tb σ H ys) (hz : xs.length + ys.length ≤ 1000) : EvW (tOp (rCatA K) ta tb) σ H (xs ++ ys) := fun H1 e Q q =>
  h1 H1 e _ fun _ H2 e2 ⟨a, ea, ha⟩ => h2 H2 (e.trans e2) _ fun _ H3 e3 ⟨b, eb, hb⟩ => ⟨a, b, xs, ys, ea, eb, st_of (e3 _ _ ha), st_of hb, Nat.le_trans hz (by decide), fun h0 => q _ H3 (e2.trans e3) ⟨b, rfl, by rw [hb, h0]; rfl⟩,
    fun _ h0 => q _ H3 (e2.trans e3) ⟨a, rfl, by rw [e3 _ _ ha, h0, List.append_nil]⟩, fun _ _ r nr => q _ _ ((e2.trans e3).trans (Ex.new nr)) ⟨r, rfl, upd_same⟩⟩
/-- a display of one that is a tuple, new or old -/
theorem el_cat (h1 : EvL ta σ H xs) (h2 : EvL tb σ H ys) (hz : xs.length + ys.length ≤ 100000) : EvL (tOp rCat ta tb) σ H (xs ++ ys) := fun H1 e Q q =>
  h1 H1 e _ fun a H2 na e2 ha => h2 H2 (e.trans e2) _ fun b H3 nb e3 hb => ⟨a, b, xs, ys, rfl, rfl, e3 _ _ ha, hb, sz_of hz, fun r nr => q r _ (fresh_back (e2.trans e3) nr) ((e2.trans e3).trans (Ex.new nr)) upd_same⟩
theorem ev_slS {z : Str} {lo hi : Option Int} {tl th : TO} (h : Ev te σ H (.str z)) (h1 : EvO tl σ H lo) (h2 : EvO th σ H hi) (hz : z.length ≤ sizeLine) : Ev (tSl rSlS te tl th) σ H (.str (cutS z lo hi)) := fun H1 e Q q =>
  h H1 e _ fun H2 e2 => h1 H2 (e.trans e2) _ fun H3 e3 => h2 H3 ((e.trans e2).trans e3) _ fun H4 e4 => ⟨z, rfl, hz, q H4 ((e2.trans e3).trans e4)⟩
theorem ev_addS {a b : Str} (h1 : Ev ta σ H (.str a)) (h2 : Ev tb σ H (.str b)) (hz : a.length + b.length ≤ 1000) : Ev (tOp (fun x y H Q => ∃ i j, x = .str i ∧ y = .str j ∧ i.length + j.length ≤ sizeLine ∧ Q (.str (i ++ j)) H) ta tb) σ H (.str (a ++ b)) :=
  ev_op h1 h2 (rv_of fun H1 _ Q q => ⟨a, b, rfl, rfl, Nat.le_trans hz (by decide), q⟩)
theorem el_sl0 {tl th : TO} {a : Addr} {lo hi : Option Int} (h : Ev te σ H (.ref a)) (h1 : EvO tl σ H lo) (h2 : EvO th σ H hi) (hs : H a = some (.lst xs)) : EvL (tSl (rSlL K) te tl th) σ H (cutV xs lo hi) := el_sl h h1 h2 (sq_of hs)
/-! ### attributes -/
variable {a C dx : Addr} {fs : List (Str × V)} {f : Str}
theorem ev_fld (ha : Ev ta σ H (.ref a)) (h : H a = some (.ins C dx fs)) (c : Cls K C) (n : NoAttr K C f) (l : fs.lookup f = some v) : Ev (tFld K ta f) σ H v := fun H1 e Q q =>
  ha H1 e _ fun H2 e2 => ⟨a, C, dx, fs, v, rfl, e2 _ _ (e _ _ h), c, n, l, q H2 e2⟩
theorem s_sfld (hv : EvX tv σ H P) (hP : ∀ v H1 H2, Ex H1 H2 → P v H1 → P v H2) (ha : Ev ta σ H (.ref a)) (h : H a = some (.ins C dx fs)) (c : Cls K C) (n : NoAttr K C f) (hl : fs.length < 1000) (k : ∀ y H1, Ex H H1 → P y H1 → D.nx σ (upd H1 a (.ins C dx (putF f y fs)))) : sFld K ta tv f D σ H :=
  hv H (Ex.refl H) _ fun y H1 e1 p => ha H1 e1 _ fun H2 e2 => ⟨a, C, dx, fs, rfl, e2 _ _ (e1 _ _ h), c, n, hl, k y H2 (e1.trans e2) (hP _ _ _ e2 p)⟩
theorem q_sfld (hv : EvX tv σ H P) (hP : ∀ v H1 H2, Ex H1 H2 → P v H1 → P v H2) (ha : Ev ta σ H (.ref a)) (h : H a = some (.ins C dx fs)) (c : Cls K C) (n : NoAttr K C f) (hl : fs.length < 1000) (k : ∀ y H1, Ex H H1 → P y H1 → tz D σ (upd H1 a (.ins C dx (putF f y fs)))) : tSeq (sFld K ta tv f) tz D σ H :=
  s_sfld (D := { D with nx := tz D }) hv hP ha h c n hl k
theorem s_sfldV (hv : Ev tv σ H v) (ha : Ev ta σ H (.ref a)) (h : H a = some (.ins C dx fs)) (c : Cls K C) (n : NoAttr K C f) (hl : fs.length < 1000) (k : ∀ H1, Ex H H1 → D.nx σ (upd H1 a (.ins C dx (putF f v fs)))) : sFld K ta tv f D σ H :=
  s_sfld (P := fun y _ => y = v) (ex_V hv fun _ _ => rfl) (fun _ _ _ _ h => h) ha h c n hl fun y H1 e p => by rw [p]; exact k H1 e
theorem q_sfldV (hv : Ev tv σ H v) (ha : Ev ta σ H (.ref a)) (h : H a = some (.ins C dx fs)) (c : Cls K C) (n : NoAttr K C f) (hl : fs.length < 1000) (k : ∀ H1, Ex H H1 → tz D σ (upd H1 a (.ins C dx (putF f v fs)))) : tSeq (sFld K ta tv f) tz D σ H :=
  s_sfldV (D := { D with nx := tz D }) hv ha h c n hl k
theorem s_sfldW (hv : EvW tv σ H xs) (ha : Ev ta σ H (.ref a)) (h : H a = some (.ins C dx fs)) (c : Cls K C) (n : NoAttr K C f) (hl : fs.length < 1000) (k : ∀ p H1, Ex H H1 → H1 p = some (.tup xs) → D.nx σ (upd H1 a (.ins C dx (putF f (.ref p) fs)))) : sFld K ta tv f D σ H :=
  s_sfld (P := fun v H' => ∃ p, v = .ref p ∧ H' p = some (.tup xs)) hv (fun _ _ _ e h => by obtain ⟨p, h1, h2⟩ := h; exact ⟨p, h1, e _ _ h2⟩) ha h c n hl fun y H1 e ⟨p, ep, hp⟩ => by rw [ep]; exact k p H1 e hp
theorem q_sfldW (hv : EvW tv σ H xs) (ha : Ev ta σ H (.ref a)) (h : H a = some (.ins C dx fs)) (c : Cls K C) (n : NoAttr K C f) (hl : fs.length < 1000) (k : ∀ p H1, Ex H H1 → H1 p = some (.tup xs) → tz D σ (upd H1 a (.ins C dx (putF f (.ref p) fs)))) : tSeq (sFld K ta tv f) tz D σ H :=
  s_sfldW (D := { D with nx := tz D }) hv ha h c n hl k
theorem s_sfldL (hv : EvL tv σ H xs) (ha : Ev ta σ H (.ref a)) (h : H a = some (.ins C dx fs)) (c : Cls K C) (n : NoAttr K C f) (hl : fs.length < 1000) (k : ∀ p H1, H p = none → Ex H H1 → H1 p = some (.lst xs) → D.nx σ (upd H1 a (.ins C dx (putF f (.ref p) fs)))) : sFld K ta tv f D σ H :=
  s_sfld (P := fun v H' => ∃ p, v = .ref p ∧ H p = none ∧ H' p = some (.lst xs)) (fun H1 e Q q => hv H1 e Q fun p H2 np e2 h2 => q _ H2 e2 ⟨p, rfl, fresh_back e np, h2⟩) (fun _ _ _ e h => by obtain ⟨p, h1, h2, h3⟩ := h; exact ⟨p, h1, h2, e _ _ h3⟩) ha h c n hl fun y H1 e ⟨p, ep, np, hp⟩ => by rw [ep]; exact k p H1 np e hp
theorem q_sfldL (hv : EvL tv σ H xs) (ha : Ev ta σ H (.ref a)) (h : H a = some (.ins C dx fs)) (c : Cls K C) (n : NoAttr K C f) (hl : fs.length < 1000) (k : ∀ p H1, H p = none → Ex H H1 → H1 p = some (.lst xs) → tz D σ (upd H1 a (.ins C dx (putF f (.ref p) fs)))) : tSeq (sFld K ta tv f) tz D σ H :=
  s_sfldL (D := { D with nx := tz D }) hv ha h c n hl k
/-- a comprehension over a tuple -/
theorem el_lcT {tl : TE} {j : Nat} {vs : List Nat} (f : Nat → Bool) (v : Nat → V) (h : Ev tl σ H (.ref a)) (hx : H a = some (.tup xs)) (hz : xs.length ≤ 40000) (hw : ∀ x, wipe ((wipe σ vs).set j (some x)) vs = wipe σ vs)
    (ht : ∀ (i : Nat) (x : V) H1, Ex H H1 → xs[i]? = some x → EvT t ((wipe σ vs).set j (some x)) H1 (f i)) (he : ∀ (i : Nat) (x : V) H1, Ex H H1 → xs[i]? = some x → f i = true → Ev te ((wipe σ vs).set j (some x)) H1 (v i)) :
    EvL (tLc (iTup K tl) (gName j) t te vs) σ H (given xs.length f v) := fun H0 e Q q => h H0 e _ fun H1 e1 => ⟨a, rfl, ⟨xs, ex_t (e.trans e1) (st_of hx)⟩, fun Dl hD =>
  lc_tup (xs := xs) (Cw H1 f v Dl) ⟨hD, Ex.new hD, upd_same⟩ (fun i H' _ p => ex_t ((e.trans e1).trans p.2.1) (st_of hx)) (fun i x H' hi p => ⟨hw x, cw_turn p (by have := (List.getElem?_eq_some_iff.mp hi).1; omega) (ht i x H1 (e.trans e1) hi) (fun hf => he i x H1 (e.trans e1) hi hf)⟩)
    (fun H' p => q Dl H' (fresh_back e1 p.1) (e1.trans p.2.1) p.2.2)⟩
/-- tuple(a new list) -/
theorem eu_tupN (h : EvL te σ H xs) : EvU (tCB (fun xs H Q => ∃ p ys, xs = [.ref p] ∧ ((SqL K H p ys ∧ ∀ l, H l = none → Q (.ref l) (upd H l (.tup ys))) ∨ (SqT K H p ys ∧ Q (.ref p) H))) (tCons te tNil)) σ H xs := fun H1 e Q q =>
  h H1 e _ fun p H2 np e2 h2 => ⟨p, xs, rfl, .inl ⟨sq_of h2, fun l hl => q l _ (fresh_back e2 hl) (e2.trans (Ex.new hl)) upd_same⟩⟩
/-- tuple(a tuple) -/
theorem ev_tupT {p : Addr} (h : Ev te σ H (.ref p)) (hp : H p = some (.tup xs)) : Ev (tCB (fun xs H Q => ∃ p ys, xs = [.ref p] ∧ ((SqL K H p ys ∧ ∀ l, H l = none → Q (.ref l) (upd H l (.tup ys))) ∨ (SqT K H p ys ∧ Q (.ref p) H))) (tCons te tNil)) σ H (.ref p) := fun H1 e Q q =>
  h H1 e _ fun H2 e2 => ⟨p, xs, rfl, .inr ⟨st_of (e2 _ _ (e _ _ hp)), q H2 e2⟩⟩
end
theorem given_all {α : Type} {g : α → V} {l : List α} (v : Nat → V) (h : ∀ i a, l[i]? = some a → v i = g a) : given l.length (fun _ => true) v = l.map g := by
  unfold given
  rw [List.filter_eq_self.mpr (fun _ _ => rfl)]
  refine List.ext_getElem? fun i => ?_
  rw [List.getElem?_map, List.getElem?_map]
  by_cases hi : i < l.length
  · rw [List.getElem?_range hi, List.getElem?_eq_getElem hi]
    exact congrArg some (h i _ (List.getElem?_eq_getElem hi))
  · rw [List.getElem?_eq_none (by rw [List.length_range]; omega), List.getElem?_eq_none (by omega)]
    rfl
end S8
set_option Elab.async false
set_option linter.all false
set_option maxRecDepth 100000
set_option maxHeartbeats 400000
set_option pp.maxSteps 2000
namespace S8
open PySem PySem.Spec PyProof.Rows L2 Evl
/-! ### the class Shelf -/
structure ShC (K : PySem.W.Frag) (C : Addr) : Prop where
  cl : Cls K C
  nRules : NoAttr K C "rules"
  nRow : NoAttr K C "row"
  nCounts : NoAttr K C "counts"
  nWalls : NoAttr K C "walls"
  nNotes : NoAttr K C "notes"
def fl5 (r row c wl nl : V) : List (Str × V) := [("rules", r), ("row", row), ("counts", c), ("walls", wl), ("notes", nl)]
def flds (r c wl nl : Addr) (row : List Nat) : List (Str × V) := fl5 (.ref r) (.str (txt row)) (.ref c) (.ref wl) (.ref nl)
theorem put_row (r row c wl nl v : V) : putF "row" v (fl5 r row c wl nl) = fl5 r v c wl nl := by rfl
theorem put_counts (r row c wl nl v : V) : putF "counts" v (fl5 r row c wl nl) = fl5 r row v wl nl := by rfl
theorem put_walls (r row c wl nl v : V) : putF "walls" v (fl5 r row c wl nl) = fl5 r row c v nl := by rfl
theorem get_rules (r row c wl nl : V) : (fl5 r row c wl nl).lookup ("rules" : Str) = some r := by rfl
theorem get_row (r row c wl nl : V) : (fl5 r row c wl nl).lookup ("row" : Str) = some row := by rfl
theorem get_counts (r row c wl nl : V) : (fl5 r row c wl nl).lookup ("counts" : Str) = some c := by rfl
theorem get_walls (r row c wl nl : V) : (fl5 r row c wl nl).lookup ("walls" : Str) = some wl := by rfl
theorem get_notes (r row c wl nl : V) : (fl5 r row c wl nl).lookup ("notes" : Str) = some nl := by rfl
def bls (l : List Bool) : List V := l.map V.bl
/-- a shelf at p: rules, state, notes; its own objects are those of R -/
def ShelfAt (C : Addr) (H : Hp) (p : Addr) (R : List Addr) (rs : List Ru) (s : Sta) (ds : List Deed) : Prop :=
  ∃ dx r c wl nl, R = [p, wl, nl] ∧ H p = some (.ins C dx (fl5 (.ref r) (.str (txt s.row)) (.ref c) (.ref wl) (.ref nl))) ∧ RulesAt H r rs ∧ CntsAt H c s.cnt ∧ H wl = some (.lst (bls s.wal)) ∧ ListAt Deed.vals H nl ds ∧ wl ≠ nl
theorem ShelfAt.ex {C : Addr} {H H' : Hp} {p : Addr} {R : List Addr} {rs : List Ru} {s : Sta} {ds : List Deed} (h : ShelfAt C H p R rs s ds) (e : ∀ b ∈ R, H' b = H b) (t : ∀ b xs, H b = some (.tup xs) → H' b = some (.tup xs)) : ShelfAt C H' p R rs s ds := by
  obtain ⟨dx, r, c, wl, nl, hR, hp, hr, hc, hw, ⟨as, hn, hn2⟩, hne⟩ := h
  subst hR
  refine ⟨dx, r, c, wl, nl, rfl, by rw [e p (by simp)]; exact hp, hr.ex t, hc.ex t, by rw [e wl (by simp)]; exact hw, ⟨as, by rw [e nl (by simp)]; exact hn, hn2.mono fun a x h => t _ _ h⟩, hne⟩
/-- all but what is at R stays; tuples stay -/
def Fr (R : List Addr) (H H' : Hp) : Prop := (∀ b o, b ∉ R → H b = some o → H' b = some o) ∧ ∀ b xs, H b = some (.tup xs) → H' b = some (.tup xs)
theorem Fr.of {R : List Addr} {H H' : Hp} (e : Ex H H') : Fr R H H' := ⟨fun b o _ h => e b o h, fun b xs h => e b _ h⟩
theorem Fr.trans {R : List Addr} {H H1 H2 : Hp} (a : Fr R H H1) (b : Fr R H1 H2) : Fr R H H2 := ⟨fun c o hc h => b.1 c o hc (a.1 c o hc h), fun c xs h => b.2 c xs (a.2 c xs h)⟩
/-- an object of R is written, or one that H does not know -/
theorem Fr.upd {R : List Addr} {H H' : Hp} {a : Addr} {o : HO} (f : Fr R H H') (ha : a ∈ R ∨ H a = none) (nt : ∀ xs, H a ≠ some (.tup xs)) : Fr R H (upd H' a o) := by
  refine ⟨fun b u hb h => ?_, fun b xs h => ?_⟩
  · have hne : b ≠ a := fun z => by
      rcases ha with ha | ha
      · exact hb (z ▸ ha)
      · rw [z, ha] at h; cases h
    rw [upd_ne hne]
    exact f.1 b u hb h
  · have hne : b ≠ a := fun z => nt xs (z ▸ h)
    rw [upd_ne hne]
    exact f.2 b xs h
theorem Fr.mono {R R' : List Addr} {H H' : Hp} (f : Fr R H H') (h : ∀ a ∈ R, a ∈ R') : Fr R' H H' := ⟨fun b o hb => f.1 b o fun z => hb (h b z), f.2⟩
/-- all but x -/
def Bx (x : Addr) (H H' : Hp) : Prop := ∀ b o, b ≠ x → H b = some o → H' b = some o
theorem Bx.up {x : Addr} {H H1 H2 : Hp} {o : HO} (h : Bx x H H1) (e : Ex H1 H2) : Bx x H (upd H2 x o) := fun b u hb q => by rw [upd_ne hb]; exact e _ _ (h b u hb q)
theorem Bx.of {x : Addr} {H H' : Hp} (e : Ex H H') : Bx x H H' := fun b o _ h => e b o h
/-! ### __init__ -/
def spInit (C : Addr) : Sp := fun vs H Q _ => ∃ (x r dx : Addr) (rs : List Ru), vs = [.ref x, .ref r] ∧ H x = some (.ins C dx []) ∧ RulesAt H r rs ∧ RsOk rs ∧
  ∀ R H', (∀ b o, b ≠ x → H b = some o → H' b = some o) → ShelfAt C H' x R rs sta0 [] → (∀ a ∈ R, a = x ∨ H a = none) → Q .non H'
section
variable {P : Program} {w : World} {K : PySem.W.Frag} {mg : Str → Option Value} {base : Heap}
theorem ok_init {C f f1 : Addr} {fd fd1 : FuncData} (F : Fun K "__init__" "Shelf.__init__" sInit f fd) (B : Bt mg) (T : ShC K C) (g1 : mg "need_rules" = some (.ref f1)) (k1 : PySem.W.keepIn K (.ref f1) = true) (b1 : Binds K fd1 pNeed []) (G1 : FnOk P w K mg base CX0 3 f1 fd1 pNeed spNeed) :
    FnOk P w K mg base CX0 4 f fd pInit (spInit C) := by
  refine F.ok scInit (fun vs H Q E h => ?_) (fun cdv A outer s H vs Q E hr h => ?_)
  · obtain ⟨x, r, dx, rs, rfl, _⟩ := h
    rfl
  · refine ⟨_, pss_cons (ps_expr (pe_call G1 hr (by rfl) g1 k1 b1 .nil pass0 (pa_cons (pv 1) pa_nil)))
      (pss_cons (ps_fld (pv 0) (pe_callTy call_tuple_of (by rfl) B.tup (by decide +kernel) (pa_cons (pe_lc (own := [("rule", 2)]) (g := gName 2) (tt := tYes) (te := tCB (fun xs H Q => ∃ p ys, xs = [.ref p] ∧ ((SqL K H p ys ∧ ∀ l, H l = none → Q (.ref l) (upd H l (.tup ys))) ∨ (SqT K H p ys ∧ Q (.ref p) H))) (tCons (tVar 2) tNil)) (by rfl) scInit.nd (pi_tup (pv 1)) (blkOk_by (own := [("rule", 2)]) (N := nInit) (sc := defScope sInit) (by decide +kernel))
          (fun _ _ _ _ _ => pg_name (i := 2) scInit.nd rfl (.inl rfl)) (fun _ _ _ _ _ => pts_nil) (fun _ _ _ _ _ => pe_callTy call_tuple_of (by rfl) B.tup (by decide +kernel) (pa_cons (pv 2) pa_nil))) pa_nil)) rfl)
      (pss_cons (ps_fld (pv 0) pe_str rfl) (pss_cons (ps_fld (pv 0) (pe_tup pa_nil) rfl) (pss_cons (ps_fld (pv 0) (pe_lst pa_nil) rfl) (pss_one (ps_fld (pv 0) (pe_lst pa_nil) rfl)))))), ?_⟩
    obtain ⟨x, r, dx, rs, rfl, hx, ⟨as, hr1, hr2⟩, R, k⟩ := h
    have hl := hr2.length
    have h4 := R.1
    refine q_drop (ev_call (vs := [.ref r]) (ea_cons (ev_var rfl) ea_nil) (z := .non) (fun H1 e Q2 q2 E' => ⟨r, rs, rfl, ⟨as, e _ _ hr1, hr2.mono fun a u h => e _ _ h⟩, R, q2⟩)) fun H1 e1 => ?_
    have hr1' := e1 _ _ hr1
    refine q_sfldW (xs := as.map V.ref) (ex_U (eu_tupN (?_ : EvL _ _ _ (as.map V.ref)))) (ev_var rfl) (e1 _ _ hx) T.cl T.nRules (by decide) fun r2 H2 e2 h2 => ?_
    · have eg : given (as.map V.ref).length (fun _ => true) (fun i => ((as.map V.ref)[i]?).getD .non) = as.map V.ref := by
        have := given_all (g := fun x : V => x) (l := as.map V.ref) (fun i => ((as.map V.ref)[i]?).getD .non) (fun i a h => by rw [h]; rfl)
        rw [this, List.map_id']
      have el := el_lcT (K := K) (σ := L2.start nInit [.ref x, .ref r]) (H := H1) (t := tYes) (vs := [2]) (j := 2) (tl := tVar 1)
        (te := tCB (fun xs H Q => ∃ p ys, xs = [.ref p] ∧ ((SqL K H p ys ∧ ∀ l, H l = none → Q (.ref l) (upd H l (.tup ys))) ∨ (SqT K H p ys ∧ Q (.ref p) H))) (tCons (tVar 2) tNil)) (a := r) (xs := as.map V.ref) (fun _ => true) (fun i => ((as.map V.ref)[i]?).getD .non) (ev_var rfl) hr1' (by rw [List.length_map]; omega) (fun _ => rfl)
        (fun i x H1 e hx => fun H2 e2 Q q => q H2 (Ex.refl H2)) (fun i y H2 e2 hy _ => by
          obtain ⟨a, ha, rfl⟩ := map_get hy
          obtain ⟨ru, hru, hru2⟩ := hr2.getL ha
          rw [hy]
          exact ev_tupT (ev_var rfl) (e2 _ _ (e1 _ _ hru2)))
      rw [eg] at el
      exact el
    have E2 := e1.trans e2
    have k2 := (Bx.of (x := x) E2).up (o := .ins C dx (putF "rules" (.ref r2) [])) (Ex.refl H2)
    have hx3 : upd H2 x (.ins C dx (putF "rules" (.ref r2) [])) x = some (.ins C dx (putF "rules" (.ref r2) [])) := upd_same
    have hr3 : upd H2 x (.ins C dx (putF "rules" (.ref r2) [])) r2 = some (.tup (as.map V.ref)) := by rw [upd_ne (fun z => by rw [z, E2 _ _ hx] at h2; cases h2)]; exact h2
    generalize upd H2 x (.ins C dx (putF "rules" (.ref r2) [])) = H3 at k2 hx3 hr3
    have n2 : r2 ≠ x := fun z => by rw [z, hx3] at hr3; cases hr3
    refine q_sfldV ev_c (ev_var rfl) hx3 T.cl T.nRow (by show 1 < 1000; decide) fun H4 e4 => ?_
    have k4 := k2.up (o := .ins C dx (putF "row" (.str "") (putF "rules" (.ref r2) []))) e4
    have hx4 : upd H4 x (.ins C dx (putF "row" (.str "") (putF "rules" (.ref r2) []))) x = some (.ins C dx (putF "row" (.str "") (putF "rules" (.ref r2) []))) := upd_same
    have hr4 := (Bx.of (x := x) (Ex.refl H3)).up (o := .ins C dx (putF "row" (.str "") (putF "rules" (.ref r2) []))) e4 _ _ n2 hr3
    generalize upd H4 x (.ins C dx (putF "row" (.str "") (putF "rules" (.ref r2) []))) = H5 at k4 hx4 hr4
    refine q_sfldW (xs := []) (ex_U (eu_tup ea_nil (by decide))) (ev_var rfl) hx4 T.cl T.nCounts (by show 2 < 1000; decide) fun c H6 e6 h6 => ?_
    have nc : c ≠ x := fun z => by rw [z, e6 _ _ hx4] at h6; cases h6
    have k6 := k4.up (o := .ins C dx (putF "counts" (.ref c) (putF "row" (.str "") (putF "rules" (.ref r2) [])))) e6
    have hx6 : upd H6 x (.ins C dx (putF "counts" (.ref c) (putF "row" (.str "") (putF "rules" (.ref r2) [])))) x = some (.ins C dx (putF "counts" (.ref c) (putF "row" (.str "") (putF "rules" (.ref r2) [])))) := upd_same
    have b6 := (Bx.of (x := x) (Ex.refl H5)).up (o := .ins C dx (putF "counts" (.ref c) (putF "row" (.str "") (putF "rules" (.ref r2) [])))) e6
    have hr6 := b6 _ _ n2 hr4
    have hc6 : upd H6 x (.ins C dx (putF "counts" (.ref c) (putF "row" (.str "") (putF "rules" (.ref r2) [])))) c = some (.tup []) := by rw [upd_ne nc]; exact h6
    generalize upd H6 x (.ins C dx (putF "counts" (.ref c) (putF "row" (.str "") (putF "rules" (.ref r2) [])))) = H7 at k6 hx6 b6 hr6 hc6
    refine q_sfldL (el_lst ea_nil (by decide)) (ev_var rfl) hx6 T.cl T.nWalls (by show 3 < 1000; decide) fun wl H8 nw e8 h8 => ?_
    have nwx : wl ≠ x := fun z => by rw [z, hx6] at nw; cases nw
    have k8 := k6.up (o := .ins C dx (putF "walls" (.ref wl) (putF "counts" (.ref c) (putF "row" (.str "") (putF "rules" (.ref r2) []))))) e8
    have hx8 : upd H8 x (.ins C dx (putF "walls" (.ref wl) (putF "counts" (.ref c) (putF "row" (.str "") (putF "rules" (.ref r2) []))))) x = some (.ins C dx (putF "walls" (.ref wl) (putF "counts" (.ref c) (putF "row" (.str "") (putF "rules" (.ref r2) []))))) := upd_same
    have b8 := (Bx.of (x := x) (Ex.refl H7)).up (o := .ins C dx (putF "walls" (.ref wl) (putF "counts" (.ref c) (putF "row" (.str "") (putF "rules" (.ref r2) []))))) e8
    have hr8 := b8 _ _ n2 hr6
    have hc8 := b8 _ _ nc hc6
    have hw8 : upd H8 x (.ins C dx (putF "walls" (.ref wl) (putF "counts" (.ref c) (putF "row" (.str "") (putF "rules" (.ref r2) []))))) wl = some (.lst []) := by rw [upd_ne nwx]; exact h8
    generalize upd H8 x (.ins C dx (putF "walls" (.ref wl) (putF "counts" (.ref c) (putF "row" (.str "") (putF "rules" (.ref r2) []))))) = H9 at k8 hx8 b8 hr8 hc8 hw8
    refine s_sfldL (el_lst ea_nil (by decide)) (ev_var rfl) hx8 T.cl T.nNotes (by show 4 < 1000; decide) fun nl H10 nn e10 h10 => ?_
    have nnx : nl ≠ x := fun z => by rw [z, hx8] at nn; cases nn
    have k10 := k8.up (o := .ins C dx (fl5 (.ref r2) (.str "") (.ref c) (.ref wl) (.ref nl))) e10
    have b10 := (Bx.of (x := x) (Ex.refl H9)).up (o := .ins C dx (fl5 (.ref r2) (.str "") (.ref c) (.ref wl) (.ref nl))) e10
    have old : ∀ {q : Addr} {H' : Hp}, q ≠ x → Bx x H H' → H' q = none → H q = none := fun {q H'} hq hb hn => by
      cases h1 : H q with
      | none => rfl
      | some o => rw [hb _ _ hq h1] at hn; cases hn
    refine k [x, wl, nl] (upd H10 x (.ins C dx (fl5 (.ref r2) (.str "") (.ref c) (.ref wl) (.ref nl)))) k10 ⟨dx, r2, c, wl, nl, rfl, upd_same, ⟨as, b10 _ _ n2 hr8, ?_⟩, ⟨[], b10 _ _ nc hc8, trivial⟩, b10 _ _ nwx hw8, ⟨[], by rw [upd_ne nnx]; exact h10, trivial⟩, fun z => by rw [← z, hw8] at nn; cases nn⟩ (fun a ha => ?_)
    · exact hr2.mono fun a u h => k10 _ _ (fun z => by rw [z, hx] at h; cases h) h
    · rcases List.mem_cons.mp ha with h | ha
      · exact .inl h
      · rcases List.mem_cons.mp ha with h | ha
        · rw [h]
          exact .inr (old nwx k6 nw)
        · rcases List.mem_cons.mp ha with h | ha
          · rw [h]
            exact .inr (old nnx k8 nn)
          · cases ha
end
end S8
set_option Elab.async false
set_option linter.all false
set_option maxRecDepth 100000
set_option maxHeartbeats 400000
set_option pp.maxSteps 2000
namespace S8
open PySem PySem.Spec PyProof.Rows L2 L2H HotX Evl
/-! ### exceptions of our own -/
structure KwX (P : Program) (w : World) (K : PySem.W.Frag) (mg : Str → Option Value) (base : Heap) (x f : Str) (C : Addr) : Prop where
  g : mg x = some (.ref C)
  T : OexC K C
  no : PySem.W.findIn K (.ref C) f = some none
  ini : ∃ (fI : Addr) (fd : FuncData), PySem.W.findIn K (.ref C) "__init__" = some (some (.ref fI)) ∧ PySem.W.typeIn K (.ref fI) = some (.type "function") ∧ FnOk P w K mg base CX0 1 fI fd ["self", f] (spKwI K f) ∧
    ∀ (s : Shared) (a v : Value), BindsTo s fd ⟨[a], [(f, v)]⟩ [("self", a), (f, v)]
structure OwX (K : PySem.W.Frag) (mg : Str → Option Value) (x : Str) (C : Addr) (bmB : List Value) : Prop where
  g : mg x = some (.ref C)
  q : PySem.W.excIn K C bmB "ValueError.__new__" = true
  k : PySem.W.keepIn K (.ref C) = true
  b : PySem.W.subIn K (.ref C) (.type "BaseException") = some true
  t : PySem.W.typeIn K (.ref C) = some (.type "type")
section
variable {X : Cx} {x f : Str} {e : Expr} {te : TE} {p kp pos : Pos} {C : Addr}
theorem pmk_kwX (D : KwX X.prog X.w X.K X.mg X.base x f C) (hr : Room 2 X.A) (hg : Gl X x) (he : PE X e te) (hdb : (x == ("__debug__" : Str)) = false := by decide)
    (hall : (backToKw pos (keywordEach [⟨some f, e, kp⟩] X.env)).all (·.1.isSome) = true := by rfl) (hks : (backToKw pos (keywordEach [⟨some f, e, kp⟩] X.env)).filterMap (·.1) = [f] := by rfl)
    (hpl : ((backTo pos (starEach [] X.env)).any (·.1) || (backToKw pos (keywordEach [⟨some f, e, kp⟩] X.env)).any (·.1.isNone)) = false := by rfl) :
    PMk5 X (.Call (.Name x p) [] [⟨some f, e, kp⟩] pos) (tMkKw C f te) := by
  obtain ⟨fI, fd, i1, i2, i3, i4⟩ := D.ini
  exact pmk5_kw D.T D.no i1 i2 i3 hr i4 pass0 hg D.g he hdb hall hks hpl
theorem x_kw {σ : L2.St} {H : Hp} {v : V} {E : XK} (h : Ev te σ H v) (k : ∀ d H', Ex H H' → H d = none → H' d = some (.xd [(f, v)]) → E (.ref C) (some d) H') : tMkKw C f te σ H E := h H (Ex.refl H) _ fun H1 e1 d nd => k d _ (e1.trans (Ex.new nd)) (fresh_back e1 nd) upd_same
end
section
variable {P : Program} {w : World} {K : PySem.W.Frag} {mg : Str → Option Value} {base : Heap}
theorem okXN {x qual : Str} {st : Stmt} {f : Addr} {fd : FuncData} {N ps : List Str} {k : Nat} {sp : Sp} (F : Fun K x qual st f fd) (S : FnScope N ps (defScope st)) (len : ∀ vs H Q E, sp vs H Q E → vs.length = ps.length)
    (hbody : ∀ (cdv : Value) (A : Around) (outer : List Env) (s : Shared) (H : Hp) (vs : List V) (Q : VK) (E : XK), Room k (A.deeper (envOfC qual (defScope st) s.heap.objs.size f cdv)) → sp vs H Q E →
      ∃ t, PSs (cxOf (L2N.CX P w) P w K mg base N qual (defScope st) f cdv A outer s H E) (defBody st) t ∧ t { nx := fun _ H' => Q .non H', rt := Q } (start N vs) H) : FnOk P w K mg base (L2N.CX P w) (k + 1) f fd ps sp := by
  obtain ⟨oc, od, kV, doc, pm, an, cdv, ct, osl, rfl, lk, hcd⟩ := F.ex
  exact fn_of lk hcd S len fun A outer s H vs Q E hr hsp => hbody cdv A outer s H vs Q E hr hsp
end
/-! ### tuples of which something is known -/
def EvY (te : TE) (σ : L2.St) (H : Hp) (P : List V → Hp → Prop) : Prop := EvX te σ H fun v H' => ∃ p xs, v = .ref p ∧ H' p = some (.tup xs) ∧ P xs H'
def Stb (P : List V → Hp → Prop) : Prop := ∀ v H1 H2, Ex H1 H2 → P v H1 → P v H2
section
variable {K : PySem.W.Frag} {σ : L2.St} {H : Hp} {ta tb te tv : TE} {P P' : List V → Hp → Prop} {xs : List V} {D : Ends} {tz : TS} {a C dx : Addr} {fs : List (Str × V)} {f : Str}
theorem ey_W (h : EvW te σ H xs) : EvY te σ H (fun ys _ => ys = xs) := ex_mono h fun v H' _ ⟨p, e, q⟩ => ⟨p, xs, e, q, rfl⟩
theorem ey_one {P : V → Hp → Prop} (h : EvX te σ H P) (hP : ∀ v H1 H2, Ex H1 H2 → P v H1 → P v H2) : EvY (tTup (tCons te tNil)) σ H (fun ys H' => ∃ y, ys = [y] ∧ P y H') := fun H1 e Q q =>
  h H1 e _ fun v H2 e2 p => ⟨by show 1 ≤ sizeLine; decide, fun r nr => q _ _ (e2.trans (Ex.new nr)) ⟨r, [v], rfl, upd_same, v, rfl, hP _ _ _ (Ex.new nr) p⟩⟩
theorem ey_cat (h1 : EvY ta σ H P) (h2 : EvY tb σ H P') (s1 : Stb P) (s2 : Stb P') (hz : ∀ xs ys H', P xs H' → P' ys H' → xs.length + ys.length ≤ 1000) : EvY (tOp (rCatA K) ta tb) σ H (fun zs H' => ∃ xs ys, zs = xs ++ ys ∧ P xs H' ∧ P' ys H') := fun H1 e Q q =>
  h1 H1 e _ fun _ H2 e2 ⟨a, xs, ea, ha, pa⟩ => h2 H2 (e.trans e2) _ fun _ H3 e3 ⟨b, ys, eb, hb, pb⟩ => ⟨a, b, xs, ys, ea, eb, st_of (e3 _ _ ha), st_of hb, Nat.le_trans (hz xs ys H3 (s1 _ _ _ e3 pa) pb) (by decide), fun h0 => q _ H3 (e2.trans e3) ⟨b, ys, rfl, hb, xs, ys, by rw [h0]; rfl, s1 _ _ _ e3 pa, pb⟩,
    fun _ h0 => q _ H3 (e2.trans e3) ⟨a, xs, rfl, e3 _ _ ha, xs, ys, by rw [h0, List.append_nil], s1 _ _ _ e3 pa, pb⟩, fun _ _ r nr => q _ _ ((e2.trans e3).trans (Ex.new nr)) ⟨r, _, rfl, upd_same, xs, ys, rfl, s1 _ _ _ (e3.trans (Ex.new nr)) pa, s2 _ _ _ (Ex.new nr) pb⟩⟩
theorem s_sfldY (hv : EvY tv σ H P) (hP : Stb P) (ha : Ev ta σ H (.ref a)) (h : H a = some (.ins C dx fs)) (c : Cls K C) (n : NoAttr K C f) (hl : fs.length < 1000) (k : ∀ p xs H1, Ex H H1 → H1 p = some (.tup xs) → P xs H1 → D.nx σ (upd H1 a (.ins C dx (putF f (.ref p) fs)))) : sFld K ta tv f D σ H :=
  s_sfld (P := fun v H' => ∃ p xs, v = .ref p ∧ H' p = some (.tup xs) ∧ P xs H') hv (fun _ _ _ e h => by obtain ⟨p, xs, h1, h2, h3⟩ := h; exact ⟨p, xs, h1, e _ _ h2, hP _ _ _ e h3⟩) ha h c n hl fun y H1 e ⟨p, xs, ep, hp, hq⟩ => by rw [ep]; exact k p xs H1 e hp hq
theorem q_sfldY (hv : EvY tv σ H P) (hP : Stb P) (ha : Ev ta σ H (.ref a)) (h : H a = some (.ins C dx fs)) (c : Cls K C) (n : NoAttr K C f) (hl : fs.length < 1000) (k : ∀ p xs H1, Ex H H1 → H1 p = some (.tup xs) → P xs H1 → tz D σ (upd H1 a (.ins C dx (putF f (.ref p) fs)))) : tSeq (sFld K ta tv f) tz D σ H :=
  s_sfldY (D := { D with nx := tz D }) hv hP ha h c n hl k
variable {p : Addr} {r row c wl nl : V}
theorem fv_rules (T : ShC K C) (h : H p = some (.ins C dx (fl5 r row c wl nl))) (ha : Ev ta σ H (.ref p)) : Ev (tFld K ta "rules") σ H r := ev_fld ha h T.cl T.nRules (get_rules r row c wl nl)
theorem fv_row (T : ShC K C) (h : H p = some (.ins C dx (fl5 r row c wl nl))) (ha : Ev ta σ H (.ref p)) : Ev (tFld K ta "row") σ H row := ev_fld ha h T.cl T.nRow (get_row r row c wl nl)
theorem fv_counts (T : ShC K C) (h : H p = some (.ins C dx (fl5 r row c wl nl))) (ha : Ev ta σ H (.ref p)) : Ev (tFld K ta "counts") σ H c := ev_fld ha h T.cl T.nCounts (get_counts r row c wl nl)
theorem fv_walls (T : ShC K C) (h : H p = some (.ins C dx (fl5 r row c wl nl))) (ha : Ev ta σ H (.ref p)) : Ev (tFld K ta "walls") σ H wl := ev_fld ha h T.cl T.nWalls (get_walls r row c wl nl)
theorem fv_notes (T : ShC K C) (h : H p = some (.ins C dx (fl5 r row c wl nl))) (ha : Ev ta σ H (.ref p)) : Ev (tFld K ta "notes") σ H nl := ev_fld ha h T.cl T.nNotes (get_notes r row c wl nl)
end
theorem act_put {rs : List Ru} {s : Sta} {p : Int} {k : Str} : act rs s (.put p k) = if ¬ (0 ≤ p ∧ p ≤ s.row.length) then (.jar p, s) else if isK k = false then (.row, s) else if s.row.length = 12 then (.count, s) else (.told .non, s.put rs.length p.toNat k) := rfl
theorem act_take {rs : List Ru} {s : Sta} {p : Int} : act rs s (.take p) = if ¬ (0 ≤ p ∧ p < s.row.length) then (.jar p, s) else (.told (.sgn (s.row.getD p.toNat 0)), s.take p.toNat) := rfl
theorem act_bar {rs : List Ru} {s : Sta} {p : Int} : act rs s (.bar p) = if ¬ (0 ≤ p ∧ p < s.row.length) then (.jar p, s) else if s.wal.getD p.toNat false = true then (.jar p, s) else (.told .non, { s with wal := s.wal.set p.toNat true }) := rfl
theorem act_unbar {rs : List Ru} {s : Sta} {p : Int} : act rs s (.unbar p) = if ¬ (0 ≤ p ∧ p < s.row.length) then (.jar p, s) else if s.wal.getD p.toNat false = false then (.jar p, s) else (.told .non, { s with wal := s.wal.set p.toNat false }) := rfl
theorem act_tick {rs : List Ru} {s : Sta} : act rs s .tick = (.told (.plc (diff s.row (s.tick rs).row)), s.tick rs) := rfl
/-! ### what a deed promises -/
structure XA where
  jar : Addr
  row : Addr
  count : Addr
def ResV : Res → V → Hp → Hp → Prop
  | .non, v, _, _ => v = .non
  | .sgn c, v, _, _ => v = ch c
  | .plc l, v, H, H' => ∃ q, v = .ref q ∧ H q = none ∧ H' q = some (.lst (l.map iv))
structure DeedK (xa : XA) (C p : Addr) (R : List Addr) (rs : List Ru) (s : Sta) (ds : List Deed) (d : Deed) (H : Hp) (Q : VK) (E : XK) : Prop where
  told : ∀ r s', act rs s d = (.told r, s') → ∀ v R' H', ResV r v H H' → Fr R H H' → ShelfAt C H' p R' rs s' (ds ++ [d]) → (∀ a ∈ R', a ∈ R ∨ H a = none) → Q v H'
  jar : ∀ i, act rs s d = (.jar i, s) → ∀ e H', Ex H H' → H e = none → H' e = some (.xd [("place", .int i)]) → E (.ref xa.jar) (some e) H'
  row : act rs s d = (.row, s) → ∀ e H', Ex H H' → H e = none → H' e = some (.xd [("place", .int 0)]) → E (.ref xa.row) (some e) H'
  count : act rs s d = (.count, s) → ∀ H', Ex H H' → E (.ref xa.count) none H'
structure Good (rs : List Ru) (s : Sta) (ds : List Deed) : Prop where
  r : RsOk rs
  s : s.Ok rs.length
  n : ds.length ≤ 50000
/-! ### put -/
def spPut (xa : XA) (C : Addr) : Sp := fun vs H Q E => ∃ (p : Addr) (R : List Addr) (rs : List Ru) (s : Sta) (ds : List Deed) (pl : Int) (k : Str), vs = [.ref p, .int pl, .str k] ∧ k.length ≤ 1000 ∧ ShelfAt C H p R rs s ds ∧ Good rs s ds ∧ DeedK xa C p R rs s ds (.put pl k) H Q E
section
variable {P : Program} {w : World} {K : PySem.W.Frag} {mg : Str → Option Value} {base : Heap}
theorem ok_put {xa : XA} {C f f1 : Addr} {fd fd1 : FuncData} {bmB : List Value} (F : Fun K "put" "Shelf.put" sPut f fd) (B : Bt mg) (T : ShC K C) (xj : KwX P w K mg base "NoJar" "place" xa.jar) (xr : KwX P w K mg base "BadRow" "place" xa.row) (xc : OwX K mg "BadCount" xa.count bmB)
    (hbm : ExcBaseFacts "ValueError" "ValueError.__new__" "ValueError.__init__" bmB) (g1 : mg "is_kind" = some (.ref f1)) (k1 : PySem.W.keepIn K (.ref f1) = true) (b1 : Binds K fd1 pIsKind []) (G1 : FnOk P w K mg base CX0 1 f1 fd1 pIsKind spIsKind) :
    FnOk P w K mg base (L2N.CX P w) 3 f fd pPut (spPut xa C) := by
  refine okXN F scPut (fun vs H Q E h => ?_) (fun cdv A outer s0 H vs Q E hr h => ?_)
  · obtain ⟨p, R, rs, s, ds, pl, k, rfl, _⟩ := h
    rfl
  · have tk : L2N.Takes (cxOf (L2N.CX P w) P w K mg base nPut "Shelf.put" (defScope sPut) f cdv A outer s0 H E) (fun cls d _ H => E cls d H) := L2N.takes_of rfl rfl rfl rfl
    refine ⟨_, pss_cons (ps_if (pt_not (pt_chain op_le op_le pe_int (pv 1) (pe_callB call_len_str (by rfl) B.len boot_len (pa_cons (pe_fld (pv 0) rfl) pa_nil)))) (pss_one (L2N.ps_raise rfl tk (pmk_kwX xj hr (by rfl) (pv 1)).pmk)) pss_nil)
      (pss_cons (ps_if (pt_not (pt_val (pe_call G1 (hr.mono (by decide)) (by rfl) g1 k1 b1 .nil pass0 (pa_cons (pv 2) pa_nil)))) (pss_one (L2N.ps_raise rfl tk (pmk_kwX xr hr (by rfl) pe_int).pmk)) pss_nil)
      (pss_cons (ps_if (pt_cmpR op_eq (pe_callB call_len_str (by rfl) B.len boot_len (pa_cons (pe_fld (pv 0) rfl) pa_nil)) (pe_g (by rfl) B.mJ) (nomark _)) (pss_one (L2N.ps_raise rfl tk (L2N.pmk_own hbm xc.q xc.g xc.k (raises_own xc.b xc.t) rfl))) pss_nil)
      (pss_cons (ps_fld (pv 0) (pe_op op_add_str (pe_op op_add_str (pe_slice sl_str (pe_fld (pv 0) rfl) po_none (po_some (pv 1))) (pv 2)) (pe_slice sl_str (pe_fld (pv 0) rfl) (po_some (pv 1)) po_none)) rfl)
      (pss_cons (ps_fld (pv 0) (pe_op op_catA (pe_op op_catA (pe_slice sl_tupA (pe_fld (pv 0) rfl) po_none (po_some (pv 1))) (pe_tup (pa_cons (pe_op op_repN (pe_tup (pa_cons pe_int pa_nil)) (pe_callB call_len_seq (by rfl) B.len boot_len (pa_cons (pe_fld (pv 0) rfl) pa_nil))) pa_nil))) (pe_slice sl_tupA (pe_fld (pv 0) rfl) (po_some (pv 1)) po_none)) rfl)
      (pss_cons (ps_fld (pv 0) (pe_op op_cat (pe_op op_cat (pe_slice sl_list (pe_fld (pv 0) rfl) po_none (po_some (pv 1))) (pe_lst (pa_cons pe_bl pa_nil))) (pe_slice sl_list (pe_fld (pv 0) rfl) (po_some (pv 1)) po_none)) rfl)
      (pss_one (ps_expr (pe_bm PySem.F.plainAttrs_list PySem.F.slot_list_append PySem.F.type_list_append mt_append (pe_fld (pv 0) rfl) (pa_cons (pe_tup (pa_cons (pe_g (by rfl) B.gPut) (pa_cons (pv 1) (pa_cons (pv 2) pa_nil)))) pa_nil))))))))), ?_⟩
    obtain ⟨p, R, rs, s, ds, pl, k, rfl, hk, ⟨dx, r, c, wl, nl, rfl, hp, hR, hC, hw, ⟨nas, hn, hn2⟩, hwn⟩, G, DK⟩ := h
    have hz := G.s.z
    have hzs : (txt s.row).length ≤ sizeLine := by rw [len_txt]; exact sz_of (by omega)
    -- the place
    refine q_when (et_is (et_not (et_test (ev_chain ev_c (ev_var rfl) rv_I0 (fun _ => ev_lenZ (fv_row T hp (ev_var rfl)) hzs) fun _ => rv_I0))) (b := decide (¬ (0 ≤ pl ∧ pl ≤ (s.row.length : Int)))) ?_) (fun hb H1 e1 => ?_) fun hb H1 e1 => ?_
    · rw [len_txt]
      by_cases h1 : 0 ≤ pl <;> by_cases h2 : pl ≤ (s.row.length : Int) <;> simp [h1, h2]
    · have hb' := of_decide_eq_true hb
      exact x_kw (ev_var rfl) fun d H' e nd hd => DK.jar pl (by rw [act_put, if_pos hb']) d H' (e1.trans e) (fresh_back e1 nd) hd
    have hpl : 0 ≤ pl ∧ pl ≤ (s.row.length : Int) := Classical.not_not.mp (of_decide_eq_false hb)
    obtain ⟨n, rfl⟩ : ∃ n : Nat, pl = (n : Int) := ⟨pl.toNat, by omega⟩
    have hn0 : n ≤ s.row.length := by omega
    -- the kind
    refine q_when (et_is (et_not (et_B (ev_call (vs := [.str k]) (ea_cons (ev_var rfl) ea_nil) (z := .bl (isK k)) (fun H2 e2 Q2 q2 E' => ⟨k, rfl, Nat.le_trans hk (by decide), q2⟩)))) (b := !isK k) rfl) (fun hb H2 e2 => ?_) fun hb H2 e2 => ?_
    · have hb' : isK k = false := by simpa using hb
      exact x_kw ev_c fun d H' e nd hd => DK.row (by rw [act_put, if_neg (Classical.not_not.mpr hpl), if_pos hb']) d H' ((e1.trans e2).trans e) (fresh_back (e1.trans e2) nd) hd
    have hk1 : isK k = true := by simpa using hb
    -- room for one more
    refine q_when (et_is (et_test (ev_eq (ev_lenZ (fv_row T ((e1.trans e2) _ _ hp) (ev_var rfl)) hzs) ev_c rfl)) (b := decide (s.row.length = 12)) ?_) (fun hb H3 e3 => ?_) fun hb H3 e3 => ?_
    · rw [dec_int, len_txt]
      exact decide_eq_decide.mpr ⟨fun h => by omega, fun h => by omega⟩
    · have hb' := of_decide_eq_true hb
      exact DK.count (by rw [act_put, if_neg (Classical.not_not.mpr hpl), if_neg (by rw [hk1]; decide), if_pos hb']) H3 ((e1.trans e2).trans e3)
    have h12 := of_decide_eq_false hb
    have hact : act rs s (.put (n : Int) k) = (.told .non, s.put rs.length n k) := by
      rw [act_put, if_neg (Classical.not_not.mpr hpl), if_neg (by rw [hk1]; decide), if_neg h12]
      rfl
    have E3 := (e1.trans e2).trans e3
    have hp3 := E3 _ _ hp
    have hC3 : CntsAt H3 c s.cnt := hC.ex fun b l q => E3 _ _ q
    have hR3 : RulesAt H3 r rs := hR.ex fun b l q => E3 _ _ q
    have hw3 := E3 _ _ hw
    have hn3 := E3 _ _ hn
    have hnn3 : Pr (fun a x => H3 a = some (.tup (Deed.vals x))) nas ds := hn2.mono fun a x q => E3 _ _ q
    have f3 : Fr [p, wl, nl] H H3 := Fr.of E3
    have hn2' := hn2
    clear hp hC hw hn hn2
    -- row
    have hkl : k.length = 1 := by
      unfold isK at hk1
      rw [Bool.and_eq_true, decide_eq_true_eq] at hk1
      exact hk1.1
    have hks : (txt (s.row.take n)).length + k.length ≤ 1000 := by
      rw [len_txt, List.length_take, hkl]
      omega
    refine q_sfldV (v := .str (txt (s.row.take n ++ k.cps.toList ++ s.row.drop n))) (ev_is (ev_addS (ev_addS (ev_slS (fv_row T hp3 (ev_var rfl)) eo_none (eo_some (ev_var rfl)) hzs) (ev_var rfl) (by rw [txt_take hn0]; exact hks)) (ev_slS (fv_row T hp3 (ev_var rfl)) (eo_some (ev_var rfl)) eo_none hzs) ?_) ?_) (ev_var rfl) hp3 T.cl T.nRow (by show 5 < 1000; decide) fun H4 e4 => ?_
    · rw [txt_take hn0, txt_drop hn0]
      have h1 : (txt (s.row.take n) ++ k) = txt (s.row.take n ++ k.cps.toList) := by rw [← txt_app, txt_cps]
      rw [h1, len_txt, len_txt, List.length_append, List.length_take, List.length_drop, Array.length_toList]
      have : k.length = k.cps.size := rfl
      omega
    · rw [txt_take hn0, txt_drop hn0]
      have h1 : (txt (s.row.take n) ++ k) = txt (s.row.take n ++ k.cps.toList) := by rw [← txt_app, txt_cps]
      rw [h1, txt_app]
    rw [put_row]
    have nop : ∀ {q : Addr} {xs : List V}, H3 q = some (.tup xs) → q ≠ p := fun h z => by rw [z, hp3] at h; cases h
    have nwp : wl ≠ p := fun z => by rw [z, hp3] at hw3; cases hw3
    have nnp : nl ≠ p := fun z => by rw [z, hp3] at hn3; cases hn3
    have f4 := (f3.trans (Fr.of e4)).upd (a := p) (o := .ins C dx (fl5 (.ref r) (.str (txt (s.row.take n ++ k.cps.toList ++ s.row.drop n))) (.ref c) (.ref wl) (.ref nl))) (.inl (by simp)) (fun xs h => by have := E3 _ _ h; rw [hp3] at this; cases this)
    have hp4 : upd H4 p (.ins C dx (fl5 (.ref r) (.str (txt (s.row.take n ++ k.cps.toList ++ s.row.drop n))) (.ref c) (.ref wl) (.ref nl))) p = some (.ins C dx (fl5 (.ref r) (.str (txt (s.row.take n ++ k.cps.toList ++ s.row.drop n))) (.ref c) (.ref wl) (.ref nl))) := upd_same
    have b4 := (Bx.of (x := p) (Ex.refl H3)).up (o := .ins C dx (fl5 (.ref r) (.str (txt (s.row.take n ++ k.cps.toList ++ s.row.drop n))) (.ref c) (.ref wl) (.ref nl))) e4
    generalize upd H4 p (.ins C dx (fl5 (.ref r) (.str (txt (s.row.take n ++ k.cps.toList ++ s.row.drop n))) (.ref c) (.ref wl) (.ref nl))) = H5 at f4 hp4 b4
    obtain ⟨ras, hr1, hr2⟩ := hR3
    obtain ⟨cas, hc1, hc2⟩ := hC3
    have hrl := hr2.length
    have hcl := hc2.length
    have hr5 := b4 _ _ (nop hr1) hr1
    have hc5 := b4 _ _ (nop hc1) hc1
    have hw5 := b4 _ _ nwp hw3
    have hn5 := b4 _ _ nnp hn3
    have hrl4 := G.r.1
    have hcn : cas.length = s.row.length := by rw [hcl]; exact G.s.c
    have hnc : n ≤ (cas.map V.ref).length := by rw [List.length_map]; omega
    -- counts
    refine q_sfldY (P := fun zs H' => ∃ t, zs = (cas.map V.ref).take n ++ [V.ref t] ++ (cas.map V.ref).drop n ∧ H' t = some (.tup (List.replicate rs.length (.int 0)))) (ex_mono (ey_cat (ey_cat (ey_W (ew_slice (fv_counts T hp4 (ev_var rfl)) hc5 eo_none (eo_some (ev_var rfl))))
      (ey_one (eu_rep0 (n := rs.length) (eu_tup (ea_cons ev_c ea_nil) (by decide)) (ev_is (ev_lenS (fv_rules T hp4 (ev_var rfl)) hr5) (by rw [List.length_map, hrl])) (by omega)) (fun v H1 H2 e ⟨q, h1, h2⟩ => ⟨q, h1, e _ _ h2⟩)) (fun _ _ _ _ h => h) (fun v H1 H2 e ⟨y, h1, q, h2, h3⟩ => ⟨y, h1, q, h2, e _ _ h3⟩) ?_)
      (ey_W (ew_slice (fv_counts T hp4 (ev_var rfl)) hc5 (eo_some (ev_var rfl)) eo_none)) (fun v H1 H2 e ⟨xs, ys, h0, h1, y, h2, q, h3, h4⟩ => ⟨xs, ys, h0, h1, y, h2, q, h3, e _ _ h4⟩) (fun _ _ _ _ h => h) ?_) ?_) (fun v H1 H2 e ⟨t, h1, h2⟩ => ⟨t, h1, e _ _ h2⟩) (ev_var rfl) hp4 T.cl T.nCounts (by show 5 < 1000; decide) fun c2 xs H6 e6 hc6 ht6 => ?_
    · rintro xs ys H' rfl ⟨y, rfl, _⟩
      rw [cutV_hd hnc, List.length_take, List.length_map]
      show _ + 1 ≤ 1000
      omega
    · rintro _ ys H' ⟨xs, zs, rfl, rfl, y, rfl, _⟩ rfl
      rw [cutV_hd hnc, cutV_tl hnc, List.length_append, List.length_take, List.length_drop, List.length_map]
      show _ + 1 + _ ≤ 1000
      omega
    · rintro v H' e ⟨q, xs, rfl, hq, zs, ys, rfl, ⟨z1, z2, rfl, rfl, y, rfl, t, rfl, ht⟩, rfl⟩
      refine ⟨q, _, rfl, hq, t, ?_, ht⟩
      rw [cutV_hd hnc, cutV_tl hnc]
    obtain ⟨t, rfl, ht⟩ := ht6
    rw [put_counts]
    have n6 : c2 ≠ p := fun z => by rw [z, e6 _ _ hp4] at hc6; cases hc6
    have nt : t ≠ p := fun z => by rw [z, e6 _ _ hp4] at ht; cases ht
    have f6 := (f4.trans (Fr.of e6)).upd (a := p) (o := .ins C dx (fl5 (.ref r) (.str (txt (s.row.take n ++ k.cps.toList ++ s.row.drop n))) (.ref c2) (.ref wl) (.ref nl))) (.inl (by simp)) (fun xs h => by have := E3 _ _ h; rw [hp3] at this; cases this)
    have hp6 : upd H6 p (.ins C dx (fl5 (.ref r) (.str (txt (s.row.take n ++ k.cps.toList ++ s.row.drop n))) (.ref c2) (.ref wl) (.ref nl))) p = some (.ins C dx (fl5 (.ref r) (.str (txt (s.row.take n ++ k.cps.toList ++ s.row.drop n))) (.ref c2) (.ref wl) (.ref nl))) := upd_same
    have b6 := (Bx.of (x := p) (Ex.refl H5)).up (o := .ins C dx (fl5 (.ref r) (.str (txt (s.row.take n ++ k.cps.toList ++ s.row.drop n))) (.ref c2) (.ref wl) (.ref nl))) e6
    have hc7 : upd H6 p (.ins C dx (fl5 (.ref r) (.str (txt (s.row.take n ++ k.cps.toList ++ s.row.drop n))) (.ref c2) (.ref wl) (.ref nl))) c2 = some (.tup ((cas.map V.ref).take n ++ [V.ref t] ++ (cas.map V.ref).drop n)) := by rw [upd_ne n6]; exact hc6
    have ht7 : upd H6 p (.ins C dx (fl5 (.ref r) (.str (txt (s.row.take n ++ k.cps.toList ++ s.row.drop n))) (.ref c2) (.ref wl) (.ref nl))) t = some (.tup (List.replicate rs.length (.int 0))) := by rw [upd_ne nt]; exact ht
    generalize upd H6 p (.ins C dx (fl5 (.ref r) (.str (txt (s.row.take n ++ k.cps.toList ++ s.row.drop n))) (.ref c2) (.ref wl) (.ref nl))) = H7 at f6 hp6 b6 hc7 ht7
    have hw7 := b6 _ _ nwp hw5
    have hn7 := b6 _ _ nnp hn5
    have hnw : n ≤ (bls s.wal).length := by rw [show (bls s.wal).length = s.wal.length from List.length_map .., G.s.w]; omega
    have hwl : (bls s.wal).length = s.row.length := by rw [show (bls s.wal).length = s.wal.length from List.length_map .., G.s.w]
    -- walls
    refine q_sfldL (el_cat (el_cat (el_sl0 (fv_walls T hp6 (ev_var rfl)) eo_none (eo_some (ev_var rfl)) hw7) (el_lst (ea_cons ev_c ea_nil) (by decide)) ?_) (el_sl0 (fv_walls T hp6 (ev_var rfl)) (eo_some (ev_var rfl)) eo_none hw7) ?_) (ev_var rfl) hp6 T.cl T.nWalls (by show 5 < 1000; decide) fun w2 H8 nw2 e8 hw8 => ?_
    · rw [cutV_hd hnw, List.length_take]
      show _ + 1 ≤ 100000
      omega
    · rw [cutV_hd hnw, cutV_tl hnw, List.length_append, List.length_take, List.length_drop]
      show _ + 1 + _ ≤ 100000
      omega
    rw [put_walls]
    rw [cutV_hd hnw, cutV_tl hnw] at hw8
    have nw2p : w2 ≠ p := fun z => by rw [z, hp6] at nw2; cases nw2
    have nw2n : w2 ≠ nl := fun z => by rw [z, hn7] at nw2; cases nw2
    have f8 := (f6.trans (Fr.of e8)).upd (a := p) (o := .ins C dx (fl5 (.ref r) (.str (txt (s.row.take n ++ k.cps.toList ++ s.row.drop n))) (.ref c2) (.ref w2) (.ref nl))) (.inl (by simp)) (fun xs h => by have := E3 _ _ h; rw [hp3] at this; cases this)
    have hp8 : upd H8 p (.ins C dx (fl5 (.ref r) (.str (txt (s.row.take n ++ k.cps.toList ++ s.row.drop n))) (.ref c2) (.ref w2) (.ref nl))) p = some (.ins C dx (fl5 (.ref r) (.str (txt (s.row.take n ++ k.cps.toList ++ s.row.drop n))) (.ref c2) (.ref w2) (.ref nl))) := upd_same
    have b8 := (Bx.of (x := p) (Ex.refl H7)).up (o := .ins C dx (fl5 (.ref r) (.str (txt (s.row.take n ++ k.cps.toList ++ s.row.drop n))) (.ref c2) (.ref w2) (.ref nl))) e8
    have hw9 : upd H8 p (.ins C dx (fl5 (.ref r) (.str (txt (s.row.take n ++ k.cps.toList ++ s.row.drop n))) (.ref c2) (.ref w2) (.ref nl))) w2 = some (.lst ((bls s.wal).take n ++ [V.bl false] ++ (bls s.wal).drop n)) := by rw [upd_ne nw2p]; exact hw8
    generalize upd H8 p (.ins C dx (fl5 (.ref r) (.str (txt (s.row.take n ++ k.cps.toList ++ s.row.drop n))) (.ref c2) (.ref w2) (.ref nl))) = H9 at f8 hp8 b8 hw9
    have hn9 := b8 _ _ nnp hn7
    have hdl := G.n
    have hnl := hn2'.length
    -- notes
    refine s_appU (xs := nas.map V.ref) (ys := Deed.vals (.put (n : Int) k)) hn9 (fv_notes T hp8 (ev_var rfl)) (eu_tup (ea_cons ev_c (ea_cons (ev_var rfl) (ea_cons (ev_var rfl) ea_nil))) (by show 3 ≤ 100000; decide)) (by rw [List.length_map]; omega) fun d H10 nd e10 hd10 => ?_
    have hnd : d ≠ nl := fun z => by rw [z, hn9] at nd; cases nd
    have f10 := (f8.trans (Fr.of e10)).upd (a := nl) (o := .lst (nas.map V.ref ++ [.ref d])) (.inl (by simp)) (fun xs h => by have := E3 _ _ h; rw [hn3] at this; cases this)
    refine DK.told _ _ hact .non [p, w2, nl] _ rfl f10 ⟨dx, r, c2, w2, nl, rfl, by rw [upd_ne (Ne.symm nnp)]; exact e10 _ _ hp8, ?_, ?_, by rw [upd_ne nw2n, e10 _ _ hw9]; unfold Sta.put bls; simp, ⟨nas ++ [d], by rw [upd_same, List.map_append]; rfl, ?_⟩, nw2n⟩ (fun a ha => ?_)
    · exact hR.ex f10.2
    · refine ⟨cas.take n ++ [t] ++ cas.drop n, ?_, ?_⟩
      · rw [upd_ne (fun z => by rw [z, hn7] at hc7; cases hc7), e10 _ _ (b8 _ _ n6 hc7), List.map_append, List.map_append, List.map_take, List.map_drop]
        rfl
      · have g : ∀ q xs, H3 q = some (.tup xs) → upd H10 nl (.lst (nas.map V.ref ++ [.ref d])) q = some (.tup xs) := fun q xs h => by
          rw [upd_ne (fun z => by rw [z, hn3] at h; cases h)]
          exact e10 _ _ (b8 _ _ (nop h) (b6 _ _ (nop h) (b4 _ _ (nop h) h)))
        have hc9 := hc2.mono fun a x h => g _ _ h
        unfold Sta.put
        refine Pr.append (Pr.append (hc9.take n) ⟨?_, trivial⟩) (hc9.drop n)
        show upd H10 nl (.lst (nas.map V.ref ++ [.ref d])) t = some (.tup (iLs (List.replicate rs.length 0)))
        rw [upd_ne (fun z => by rw [z, hn7] at ht7; cases ht7), e10 _ _ (b8 _ _ nt ht7)]
        unfold iLs
        rw [List.map_replicate]
    · exact Pr.snoc (hn2'.mono fun a x h => f10.2 _ _ h) (by rw [upd_ne hnd]; exact hd10)
    · rcases List.mem_cons.mp ha with h | ha
      · exact .inl (by simp [h])
      · rcases List.mem_cons.mp ha with h | ha
        · refine .inr ?_
          cases h1 : H a with
          | none => rfl
          | some o =>
            rw [← h] at nw2
            by_cases hm : a ∈ [p, wl, nl]
            · have hm' : a = p ∨ a = wl ∨ a = nl := by simpa using hm
              rcases hm' with z | z | z
              · rw [z, hp6] at nw2; cases nw2
              · rw [z, hw7] at nw2; cases nw2
              · rw [z, hn7] at nw2; cases nw2
            · rw [f6.1 _ _ hm h1] at nw2; cases nw2
        · exact .inl (by simp at ha; simp [ha])
end
end S8
set_option Elab.async false
set_option linter.all false
set_option maxRecDepth 100000
set_option maxHeartbeats 400000
set_option pp.maxSteps 2000
namespace S8
open PySem PySem.Spec PyProof.Rows L2 L2H HotX Evl
theorem m_call {C a dx : Addr} {m : Str} {sp : Sp} {dvs vs : List V} {E : XK} {ta : TE} {t : TA} {σ : L2.St} {H : Hp} {Q : VK} {fs : List (Str × V)} (ha : Ev ta σ H (.ref a)) (h : H a = some (.ins C dx fs)) (hm : fs.lookup m = none) (ht : EvA t σ H vs)
    (k : ∀ H1, Ex H H1 → sp (.ref a :: (vs ++ dvs)) H1 Q E) : tMeth C m sp dvs E ta t σ H Q :=
  ha H (Ex.refl H) _ fun H1 e1 => ⟨a, dx, fs, rfl, e1 _ _ h, hm, ht H1 e1 _ fun H2 e2 => k H2 (e1.trans e2)⟩
/-! ### need_place -/
def spNeedP (xa : XA) : Sp := fun vs H Q E => ∃ (x : V) (pl most : Int), vs = [x, .int pl, .int most] ∧ (0 ≤ pl ∧ pl < most → ∀ H', Ex H H' → Q .non H') ∧
  (¬ (0 ≤ pl ∧ pl < most) → ∀ e H', Ex H H' → H e = none → H' e = some (.xd [("place", .int pl)]) → E (.ref xa.jar) (some e) H')
section
variable {P : Program} {w : World} {K : PySem.W.Frag} {mg : Str → Option Value} {base : Heap}
theorem ok_needP {xa : XA} {f : Addr} {fd : FuncData} (F : Fun K "need_place" "Shelf.need_place" sNeedP f fd) (B : Bt mg) (xj : KwX P w K mg base "NoJar" "place" xa.jar) : FnOk P w K mg base (L2N.CX P w) 3 f fd pNeedP (spNeedP xa) := by
  refine okXN F scNeedP (fun vs H Q E h => ?_) (fun cdv A outer s0 H vs Q E hr h => ?_)
  · obtain ⟨x, pl, most, rfl, _⟩ := h
    rfl
  · have tk : L2N.Takes (cxOf (L2N.CX P w) P w K mg base nNeedP "Shelf.need_place" (defScope sNeedP) f cdv A outer s0 H E) (fun cls d _ H => E cls d H) := L2N.takes_of rfl rfl rfl rfl
    refine ⟨_, pss_one (ps_if (pt_not (pt_chain op_le op_lt pe_int (pv 1) (pv 2))) (pss_one (L2N.ps_raise rfl tk (pmk_kwX xj hr (by rfl) (pv 1)).pmk)) pss_nil), ?_⟩
    obtain ⟨x, pl, most, rfl, k1, k2⟩ := h
    refine s_when (et_is (et_not (et_test (ev_chain ev_c (ev_var rfl) rv_I0 (fun _ => ev_var rfl) fun _ => rv_I0))) (b := decide (¬ (0 ≤ pl ∧ pl < most))) ?_) (fun hb H1 e1 => ?_) fun hb H1 e1 => ?_
    · by_cases h1 : 0 ≤ pl <;> by_cases h2 : pl < most <;> simp [h1, h2]
    · exact x_kw (ev_var rfl) fun d H' e nd hd => k2 (of_decide_eq_true hb) d H' (e1.trans e) (fresh_back e1 nd) hd
    · exact k1 (Classical.not_not.mp (of_decide_eq_false hb)) H1 e1
end
/-! ### take -/
def spTake (xa : XA) (C : Addr) : Sp := fun vs H Q E => ∃ (p : Addr) (R : List Addr) (rs : List Ru) (s : Sta) (ds : List Deed) (pl : Int), vs = [.ref p, .int pl] ∧ ShelfAt C H p R rs s ds ∧ Good rs s ds ∧ DeedK xa C p R rs s ds (.take pl) H Q E
section
variable {P : Program} {w : World} {K : PySem.W.Frag} {mg : Str → Option Value} {base : Heap}
theorem ok_take {xa : XA} {C f f1 : Addr} {fd fd1 : FuncData} (F : Fun K "take" "Shelf.take" sTake f fd) (B : Bt mg) (T : ShC K C) (m1 : Meth K C "need_place" f1) (b1 : Binds K fd1 pNeedP []) (G1 : FnOk P w K mg base (L2N.CX P w) 3 f1 fd1 pNeedP (spNeedP xa)) :
    FnOk P w K mg base (L2N.CX P w) 4 f fd pTake (spTake xa C) := by
  refine okXN F scTake (fun vs H Q E h => ?_) (fun cdv A outer s0 H vs Q E hr h => ?_)
  · obtain ⟨p, R, rs, s, ds, pl, rfl, _⟩ := h
    rfl
  · have tk : L2N.Takes (cxOf (L2N.CX P w) P w K mg base nTake "Shelf.take" (defScope sTake) f cdv A outer s0 H E) (fun cls d _ H => E cls d H) := L2N.takes_of rfl rfl rfl rfl
    refine ⟨_, pss_cons (ps_expr (pe_meth (E := E) (pv 0) T.cl m1 G1 hr b1 .nil (L2N.passes_call tk fun _ _ _ _ h => h) (pa_cons (pv 1) (pa_cons (pe_callB call_len_str (by rfl) B.len boot_len (pa_cons (pe_fld (pv 0) rfl) pa_nil)) pa_nil))))
      (pss_cons (ps_set (i := 2) scTake.nd rfl (.inl rfl) (pe_ix ix_str (pe_fld (pv 0) rfl) (pv 1) (fun _ _ => rfl)))
      (pss_cons (ps_fld (pv 0) (pe_op op_add_str (pe_slice sl_str (pe_fld (pv 0) rfl) po_none (po_some (pv 1))) (pe_slice sl_str (pe_fld (pv 0) rfl) (po_some (pe_op op_add (pv 1) pe_int)) po_none)) rfl)
      (pss_cons (ps_fld (pv 0) (pe_op op_catA (pe_slice sl_tupA (pe_fld (pv 0) rfl) po_none (po_some (pv 1))) (pe_slice sl_tupA (pe_fld (pv 0) rfl) (po_some (pe_op op_add (pv 1) pe_int)) po_none)) rfl)
      (pss_cons (ps_fld (pv 0) (pe_op op_cat (pe_slice sl_list (pe_fld (pv 0) rfl) po_none (po_some (pv 1))) (pe_slice sl_list (pe_fld (pv 0) rfl) (po_some (pe_op op_add (pv 1) pe_int)) po_none)) rfl)
      (pss_cons (ps_expr (pe_bm PySem.F.plainAttrs_list PySem.F.slot_list_append PySem.F.type_list_append mt_append (pe_fld (pv 0) rfl) (pa_cons (pe_tup (pa_cons (pe_g (by rfl) B.gTake) (pa_cons (pv 1) pa_nil))) pa_nil)))
      (pss_one (ps_ret (pv 2)))))))), ?_⟩
    obtain ⟨p, R, rs, s, ds, pl, rfl, ⟨dx, r, c, wl, nl, rfl, hp, hR, hC, hw, ⟨nas, hn, hn2⟩, hwn⟩, G, DK⟩ := h
    have hz := G.s.z
    have hzs : (txt s.row).length ≤ sizeLine := by rw [len_txt]; exact sz_of (by omega)
    refine m_call (vs := [.int pl, .int (txt s.row).length]) (ev_var rfl) hp (by rfl) (ea_cons (ev_var rfl) (ea_cons (ev_lenZ (fv_row T hp (ev_var rfl)) hzs) ea_nil)) fun H1 e1 => ⟨.ref p, pl, _, rfl, fun hpl H2 e2 => ?_, fun hpl e H' e2 nd hd => DK.jar pl (by rw [act_take, if_pos (by rw [len_txt] at hpl; exact hpl)]) e H' (e1.trans e2) (fresh_back e1 nd) hd⟩
    rw [len_txt] at hpl
    have hact0 : act rs s (.take pl) = (.told (.sgn (s.row.getD pl.toNat 0)), s.take pl.toNat) := by rw [act_take, if_neg (Classical.not_not.mpr hpl)]
    obtain ⟨n, rfl⟩ : ∃ n : Nat, pl = (n : Int) := ⟨pl.toNat, by omega⟩
    have hact : act rs s (.take (n : Int)) = (.told (.sgn (s.row.getD n 0)), s.take n) := hact0
    have hn1 : n < s.row.length := by omega
    refine q_asg (ev_ixS (fv_row T ((e1.trans e2) _ _ hp) (ev_var rfl)) (ev_var rfl) hn1 (by omega)) fun H3 e3 => ?_
    have E3 := (e1.trans e2).trans e3
    have hp3 := E3 _ _ hp
    have hC3 : CntsAt H3 c s.cnt := hC.ex fun b l q => E3 _ _ q
    have hw3 := E3 _ _ hw
    have hn3 := E3 _ _ hn
    have f3 : Fr [p, wl, nl] H H3 := Fr.of E3
    have hn2' := hn2
    clear hp hC hw hn hn2
    have p1 : ((n : Int) + 1) = ((n + 1 : Nat) : Int) := rfl
    -- row
    refine q_sfldV (v := .str (txt (s.row.take n ++ s.row.drop (n + 1)))) (ev_is (ev_addS (ev_slS (fv_row T hp3 (ev_var rfl)) eo_none (eo_some (ev_var rfl)) hzs) (ev_slS (fv_row T hp3 (ev_var rfl)) (eo_some (ev_I0 (ev_var rfl) ev_c)) eo_none hzs) ?_) ?_) (ev_var rfl) hp3 T.cl T.nRow (by show 5 < 1000; decide) fun H4 e4 => ?_
    · rw [p1, txt_take (by omega), txt_drop (by omega), len_txt, len_txt, List.length_take, List.length_drop]
      omega
    · rw [p1, txt_take (by omega), txt_drop (by omega), txt_app]
    rw [put_row]
    have nop : ∀ {q : Addr} {xs : List V}, H3 q = some (.tup xs) → q ≠ p := fun h z => by rw [z, hp3] at h; cases h
    have nwp : wl ≠ p := fun z => by rw [z, hp3] at hw3; cases hw3
    have nnp : nl ≠ p := fun z => by rw [z, hp3] at hn3; cases hn3
    have f4 := (f3.trans (Fr.of e4)).upd (a := p) (o := .ins C dx (fl5 (.ref r) (.str (txt (s.row.take n ++ s.row.drop (n + 1)))) (.ref c) (.ref wl) (.ref nl))) (.inl (by simp)) (fun xs h => by have := E3 _ _ h; rw [hp3] at this; cases this)
    have hp4 : upd H4 p (.ins C dx (fl5 (.ref r) (.str (txt (s.row.take n ++ s.row.drop (n + 1)))) (.ref c) (.ref wl) (.ref nl))) p = some (.ins C dx (fl5 (.ref r) (.str (txt (s.row.take n ++ s.row.drop (n + 1)))) (.ref c) (.ref wl) (.ref nl))) := upd_same
    have b4 := (Bx.of (x := p) (Ex.refl H3)).up (o := .ins C dx (fl5 (.ref r) (.str (txt (s.row.take n ++ s.row.drop (n + 1)))) (.ref c) (.ref wl) (.ref nl))) e4
    generalize upd H4 p (.ins C dx (fl5 (.ref r) (.str (txt (s.row.take n ++ s.row.drop (n + 1)))) (.ref c) (.ref wl) (.ref nl))) = H5 at f4 hp4 b4
    obtain ⟨cas, hc1, hc2⟩ := hC3
    have hcl := hc2.length
    have hc5 := b4 _ _ (nop hc1) hc1
    have hw5 := b4 _ _ nwp hw3
    have hn5 := b4 _ _ nnp hn3
    have hcn : cas.length = s.row.length := by rw [hcl]; exact G.s.c
    have hnc : n + 1 ≤ (cas.map V.ref).length := by rw [List.length_map]; omega
    -- counts
    refine q_sfldW (ew_cat (ew_slice (fv_counts T hp4 (ev_var rfl)) hc5 eo_none (eo_some (ev_var rfl))) (ew_slice (fv_counts T hp4 (ev_var rfl)) hc5 (eo_some (ev_I0 (ev_var rfl) ev_c)) eo_none) ?_) (ev_var rfl) hp4 T.cl T.nCounts (by show 5 < 1000; decide) fun c2 H6 e6 hc6 => ?_
    · rw [p1, cutV_hd (by omega), cutV_tl hnc, List.length_take, List.length_drop, List.length_map]
      omega
    rw [p1, cutV_hd (by omega), cutV_tl hnc] at hc6
    rw [put_counts]
    have n6 : c2 ≠ p := fun z => by rw [z, e6 _ _ hp4] at hc6; cases hc6
    have f6 := (f4.trans (Fr.of e6)).upd (a := p) (o := .ins C dx (fl5 (.ref r) (.str (txt (s.row.take n ++ s.row.drop (n + 1)))) (.ref c2) (.ref wl) (.ref nl))) (.inl (by simp)) (fun xs h => by have := E3 _ _ h; rw [hp3] at this; cases this)
    have hp6 : upd H6 p (.ins C dx (fl5 (.ref r) (.str (txt (s.row.take n ++ s.row.drop (n + 1)))) (.ref c2) (.ref wl) (.ref nl))) p = some (.ins C dx (fl5 (.ref r) (.str (txt (s.row.take n ++ s.row.drop (n + 1)))) (.ref c2) (.ref wl) (.ref nl))) := upd_same
    have b6 := (Bx.of (x := p) (Ex.refl H5)).up (o := .ins C dx (fl5 (.ref r) (.str (txt (s.row.take n ++ s.row.drop (n + 1)))) (.ref c2) (.ref wl) (.ref nl))) e6
    have hc7 : upd H6 p (.ins C dx (fl5 (.ref r) (.str (txt (s.row.take n ++ s.row.drop (n + 1)))) (.ref c2) (.ref wl) (.ref nl))) c2 = some (.tup ((cas.map V.ref).take n ++ (cas.map V.ref).drop (n + 1))) := by rw [upd_ne n6]; exact hc6
    generalize upd H6 p (.ins C dx (fl5 (.ref r) (.str (txt (s.row.take n ++ s.row.drop (n + 1)))) (.ref c2) (.ref wl) (.ref nl))) = H7 at f6 hp6 b6 hc7
    have hw7 := b6 _ _ nwp hw5
    have hn7 := b6 _ _ nnp hn5
    have hwl : (bls s.wal).length = s.row.length := by rw [show (bls s.wal).length = s.wal.length from List.length_map .., G.s.w]
    -- walls
    refine q_sfldL (el_cat (el_sl0 (fv_walls T hp6 (ev_var rfl)) eo_none (eo_some (ev_var rfl)) hw7) (el_sl0 (fv_walls T hp6 (ev_var rfl)) (eo_some (ev_I0 (ev_var rfl) ev_c)) eo_none hw7) ?_) (ev_var rfl) hp6 T.cl T.nWalls (by show 5 < 1000; decide) fun w2 H8 nw2 e8 hw8 => ?_
    · rw [p1, cutV_hd (by omega), cutV_tl (by omega), List.length_take, List.length_drop]
      omega
    rw [put_walls]
    rw [p1, cutV_hd (by omega), cutV_tl (by omega)] at hw8
    have nw2p : w2 ≠ p := fun z => by rw [z, hp6] at nw2; cases nw2
    have nw2n : w2 ≠ nl := fun z => by rw [z, hn7] at nw2; cases nw2
    have f8 := (f6.trans (Fr.of e8)).upd (a := p) (o := .ins C dx (fl5 (.ref r) (.str (txt (s.row.take n ++ s.row.drop (n + 1)))) (.ref c2) (.ref w2) (.ref nl))) (.inl (by simp)) (fun xs h => by have := E3 _ _ h; rw [hp3] at this; cases this)
    have hp8 : upd H8 p (.ins C dx (fl5 (.ref r) (.str (txt (s.row.take n ++ s.row.drop (n + 1)))) (.ref c2) (.ref w2) (.ref nl))) p = some (.ins C dx (fl5 (.ref r) (.str (txt (s.row.take n ++ s.row.drop (n + 1)))) (.ref c2) (.ref w2) (.ref nl))) := upd_same
    have b8 := (Bx.of (x := p) (Ex.refl H7)).up (o := .ins C dx (fl5 (.ref r) (.str (txt (s.row.take n ++ s.row.drop (n + 1)))) (.ref c2) (.ref w2) (.ref nl))) e8
    have hw9 : upd H8 p (.ins C dx (fl5 (.ref r) (.str (txt (s.row.take n ++ s.row.drop (n + 1)))) (.ref c2) (.ref w2) (.ref nl))) w2 = some (.lst ((bls s.wal).take n ++ (bls s.wal).drop (n + 1))) := by rw [upd_ne nw2p]; exact hw8
    generalize upd H8 p (.ins C dx (fl5 (.ref r) (.str (txt (s.row.take n ++ s.row.drop (n + 1)))) (.ref c2) (.ref w2) (.ref nl))) = H9 at f8 hp8 b8 hw9
    have hn9 := b8 _ _ nnp hn7
    have hdl := G.n
    have hnl := hn2'.length
    -- notes
    refine q_appU (xs := nas.map V.ref) (ys := Deed.vals (.take (n : Int))) hn9 (fv_notes T hp8 (ev_var rfl)) (eu_tup (ea_cons ev_c (ea_cons (ev_var rfl) ea_nil)) (by show 2 ≤ 100000; decide)) (by rw [List.length_map]; omega) fun d H10 nd e10 hd10 => ?_
    have hnd : d ≠ nl := fun z => by rw [z, hn9] at nd; cases nd
    have f10 := (f8.trans (Fr.of e10)).upd (a := nl) (o := .lst (nas.map V.ref ++ [.ref d])) (.inl (by simp)) (fun xs h => by have := E3 _ _ h; rw [hn3] at this; cases this)
    refine s_ret (ev_var rfl) fun H11 e11 => ?_
    have f11 := f10.trans (Fr.of e11)
    refine DK.told _ _ hact (ch (s.row.getD n 0)) [p, w2, nl] _ rfl f11 ⟨dx, r, c2, w2, nl, rfl, e11 _ _ (by rw [upd_ne (Ne.symm nnp)]; exact e10 _ _ hp8), ?_, ?_, e11 _ _ (by rw [upd_ne nw2n, e10 _ _ hw9]; unfold Sta.take bls; simp), ⟨nas ++ [d], e11 _ _ (by rw [upd_same, List.map_append]; rfl), ?_⟩, nw2n⟩ (fun a ha => ?_)
    · exact hR.ex f11.2
    · refine ⟨cas.take n ++ cas.drop (n + 1), ?_, ?_⟩
      · refine e11 _ _ ?_
        rw [upd_ne (fun z => by rw [z, hn7] at hc7; cases hc7), e10 _ _ (b8 _ _ n6 hc7), List.map_append, List.map_take, List.map_drop]
      · have g : ∀ q xs, H3 q = some (.tup xs) → H11 q = some (.tup xs) := fun q xs h => e11 _ _ (by
          rw [upd_ne (fun z => by rw [z, hn3] at h; cases h)]
          exact e10 _ _ (b8 _ _ (nop h) (b6 _ _ (nop h) (b4 _ _ (nop h) h))))
        have hc9 := hc2.mono fun a x h => g _ _ h
        unfold Sta.take
        exact Pr.append (hc9.take n) (hc9.drop (n + 1))
    · exact Pr.snoc (hn2'.mono fun a x h => f11.2 _ _ h) (e11 _ _ (by rw [upd_ne hnd]; exact hd10))
    · rcases List.mem_cons.mp ha with h | ha
      · exact .inl (by simp [h])
      · rcases List.mem_cons.mp ha with h | ha
        · refine .inr ?_
          cases h1 : H a with
          | none => rfl
          | some o =>
            rw [← h] at nw2
            by_cases hm : a ∈ [p, wl, nl]
            · have hm' : a = p ∨ a = wl ∨ a = nl := by simpa using hm
              rcases hm' with z | z | z
              · rw [z, hp6] at nw2; cases nw2
              · rw [z, hw7] at nw2; cases nw2
              · rw [z, hn7] at nw2; cases nw2
            · rw [f6.1 _ _ hm h1] at nw2; cases nw2
        · exact .inl (by simp at ha; simp [ha])
end
end S8
set_option Elab.async false
set_option linter.all false
set_option maxRecDepth 100000
set_option maxHeartbeats 400000
set_option pp.maxSteps 2000
namespace S8
open PySem PySem.Spec PyProof.Rows L2 L2H HotX Evl
/-! ### bar -/
def spBar (xa : XA) (C : Addr) : Sp := fun vs H Q E => ∃ (p : Addr) (R : List Addr) (rs : List Ru) (s : Sta) (ds : List Deed) (pl : Int), vs = [.ref p, .int pl] ∧ ShelfAt C H p R rs s ds ∧ Good rs s ds ∧ DeedK xa C p R rs s ds (.bar pl) H Q E
section
variable {P : Program} {w : World} {K : PySem.W.Frag} {mg : Str → Option Value} {base : Heap}
theorem ok_bar {xa : XA} {C f f1 : Addr} {fd fd1 : FuncData} (F : Fun K "bar" "Shelf.bar" sBar f fd) (B : Bt mg) (T : ShC K C) (xj : KwX P w K mg base "NoJar" "place" xa.jar) (m1 : Meth K C "need_place" f1) (b1 : Binds K fd1 pNeedP []) (G1 : FnOk P w K mg base (L2N.CX P w) 3 f1 fd1 pNeedP (spNeedP xa)) :
    FnOk P w K mg base (L2N.CX P w) 4 f fd pBar (spBar xa C) := by
  refine okXN F scBar (fun vs H Q E h => ?_) (fun cdv A outer s0 H vs Q E hr h => ?_)
  · obtain ⟨p, R, rs, s, ds, pl, rfl, _⟩ := h
    rfl
  · have tk : L2N.Takes (cxOf (L2N.CX P w) P w K mg base nBar "Shelf.bar" (defScope sBar) f cdv A outer s0 H E) (fun cls d _ H => E cls d H) := L2N.takes_of rfl rfl rfl rfl
    refine ⟨_, pss_cons (ps_expr (pe_meth (E := E) (pv 0) T.cl m1 G1 hr b1 .nil (L2N.passes_call tk fun _ _ _ _ h => h) (pa_cons (pv 1) (pa_cons (pe_callB call_len_str (by rfl) B.len boot_len (pa_cons (pe_fld (pv 0) rfl) pa_nil)) pa_nil))))
      (pss_cons (ps_if (pt_val (pe_ix ix_list (pe_fld (pv 0) rfl) (pv 1) (fun _ _ => rfl))) (pss_one (L2N.ps_raise rfl tk (pmk_kwX xj (hr.mono (by decide)) (by rfl) (pv 1)).pmk)) pss_nil)
      (pss_cons (ps_asg pe_bl (pg_sub (pe_fld (pv 0) rfl) (pv 1) set_list))
      (pss_one (ps_expr (pe_bm PySem.F.plainAttrs_list PySem.F.slot_list_append PySem.F.type_list_append mt_append (pe_fld (pv 0) rfl) (pa_cons (pe_tup (pa_cons (pe_g (by rfl) B.gBar) (pa_cons (pv 1) pa_nil))) pa_nil)))))), ?_⟩
    obtain ⟨p, R, rs, s, ds, pl, rfl, ⟨dx, r, c, wl, nl, rfl, hp, hR, hC, hw, ⟨nas, hn, hn2⟩, hwn⟩, G, DK⟩ := h
    have hz := G.s.z
    have hzs : (txt s.row).length ≤ sizeLine := by rw [len_txt]; exact sz_of (by omega)
    refine m_call (vs := [.int pl, .int (txt s.row).length]) (ev_var rfl) hp (by rfl) (ea_cons (ev_var rfl) (ea_cons (ev_lenZ (fv_row T hp (ev_var rfl)) hzs) ea_nil)) fun H1 e1 => ⟨.ref p, pl, _, rfl, fun hpl H2 e2 => ?_, fun hpl e H' e2 nd hd => DK.jar pl (by rw [act_bar, if_pos (by rw [len_txt] at hpl; exact hpl)]) e H' (e1.trans e2) (fresh_back e1 nd) hd⟩
    rw [len_txt] at hpl
    obtain ⟨n, rfl⟩ : ∃ n : Nat, pl = (n : Int) := ⟨pl.toNat, by omega⟩
    have hn1 : n < s.row.length := by omega
    have E1 := e1.trans e2
    have hwl := G.s.w
    have hat : atI (bls s.wal) ((n : Nat) : Int) = some (.bl (s.wal.getD n false)) := atI_nat (by
      unfold bls
      rw [List.getElem?_map, List.getD_eq_getElem?_getD, List.getElem?_eq_getElem (by omega)]
      rfl)
    dsimp only
    refine q_when (b := s.wal.getD n false) ?_ (fun hb H3 e3 => ?_) fun hb H3 e3 => ?_
    · exact et_B (ev_op (fv_walls T (E1 _ _ hp) (ev_var rfl)) (ev_var rfl) (rv_ixL (sq_of (E1 _ _ hw)) hat))
    · have hb' : s.wal.getD n false = true := by simpa using hb
      exact x_kw (ev_var rfl) fun d H' e nd hd => DK.jar n (by rw [act_bar, if_neg (Classical.not_not.mpr hpl)]; exact if_pos hb') d H' ((E1.trans e3).trans e) (fresh_back (E1.trans e3) nd) hd
    have hb0 : ¬ (s.wal.getD n false = true) := by rw [show s.wal.getD n false = false from by simpa using hb]; decide
    have hact : act rs s (.bar (n : Int)) = (.told .non, { s with wal := s.wal.set n true }) := by
      rw [act_bar, if_neg (Classical.not_not.mpr hpl)]
      exact if_neg hb0
    have E3 := E1.trans e3
    have hp3 := E3 _ _ hp
    have hw3 := E3 _ _ hw
    have hn3 := E3 _ _ hn
    have nwp : wl ≠ p := fun z => by rw [z, hp] at hw; cases hw
    have nnp : nl ≠ p := fun z => by rw [z, hp] at hn; cases hn
    refine q_setL (l := wl) (xs := bls s.wal) (j := n) hw3 ev_c (fv_walls T hp3 (ev_var rfl)) (ev_var rfl) (by unfold bls; rw [List.length_map]; omega) fun H4 e4 => ?_
    have f4 := ((Fr.of E3).trans (Fr.of e4)).upd (R := [p, wl, nl]) (a := wl) (o := .lst ((bls s.wal).set n (.bl true))) (.inl (by simp)) (fun xs h => by rw [hw] at h; cases h)
    have hp4 : upd H4 wl (.lst ((bls s.wal).set n (.bl true))) p = _ := (upd_ne (Ne.symm nwp)).trans (e4 _ _ hp3)
    have hn4 : upd H4 wl (.lst ((bls s.wal).set n (.bl true))) nl = _ := (upd_ne (Ne.symm hwn)).trans (e4 _ _ hn3)
    have hw4 : upd H4 wl (.lst ((bls s.wal).set n (.bl true))) wl = some (.lst ((bls s.wal).set n (.bl true))) := upd_same
    generalize upd H4 wl (.lst ((bls s.wal).set n (.bl true))) = H5 at f4 hp4 hn4 hw4
    have hdl := G.n
    have hnl := hn2.length
    refine s_appU (xs := nas.map V.ref) (ys := Deed.vals (.bar (n : Int))) hn4 (fv_notes T hp4 (ev_var rfl)) (eu_tup (ea_cons ev_c (ea_cons (ev_var rfl) ea_nil)) (by show 2 ≤ 100000; decide)) (by rw [List.length_map]; omega) fun d H6 nd e6 hd6 => ?_
    have hnd : d ≠ nl := fun z => by rw [z, hn4] at nd; cases nd
    have f6 := (f4.trans (Fr.of e6)).upd (a := nl) (o := .lst (nas.map V.ref ++ [.ref d])) (.inl (by simp)) (fun xs h => by rw [hn] at h; cases h)
    refine DK.told _ _ hact .non [p, wl, nl] _ rfl f6 ⟨dx, r, c, wl, nl, rfl, by rw [upd_ne (Ne.symm nnp)]; exact e6 _ _ hp4, hR.ex f6.2, hC.ex f6.2, by rw [upd_ne hwn, e6 _ _ hw4]; unfold bls; rw [List.map_set], ⟨nas ++ [d], by rw [upd_same, List.map_append]; rfl, Pr.snoc (hn2.mono fun a x h => f6.2 _ _ h) (by rw [upd_ne hnd]; exact hd6)⟩, hwn⟩ (fun a ha => .inl ha)
end
/-! ### unbar -/
def spUnbar (xa : XA) (C : Addr) : Sp := fun vs H Q E => ∃ (p : Addr) (R : List Addr) (rs : List Ru) (s : Sta) (ds : List Deed) (pl : Int), vs = [.ref p, .int pl] ∧ ShelfAt C H p R rs s ds ∧ Good rs s ds ∧ DeedK xa C p R rs s ds (.unbar pl) H Q E
section
variable {P : Program} {w : World} {K : PySem.W.Frag} {mg : Str → Option Value} {base : Heap}
theorem ok_unbar {xa : XA} {C f f1 : Addr} {fd fd1 : FuncData} (F : Fun K "unbar" "Shelf.unbar" sUnbar f fd) (B : Bt mg) (T : ShC K C) (xj : KwX P w K mg base "NoJar" "place" xa.jar) (m1 : Meth K C "need_place" f1) (b1 : Binds K fd1 pNeedP []) (G1 : FnOk P w K mg base (L2N.CX P w) 3 f1 fd1 pNeedP (spNeedP xa)) :
    FnOk P w K mg base (L2N.CX P w) 4 f fd pUnbar (spUnbar xa C) := by
  refine okXN F scUnbar (fun vs H Q E h => ?_) (fun cdv A outer s0 H vs Q E hr h => ?_)
  · obtain ⟨p, R, rs, s, ds, pl, rfl, _⟩ := h
    rfl
  · have tk : L2N.Takes (cxOf (L2N.CX P w) P w K mg base nUnbar "Shelf.unbar" (defScope sUnbar) f cdv A outer s0 H E) (fun cls d _ H => E cls d H) := L2N.takes_of rfl rfl rfl rfl
    refine ⟨_, pss_cons (ps_expr (pe_meth (E := E) (pv 0) T.cl m1 G1 hr b1 .nil (L2N.passes_call tk fun _ _ _ _ h => h) (pa_cons (pv 1) (pa_cons (pe_callB call_len_str (by rfl) B.len boot_len (pa_cons (pe_fld (pv 0) rfl) pa_nil)) pa_nil))))
      (pss_cons (ps_if (pt_not (pt_val (pe_ix ix_list (pe_fld (pv 0) rfl) (pv 1) (fun _ _ => rfl)))) (pss_one (L2N.ps_raise rfl tk (pmk_kwX xj (hr.mono (by decide)) (by rfl) (pv 1)).pmk)) pss_nil)
      (pss_cons (ps_asg pe_bl (pg_sub (pe_fld (pv 0) rfl) (pv 1) set_list))
      (pss_one (ps_expr (pe_bm PySem.F.plainAttrs_list PySem.F.slot_list_append PySem.F.type_list_append mt_append (pe_fld (pv 0) rfl) (pa_cons (pe_tup (pa_cons (pe_g (by rfl) B.gOpen) (pa_cons (pv 1) pa_nil))) pa_nil)))))), ?_⟩
    obtain ⟨p, R, rs, s, ds, pl, rfl, ⟨dx, r, c, wl, nl, rfl, hp, hR, hC, hw, ⟨nas, hn, hn2⟩, hwn⟩, G, DK⟩ := h
    have hz := G.s.z
    have hzs : (txt s.row).length ≤ sizeLine := by rw [len_txt]; exact sz_of (by omega)
    refine m_call (vs := [.int pl, .int (txt s.row).length]) (ev_var rfl) hp (by rfl) (ea_cons (ev_var rfl) (ea_cons (ev_lenZ (fv_row T hp (ev_var rfl)) hzs) ea_nil)) fun H1 e1 => ⟨.ref p, pl, _, rfl, fun hpl H2 e2 => ?_, fun hpl e H' e2 nd hd => DK.jar pl (by rw [act_unbar, if_pos (by rw [len_txt] at hpl; exact hpl)]) e H' (e1.trans e2) (fresh_back e1 nd) hd⟩
    rw [len_txt] at hpl
    obtain ⟨n, rfl⟩ : ∃ n : Nat, pl = (n : Int) := ⟨pl.toNat, by omega⟩
    have hn1 : n < s.row.length := by omega
    have E1 := e1.trans e2
    have hwl := G.s.w
    have hat : atI (bls s.wal) ((n : Nat) : Int) = some (.bl (s.wal.getD n false)) := atI_nat (by
      unfold bls
      rw [List.getElem?_map, List.getD_eq_getElem?_getD, List.getElem?_eq_getElem (by omega)]
      rfl)
    dsimp only
    refine q_when (b := !s.wal.getD n false) ?_ (fun hb H3 e3 => ?_) fun hb H3 e3 => ?_
    · exact et_not (et_B (ev_op (fv_walls T (E1 _ _ hp) (ev_var rfl)) (ev_var rfl) (rv_ixL (sq_of (E1 _ _ hw)) hat)))
    · have hb' : s.wal.getD n false = false := by simpa using hb
      exact x_kw (ev_var rfl) fun d H' e nd hd => DK.jar n (by rw [act_unbar, if_neg (Classical.not_not.mpr hpl)]; exact if_pos hb') d H' ((E1.trans e3).trans e) (fresh_back (E1.trans e3) nd) hd
    have hb0 : ¬ (s.wal.getD n false = false) := by rw [show s.wal.getD n false = true from by simpa using hb]; decide
    have hact : act rs s (.unbar (n : Int)) = (.told .non, { s with wal := s.wal.set n false }) := by
      rw [act_unbar, if_neg (Classical.not_not.mpr hpl)]
      exact if_neg hb0
    have E3 := E1.trans e3
    have hp3 := E3 _ _ hp
    have hw3 := E3 _ _ hw
    have hn3 := E3 _ _ hn
    have nwp : wl ≠ p := fun z => by rw [z, hp] at hw; cases hw
    have nnp : nl ≠ p := fun z => by rw [z, hp] at hn; cases hn
    refine q_setL (l := wl) (xs := bls s.wal) (j := n) hw3 ev_c (fv_walls T hp3 (ev_var rfl)) (ev_var rfl) (by unfold bls; rw [List.length_map]; omega) fun H4 e4 => ?_
    have f4 := ((Fr.of E3).trans (Fr.of e4)).upd (R := [p, wl, nl]) (a := wl) (o := .lst ((bls s.wal).set n (.bl false))) (.inl (by simp)) (fun xs h => by rw [hw] at h; cases h)
    have hp4 : upd H4 wl (.lst ((bls s.wal).set n (.bl false))) p = _ := (upd_ne (Ne.symm nwp)).trans (e4 _ _ hp3)
    have hn4 : upd H4 wl (.lst ((bls s.wal).set n (.bl false))) nl = _ := (upd_ne (Ne.symm hwn)).trans (e4 _ _ hn3)
    have hw4 : upd H4 wl (.lst ((bls s.wal).set n (.bl false))) wl = some (.lst ((bls s.wal).set n (.bl false))) := upd_same
    generalize upd H4 wl (.lst ((bls s.wal).set n (.bl false))) = H5 at f4 hp4 hn4 hw4
    have hdl := G.n
    have hnl := hn2.length
    refine s_appU (xs := nas.map V.ref) (ys := Deed.vals (.unbar (n : Int))) hn4 (fv_notes T hp4 (ev_var rfl)) (eu_tup (ea_cons ev_c (ea_cons (ev_var rfl) ea_nil)) (by show 2 ≤ 100000; decide)) (by rw [List.length_map]; omega) fun d H6 nd e6 hd6 => ?_
    have hnd : d ≠ nl := fun z => by rw [z, hn4] at nd; cases nd
    have f6 := (f4.trans (Fr.of e6)).upd (a := nl) (o := .lst (nas.map V.ref ++ [.ref d])) (.inl (by simp)) (fun xs h => by rw [hn] at h; cases h)
    refine DK.told _ _ hact .non [p, wl, nl] _ rfl f6 ⟨dx, r, c, wl, nl, rfl, by rw [upd_ne (Ne.symm nnp)]; exact e6 _ _ hp4, hR.ex f6.2, hC.ex f6.2, by rw [upd_ne hwn, e6 _ _ hw4]; unfold bls; rw [List.map_set], ⟨nas ++ [d], by rw [upd_same, List.map_append]; rfl, Pr.snoc (hn2.mono fun a x h => f6.2 _ _ h) (by rw [upd_ne hnd]; exact hd6)⟩, hwn⟩ (fun a ha => .inl ha)
end
end S8
set_option Elab.async false
set_option linter.all false
set_option maxRecDepth 100000
set_option maxHeartbeats 400000
set_option pp.maxSteps 2000
namespace S8
open PySem PySem.Spec PyProof.Rows L2 L2H HotX Evl
/-- range(n), n from -1 on -/
theorem el_lcRm {σ : L2.St} {H : Hp} {t : TT} {te : TE} {ta : TA} {j : Nat} {vs : List Nat} {n : Int} (f : Nat → Bool) (v : Nat → V) (h : EvA ta σ H [.int n]) (hn : -1 ≤ n ∧ n ≤ 40000) (hw : ∀ x, wipe ((wipe σ vs).set j (some x)) vs = wipe σ vs)
    (ht : ∀ (i : Nat) H1, Ex H H1 → (i : Int) < n → EvT t ((wipe σ vs).set j (some (.int (i : Int)))) H1 (f i)) (he : ∀ (i : Nat) H1, Ex H H1 → (i : Int) < n → f i = true → Ev te ((wipe σ vs).set j (some (.int (i : Int)))) H1 (v i)) :
    EvL (tLc (iRng1 ta) (gName j) t te vs) σ H (given n.toNat f v) := fun H0 e Q q => h H0 e _ fun H1 e1 => ⟨n, rfl, by omega, by omega, fun Dl hD =>
  lc_range (lo := 0) (n := n.toNat) (Cw H1 f v Dl) ⟨hD, Ex.new hD, upd_same⟩ (fun i H' hi p => by
    have e0 : (0 : Int) + (i : Int) = (i : Int) := Int.zero_add _
    show wipe ((wipe σ vs).set j (some (.int ((0 : Int) + (i : Int))))) vs = wipe σ vs ∧ t ((wipe σ vs).set j (some (.int ((0 : Int) + (i : Int))))) H' fun b H3 => if b = true then te ((wipe σ vs).set j (some (.int ((0 : Int) + (i : Int))))) H3 fun y H4 => ∃ acc, H4 Dl = some (.lst acc) ∧ acc.length < sizeLine ∧ Cw H1 f v Dl (i + 1) (upd H4 Dl (.lst (acc ++ [y]))) else Cw H1 f v Dl (i + 1) H3
    rw [e0]
    exact ⟨hw _, cw_turn p (by omega) (ht i H1 (e.trans e1) (by omega)) (fun hf => he i H1 (e.trans e1) (by omega) hf)⟩) (fun H' p => q Dl H' (fresh_back e1 p.1) (e1.trans p.2.1) p.2.2)⟩
theorem bls_at {l : List Bool} {n : Nat} (h : n < l.length) : atI (bls l) ((n : Nat) : Int) = some (.bl (l.getD n false)) := atI_nat (by
  unfold bls
  rw [List.getElem?_map, List.getD_eq_getElem?_getD, List.getElem?_eq_getElem h]
  rfl)
/-! ### bars -/
def spBars (C : Addr) : Sp := fun vs H Q _ => ∃ (p : Addr) (R : List Addr) (rs : List Ru) (s : Sta) (ds : List Deed), vs = [.ref p] ∧ ShelfAt C H p R rs s ds ∧ Good rs s ds ∧ ∀ q H', H q = none → Ex H H' → H' q = some (.tup (s.bars.map iv)) → Q (.ref q) H'
section
variable {P : Program} {w : World} {K : PySem.W.Frag} {mg : Str → Option Value} {base : Heap}
theorem ok_bars {C f : Addr} {fd : FuncData} (F : Fun K "bars" "Shelf.bars" sBars f fd) (B : Bt mg) (T : ShC K C) : FnOk P w K mg base CX0 1 f fd pBars (spBars C) := by
  refine F.ok scBars (fun vs H Q E h => ?_) (fun cdv A outer s0 H vs Q E hr h => ?_)
  · obtain ⟨p, R, rs, s, ds, rfl, _⟩ := h
    rfl
  · refine ⟨_, pss_one (ps_ret (pe_callTy call_tuple_of (by rfl) B.tup (by decide +kernel) (pa_cons (pe_lc (own := [("place", 1)]) (g := gName 1) (tt := tB (tOp (rIxL K) (tFld K (tVar 0) "walls") (tVar 1))) (te := tVar 1) (by rfl) scBars.nd (pi_range1 (by rfl) B.rng (pa_cons (pe_op op_sub (pe_callB call_len_str (by rfl) B.len boot_len (pa_cons (pe_fld (pv 0) rfl) pa_nil)) pe_int) pa_nil)) (blkOk_by (own := [("place", 1)]) (N := nBars) (sc := defScope sBars) (by decide +kernel))
          (fun _ _ _ _ _ => pg_name (i := 1) scBars.nd rfl (.inl rfl)) (fun _ _ _ _ _ => pts_one (pt_val (pe_ix ix_list (pe_fld (pv 0) rfl) (pv 1) (fun _ _ => rfl)))) (fun _ _ _ _ _ => pv 1)) pa_nil))), ?_⟩
    obtain ⟨p, R, rs, s, ds, rfl, ⟨dx, r, c, wl, nl, rfl, hp, hR, hC, hw, hN, hwn⟩, G, k⟩ := h
    have hz := G.s.z
    have hzs : (txt s.row).length ≤ sizeLine := by rw [len_txt]; exact sz_of (by omega)
    have hwl := G.s.w
    have el := el_lcRm (σ := L2.start nBars [.ref p]) (H := H) (t := tB (tOp (rIxL K) (tFld K (tVar 0) "walls") (tVar 1))) (te := tVar 1) (j := 1) (vs := [1]) (n := ((txt s.row).length : Int) - 1) (fun n => s.wal.getD n false) iv (ea_cons (ev_I0 (g := fun i j => .int (i - j)) (ev_lenZ (fv_row T hp (ev_var (i := 0) rfl)) hzs) ev_c) ea_nil) (by rw [len_txt]; omega) (fun _ => rfl)
      (fun i H1 e hi => et_B (ev_op (fv_walls T (e _ _ hp) (ev_var rfl)) (ev_var rfl) (rv_ixL (sq_of (e _ _ hw)) (bls_at (by rw [len_txt] at hi; omega))))) (fun i H1 e hi _ => ev_var rfl)
    have eg : given (((txt s.row).length : Int) - 1).toNat (fun n => s.wal.getD n false) iv = s.bars.map iv := by
      rw [len_txt, show ((s.row.length : Int) - 1).toNat = s.row.length - 1 by omega]
      rfl
    rw [eg] at el
    exact s_retU (eu_tupN el) fun q H1 nq e1 h1 => k q H1 nq e1 h1
/-! ### tick -/
def spTick (xa : XA) (C : Addr) : Sp := fun vs H Q E => ∃ (p : Addr) (R : List Addr) (rs : List Ru) (s : Sta) (ds : List Deed), vs = [.ref p] ∧ ShelfAt C H p R rs s ds ∧ Good rs s ds ∧ DeedK xa C p R rs s ds .tick H Q E
theorem ok_tick {xa : XA} {C f f1 f2 : Addr} {fd fd1 fd2 : FuncData} (F : Fun K "tick" "Shelf.tick" sTick f fd) (B : Bt mg) (T : ShC K C) (m1 : Meth K C "bars" f1) (b1 : Binds K fd1 pBars []) (G1 : FnOk P w K mg base CX0 1 f1 fd1 pBars (spBars C))
    (g2 : mg "beat_of" = some (.ref f2)) (k2 : PySem.W.keepIn K (.ref f2) = true) (b2 : Binds K fd2 pBeatOf []) (G2 : FnOk P w K mg base CX0 3 f2 fd2 pBeatOf spBeatOf) : FnOk P w K mg base CX0 4 f fd pTick (spTick xa C) := by
  refine F.ok scTick (fun vs H Q E h => ?_) (fun cdv A outer s0 H vs Q E hr h => ?_)
  · obtain ⟨p, R, rs, s, ds, rfl, _⟩ := h
    rfl
  · refine ⟨_, pss_cons (ps_set (i := 1) scTick.nd rfl (.inr rfl) (pe_fld (pv 0) rfl))
      (pss_cons (ps_asg (pe_call G2 hr (by rfl) g2 k2 b2 .nil pass0 (pa_cons (pe_tup (pa_cons (pv 1) (pa_cons (pe_meth0 (E := E0) (pv 0) T.cl m1 G1 (hr.mono (by decide)) b1 .nil pass0) (pa_cons (pe_fld (pv 0) rfl) pa_nil)))) (pa_cons (pv 1) (pa_cons (pe_fld (pv 0) rfl) pa_nil))))
        (pg_tup (by rfl) (pgs_cons (pg_fld (pv 0)) (pgs_cons (pg_fld (pv 0)) pgs_nil))))
      (pss_cons (ps_expr (pe_bm PySem.F.plainAttrs_list PySem.F.slot_list_append PySem.F.type_list_append mt_append (pe_fld (pv 0) rfl) (pa_cons (pe_tup (pa_cons (pe_g (by rfl) B.gBeat) pa_nil)) pa_nil)))
      (pss_one (ps_ret (pe_lc (own := [("place", 2)]) (g := gName 2) (tt := tTest (tOp rNe (tOp rIxS (tFld K (tVar 0) "row") (tVar 2)) (tOp rIxS (tVar 1) (tVar 2)))) (te := tVar 2) (by rfl) scTick.nd (pi_range1 (by rfl) B.rng (pa_cons (pe_callB call_len_str (by rfl) B.len boot_len (pa_cons (pv 1) pa_nil)) pa_nil)) (blkOk_by (own := [("place", 2)]) (N := nTick) (sc := defScope sTick) (by decide +kernel))
          (fun _ _ _ _ _ => pg_name (i := 2) scTick.nd rfl (.inl rfl)) (fun _ _ _ _ _ => pts_one (pt_cmpR op_ne (pe_ix ix_str (pe_fld (pv 0) rfl) (pv 2) (fun _ _ => rfl)) (pe_ix ix_str (pv 1) (pv 2) (fun _ _ => rfl)) (nomark _))) (fun _ _ _ _ _ => pv 2)))))), ?_⟩
    obtain ⟨p, R, rs, s, ds, rfl, ⟨dx, r, c, wl, nl, rfl, hp, hR, hC, hw, ⟨nas, hn, hn2⟩, hwn⟩, G, DK⟩ := h
    have hz := G.s.z
    have hzs : (txt s.row).length ≤ sizeLine := by rw [len_txt]; exact sz_of (by omega)
    refine q_asg (fv_row T hp (ev_var rfl)) fun H1 e1 => ?_
    have hp1 := e1 _ _ hp
    refine ⟨_, rfl, _, rfl, p, dx, _, rfl, hp1, by rfl, p, [p, wl, nl], rs, s, ds, rfl, ⟨dx, r, c, wl, nl, rfl, hp1, hR.ex fun b l q => e1 _ _ q, hC.ex fun b l q => e1 _ _ q, e1 _ _ hw, ⟨nas, e1 _ _ hn, hn2.mono fun a x q => e1 _ _ q⟩, hwn⟩, G, fun b H2 nb e2 hb => ?_⟩
    have E2 := e1.trans e2
    have hp2 := E2 _ _ hp
    refine ⟨_, rfl, p, C, dx, _, .ref r, rfl, hp2, T.cl, T.nRules, by rfl, by show 3 ≤ sizeLine; decide, fun wo nwo => ⟨_, rfl, _, rfl, p, C, dx, _, .ref c, rfl, Ex.new nwo _ _ hp2, T.cl, T.nCounts, by rfl, ?_⟩⟩
    have E3 := E2.trans (Ex.new (o := .tup [.str (txt s.row), .ref b, .ref r]) nwo)
    have hb3 := Ex.new (o := .tup [.str (txt s.row), .ref b, .ref r]) nwo _ _ hb
    have hwo3 : upd H2 wo (.tup [.str (txt s.row), .ref b, .ref r]) wo = some (.tup [.str (txt s.row), .ref b, .ref r]) := upd_same
    refine ⟨s.row, s.bars, rs, s.cnt, wo, b, r, c, .str (txt s.row), rfl, hwo3, hb3, hR.ex fun b l q => E3 _ _ q, G.r, hC.ex fun b l q => E3 _ _ q, ⟨G.s.c, G.s.z, G.s.e⟩, fun z t H4 nz e4 h4 ht4 => ?_⟩
    have E4 := E3.trans e4
    have hp4 := E4 _ _ hp
    refine ⟨z, _, rfl, st_of h4, rfl, _, _, rfl, _, rfl, p, C, dx, _, rfl, hp4, T.cl, T.nRow, by show 5 < 1000; decide, _, _, rfl, _, rfl, p, C, dx, _, rfl, upd_same, T.cl, T.nCounts, by show 5 < 1000; decide, rfl, ?_⟩
    rw [put_row, put_counts]
    have nwp : wl ≠ p := fun z => by rw [z, hp] at hw; cases hw
    have nnp : nl ≠ p := fun z => by rw [z, hp] at hn; cases hn
    have f5 := ((Fr.of E4).upd (R := [p, wl, nl]) (a := p) (o := .ins C dx (fl5 (.ref r) (.str (txt (beatR s.row s.bars rs s.cnt))) (.ref c) (.ref wl) (.ref nl))) (.inl (by simp)) (fun xs h => by rw [hp] at h; cases h)).upd (a := p) (o := .ins C dx (fl5 (.ref r) (.str (txt (beatR s.row s.bars rs s.cnt))) (.ref t) (.ref wl) (.ref nl))) (.inl (by simp)) (fun xs h => by rw [hp] at h; cases h)
    obtain ⟨cas, hc1, hc2⟩ := ht4
    have b5 := ((Bx.of (x := p) (Ex.refl H4)).up (o := .ins C dx (fl5 (.ref r) (.str (txt (beatR s.row s.bars rs s.cnt))) (.ref c) (.ref wl) (.ref nl))) (Ex.refl H4)).up (o := .ins C dx (fl5 (.ref r) (.str (txt (beatR s.row s.bars rs s.cnt))) (.ref t) (.ref wl) (.ref nl))) (Ex.refl _)
    have hp5 : upd (upd H4 p (.ins C dx (fl5 (.ref r) (.str (txt (beatR s.row s.bars rs s.cnt))) (.ref c) (.ref wl) (.ref nl)))) p (.ins C dx (fl5 (.ref r) (.str (txt (beatR s.row s.bars rs s.cnt))) (.ref t) (.ref wl) (.ref nl))) p = some (.ins C dx (fl5 (.ref r) (.str (txt (beatR s.row s.bars rs s.cnt))) (.ref t) (.ref wl) (.ref nl))) := upd_same
    show tSeq _ _ _ _ (upd (upd H4 p (.ins C dx (fl5 (.ref r) (.str (txt (beatR s.row s.bars rs s.cnt))) (.ref c) (.ref wl) (.ref nl)))) p (.ins C dx (fl5 (.ref r) (.str (txt (beatR s.row s.bars rs s.cnt))) (.ref t) (.ref wl) (.ref nl))))
    generalize upd (upd H4 p (.ins C dx (fl5 (.ref r) (.str (txt (beatR s.row s.bars rs s.cnt))) (.ref c) (.ref wl) (.ref nl)))) p (.ins C dx (fl5 (.ref r) (.str (txt (beatR s.row s.bars rs s.cnt))) (.ref t) (.ref wl) (.ref nl))) = H5 at f5 b5 hp5
    have nop : ∀ {q : Addr} {xs : List V}, H4 q = some (.tup xs) → q ≠ p := fun h z => by rw [z, hp4] at h; cases h
    have hw5 := b5 _ _ nwp (E4 _ _ hw)
    have hn5 := b5 _ _ nnp (E4 _ _ hn)
    have hdl := G.n
    have hnl := hn2.length
    refine q_appU (xs := nas.map V.ref) (ys := Deed.vals .tick) hn5 (fv_notes T hp5 (ev_var rfl)) (eu_tup (ea_cons ev_c ea_nil) (by show 1 ≤ 100000; decide)) (by rw [List.length_map]; omega) fun d H6 nd e6 hd6 => ?_
    have hnd : d ≠ nl := fun z => by rw [z, hn5] at nd; cases nd
    have f6 := (f5.trans (Fr.of e6)).upd (a := nl) (o := .lst (nas.map V.ref ++ [.ref d])) (.inl (by simp)) (fun xs h => by rw [hn] at h; cases h)
    have hp6 : upd H6 nl (.lst (nas.map V.ref ++ [.ref d])) p = _ := (upd_ne (Ne.symm nnp)).trans (e6 _ _ hp5)
    have hw6 : upd H6 nl (.lst (nas.map V.ref ++ [.ref d])) wl = _ := (upd_ne hwn).trans (e6 _ _ hw5)
    have hn6 : upd H6 nl (.lst (nas.map V.ref ++ [.ref d])) nl = some (.lst (nas.map V.ref ++ [.ref d])) := upd_same
    have hd6' : upd H6 nl (.lst (nas.map V.ref ++ [.ref d])) d = _ := (upd_ne hnd).trans hd6
    have g6 : ∀ q xs, H4 q = some (.tup xs) → upd H6 nl (.lst (nas.map V.ref ++ [.ref d])) q = some (.tup xs) := fun q xs h => by
      rw [upd_ne (fun z => by rw [z, E4 _ _ hn] at h; cases h)]
      exact e6 _ _ (b5 _ _ (nop h) h)
    generalize upd H6 nl (.lst (nas.map V.ref ++ [.ref d])) = H7 at f6 hp6 hw6 hn6 hd6' g6
    have hbl : (beatR s.row s.bars rs s.cnt).length = s.row.length := by unfold beatR; rw [List.length_map, List.length_range]
    have el := el_lcRm (σ := (L2.start nTick [.ref p]).set 1 (some (.str (txt s.row)))) (H := H7) (t := tTest (tOp rNe (tOp rIxS (tFld K (tVar 0) "row") (tVar 2)) (tOp rIxS (tVar 1) (tVar 2)))) (te := tVar 2) (j := 2) (vs := [2]) (n := ((txt s.row).length : Int)) (fun n => !decide ((beatR s.row s.bars rs s.cnt).getD n 0 = s.row.getD n 0)) iv (ea_cons (ev_lenZ (ev_var (i := 1) rfl) hzs) ea_nil) (by rw [len_txt]; omega) (fun _ => rfl)
      (fun i H1 e hi => by
        rw [len_txt] at hi
        have := et_test (ev_ne (ev_ixS (row := beatR s.row s.bars rs s.cnt) (i := i) (fv_row T (e _ _ hp6) (ev_var (σ := (wipe ((L2.start nTick [.ref p]).set 1 (some (.str (txt s.row)))) [2]).set 2 (some (.int (i : Int)))) (i := 0) rfl)) (ev_var (i := 2) rfl) (by omega) (by omega)) (ev_ixS (row := s.row) (i := i) (ev_var (i := 1) rfl) (ev_var (i := 2) rfl) (by omega) (by omega)) rfl)
        rw [dec_ch] at this
        exact this) (fun i H1 e hi _ => ev_var rfl)
    refine s_retL el fun q H8 nq e8 h8 => ?_
    have f8 := f6.trans (Fr.of e8)
    refine DK.told _ _ act_tick (.ref q) [p, wl, nl] H8 ⟨q, rfl, ?_, ?_⟩ f8 ⟨dx, r, t, wl, nl, rfl, e8 _ _ hp6, hR.ex f8.2, ⟨cas, e8 _ _ (g6 _ _ hc1), hc2.mono fun a x h => e8 _ _ (g6 _ _ h)⟩, e8 _ _ hw6, ⟨nas ++ [d], e8 _ _ (by rw [hn6, List.map_append]; rfl), Pr.snoc (hn2.mono fun a x h => f8.2 _ _ h) (e8 _ _ hd6')⟩, hwn⟩ (fun a ha => .inl ha)
    · cases h1 : H q with
      | none => rfl
      | some o =>
        by_cases hm : q ∈ [p, wl, nl]
        · have hm' : q = p ∨ q = wl ∨ q = nl := by simpa using hm
          rcases hm' with z | z | z
          · rw [z, hp6] at nq; cases nq
          · rw [z, hw6] at nq; cases nq
          · rw [z, hn6] at nq; cases nq
        · rw [f6.1 _ _ hm h1] at nq; cases nq
    · rw [h8]
      have : ((txt s.row).length : Int).toNat = s.row.length := by rw [len_txt]; omega
      rw [this]
      rfl
end
end S8
set_option Elab.async false
set_option linter.all false
set_option maxRecDepth 100000
set_option maxHeartbeats 400000
set_option pp.maxSteps 2000
namespace S8
open PySem PySem.Spec PyProof.Rows L2 L2H HotX Evl
/-! ### deeds, world, look -/
abbrev Row3 := Nat × List Int × Bool
def RowAt (H : Hp) (a : Addr) (x : Row3) : Prop := ∃ c, H a = some (.tup [ch x.1, .ref c, .bl x.2.2]) ∧ H c = some (.tup (iLs x.2.1))
theorem RowAt.ex {H H' : Hp} {a : Addr} {x : Row3} (h : RowAt H a x) (e : ∀ b l, H b = some (.tup l) → H' b = some (.tup l)) : RowAt H' a x := by
  obtain ⟨c, h1, h2⟩ := h
  exact ⟨c, e _ _ h1, e _ _ h2⟩
def Sta.rows (s : Sta) : List Row3 := (List.range s.row.length).map fun p => (s.row.getD p 0, s.cnt.getD p [], s.wal.getD p false)
def spDeeds (C : Addr) : Sp := fun vs H Q _ => ∃ (p : Addr) (R : List Addr) (rs : List Ru) (s : Sta) (ds : List Deed), vs = [.ref p] ∧ ShelfAt C H p R rs s ds ∧ ∀ q H', H q = none → Ex H H' → ListAt Deed.vals H' q ds → Q (.ref q) H'
def spWorld (C : Addr) : Sp := fun vs H Q _ => ∃ (p : Addr) (R : List Addr) (rs : List Ru) (s : Sta) (ds : List Deed), vs = [.ref p] ∧ ShelfAt C H p R rs s ds ∧ Good rs s ds ∧
  ∀ q b r H', H q = none → Ex H H' → H' q = some (.tup [.str (txt s.row), .ref b, .ref r]) → H' b = some (.tup (s.bars.map iv)) → RulesAt H' r rs → Q (.ref q) H'
def spLook (C : Addr) : Sp := fun vs H Q _ => ∃ (p : Addr) (R : List Addr) (rs : List Ru) (s : Sta) (ds : List Deed), vs = [.ref p] ∧ ShelfAt C H p R rs s ds ∧ Good rs s ds ∧
  ∀ q as H', H q = none → Ex H H' → H' q = some (.lst (as.map V.ref)) → Pr (RowAt H') as s.rows → Q (.ref q) H'
section
variable {P : Program} {w : World} {K : PySem.W.Frag} {mg : Str → Option Value} {base : Heap}
theorem ok_deeds {C f : Addr} {fd : FuncData} (F : Fun K "deeds" "Shelf.deeds" sDeeds f fd) (B : Bt mg) (T : ShC K C) : FnOk P w K mg base CX0 1 f fd pDeeds (spDeeds C) := by
  refine F.ok scDeeds (fun vs H Q E h => ?_) (fun cdv A outer s0 H vs Q E hr h => ?_)
  · obtain ⟨p, R, rs, s, ds, rfl, _⟩ := h
    rfl
  · refine ⟨_, pss_one (ps_ret (pe_callTy call_list_of (by rfl) B.lst (by decide +kernel) (pa_cons (pe_fld (pv 0) rfl) pa_nil))), ?_⟩
    obtain ⟨p, R, rs, s, ds, rfl, ⟨dx, r, c, wl, nl, rfl, hp, hR, hC, hw, ⟨nas, hn, hn2⟩, hwn⟩, k⟩ := h
    exact s_retL (el_list (fv_notes T hp (ev_var rfl)) (sq_of hn)) fun q H1 nq e1 h1 => k q H1 nq e1 ⟨nas, h1, hn2.mono fun a x h => e1 _ _ h⟩
theorem ok_world {C f f1 : Addr} {fd fd1 : FuncData} (F : Fun K "world" "Shelf.world" sWorld f fd) (B : Bt mg) (T : ShC K C) (m1 : Meth K C "bars" f1) (b1 : Binds K fd1 pBars []) (G1 : FnOk P w K mg base CX0 1 f1 fd1 pBars (spBars C)) : FnOk P w K mg base CX0 2 f fd pWorld (spWorld C) := by
  refine F.ok scWorld (fun vs H Q E h => ?_) (fun cdv A outer s0 H vs Q E hr h => ?_)
  · obtain ⟨p, R, rs, s, ds, rfl, _⟩ := h
    rfl
  · refine ⟨_, pss_one (ps_ret (pe_tup (pa_cons (pe_fld (pv 0) rfl) (pa_cons (pe_meth0 (E := E0) (pv 0) T.cl m1 G1 hr b1 .nil pass0) (pa_cons (pe_fld (pv 0) rfl) pa_nil))))), ?_⟩
    obtain ⟨p, R, rs, s, ds, rfl, ⟨dx, r, c, wl, nl, rfl, hp, hR, hC, hw, ⟨nas, hn, hn2⟩, hwn⟩, G, k⟩ := h
    refine ⟨_, rfl, p, C, dx, _, .str (txt s.row), rfl, hp, T.cl, T.nRow, by rfl, _, rfl, p, dx, _, rfl, hp, by rfl, p, [p, wl, nl], rs, s, ds, rfl, ⟨dx, r, c, wl, nl, rfl, hp, hR, hC, hw, ⟨nas, hn, hn2⟩, hwn⟩, G, fun b H2 nb e2 hb => ?_⟩
    refine ⟨_, rfl, p, C, dx, _, .ref r, rfl, e2 _ _ hp, T.cl, T.nRules, by rfl, by show 3 ≤ sizeLine; decide, fun q nq => ?_⟩
    exact k q b r _ (fresh_back e2 nq) (e2.trans (Ex.new nq)) upd_same (Ex.new nq _ _ hb) (hR.ex fun b l q => Ex.new nq _ _ (e2 _ _ q))
theorem ok_look {C f : Addr} {fd : FuncData} (F : Fun K "look" "Shelf.look" sLook f fd) (B : Bt mg) (T : ShC K C) : FnOk P w K mg base CX0 1 f fd pLook (spLook C) := by
  refine F.ok scLook (fun vs H Q E h => ?_) (fun cdv A outer s0 H vs Q E hr h => ?_)
  · obtain ⟨p, R, rs, s, ds, rfl, _⟩ := h
    rfl
  · refine ⟨_, pss_one (ps_ret (pe_lc (own := [("kind", 1), ("some", 2), ("wall", 3)]) (g := gTup K 3 (gCons (gName 1) (gCons (gName 2) (gCons (gName 3) gNil)))) (tt := tYes) (te := tTup (tCons (tVar 1) (tCons (tVar 2) (tCons (tVar 3) tNil)))) (by rfl) scLook.nd (pi_list (pe_listzip3 (by rfl) B.lst (by rfl) B.zip (pa_cons (pe_fld (pv 0) rfl) (pa_cons (pe_fld (pv 0) rfl) (pa_cons (pe_fld (pv 0) rfl) pa_nil))))) (blkOk_by (own := [("kind", 1), ("some", 2), ("wall", 3)]) (N := nLook) (sc := defScope sLook) (by decide +kernel))
          (fun _ _ _ _ _ => pg_tup (by rfl) (pgs_cons (pg_name (i := 1) scLook.nd rfl (.inl rfl)) (pgs_cons (pg_name (i := 2) scLook.nd rfl (.inl rfl)) (pgs_cons (pg_name (i := 3) scLook.nd rfl (.inl rfl)) pgs_nil)))) (fun _ _ _ _ _ => pts_nil) (fun _ _ _ _ _ => pe_tup (pa_cons (pv 1) (pa_cons (pv 2) (pa_cons (pv 3) pa_nil)))))), ?_⟩
    obtain ⟨p, R, rs, s, ds, rfl, ⟨dx, r, c, wl, nl, rfl, hp, hR, ⟨cas, hc1, hc2⟩, hw, hN, hwn⟩, G, k⟩ := h
    have hz := G.s.z
    have hwl := G.s.w
    have hcl := hc2.length
    have hcs := G.s.c
    refine ⟨_, rfl, p, C, dx, _, .str (txt s.row), rfl, hp, T.cl, T.nRow, by rfl, _, rfl, p, C, dx, _, .ref c, rfl, hp, T.cl, T.nCounts, by rfl, _, rfl, p, C, dx, _, .ref wl, rfl, hp, T.cl, T.nWalls, by rfl,
      .str (txt s.row), .tup c, .lst wl, s.row.map ch, cas.map V.ref, bls s.wal, rfl, (signs_txt s.row).symm, st_of hc1, sq_of hw, by rw [List.length_map, List.length_map]; omega, by unfold bls; rw [List.length_map, List.length_map]; omega, by rw [List.length_map]; exact sz_of (by omega), fun S H1 as nS hal ⟨hS, hk, hel⟩ => ?_⟩
    rw [List.length_map] at hal
    have e1 : Ex H H1 := fun b o h => hk b o (fun z => by rw [z, nS] at h; cases h) h
    refine ⟨S, rfl, ⟨_, sq_of hS⟩, fun D nD => ?_⟩
    refine lc_list (xs := as.map V.ref) (fun i H' => Ex H1 H' ∧ ∃ bs, H' D = some (.lst (bs.map V.ref)) ∧ Pr (RowAt H') bs (s.rows.take i)) ⟨Ex.new nD, [], upd_same, trivial⟩ (fun i H' _ q => sq_of (q.1 _ _ hS)) (fun i x H' hx ⟨e2, bs, hD, hbs⟩ => ?_) (fun H' ⟨e2, bs, hD, hbs⟩ => ?_)
    · obtain ⟨a, ha, rfl⟩ := map_get hx
      obtain ⟨_, _, x, y, u, hx, hy, hu, h3⟩ := hel i a ha
      obtain ⟨kd, hkd, rfl⟩ := map_get hx
      obtain ⟨ca, hca, rfl⟩ := map_get hy
      obtain ⟨b, hb, rfl⟩ := map_get hu
      obtain ⟨ci, hci, hcx⟩ := hc2.getL hca
      have hi : i < s.row.length := (List.getElem?_eq_some_iff.mp hkd).1
      refine ⟨a, _, rfl, st_of (e2 _ _ h3), rfl, _, _, rfl, _, _, rfl, _, _, rfl, rfl, rfl, ?_⟩
      refine ⟨_, rfl, _, rfl, _, rfl, by show 3 ≤ sizeLine; decide, fun q nq => ⟨bs.map V.ref, Ex.new nq _ _ hD, by
        rw [List.length_map, hbs.length, List.length_take]
        exact sz_lt (by omega), ?_⟩⟩
      have ed : Ex H1 (upd (upd H' q (.tup [ch kd, .ref ca, .bl b])) D (.lst (bs.map V.ref ++ [.ref q]))) := Ex.mut (e2.trans (Ex.new nq)) nD
      have nqD : q ≠ D := fun z => by rw [z, hD] at nq; cases nq
      refine ⟨ed, bs ++ [q], by rw [upd_same, List.map_append]; rfl, ?_⟩
      have hrow : s.rows[i]? = some (kd, ci, b) := by
        unfold Sta.rows
        rw [List.getElem?_map, List.getElem?_range hi]
        have h1 : s.row.getD i 0 = kd := by rw [List.getD_eq_getElem?_getD, hkd]; rfl
        have h2 : s.cnt.getD i [] = ci := by rw [List.getD_eq_getElem?_getD, hci]; rfl
        have h3 : s.wal.getD i false = b := by rw [List.getD_eq_getElem?_getD, hb]; rfl
        show some (s.row.getD i 0, s.cnt.getD i [], s.wal.getD i false) = _
        rw [h1, h2, h3]
      rw [List.take_add_one, hrow]
      refine Pr.snoc (hbs.mono fun a x h => h.ex fun b l hb => ?_) ⟨ca, by rw [upd_ne nqD, upd_same], ed _ _ (e1 _ _ hcx)⟩
      rw [upd_ne (fun z => by rw [z, hD] at hb; cases hb)]
      exact Ex.new nq _ _ hb
    · have : s.rows.take (as.map V.ref).length = s.rows := List.take_of_length_le (by unfold Sta.rows; rw [List.length_map, List.length_map, List.length_range]; omega)
      rw [this] at hbs
      exact k D bs H' (fresh_back e1 nD) (e1.trans e2) hD hbs
end
end S8
set_option Elab.async false
set_option linter.all false
set_option maxRecDepth 100000
set_option maxHeartbeats 400000
set_option pp.maxSteps 2000
namespace S8
open PySem PySem.Spec PyProof.Rows L2 L2H HotX Evl
/-! ### the exceptions' own __init__ -/
section
variable {P : Program} {w : World} {K : PySem.W.Frag} {mg : Str → Option Value} {base : Heap}
theorem kw_len {f : Str} : ∀ vs H Q E, spKwI K f vs H Q E → vs.length = 2 := fun vs H Q E h => by
  obtain ⟨a, C, v, rfl, _⟩ := h
  rfl
theorem ok_xRow {R f : Addr} {fd : FuncData} (F : Fun K "__init__" "BadRow.__init__" sXRow f fd) (g : mg "RowError" = some (.ref R)) (T : RowErr K R) : FnOk P w K mg base CX0 1 f fd ["self", "place"] (spKwI K "place") :=
  F.ok scXRow kw_len fun cdv A outer s H vs Q E hr h => kwi_body (pl := _) (by rfl) g T rfl (.inl rfl) (.inl rfl) (by decide) (by decide) h (by rfl) (by rfl)
theorem bi_xRow {f : Addr} {fd : FuncData} (F : Fun K "__init__" "BadRow.__init__" sXRow f fd) : ∀ (s : Shared) (a v : Value), BindsTo s fd ⟨[a], [("place", v)]⟩ [("self", a), ("place", v)] := fun s a v => by
  obtain ⟨oc, od, kV, doc, pm, an, cdv, ct, osl, rfl, lk, hcd⟩ := F.ex
  exact .of_eq (by rfl)
theorem ok_xJar {R f : Addr} {fd : FuncData} (F : Fun K "__init__" "NoJar.__init__" sXJar f fd) (g : mg "RowError" = some (.ref R)) (T : RowErr K R) : FnOk P w K mg base CX0 1 f fd ["self", "place"] (spKwI K "place") :=
  F.ok scXJar kw_len fun cdv A outer s H vs Q E hr h => kwi_body (pl := _) (by rfl) g T rfl (.inl rfl) (.inl rfl) (by decide) (by decide) h (by rfl) (by rfl)
theorem bi_xJar {f : Addr} {fd : FuncData} (F : Fun K "__init__" "NoJar.__init__" sXJar f fd) : ∀ (s : Shared) (a v : Value), BindsTo s fd ⟨[a], [("place", v)]⟩ [("self", a), ("place", v)] := fun s a v => by
  obtain ⟨oc, od, kV, doc, pm, an, cdv, ct, osl, rfl, lk, hcd⟩ := F.ex
  exact .of_eq (by rfl)
theorem ok_xDeed {R f : Addr} {fd : FuncData} (F : Fun K "__init__" "BadDeed.__init__" sXDeed f fd) (g : mg "RowError" = some (.ref R)) (T : RowErr K R) : FnOk P w K mg base CX0 1 f fd ["self", "number"] (spKwI K "number") :=
  F.ok scXDeed kw_len fun cdv A outer s H vs Q E hr h => kwi_body (pl := _) (by rfl) g T rfl (.inl rfl) (.inl rfl) (by decide) (by decide) h (by rfl) (by rfl)
theorem bi_xDeed {f : Addr} {fd : FuncData} (F : Fun K "__init__" "BadDeed.__init__" sXDeed f fd) : ∀ (s : Shared) (a v : Value), BindsTo s fd ⟨[a], [("number", v)]⟩ [("self", a), ("number", v)] := fun s a v => by
  obtain ⟨oc, od, kV, doc, pm, an, cdv, ct, osl, rfl, lk, hcd⟩ := F.ex
  exact .of_eq (by rfl)
end
end S8
set_option Elab.async false
set_option linter.all false
set_option maxRecDepth 100000
set_option maxHeartbeats 400000
set_option pp.maxSteps 2000
namespace S8
open PySem PySem.Spec PyProof.Rows L2 L2H HotX Evl
/-! ### do -/
theorem DeedK.mono {xa : XA} {C p : Addr} {R : List Addr} {rs : List Ru} {s : Sta} {ds : List Deed} {d : Deed} {H H1 : Hp} {Q : VK} {E : XK} (D : DeedK xa C p R rs s ds d H Q E) (e : Ex H H1) : DeedK xa C p R rs s ds d H1 Q E := by
  refine ⟨fun r s' h v R' H' hr f sh hR => D.told r s' h v R' H' ?_ ((Fr.of e).trans f) sh fun a ha => (hR a ha).imp_right (fresh_back e), fun i h x H' e2 n => D.jar i h x H' (e.trans e2) (fresh_back e n), fun h x H' e2 n => D.row h x H' (e.trans e2) (fresh_back e n), fun h H' e2 => D.count h H' (e.trans e2)⟩
  cases r with
  | non => exact hr
  | sgn c => exact hr
  | plc l =>
    obtain ⟨q, h1, h2, h3⟩ := hr
    exact ⟨q, h1, fresh_back e h2, h3⟩
theorem ShelfAt.mono {C : Addr} {H H' : Hp} {p : Addr} {R : List Addr} {rs : List Ru} {s : Sta} {ds : List Deed} (h : ShelfAt C H p R rs s ds) (e : Ex H H') : ShelfAt C H' p R rs s ds := by
  obtain ⟨dx, r, c, wl, nl, hR, hp, hr, hc, hw, ⟨as, hn, hn2⟩, hne⟩ := h
  exact ⟨dx, r, c, wl, nl, hR, e _ _ hp, hr.ex fun b l q => e _ _ q, hc.ex fun b l q => e _ _ q, e _ _ hw, ⟨as, e _ _ hn, hn2.mono fun a x h => e _ _ h⟩, hne⟩
def Deed.Small : Deed → Prop
  | .put _ k => k.length ≤ 1000
  | _ => True
def spDo (xa : XA) (C : Addr) : Sp := fun vs H Q E => ∃ (p q : Addr) (R : List Addr) (rs : List Ru) (s : Sta) (ds : List Deed) (d : Deed), vs = [.ref p, .ref q] ∧ H q = some (.tup d.vals) ∧ d.Small ∧ ShelfAt C H p R rs s ds ∧ Good rs s ds ∧ DeedK xa C p R rs s ds d H (fun _ H' => Q .non H') E
structure MeF (P : Program) (w : World) (K : PySem.W.Frag) (mg : Str → Option Value) (base : Heap) (C : Addr) (CX : CXT) (k : Nat) (m : Str) (ps : List Str) (sp : Sp) : Prop where
  of : ∃ (f : Addr) (fd : FuncData), Meth K C m f ∧ Binds K fd ps [] ∧ FnOk P w K mg base CX k f fd ps sp
theorem w_eq {σ : L2.St} {H : Hp} {ta tb : TE} {a b : Str} (h1 : Ev ta σ H (.str a)) (h2 : Ev tb σ H (.str b)) : EvT (tTest (tOp rEq ta tb)) σ H (decide (a = b)) := by
  have := et_test (ev_eq h1 h2 rfl)
  rw [dec_str] at this
  exact this
section
variable {P : Program} {w : World} {K : PySem.W.Frag} {mg : Str → Option Value} {base : Heap}
theorem ok_do {xa : XA} {C f f1 f2 f3 f4 f5 : Addr} {fd fd1 fd2 fd3 fd4 fd5 : FuncData} (F : Fun K "do" "do" sDo f fd) (B : Bt mg) (T : ShC K C)
    (m1 : Meth K C "put" f1) (b1 : Binds K fd1 pPut []) (G1 : FnOk P w K mg base (L2N.CX P w) 3 f1 fd1 pPut (spPut xa C))
    (m2 : Meth K C "take" f2) (b2 : Binds K fd2 pTake []) (G2 : FnOk P w K mg base (L2N.CX P w) 4 f2 fd2 pTake (spTake xa C))
    (m3 : Meth K C "bar" f3) (b3 : Binds K fd3 pBar []) (G3 : FnOk P w K mg base (L2N.CX P w) 4 f3 fd3 pBar (spBar xa C))
    (m4 : Meth K C "unbar" f4) (b4 : Binds K fd4 pUnbar []) (G4 : FnOk P w K mg base (L2N.CX P w) 4 f4 fd4 pUnbar (spUnbar xa C))
    (m5 : Meth K C "tick" f5) (b5 : Binds K fd5 pTick []) (G5 : FnOk P w K mg base CX0 4 f5 fd5 pTick (spTick xa C)) :
    FnOk P w K mg base (L2N.CX P w) 5 f fd pDo (spDo xa C) := by
  refine okXN F scDo (fun vs H Q E h => ?_) (fun cdv A outer s0 H vs Q E hr h => ?_)
  · obtain ⟨p, q, R, rs, s, ds, d, rfl, _⟩ := h
    rfl
  · have tk : L2N.Takes (cxOf (L2N.CX P w) P w K mg base nDo "do" (defScope sDo) f cdv A outer s0 H E) (fun cls d _ H => E cls d H) := L2N.takes_of rfl rfl rfl rfl
    have hx := L2N.passes_call (E := E) tk fun _ _ _ _ h => h
    refine ⟨_, pss_cons (ps_asg (pv 1) (pg_star rfl (pgs_cons (pg_name (i := 2) scDo.nd rfl (.inl rfl)) (pgs_cons1 (pg_name (i := 3) scDo.nd rfl (.inl rfl)))) (by rfl) (by rfl)))
      (pss_one (ps_if (pt_cmpR op_eq (pv 2) (pe_g (by rfl) B.gPut) (nomark _)) (pss_one (ps_expr (pe_meth (pv 0) T.cl m1 G1 (hr.mono (by decide)) b1 .nil hx (pa_cons (pe_ix ix_list (pv 3) pe_int (fun _ _ => rfl)) (pa_cons (pe_ix ix_list (pv 3) pe_int (fun _ _ => rfl)) pa_nil)))))
      (pss_one (ps_if (pt_cmpR op_eq (pv 2) (pe_g (by rfl) B.gTake) (nomark _)) (pss_one (ps_expr (pe_meth (pv 0) T.cl m2 G2 hr b2 .nil hx (pa_cons (pe_ix ix_list (pv 3) pe_int (fun _ _ => rfl)) pa_nil))))
      (pss_one (ps_if (pt_cmpR op_eq (pv 2) (pe_g (by rfl) B.gBar) (nomark _)) (pss_one (ps_expr (pe_meth (pv 0) T.cl m3 G3 hr b3 .nil hx (pa_cons (pe_ix ix_list (pv 3) pe_int (fun _ _ => rfl)) pa_nil))))
      (pss_one (ps_if (pt_cmpR op_eq (pv 2) (pe_g (by rfl) B.gOpen) (nomark _)) (pss_one (ps_expr (pe_meth (pv 0) T.cl m4 G4 hr b4 .nil hx (pa_cons (pe_ix ix_list (pv 3) pe_int (fun _ _ => rfl)) pa_nil))))
      (pss_one (ps_expr (pe_meth0 (E := E) (pv 0) T.cl m5 G5 hr b5 .nil pass0))))))))))), ?_⟩
    obtain ⟨p, q, R, rs, s, ds, d, rfl, hq, hs, ⟨dx, r, c, wl, nl, rfl, hp, hrest⟩, G, DK⟩ := h
    have S : ShelfAt C H p [p, wl, nl] rs s ds := ⟨dx, r, c, wl, nl, rfl, hp, hrest⟩
    cases d with
    | put pl k =>
      refine ⟨_, rfl, q, .str "put", [.int pl, .str k], rfl, st_of hq, by show 2 ≤ 1000; decide, fun ls nls => ⟨_, _, rfl, _, _, rfl, rfl, ?_⟩⟩
      have e1 : Ex H (upd H ls (.lst [.int pl, .str k])) := Ex.new nls
      have h1 : upd H ls (.lst [.int pl, .str k]) ls = some (.lst [.int pl, .str k]) := upd_same
      generalize upd H ls (.lst [.int pl, .str k]) = H1 at e1 h1
      refine s_if (b := decide (("put" : Str) = "put")) (w_eq (ev_var rfl) ev_c) (fun _ H2 e2 => ?_) (fun hb => absurd hb (by decide))
      have E2 := e1.trans e2
      refine m_call (vs := [.int pl, .str k]) (ev_var rfl) (E2 _ _ hp) (by rfl) (ea_cons (ev_op (ev_var rfl) ev_c (rv_ixL (sq_of (e2 _ _ h1)) (by rfl))) (ea_cons (ev_op (ev_var rfl) ev_c (rv_ixL (sq_of (e2 _ _ h1)) (by rfl))) ea_nil)) fun H3 e3 => ?_
      exact ⟨p, _, rs, s, ds, pl, k, rfl, hs, S.mono (E2.trans e3), G, DK.mono (E2.trans e3)⟩
    | take pl =>
      refine ⟨_, rfl, q, .str "take", [.int pl], rfl, st_of hq, by show 1 ≤ 1000; decide, fun ls nls => ⟨_, _, rfl, _, _, rfl, rfl, ?_⟩⟩
      have e1 : Ex H (upd H ls (.lst [.int pl])) := Ex.new nls
      have h1 : upd H ls (.lst [.int pl]) ls = some (.lst [.int pl]) := upd_same
      generalize upd H ls (.lst [.int pl]) = H1 at e1 h1
      refine s_if (b := decide (("take" : Str) = "put")) (w_eq (ev_var rfl) ev_c) (fun hb => absurd hb (by decide)) (fun _ H2 e2 => ?_)
      refine s_if (b := decide (("take" : Str) = "take")) (w_eq (ev_var rfl) ev_c) (fun _ H3 e3 => ?_) (fun hb => absurd hb (by decide))
      have E2 := (e1.trans e2).trans e3
      refine m_call (vs := [.int pl]) (ev_var rfl) (E2 _ _ hp) (by rfl) (ea_cons (ev_op (ev_var rfl) ev_c (rv_ixL (sq_of (e3 _ _ (e2 _ _ h1))) (by rfl))) ea_nil) fun H4 e4 => ?_
      exact ⟨p, _, rs, s, ds, pl, rfl, S.mono (E2.trans e4), G, DK.mono (E2.trans e4)⟩
    | bar pl =>
      refine ⟨_, rfl, q, .str "bar", [.int pl], rfl, st_of hq, by show 1 ≤ 1000; decide, fun ls nls => ⟨_, _, rfl, _, _, rfl, rfl, ?_⟩⟩
      have e1 : Ex H (upd H ls (.lst [.int pl])) := Ex.new nls
      have h1 : upd H ls (.lst [.int pl]) ls = some (.lst [.int pl]) := upd_same
      generalize upd H ls (.lst [.int pl]) = H1 at e1 h1
      refine s_if (b := decide (("bar" : Str) = "put")) (w_eq (ev_var rfl) ev_c) (fun hb => absurd hb (by decide)) (fun _ H2 e2 => ?_)
      refine s_if (b := decide (("bar" : Str) = "take")) (w_eq (ev_var rfl) ev_c) (fun hb => absurd hb (by decide)) (fun _ H3 e3 => ?_)
      refine s_if (b := decide (("bar" : Str) = "bar")) (w_eq (ev_var rfl) ev_c) (fun _ H4 e4 => ?_) (fun hb => absurd hb (by decide))
      have E2 := ((e1.trans e2).trans e3).trans e4
      refine m_call (vs := [.int pl]) (ev_var rfl) (E2 _ _ hp) (by rfl) (ea_cons (ev_op (ev_var rfl) ev_c (rv_ixL (sq_of (e4 _ _ (e3 _ _ (e2 _ _ h1)))) (by rfl))) ea_nil) fun H5 e5 => ?_
      exact ⟨p, _, rs, s, ds, pl, rfl, S.mono (E2.trans e5), G, DK.mono (E2.trans e5)⟩
    | unbar pl =>
      refine ⟨_, rfl, q, .str "unbar", [.int pl], rfl, st_of hq, by show 1 ≤ 1000; decide, fun ls nls => ⟨_, _, rfl, _, _, rfl, rfl, ?_⟩⟩
      have e1 : Ex H (upd H ls (.lst [.int pl])) := Ex.new nls
      have h1 : upd H ls (.lst [.int pl]) ls = some (.lst [.int pl]) := upd_same
      generalize upd H ls (.lst [.int pl]) = H1 at e1 h1
      refine s_if (b := decide (("unbar" : Str) = "put")) (w_eq (ev_var rfl) ev_c) (fun hb => absurd hb (by decide)) (fun _ H2 e2 => ?_)
      refine s_if (b := decide (("unbar" : Str) = "take")) (w_eq (ev_var rfl) ev_c) (fun hb => absurd hb (by decide)) (fun _ H3 e3 => ?_)
      refine s_if (b := decide (("unbar" : Str) = "bar")) (w_eq (ev_var rfl) ev_c) (fun hb => absurd hb (by decide)) (fun _ H4 e4 => ?_)
      refine s_if (b := decide (("unbar" : Str) = "unbar")) (w_eq (ev_var rfl) ev_c) (fun _ H5 e5 => ?_) (fun hb => absurd hb (by decide))
      have E2 := (((e1.trans e2).trans e3).trans e4).trans e5
      refine m_call (vs := [.int pl]) (ev_var rfl) (E2 _ _ hp) (by rfl) (ea_cons (ev_op (ev_var rfl) ev_c (rv_ixL (sq_of (e5 _ _ (e4 _ _ (e3 _ _ (e2 _ _ h1))))) (by rfl))) ea_nil) fun H6 e6 => ?_
      exact ⟨p, _, rs, s, ds, pl, rfl, S.mono (E2.trans e6), G, DK.mono (E2.trans e6)⟩
    | tick =>
      refine ⟨_, rfl, q, .str "tick", [], rfl, st_of hq, by decide, fun ls nls => ⟨_, _, rfl, _, _, rfl, rfl, ?_⟩⟩
      have e1 : Ex H (upd H ls (.lst [])) := Ex.new nls
      generalize upd H ls (.lst []) = H1 at e1
      refine s_if (b := decide (("tick" : Str) = "put")) (w_eq (ev_var rfl) ev_c) (fun hb => absurd hb (by decide)) (fun _ H2 e2 => ?_)
      refine s_if (b := decide (("tick" : Str) = "take")) (w_eq (ev_var rfl) ev_c) (fun hb => absurd hb (by decide)) (fun _ H3 e3 => ?_)
      refine s_if (b := decide (("tick" : Str) = "bar")) (w_eq (ev_var rfl) ev_c) (fun hb => absurd hb (by decide)) (fun _ H4 e4 => ?_)
      refine s_if (b := decide (("tick" : Str) = "unbar")) (w_eq (ev_var rfl) ev_c) (fun hb => absurd hb (by decide)) (fun _ H5 e5 => ?_)
      have E2 := (((e1.trans e2).trans e3).trans e4).trans e5
      refine m_call (vs := []) (ev_var rfl) (E2 _ _ hp) (by rfl) ea_nil fun H6 e6 => ?_
      exact ⟨p, _, rs, s, ds, rfl, S.mono (E2.trans e6), G, DK.mono (E2.trans e6)⟩
end
end S8
set_option Elab.async false
set_option linter.all false
set_option maxRecDepth 100000
set_option maxHeartbeats 400000
set_option pp.maxSteps 2000
namespace S8
open PySem PySem.Spec PyProof.Rows L2 L2H HotX Evl
/-! ### again: its items, in plain Lean -/
def words : List Str := ["put", "take", "bar", "unbar", "tick", "go"]
def Deed.word : Deed → Str
  | .put _ _ => "put"
  | .take _ => "take"
  | .bar _ => "bar"
  | .unbar _ => "unbar"
  | .tick => "tick"
def Item.Ok2 : Item → Prop
  | .ok d => d.Small
  | .no vs => vs = [] ∨ ∃ z r, vs = V.str z :: r ∧ szOf z ≠ (vs.length : Int) ∧ z ∈ words ∧ vs.length ≤ 1000
theorem vals_word (d : Deed) : ∃ r, d.vals = V.str d.word :: r ∧ szOf d.word = (d.vals.length : Int) ∧ d.word ∈ words ∧ d.vals.length ≤ 1000 := by
  cases d with
  | put p k => exact ⟨_, rfl, by rfl, by simp [words, Deed.word], by show 3 ≤ 1000; decide⟩
  | take p => exact ⟨_, rfl, by rfl, by simp [words, Deed.word], by show 2 ≤ 1000; decide⟩
  | bar p => exact ⟨_, rfl, by rfl, by simp [words, Deed.word], by show 2 ≤ 1000; decide⟩
  | unbar p => exact ⟨_, rfl, by rfl, by simp [words, Deed.word], by show 2 ≤ 1000; decide⟩
  | tick => exact ⟨_, rfl, by rfl, by simp [words, Deed.word], by show 1 ≤ 1000; decide⟩
def deedsOf : List Item → List Deed
  | [] => []
  | .ok d :: r => d :: deedsOf r
  | .no _ :: r => deedsOf r
theorem deedsOf_app (a b : List Item) : deedsOf (a ++ b) = deedsOf a ++ deedsOf b := by
  induction a with
  | nil => rfl
  | cons x a ih =>
    cases x with
    | ok d => show d :: deedsOf (a ++ b) = d :: deedsOf a ++ deedsOf b; rw [ih]; rfl
    | no vs => exact ih
theorem deedsOf_len (a : List Item) : (deedsOf a).length ≤ a.length := by
  induction a with
  | nil => exact Nat.le_refl 0
  | cons x a ih =>
    cases x with
    | ok d => exact Nat.succ_le_succ ih
    | no vs => exact Nat.le_succ_of_le ih
theorem doAll_nil (rs : List Ru) (s : Sta) (i : Nat) : doAll rs s i [] = .inr s := rfl
theorem doAll_no (rs : List Ru) (s : Sta) (i : Nat) (vs : List V) (r : List Item) : doAll rs s i (.no vs :: r) = .inl i := rfl
theorem doAll_told {rs : List Ru} {s s' : Sta} {i : Nat} {d : Deed} {r : List Item} {x : Res} (h : act rs s d = (.told x, s')) : doAll rs s i (.ok d :: r) = doAll rs s' (i + 1) r := by
  show (match act rs s d with
    | (.told _, s') => doAll rs s' (i + 1) r
    | _ => .inl i) = _
  rw [h]
theorem doAll_jar {rs : List Ru} {s : Sta} {i : Nat} {d : Deed} {r : List Item} {x : Int} (h : act rs s d = (.jar x, s)) : doAll rs s i (.ok d :: r) = .inl i := by
  show (match act rs s d with
    | (.told _, s') => doAll rs s' (i + 1) r
    | _ => .inl i) = _
  rw [h]
theorem doAll_row {rs : List Ru} {s : Sta} {i : Nat} {d : Deed} {r : List Item} (h : act rs s d = (.row, s)) : doAll rs s i (.ok d :: r) = .inl i := by
  show (match act rs s d with
    | (.told _, s') => doAll rs s' (i + 1) r
    | _ => .inl i) = _
  rw [h]
theorem doAll_count {rs : List Ru} {s : Sta} {i : Nat} {d : Deed} {r : List Item} (h : act rs s d = (.count, s)) : doAll rs s i (.ok d :: r) = .inl i := by
  show (match act rs s d with
    | (.told _, s') => doAll rs s' (i + 1) r
    | _ => .inl i) = _
  rw [h]
theorem isK_len {k : Str} (h : isK k = true) : k.cps.toList.length = 1 := by
  unfold isK at h
  rw [Bool.and_eq_true, decide_eq_true_eq] at h
  rw [Array.length_toList]
  exact h.1
theorem cntRow_len {nr : List Nat} {kind : Nat} {rs : List Ru} {c : List Int} (h : c.length = rs.length) : (cntRow nr kind rs c).length = rs.length := by
  unfold cntRow
  rw [List.length_zipWith, h, Nat.min_self]
theorem turn1_len {rs : List Ru} {k : Nat} {c : List Int} (h : c.length = rs.length) : (turn1 rs k c).2.length = rs.length := by
  unfold turn1
  split
  · exact h
  · exact List.length_replicate
/-- a deed leaves a good state -/
theorem act_ok {rs : List Ru} {s s' : Sta} {d : Deed} {r : Res} (O : s.Ok rs.length) (h : act rs s d = (.told r, s')) : s'.Ok rs.length := by
  cases d with
  | put p k =>
    rw [act_put] at h
    split at h
    · cases h
    · rename_i h1
      split at h
      · cases h
      · rename_i h2
        split at h
        · cases h
        · rename_i h3
          cases h
          have h2' : isK k = true := by simpa using h2
          have hl := isK_len h2'
          have hc := O.c
          have hw := O.w
          have hz := O.z
          obtain ⟨n, rfl⟩ : ∃ n : Nat, p = (n : Int) := ⟨p.toNat, by omega⟩
          have hn : n ≤ s.row.length := by omega
          show Sta.Ok rs.length (s.put rs.length n k)
          refine ⟨?_, ?_, ?_, fun c hc => ?_⟩
          · unfold Sta.put
            simp only [List.length_append, List.length_take, List.length_drop, List.length_cons, List.length_nil]
            omega
          · unfold Sta.put
            simp only [List.length_append, List.length_take, List.length_drop, List.length_cons, List.length_nil]
            omega
          · unfold Sta.put
            simp only [List.length_append, List.length_take, List.length_drop]
            omega
          · unfold Sta.put at hc
            simp only [List.mem_append, List.mem_singleton] at hc
            rcases hc with (hc | hc) | hc
            · exact O.e c (List.mem_of_mem_take hc)
            · rw [hc]; exact List.length_replicate
            · exact O.e c (List.mem_of_mem_drop hc)
  | take p =>
    rw [act_take] at h
    split at h
    · cases h
    · rename_i h1
      cases h
      have hc := O.c
      have hw := O.w
      have hz := O.z
      obtain ⟨n, rfl⟩ : ∃ n : Nat, p = (n : Int) := ⟨p.toNat, by omega⟩
      have hn : n < s.row.length := by omega
      show Sta.Ok rs.length (s.take n)
      refine ⟨?_, ?_, ?_, fun c hc => ?_⟩
      · unfold Sta.take
        simp only [List.length_append, List.length_take, List.length_drop]
        omega
      · unfold Sta.take
        simp only [List.length_append, List.length_take, List.length_drop]
        omega
      · unfold Sta.take
        simp only [List.length_append, List.length_take, List.length_drop]
        omega
      · unfold Sta.take at hc
        simp only [List.mem_append] at hc
        rcases hc with hc | hc
        · exact O.e c (List.mem_of_mem_take hc)
        · exact O.e c (List.mem_of_mem_drop hc)
  | bar p =>
    rw [act_bar] at h
    split at h
    · cases h
    · split at h
      · cases h
      · cases h
        exact ⟨O.c, by rw [List.length_set]; exact O.w, O.z, O.e⟩
  | unbar p =>
    rw [act_unbar] at h
    split at h
    · cases h
    · split at h
      · cases h
      · cases h
        exact ⟨O.c, by rw [List.length_set]; exact O.w, O.z, O.e⟩
  | tick =>
    rw [act_tick] at h
    cases h
    have hc := O.c
    have hl : (beatR s.row s.bars rs s.cnt).length = s.row.length := by unfold beatR; rw [List.length_map, List.length_range]
    refine ⟨?_, ?_, ?_, fun c hc2 => ?_⟩
    · show (beatC s.row s.bars rs s.cnt).length = (beatR s.row s.bars rs s.cnt).length
      rw [hl]
      unfold beatC
      rw [List.length_map, List.length_range]
    · show s.wal.length = (beatR s.row s.bars rs s.cnt).length
      rw [hl]
      exact O.w
    · show (beatR s.row s.bars rs s.cnt).length ≤ 12
      rw [hl]
      exact O.z
    · have hc2 : c ∈ beatC s.row s.bars rs s.cnt := hc2
      unfold beatC at hc2
      obtain ⟨p, hp, rfl⟩ := List.mem_map.mp hc2
      have hp' : p < s.cnt.length := by rw [hc]; exact List.mem_range.mp hp
      refine turn1_len (cntRow_len ?_)
      refine O.e _ ?_
      rw [List.getD_eq_getElem?_getD, List.getElem?_eq_getElem hp']
      exact List.getElem_mem _
end S8
set_option Elab.async false
set_option linter.all false
set_option maxRecDepth 100000
set_option maxHeartbeats 400000
set_option pp.maxSteps 2000
namespace S8
open PySem PySem.Spec PyProof.Rows L2 L2H HotX Evl
/-! ### again -/
structure SzD (K : PySem.W.Frag) (w : World) (mg : Str → Option Value) : Prop where
  of : ∃ (d : Addr) (es : Array DictEntry) (n : Nat), Glb mg "SIZES" (.ref d) ∧ KDict K w d es n ∧ ∀ k ∈ words, (∃ u, PySem.W.nsIn K d k = some (some u) ∧ RelV (.int (szOf k)) u) ∨ (PySem.W.nsIn K d k = some none ∧ szOf k = 0)
theorem ev_sz {K : PySem.W.Frag} {d : Addr} {σ : L2.St} {H : Hp} {td ty tx : TE} {k : Str} (h : (∃ u, PySem.W.nsIn K d k = some (some u) ∧ RelV (.int (szOf k)) u) ∨ (PySem.W.nsIn K d k = some none ∧ szOf k = 0)) (hd : Ev td σ H (.ref d)) (hk : Ev ty σ H (.str k)) (hx : Ev tx σ H (.int 0)) :
    Ev (tKGet2 K d td ty tx) σ H (.int (szOf k)) := fun H1 e Q q => hd H1 e _ fun H2 e2 => ⟨rfl, hk H2 (e.trans e2) _ fun H3 e3 => hx H3 ((e.trans e2).trans e3) _ fun H4 e4 => by
  rcases h with ⟨u, h1, h2⟩ | ⟨h1, h2⟩
  · exact ⟨k, some (u, .int (szOf k)), rfl, h1, fun p hp => by cases hp; exact h2, q H4 ((e2.trans e3).trans e4)⟩
  · refine ⟨k, none, rfl, h1, fun p hp => (nomatch hp), ?_⟩
    have := q H4 ((e2.trans e3).trans e4)
    rw [h2] at this
    exact this⟩
structure KwH (P : Program) (w : World) (K : PySem.W.Frag) (mg : Str → Option Value) (base : Heap) (f : Str) (C : Addr) : Prop where
  ini : ∃ (fI : Addr) (fd : FuncData), PySem.W.findIn K (.ref C) "__init__" = some (some (.ref fI)) ∧ PySem.W.typeIn K (.ref fI) = some (.type "function") ∧ FnH P w K mg base CX0 1 fI fd ["self", f] (spKwI K f) ∧
    ∀ (s : Shared) (a v : Value), BindsTo s fd ⟨[a], [(f, v)]⟩ [("self", a), (f, v)]
theorem pmk_kwH {X : Cx} {x f : Str} {e : Expr} {te : TE} {p kp pos : Pos} {C : Addr} (D : KwX X.prog X.w X.K X.mg X.base x f C) (D2 : KwH X.prog X.w X.K X.mg X.base f C) (hr : RoomH 2 X.A) (hc : HotC X) (hg : Gl X x) (he : PE X e te) (hdb : (x == ("__debug__" : Str)) = false := by decide)
    (hall : (backToKw pos (keywordEach [⟨some f, e, kp⟩] X.env)).all (·.1.isSome) = true := by rfl) (hks : (backToKw pos (keywordEach [⟨some f, e, kp⟩] X.env)).filterMap (·.1) = [f] := by rfl)
    (hpl : ((backTo pos (starEach [] X.env)).any (·.1) || (backToKw pos (keywordEach [⟨some f, e, kp⟩] X.env)).any (·.1.isNone)) = false := by rfl) :
    PMk5 X (.Call (.Name x p) [] [⟨some f, e, kp⟩] pos) (tMkKw C f te) := by
  obtain ⟨fI, fd, i1, i2, i3, i4⟩ := D2.ini
  exact pmk5_kwH D.T D.no i1 i2 i3 hr hc i4 (fun _ _ _ _ _ _ _ h => h.elim) hg D.g he hdb hall hks hpl
def spAgain (xd C : Addr) (K : PySem.W.Frag) : Sp := fun vs H Q E => ∃ (r : Addr) (kd : Kd) (rs : List Ru) (items : List Item) (as : List Addr), vs = [.ref r, kd.v] ∧ RulesAt H r rs ∧ RsOk rs ∧ kd.src K H (as.map V.ref) ∧ Pr (fun a x => H a = some (.tup (Item.vals x))) as items ∧ (∀ x ∈ items, x.Ok2) ∧ items.length ≤ 40000 ∧
  (∀ s, doAll rs sta0 0 items = .inr s → ∀ p R H', Ex H H' → H p = none → ShelfAt C H' p R rs s (deedsOf items) → (∀ a ∈ R, H a = none) → s.Ok rs.length → Q (.ref p) H') ∧
  (∀ i : Nat, doAll rs sta0 0 items = .inl i → ∀ e H', Ex H H' → H e = none → H' e = some (.xd [("number", .int i)]) → E (.ref xd) (some e) H')
theorem sta0_ok (n : Nat) : sta0.Ok n := ⟨rfl, rfl, Nat.zero_le _, fun c h => nomatch h⟩
section
variable {P : Program} {w : World} {K : PySem.W.Frag} {mg : Str → Option Value} {base : Heap}
theorem okH {x qual : Str} {st : Stmt} {f : Addr} {fd : FuncData} {N ps : List Str} {k : Nat} {sp : Sp} {CX : CXT} (F : Fun K x qual st f fd) (S : FnScope N ps (defScope st)) (len : ∀ vs H Q E, sp vs H Q E → vs.length = ps.length)
    (hbody : ∀ (cdv : Value) (A : Around) (outer : List Env) (s : Shared) (H : Hp) (vs : List V) (Q : VK) (E : XK) (p : Addr × Obj), Hot1 A p → RoomH k (A.deeper (envOfC qual (defScope st) s.heap.objs.size f cdv)) → sp vs H Q E →
      ∃ t, PSs (cxH CX P w K mg base N qual (defScope st) f cdv A outer s H E p) (defBody st) t ∧ t { nx := fun _ H' => Q .non H', rt := Q } (start N vs) H) : FnH P w K mg base CX (k + 1) f fd ps sp := by
  obtain ⟨oc, od, kV, doc, pm, an, cdv, ct, osl, rfl, lk, hcd⟩ := F.ex
  exact fn_ofH lk hcd S len fun A outer s H vs Q E p hot hr hsp => hbody cdv A outer s H vs Q E p hot hr hsp
theorem ok_xDeedH {R f : Addr} {fd : FuncData} (F : Fun K "__init__" "BadDeed.__init__" sXDeed f fd) (g : mg "RowError" = some (.ref R)) (T : RowErr K R) : FnH P w K mg base CX0 1 f fd ["self", "number"] (spKwI K "number") :=
  okH F scXDeed kw_len fun cdv A outer s H vs Q E p hot hr h => kwi_body (pl := _) (by rfl) g T rfl (.inl rfl) (.inl rfl) (by decide) (by decide) h (by rfl) (by rfl)
theorem ok_again {xa : XA} {xd RE C f f1 fi : Addr} {fd fd1 fdi : FuncData} {bmB : List Value} (F : Fun K "again" "again" sAgain f fd) (B : Bt mg) (SZ : SzD K w mg) (XD : KwX P w K mg base "BadDeed" "number" xd) (XH : KwH P w K mg base "number" xd) (gRE : mg "RowError" = some (.ref RE))
    (M : Mk K C fi) (gC : mg "Shelf" = some (.ref C)) (bi : Binds K fdi pInit []) (Gi : FnOk P w K mg base CX0 4 fi fdi pInit (spInit C))
    (g1 : mg "do" = some (.ref f1)) (k1 : PySem.W.keepIn K (.ref f1) = true) (b1 : Binds K fd1 pDo []) (G1 : FnOk P w K mg base (L2N.CX P w) 5 f1 fd1 pDo (spDo xa C))
    (sj : PySem.W.subIn K (.ref xa.jar) (.type "BaseException") = some true) (sr : PySem.W.subIn K (.ref xa.row) (.type "BaseException") = some true) (sc : PySem.W.subIn K (.ref xa.count) (.type "BaseException") = some true)
    (ej : PySem.W.exmOne K (.ref xa.jar) (.ref RE) = some true) (er : PySem.W.exmOne K (.ref xa.row) (.ref RE) = some true) (ec : PySem.W.exmOne K (.ref xa.count) (.ref RE) = some true) :
    FnOk P w K mg base (L2.CX P w) 6 f fd pAgain (spAgain xd C K) := by
  refine F.okX scAgain (fun vs H Q E h => ?_) (fun cdv A outer s0 H vs Q E hr h => ?_)
  · obtain ⟨r, kd, rs, items, as, rfl, _⟩ := h
    rfl
  · have tk : L2.Takes (cxOf (L2.CX P w) P w K mg base nAgain "again" (defScope sAgain) f cdv A outer s0 H E) (fun cls d _ H => E cls d H) := L2.takes_of rfl rfl rfl rfl
    obtain ⟨dz, es, nz, gZ, DZ, hZ⟩ := SZ.of
    refine ⟨_, pss_cons (ps_set (i := 2) scAgain.nd rfl (.inl rfl) (pe_make (E := E0) M Gi (hr.mono (by decide)) (by rfl) gC bi .nil pass0 (pa_cons (pv 0) pa_nil)))
      (pss_cons (ps_for PassesOwn.leaving rfl (pi_enumk (by rfl) B.enu (pa_cons (pv 1) pa_nil)) (pg_tup (by rfl) (pgs_cons (pg_name (i := 3) scAgain.nd rfl (.inl rfl)) (pgs_cons (pg_name (i := 4) scAgain.nd rfl (.inl rfl)) pgs_nil)))
        (pss_cons (ps_if (PW.pt (pw_or (pt_cmpR op_eq (pe_callB call_len_seq (by rfl) B.len boot_len (pa_cons (pv 4) pa_nil)) pe_int (nomark _)) (pw_or1 (pt_cmpR op_ne (pe_kget2 DZ (pe_g (by rfl) gZ) (pe_ix ix_tup (pv 4) pe_int (fun _ _ => rfl)) pe_int ⟨by rfl, by rfl, by rfl, by rfl⟩) (pe_callB call_len_seq (by rfl) B.len boot_len (pa_cons (pv 4) pa_nil)) (nomark _)))))
          (pss_one (L2.ps_raise rfl tk (PMk_of_N (pmk_kwX XD (hr.mono (by decide)) (by rfl) (pv 3)).pmk))) pss_nil)
        (pss_one (ps_try_asX (i := 5) (ts := fun a cls d => fun _ σ H => σ[5]? = some (some (V.ref a)) ∧ PySem.W.subIn K cls (.type "BaseException") = some true ∧ tMkKw xd "number" (tVar 3) σ H fun cls d H' => E cls d H') rfl rfl scAgain.nd rfl rfl ⟨by rfl, by decide, .inl gRE⟩ (fun hd => passesAt_of rfl hd) tk (fun _ _ _ _ _ h => h)
          (fun W pn xe tkN _ => pss_one (ps_expr (pe_callS G1 hr (by rfl) g1 k1 b1 (fun σ => L2N.passAt tkN σ) (pa_cons (pv 2) (pa_cons (pv 4) pa_nil)))))
          (fun a oe cls d pn xe hot hz tk2 => pss_one (ps_raiseHC (i := 5) List.mem_cons_self hot hz.zc tk2 (pmk_kwH XD XH (roomH_mark (hr.mono (by decide)) _) ⟨(a, oe), hot, List.mem_cons_self⟩ (by rfl) (pv 3)) rfl rfl))))))
      (pss_one (ps_ret (pv 2)))), ?_⟩
    obtain ⟨r, kd, rs, items, as, rfl, hr0, R, hsrc, hit, hok, hlen, k1, k2⟩ := h
    have hil := hit.length
    refine ⟨_, rfl, fun x dx nx ndx nex => ⟨x, r, dx, rs, rfl, upd_same, hr0.ex (fun b l q => ?_), R, fun RR H1 hk hS hfr => ⟨rfl, ?_⟩⟩⟩
    · rw [upd_ne (ne_of_none q nx), upd_ne (ne_of_none q ndx)]
      exact q
    have e1 : Ex H H1 := fun b o h => hk b o (ne_of_none h nx) (by
      rw [upd_ne (ne_of_none h nx), upd_ne (ne_of_none h ndx)]
      exact h)
    have hfr1 : ∀ a ∈ RR, H a = none := fun a ha => by
      rcases hfr a ha with z | z
      · rw [z]; exact nx
      · by_cases h1 : a = x
        · rw [h1]; exact nx
        · rw [upd_ne h1] at z
          by_cases h2 : a = dx
          · rw [h2]; exact ndx
          · rw [upd_ne h2] at z; exact z
    clear hfr hk
    refine ⟨_, rfl, kd, as.map V.ref, rfl, Kd.src_ex hsrc e1, for_enumk (k := kd) (fun i σ H' => (∃ v3 v4 v5, σ = [some (.ref r), some kd.v, some (.ref x), v3, v4, v5]) ∧ Ex H H' ∧ ∃ R s, ShelfAt C H' x R rs s (deedsOf (items.take i)) ∧ (∀ a ∈ R, H a = none) ∧ s.Ok rs.length ∧ doAll rs sta0 0 items = doAll rs s i (items.drop i))
      ⟨⟨_, _, _, rfl⟩, e1, RR, sta0, hS, hfr1, sta0_ok _, rfl⟩ (fun i σ H' q => Kd.src_ex hsrc q.2.1) ?_ ?_⟩
    · rintro i v T σ H2 hx ⟨⟨v3, v4, v5, rfl⟩, e2, R2, s, hS2, hfr2, hso, hda⟩ nT
      obtain ⟨a, ha, rfl⟩ := map_get hx
      obtain ⟨it, hi1, hi2⟩ := hit.getL ha
      have hi : i < items.length := (List.getElem?_eq_some_iff.mp hi1).1
      have hdrop : items.drop i = it :: items.drop (i + 1) := by
        rw [List.drop_eq_getElem_cons hi]
        congr 1
        exact (List.getElem?_eq_some_iff.mp hi1).2
      have htake : items.take (i + 1) = items.take i ++ [it] := by
        rw [List.take_add_one, hi1]
        rfl
      have hio : it.Ok2 := hok it (List.mem_of_getElem? hi1)
      rw [hdrop] at hda
      refine ⟨T, _, rfl, st_of upd_same, rfl, _, _, rfl, _, _, rfl, rfl, ?_⟩
      have e3 : Ex H (upd H2 T (.tup [.int (i : Nat), .ref a])) := e2.trans (Ex.new nT)
      have hS3 : ShelfAt C (upd H2 T (.tup [.int (i : Nat), .ref a])) x R2 rs s (deedsOf (items.take i)) := hS2.mono (Ex.new nT)
      generalize upd H2 T (.tup [.int (i : Nat), .ref a]) = H3 at e3 hS3
      have ha3 := e3 _ _ hi2
      have hx3 : ∃ dx fs, H3 x = some (.ins C dx fs) := by
        obtain ⟨dx, r, c, wl, nl, _, h, _⟩ := hS3
        exact ⟨dx, _, h⟩
      cases it with
      | no vs =>
        have hlast : doAll rs sta0 0 items = .inl i := hda.trans (doAll_no _ _ _ _ _)
        refine q_when (b := true) ?_ (fun _ H4 e4 => x_kw (ev_var rfl) fun e H' e5 ne he => k2 i hlast e H' ((e3.trans e4).trans e5) (fresh_back (e3.trans e4) ne) he) (fun q => Bool.noConfusion q)
        rcases hio with rfl | ⟨z, rest, rfl, hz, hw, hl⟩
        · refine et_is (et_or (et_test (ev_eq (ev_lenS (ev_var rfl) ha3) ev_c rfl)) (b := true) fun q => Bool.noConfusion q) rfl
        · refine et_is (et_or (et_test (ev_eq (ev_lenS (ev_var rfl) ha3) ev_c rfl)) fun _ => et_test (ev_ne (ev_sz (hZ z hw) ev_c (ev_ixT (ev_var rfl) ev_c ha3 (atI_nat (j := 0) rfl)) ev_c) (ev_lenS (ev_var rfl) ha3) rfl)) ?_
          have : decide (V.int (szOf z) = V.int ((Item.no (V.str z :: rest)).vals.length : Int)) = false := by
            rw [dec_int]
            exact decide_eq_false hz
          rw [this]
          exact Bool.or_true _
      | ok d =>
        obtain ⟨rest, hv, hz, hw, hl⟩ := vals_word d
        have ha4 : H3 a = some (.tup (V.str d.word :: rest)) := by rw [← hv]; exact ha3
        refine q_when (b := false) ?_ (fun q => Bool.noConfusion q) (fun _ H4 e4 => ?_)
        · refine et_is (et_or (et_test (ev_eq (ev_lenS (ev_var rfl) ha4) ev_c rfl)) fun _ => et_test (ev_ne (ev_sz (hZ d.word hw) ev_c (ev_ixT (ev_var rfl) ev_c ha4 (atI_nat (j := 0) rfl)) ev_c) (ev_lenS (ev_var rfl) ha4) rfl)) ?_
          rw [dec_int, dec_int]
          rw [hv] at hz
          rw [decide_eq_true hz]
          have : decide ((((V.str d.word :: rest).length : Nat) : Int) = 0) = false := decide_eq_false (by show ¬ (((rest.length + 1 : Nat) : Int) = 0); omega)
          rw [this]
          rfl
        have E4 := e3.trans e4
        have hne : ∀ {b : Addr} {o : HO}, H b = some o → b ∉ R2 := fun {b o} h hm => by rw [hfr2 b hm] at h; cases h
        refine ⟨_, rfl, _, rfl, x, a, R2, rs, s, deedsOf (items.take i), d, rfl, e4 _ _ ha3, hio, hS3.mono e4, ⟨R, hso, ?_⟩, ⟨fun res s' hact v R' H5 hv5 f5 hS5 hR5 => ⟨⟨_, _, _, rfl⟩, fun b o h => f5.1 b o (hne h) (E4 _ _ h), R', s', ?_, fun b hb => ?_, act_ok hso hact, hda.trans (doAll_told hact)⟩, fun pl hact e H5 e5 ne he => ?_, fun hact e H5 e5 ne he => ?_, fun hact H5 e5 => ?_⟩⟩
        · have := deedsOf_len (items.take i)
          rw [List.length_take] at this
          omega
        · rw [htake, deedsOf_app]
          exact hS5
        · rcases hR5 b hb with z | z
          · exact hfr2 b z
          · exact fresh_back E4 z
        · exact ⟨true, ej, fun _ u nu => ⟨rfl, sj, x_kw (ev_var rfl) fun e2 H6 e6 ne6 he6 => k2 i (hda.trans (doAll_jar hact)) e2 H6 ((E4.trans e5).trans e6) (fresh_back (E4.trans e5) ne6) he6⟩, fun q => Bool.noConfusion q⟩
        · exact ⟨true, er, fun _ u nu => ⟨rfl, sr, x_kw (ev_var rfl) fun e2 H6 e6 ne6 he6 => k2 i (hda.trans (doAll_row hact)) e2 H6 ((E4.trans e5).trans e6) (fresh_back (E4.trans e5) ne6) he6⟩, fun q => Bool.noConfusion q⟩
        · exact ⟨true, ec, fun _ u nu => ⟨rfl, sc, x_kw (ev_var rfl) fun e2 H6 e6 ne6 he6 => k2 i (hda.trans (doAll_count hact)) e2 H6 ((E4.trans e5).trans e6) (fresh_back (E4.trans e5) ne6) he6⟩, fun q => Bool.noConfusion q⟩
    · rintro σ H2 ⟨⟨v3, v4, v5, rfl⟩, e2, R2, s, hS2, hfr2, hso, hda⟩
      rw [List.length_map, hil] at hS2 hda
      rw [List.take_length] at hS2
      rw [List.drop_length, doAll_nil] at hda
      refine s_ret (ev_var rfl) fun H3 e3 => k1 s hda x R2 H3 (e2.trans e3) nx (hS2.mono e3) hfr2 hso
end
end S8
set_option Elab.async false
set_option linter.all false
set_option maxRecDepth 100000
set_option maxHeartbeats 400000
set_option pp.maxSteps 2000
namespace S8
open PySem PySem.Spec PyProof.Rows L2 L2H HotX Evl
/-! ### the law's source of numbers: h = [mixed, cells, at] -/
def HR (H : Hp) (a c : Addr) : Prop := ∃ (m i : Int) (cs : List Int), H a = some (.lst [.int m, .ref c, .int i]) ∧ H c = some (.lst (cs.map V.int)) ∧ 0 ≤ m ∧ m < 2147483647 ∧ cs.length ≤ 63
theorem HR.ex {H H' : Hp} {a c : Addr} (h : HR H a c) (e : H' a = H a) (e2 : H' c = H c) : HR H' a c := by
  obtain ⟨m, i, cs, h1, h2, r⟩ := h
  exact ⟨m, i, cs, e.trans h1, e2.trans h2, r⟩
theorem HR.mono {H H' : Hp} {a c : Addr} (h : HR H a c) (e : Ex H H') : HR H' a c := by
  obtain ⟨m, i, cs, h1, h2, r⟩ := h
  exact ⟨m, i, cs, e _ _ h1, e _ _ h2, r⟩
theorem HR.ne {H : Hp} {a c : Addr} (h : HR H a c) : a ≠ c := by
  obtain ⟨m, i, cs, h1, h2, r⟩ := h
  intro z
  rw [z, h2] at h1
  cases cs with
  | nil => cases h1
  | cons x l =>
    cases l with
    | nil => cases h1
    | cons y l => cases h1
section
variable {σ : L2.St} {H : Hp} {ta tb : TE}
theorem ev_mul {i j : Int} (ha : Ev ta σ H (.int i)) (hb : Ev tb σ H (.int j)) (h : CMul i j) : Ev (tOp (rI CMul fun i j => .int (i * j)) ta tb) σ H (.int (i * j)) := ev_op ha hb (rv_I h)
theorem ev_mod {i j : Int} (ha : Ev ta σ H (.int i)) (hb : Ev tb σ H (.int j)) (h : j ≠ 0) : Ev (tOp (rI (fun _ j => j ≠ 0) fun i j => .int (i.fmod j)) ta tb) σ H (.int (i.fmod j)) := ev_op ha hb (rv_I h)
theorem ev_div {i j : Int} (ha : Ev ta σ H (.int i)) (hb : Ev tb σ H (.int j)) (h : CDivN i j) : Ev (tOp (rI CDivN fun i j => .int (i.fdiv j)) ta tb) σ H (.int (i.fdiv j)) := ev_op ha hb (rv_I h)
end
/-! ### mix -/
def spMix (K : PySem.W.Frag) : Sp := fun vs H Q _ => ∃ (s : Addr) (ns : List Int), vs = [.ref s, .int 23] ∧ SqL K H s (ns.map V.int) ∧ ns.length ≤ 63 ∧ ∀ a c H', H a = none → H c = none → Ex H H' → HR H' a c → Q (.ref a) H'
section
variable {P : Program} {w : World} {K : PySem.W.Frag} {mg : Str → Option Value} {base : Heap}
theorem ok_mix {f : Addr} {fd : FuncData} (F : Fun K "_law_mix" "_law_mix" sMix f fd) (B : Bt mg) : FnOk P w K mg base CX0 1 f fd pMix (spMix K) := by
  refine F.ok scMix (fun vs H Q E h => ?_) (fun cdv A outer s0 H vs Q E hr h => ?_)
  · obtain ⟨s, ns, rfl, _⟩ := h
    rfl
  · refine ⟨_, pss_cons (ps_set (i := 2) scMix.nd rfl (.inl rfl) (pv 1))
      (pss_cons (ps_for PassesOwn.never rfl (pi_list (pv 0)) (pg_name (i := 3) scMix.nd rfl (.inl rfl)) (pss_one (ps_set (i := 2) scMix.nd rfl (.inl rfl) (pe_op op_modN (pe_op op_add (pe_op op_add (pe_op op_mul (pv 2) pe_int) (pe_op op_modN (pv 3) pe_int)) pe_int) pe_int))))
      (pss_one (ps_ret (pe_lst (pa_cons (pv 2) (pa_cons (pe_callTy call_list_of (by rfl) B.lst (by decide +kernel) (pa_cons (pv 0) pa_nil)) (pa_cons pe_int pa_nil))))))), ?_⟩
    obtain ⟨s, ns, rfl, hs, hl, k⟩ := h
    refine q_asg (ev_var rfl) fun H1 e1 => ?_
    refine q_forLn (ev_var rfl) (ex_l e1 hs) (fun i σ' H' => Ex H H' ∧ ∃ (m : Int) (v3 : Option V), σ' = [some (.ref s), some (.int 23), some (.int m), v3] ∧ 0 ≤ m ∧ m < 2147483647) (fun H2 e2 => ⟨e1.trans e2, 23, _, rfl, by decide, by decide⟩) (fun i σ' H' _ q => ex_l q.1 hs) ?_ ?_
    · rintro i x σ' H' hx ⟨e, m, v3, rfl, h0, h1⟩
      obtain ⟨z, _, rfl⟩ := map_get hx
      refine s_asg (ev_mod (ev_I0 (ev_I0 (ev_mul (ev_var rfl) ev_c (.inl ⟨by omega, by omega⟩)) (ev_mod (ev_var rfl) ev_c (by decide))) ev_c) ev_c (by decide)) fun H2 e2 => ⟨e.trans e2, _, _, rfl, ?_, ?_⟩
      · exact Int.fmod_nonneg_of_pos _ (by decide)
      · exact Int.fmod_lt_of_pos _ (by decide)
    · rintro σ' H' ⟨e, m, v3, rfl, h0, h1⟩
      refine ⟨_, rfl, _, rfl, s, ns.map V.int, rfl, .inl (ex_l e hs), fun c nc => ⟨by show 3 ≤ sizeLine; decide, fun a na => ?_⟩⟩
      have na' : upd H' c (.lst (ns.map V.int)) a = none := na
      have e2 : Ex H' (upd H' c (.lst (ns.map V.int))) := Ex.new nc
      exact k a c _ (fresh_back (e.trans e2) na') (fresh_back e nc) (e.trans (e2.trans (Ex.new na'))) ⟨m, 0, ns, upd_same, Ex.new na' _ _ upd_same, h0, h1, hl⟩
end
end S8
set_option Elab.async false
set_option linter.all false
set_option maxRecDepth 100000
set_option maxHeartbeats 400000
set_option pp.maxSteps 2000
namespace S8
open PySem PySem.Spec PyProof.Rows L2 L2H HotX Evl
/-! ### next -/
def spNext : Sp := fun vs H Q _ => ∃ (a c : Addr) (many : Int), vs = [.ref a, .int many] ∧ HR H a c ∧ 0 < many ∧ many ≤ 1000000 ∧ ∀ (r : Nat) H', (r : Int) < many → Fr [a, c] H H' → HR H' a c → Q (iv r) H'
section
variable {P : Program} {w : World} {K : PySem.W.Frag} {mg : Str → Option Value} {base : Heap}
theorem ok_next {f : Addr} {fd : FuncData} (F : Fun K "_law_next" "_law_next" sNext f fd) (B : Bt mg) : FnOk P w K mg base CX0 1 f fd pNext spNext := by
  refine F.ok scNext (fun vs H Q E h => ?_) (fun cdv A outer s0 H vs Q E hr h => ?_)
  · obtain ⟨a, c, many, rfl, _⟩ := h
    rfl
  · refine ⟨_, pss_cons (ps_set (i := 2) scNext.nd rfl (.inl rfl) (pe_ix ix_list (pe_op op_cat (pe_ix ix_list (pv 0) pe_int (fun _ _ => rfl)) (pe_lst (pa_cons pe_int pa_nil))) (pe_op op_modN (pe_ix ix_list (pv 0) pe_int (fun _ _ => rfl)) (pe_callB (call_max2 rfl) (by rfl) B.max (by decide +kernel) (pa_cons pe_int (pa_cons (pe_callB call_len_seq (by rfl) B.len boot_len (pa_cons (pe_ix ix_list (pv 0) pe_int (fun _ _ => rfl)) pa_nil)) pa_nil)))) (fun _ _ => rfl)))
      (pss_cons (ps_if (pt_cmpR op_ge (pv 2) (pe_op op_pow pe_int pe_int) (nomark _))
        (pss_cons (ps_asg (pe_op op_fdivN (pv 2) (pv 1)) (pg_sub (pe_ix ix_list (pv 0) pe_int (fun _ _ => rfl)) (pe_op op_modN (pe_ix ix_list (pv 0) pe_int (fun _ _ => rfl)) (pe_callB call_len_seq (by rfl) B.len boot_len (pa_cons (pe_ix ix_list (pv 0) pe_int (fun _ _ => rfl)) pa_nil))) set_list))
        (pss_one (ps_ret (pe_op op_modN (pv 2) (pv 1))))) pss_nil)
      (pss_cons (ps_asg (pe_op op_modN (pe_op op_add (pe_op op_add (pe_op op_mul (pe_ix ix_list (pv 0) pe_int (fun _ _ => rfl)) pe_int) (pe_op op_mul (pv 2) pe_int)) pe_int) pe_int) (pg_sub (pv 0) pe_int set_list))
      (pss_cons (ps_asg (pe_op op_add (pe_ix ix_list (pv 0) pe_int (fun _ _ => rfl)) pe_int) (pg_sub (pv 0) pe_int set_list))
      (pss_one (ps_ret (pe_op op_modN (pe_op op_fdivN (pe_ix ix_list (pv 0) pe_int (fun _ _ => rfl)) pe_int) (pv 1))))))), ?_⟩
    obtain ⟨a, c, many, rfl, hR, hm0, hm1, k⟩ := h
    have hac := hR.ne
    obtain ⟨m, i, cs, ha, hc, h0, h1, hl⟩ := hR
    have hmn : many ≠ 0 := by omega
    -- the cell's place
    obtain ⟨j, hj, hj2⟩ : ∃ j : Nat, i.fmod (if ((cs.map V.int).length : Int) > 1 then ((cs.map V.int).length : Int) else 1) = (j : Int) ∧ (j : Int) < (if ((cs.map V.int).length : Int) > 1 then ((cs.map V.int).length : Int) else 1) := by
      have hp : (0 : Int) < (if ((cs.map V.int).length : Int) > 1 then ((cs.map V.int).length : Int) else 1) := by split <;> omega
      have q1 := Int.fmod_nonneg_of_pos i hp
      have q2 := Int.fmod_lt_of_pos i hp
      exact ⟨(i.fmod (if ((cs.map V.int).length : Int) > 1 then ((cs.map V.int).length : Int) else 1)).toNat, by omega, by omega⟩
    rw [List.length_map] at hj hj2
    have hj3 : j < (cs ++ [0]).length := by
      rw [List.length_append]
      show j < cs.length + 1
      split at hj2 <;> omega
    have h1i : ∀ {H1 : Hp} {σ : L2.St}, Ex H H1 → σ[0]? = some (some (.ref a)) → Ev (tOp (rIxL K) (tVar 0) (tC (.int 1))) σ H1 (.ref c) := fun e s => ev_op (ev_var s) ev_c (rv_ixL (sq_of (e _ _ ha)) (by rfl))
    have h2i : ∀ {H1 : Hp} {σ : L2.St}, Ex H H1 → σ[0]? = some (some (.ref a)) → Ev (tOp (rIxL K) (tVar 0) (tC (.int 2))) σ H1 (.int i) := fun e s => ev_op (ev_var s) ev_c (rv_ixL (sq_of (e _ _ ha)) (by rfl))
    have h0i : ∀ {H1 : Hp} {σ : L2.St}, Ex H H1 → σ[0]? = some (some (.ref a)) → Ev (tOp (rIxL K) (tVar 0) (tC (.int 0))) σ H1 (.int m) := fun e s => ev_op (ev_var s) ev_c (rv_ixL (sq_of (e _ _ ha)) (by rfl))
    have ecat : EvL (tOp rCat (tOp (rIxL K) (tVar 0) (tC (.int 1))) (tLst (tCons (tC (.int 0)) tNil))) (L2.start nNext [.ref a, .int many]) H ((cs ++ [0]).map V.int) := fun H1 e Q q =>
      h1i e rfl H1 (Ex.refl H1) _ fun H2 e2 => ⟨by decide, fun l nl => ⟨c, l, cs.map V.int, [.int 0], rfl, rfl, Ex.new nl _ _ (e2 _ _ (e _ _ hc)), upd_same, by
        rw [List.length_map]
        show cs.length + 1 ≤ sizeLine
        exact sz_of (by omega), fun p np => q p _ (fresh_back (e2.trans (Ex.new (o := .lst [.int 0]) nl)) np) ((e2.trans (Ex.new nl)).trans (Ex.new np)) (by rw [upd_same, List.map_append]; rfl)⟩⟩
    have hcell : atI ((cs ++ [0]).map V.int) (j : Int) = some (.int ((cs ++ [0])[j])) := atI_nat (by rw [List.getElem?_map, List.getElem?_eq_getElem hj3]; rfl)
    generalize hcl : (cs ++ [0])[j] = cell at hcell
    refine q_asg (v := .int cell) (ev_opL1 ecat (fun H1 e => ev_mod (h2i e rfl) (ev_max2 ev_c (ev_len (h1i e rfl) (sq_of (e _ _ hc)))) (by split <;> omega)) fun p H1 hp e => ?_) fun H2 e2 => ?_
    · rw [show i.fmod (if ((cs.map V.int).length : Int) > 1 then ((cs.map V.int).length : Int) else 1) = (j : Int) by rw [List.length_map]; exact hj]
      exact rv_ixL (sq_of hp) hcell
    have ha2 := e2 _ _ ha
    have hc2 := e2 _ _ hc
    refine q_when (b := decide (cell ≥ 10 ^ 18)) (et_test (ev_I0 (ev_var rfl) (ev_op ev_c ev_c (rv_I (C := CPow) (g := fun i j => .int (i ^ j.toNat)) ⟨by decide, by decide, by decide⟩)))) (fun hb H3 e3 => ?_) (fun hb H3 e3 => ?_)
    · have hb' := of_decide_eq_true hb
      have hL : 0 < cs.length := by
        refine Nat.pos_of_ne_zero fun z => ?_
        have h0 : cs = [] := List.eq_nil_of_length_eq_zero z
        subst h0
        have hj0 : j = 0 := by
          have : (j : Int) < 1 := hj2
          omega
        subst hj0
        rw [← hcl] at hb'
        exact absurd (show (0 : Int) ≥ 10 ^ 18 from hb') (by decide)
      have hmx : (if (cs.length : Int) > 1 then (cs.length : Int) else 1) = (cs.length : Int) := by split <;> omega
      rw [hmx] at hj hj2
      have hjl : j < cs.length := by omega
      refine q_setL (l := c) (xs := cs.map V.int) (j := j) (v := .int (cell.fdiv many)) (e3 _ _ hc2) (ev_div (ev_var rfl) (ev_var rfl) ⟨hmn, by omega⟩) (h1i (e2.trans e3) rfl) (ev_is (ev_mod (h2i (e2.trans e3) rfl) (ev_len (h1i (e2.trans e3) rfl) (sq_of (e3 _ _ hc2))) (by rw [List.length_map]; omega)) (by rw [List.length_map, hj])) (by rw [List.length_map]; exact hjl) fun H4 e4 => ?_
      have f4 := (Fr.of ((e2.trans e3).trans e4)).upd (R := [a, c]) (a := c) (o := .lst ((cs.map V.int).set j (.int (cell.fdiv many)))) (.inl (by simp)) (fun xs h => by rw [hc] at h; cases h)
      have hr4 : HR (upd H4 c (.lst ((cs.map V.int).set j (.int (cell.fdiv many))))) a c := ⟨m, i, cs.set j (cell.fdiv many), by rw [upd_ne hac]; exact e4 _ _ (e3 _ _ ha2), by rw [upd_same, List.map_set], h0, h1, by rw [List.length_set]; exact hl⟩
      refine s_ret (ev_mod (ev_var rfl) (ev_var rfl) hmn) fun H5 e5 => ?_
      have q1 := Int.fmod_nonneg_of_pos cell hm0
      have q2 := Int.fmod_lt_of_pos cell hm0
      have := k (cell.fmod many).toNat H5 (by omega) (f4.trans (Fr.of e5)) (hr4.mono e5)
      unfold iv at this
      rw [Int.toNat_of_nonneg q1] at this
      exact this
    · have ha3 := e3 _ _ ha2
      refine q_setL (l := a) (xs := [.int m, .ref c, .int i]) (j := 0) (v := .int ((m * 48271 + cell * 69621 + 11).fmod 2147483647)) ha3 (ev_mod (ev_I0 (ev_I0 (ev_mul (h0i (e2.trans e3) rfl) ev_c (.inl ⟨by omega, by omega⟩)) (ev_mul (ev_var rfl) ev_c (.inr ⟨by decide, by decide⟩))) ev_c) ev_c (by decide)) (ev_var rfl) ev_c (by show 0 < 3; decide) fun H4 e4 => ?_
      have q1 := Int.fmod_nonneg_of_pos (m * 48271 + cell * 69621 + 11) (show (0 : Int) < 2147483647 by decide)
      have q2 := Int.fmod_lt_of_pos (m * 48271 + cell * 69621 + 11) (show (0 : Int) < 2147483647 by decide)
      generalize (m * 48271 + cell * 69621 + 11).fmod 2147483647 = m2 at q1 q2
      have f4 := (Fr.of ((e2.trans e3).trans e4)).upd (R := [a, c]) (a := a) (o := .lst [.int m2, .ref c, .int i]) (.inl (by simp)) (fun xs h => by rw [ha] at h; cases h)
      have ha4 : upd H4 a (.lst [.int m2, .ref c, .int i]) a = some (.lst [.int m2, .ref c, .int i]) := upd_same
      have hc4 : upd H4 a (.lst [.int m2, .ref c, .int i]) c = some (.lst (cs.map V.int)) := by rw [upd_ne (Ne.symm hac)]; exact e4 _ _ (e3 _ _ hc2)
      show tSeq _ _ _ _ (upd H4 a (.lst [.int m2, .ref c, .int i]))
      generalize upd H4 a (.lst [.int m2, .ref c, .int i]) = H5 at f4 ha4 hc4
      refine q_setL (l := a) (xs := [.int m2, .ref c, .int i]) (j := 2) (v := .int (i + 1)) ha4 (ev_I0 (ev_op (ev_var rfl) ev_c (rv_ixL (sq_of ha4) (by rfl))) ev_c) (ev_var rfl) ev_c (by show 2 < 3; decide) fun H6 e6 => ?_
      have f6 := (f4.trans (Fr.of e6)).upd (R := [a, c]) (a := a) (o := .lst [.int m2, .ref c, .int (i + 1)]) (.inl (by simp)) (fun xs h => by rw [ha] at h; cases h)
      have ha6 : upd H6 a (.lst [.int m2, .ref c, .int (i + 1)]) a = some (.lst [.int m2, .ref c, .int (i + 1)]) := upd_same
      have hc6 : upd H6 a (.lst [.int m2, .ref c, .int (i + 1)]) c = some (.lst (cs.map V.int)) := by rw [upd_ne (Ne.symm hac)]; exact e6 _ _ hc4
      show tRet _ _ _ (upd H6 a (.lst [.int m2, .ref c, .int (i + 1)]))
      generalize upd H6 a (.lst [.int m2, .ref c, .int (i + 1)]) = H7 at f6 ha6 hc6
      refine s_ret (ev_mod (ev_div (ev_op (ev_var rfl) ev_c (rv_ixL (sq_of ha6) (by rfl))) ev_c ⟨by decide, by decide⟩) (ev_var rfl) hmn) fun H8 e8 => ?_
      have r1 := Int.fmod_nonneg_of_pos (m2.fdiv 7) hm0
      have r2 := Int.fmod_lt_of_pos (m2.fdiv 7) hm0
      have := k ((m2.fdiv 7).fmod many).toNat H8 (by omega) (f6.trans (Fr.of e8)) (HR.mono ⟨m2, i + 1, cs, ha6, hc6, q1, q2, hl⟩ e8)
      unfold iv at this
      rw [Int.toNat_of_nonneg r1] at this
      exact this
end
end S8
set_option Elab.async false
set_option linter.all false
set_option maxRecDepth 100000
set_option maxHeartbeats 400000
set_option pp.maxSteps 2000
namespace S8
open PySem PySem.Spec PyProof.Rows L2 L2H HotX Evl
theorem el_if {σ : L2.St} {H : Hp} {t : TT} {ta tb : TE} {xs : List V} {b : Bool} (h : EvT t σ H b) (h1 : b = true → EvL ta σ H xs) (h2 : b = false → EvL tb σ H xs) : EvL (tIf t ta tb) σ H xs := fun H1 e Q q => h H1 e _ fun H2 e2 => by
  cases b with
  | true =>
    show ta σ H2 Q
    exact h1 rfl H2 (e.trans e2) Q fun p H3 np e3 h3 => q p H3 (fresh_back e2 np) (e2.trans e3) h3
  | false =>
    show tb σ H2 Q
    exact h2 rfl H2 (e.trans e2) Q fun p H3 np e3 h3 => q p H3 (fresh_back e2 np) (e2.trans e3) h3
section
variable {P : Program} {w : World} {K : PySem.W.Frag} {mg : Str → Option Value} {base : Heap}
/-! ### the law's beside -/
theorem ok_lbeside {f : Addr} {fd : FuncData} (F : Fun K "_law_beside" "_law_beside" sLBeside f fd) (B : Bt mg) : FnOk P w K mg base CX0 1 f fd pLBeside spBeside := by
  refine F.ok scLBeside (fun vs H Q E h => ?_) (fun cdv A outer s H vs Q E hr h => ?_)
  · obtain ⟨row, bars, b, p, rfl, _⟩ := h
    rfl
  · refine ⟨_, pss_cons (ps_set (i := 3) scLBeside.nd rfl (.inl rfl) (pe_ifExp (PW.pt (pw_and (pt_cmpR op_gt (pv 2) pe_int (nomark _)) (pw_and1 (pt_cmpR op_notIn_seq (pe_op op_sub (pv 2) pe_int) (pv 1) (by rfl)))))
        (pe_lst (pa_cons (pe_ix ix_str (pv 0) (pe_op op_sub (pv 2) pe_int) (fun _ _ => rfl)) pa_nil)) (pe_lst pa_nil)))
      (pss_cut (ps_if (PW.pt (pw_and (pt_cmpR op_lt (pe_op op_add (pv 2) pe_int) (pe_callB call_len_str (by rfl) B.len boot_len (pa_cons (pv 0) pa_nil)) (nomark _)) (pw_and1 (pt_cmpR op_notIn_seq (pv 2) (pv 1) (by rfl)))))
        (pss_one (ps_expr (pe_bm PySem.F.plainAttrs_list PySem.F.slot_list_append PySem.F.type_list_append mt_append (pv 3) (pa_cons (pe_ix ix_str (pv 0) (pe_op op_add (pv 2) pe_int) (fun _ _ => rfl)) pa_nil)))) pss_nil)
      (pss_one (ps_ret (pv 3)))), ?_⟩
    obtain ⟨row, bars, b, p, rfl, hb, hp, hz, k⟩ := h
    have hzs : (txt row).length ≤ sizeLine := by rw [len_txt]; exact sz_of (by omega)
    have eb : (decide ((0 : Int) < (p : Int)) && !inV (.int ((p : Int) - 1)) (bars.map iv)) = decide (0 < p ∧ p - 1 ∉ bars) := by
      by_cases h0 : 0 < p
      · rw [decide_eq_true (show (0 : Int) < (p : Int) by omega), show (p : Int) - 1 = ((p - 1 : Nat) : Int) by omega, inV_nat, Bool.true_and]
        by_cases h2 : p - 1 ∈ bars
        · rw [decide_eq_true h2, decide_eq_false (fun q => q.2 h2)]
          rfl
        · rw [decide_eq_false h2, decide_eq_true ⟨h0, h2⟩]
          rfl
      · rw [decide_eq_false (show ¬ (0 : Int) < (p : Int) by omega), decide_eq_false (fun q => h0 q.1)]
        rfl
    refine q_asgL (xs := (if 0 < p ∧ p - 1 ∉ bars then [row.getD (p - 1) 0] else []).map ch) (el_if (et_is (et_and (et_test (ev_I0 (ev_var rfl) ev_c)) (fun h0 => et_test (ev_op (ev_I0 (ev_var rfl) ev_c) (ev_var rfl) (rv_niT (st_of hb) rfl flat_nats)))) eb) (fun q => ?_) (fun q => ?_)) fun l H2 nl e2 h2 => ?_
    · have q' := of_decide_eq_true q
      rw [if_pos q']
      exact el_lst (ea_cons (ev_ixS (i := p - 1) (ev_var rfl) (ev_is (ev_I0 (ev_var rfl) ev_c) (by show V.int ((p : Int) - 1) = V.int ((p - 1 : Nat) : Int); rw [show (p : Int) - 1 = ((p - 1 : Nat) : Int) by omega])) (by omega) (by omega)) ea_nil) (by show 1 ≤ 100000; decide)
    · rw [if_neg (of_decide_eq_false q)]
      exact el_lst ea_nil (by show 0 ≤ 100000; decide)
    refine q_cut (M := fun σ' H' => σ' = [some (.str (txt row)), some (.ref b), some (iv p), some (.ref l)] ∧ Ex H H' ∧ H' l = some (.lst ((beside row bars p).map ch))) ?_ ?_
    · have eb : (decide ((p : Int) + 1 < ((txt row).length : Int)) && !inV (.int (p : Int)) (bars.map iv)) = decide (p + 1 < row.length ∧ p ∉ bars) := by
        rw [len_txt, inV_nat]
        by_cases h0 : p + 1 < row.length
        · rw [decide_eq_true (show (p : Int) + 1 < (row.length : Int) by omega), Bool.true_and]
          by_cases h2 : p ∈ bars
          · rw [decide_eq_true h2, decide_eq_false (fun q => q.2 h2)]
            rfl
          · rw [decide_eq_false h2, decide_eq_true ⟨h0, h2⟩]
            rfl
        · rw [decide_eq_false (show ¬ (p : Int) + 1 < (row.length : Int) by omega), Bool.false_and]
          exact (decide_eq_false (fun q => h0 q.1)).symm
      refine s_when (et_is (et_and (et_test (ev_I0 (ev_I0 (ev_var rfl) ev_c) (ev_lenZ (ev_var rfl) hzs))) (fun h0 => et_test (ev_op (ev_var rfl) (ev_var rfl) (rv_niT (st_of (e2 _ _ hb)) rfl flat_nats)))) eb) (fun q H3 e3 => ?_) (fun q H3 e3 => ?_)
      · have q' := of_decide_eq_true q
        refine s_app (l := l) (e3 _ _ h2) (ev_var rfl) (ev_ixS (i := p + 1) (ev_var rfl) (ev_is (ev_I0 (ev_var rfl) ev_c) rfl) (by omega) (by omega)) (by split <;> simp) fun H4 e4 => ⟨rfl, Ex.mut ((e2.trans e3).trans e4) nl, ?_⟩
        unfold beside
        rw [if_pos q', List.map_append]
        exact upd_same
      · have q' := of_decide_eq_false q
        refine ⟨rfl, e2.trans e3, ?_⟩
        unfold beside
        rw [if_neg q', List.append_nil]
        exact e3 _ _ h2
    · rintro σ' H3 ⟨rfl, e3, h3⟩
      exact s_ret (ev_var rfl) fun H4 e4 => k.go (Ex.refl H) nl (e3.trans e4) (e4 _ _ h3)
end
end S8
set_option Elab.async false
set_option linter.all false
set_option maxRecDepth 100000
set_option maxHeartbeats 400000
set_option pp.maxSteps 2000
namespace S8
open PySem PySem.Spec PyProof.Rows L2 L2H HotX Evl
/-! ### the law's beat, in plain Lean -/
def tto : List Nat → Str
  | [] => ""
  | l :: _ => ⟨#[l]⟩
theorem tto_nil {l : List Nat} : decide (tto l = "") = l.isEmpty := by
  cases l with
  | nil => rfl
  | cons a l =>
    refine decide_eq_false fun z => ?_
    have z2 : (#[a] : Array Nat) = #[] := congrArg Str.cps z
    simp at z2
theorem tto_app {l : List Nat} {a : Nat} : tto (l ++ [a]) = if l.isEmpty = true then ⟨#[a]⟩ else tto l := by
  cases l with
  | nil => rfl
  | cons b l => rfl
theorem ripe_take {rs : List Ru} {c : List Int} {j : Nat} {r : Ru} {o : Int} (hr : rs[j]? = some r) (ho : c[j]? = some o) : ripe (rs.take (j + 1)) (c.take (j + 1)) = ripe (rs.take j) (c.take j) ++ if o = r.beats then [r.later] else [] := by
  have h1 : rs.take (j + 1) = rs.take j ++ [r] := by rw [List.take_add_one, hr]; rfl
  have h2 : c.take (j + 1) = c.take j ++ [o] := by rw [List.take_add_one, ho]; rfl
  have hj1 : j < rs.length := (List.getElem?_eq_some_iff.mp hr).1
  have hj2 : j < c.length := (List.getElem?_eq_some_iff.mp ho).1
  unfold ripe
  rw [h1, h2, List.zip_append (by rw [List.length_take, List.length_take]; omega), List.filter_append, List.map_append]
  congr 1
  by_cases h : o = r.beats
  · rw [if_pos h]
    show List.map _ (List.filter _ [(r, o)]) = _
    rw [List.filter_cons, if_pos (by simpa using h)]
    rfl
  · rw [if_neg h]
    show List.map _ (List.filter _ [(r, o)]) = _
    rw [List.filter_cons, if_neg (by simpa using h)]
    rfl
theorem turn1_fst {rs : List Ru} {k : Nat} {c : List Int} : txt [(turn1 rs k c).1] = if (ripe rs c).isEmpty = true then txt [k] else tto (ripe rs c) := by
  unfold turn1
  cases ripe rs c with
  | nil => rfl
  | cons a l => rfl
theorem turn1_snd {rs : List Ru} {k : Nat} {c : List Int} : (turn1 rs k c).2 = if (ripe rs c).isEmpty = true then c else List.replicate rs.length 0 := by
  unfold turn1
  cases ripe rs c with
  | nil => rfl
  | cons a l => rfl
def ListsAt (H : Hp) (as : List Addr) (cs : List (List Int)) : Prop := Pr (fun a x => H a = some (.lst (iLs x))) as cs
def spLBeat : Sp := fun vs H Q _ => ∃ (row bars : List Nat) (rs : List Ru) (cs : List (List Int)) (wo b r c : Addr) (z : V) (cas : List Addr), vs = [.ref wo, .str (txt row), .ref c] ∧ H wo = some (.tup [z, .ref b, .ref r]) ∧ H b = some (.tup (bars.map iv)) ∧ RulesAt H r rs ∧ RsOk rs ∧ H c = some (.lst (cas.map V.ref)) ∧ ListsAt H cas cs ∧ BeatOk rs row cs ∧
  ∀ p t as H', H p = none → Ex H H' → H' p = some (.tup [.str (txt (beatR row bars rs cs)), .ref t]) → H t = none → (∀ a ∈ as, H a = none) → H' t = some (.lst (as.map V.ref)) → ListsAt H' as (beatC row bars rs cs) → Q (.ref p) H'
section
variable {P : Program} {w : World} {K : PySem.W.Frag} {mg : Str → Option Value} {base : Heap}
theorem ok_lbeat {f f1 : Addr} {fd fd1 : FuncData} (F : Fun K "_law_beat" "_law_beat" sLBeat f fd) (B : Bt mg) (g1 : mg "_law_beside" = some (.ref f1)) (k1 : PySem.W.keepIn K (.ref f1) = true) (b1 : Binds K fd1 pLBeside []) (G1 : FnOk P w K mg base CX0 1 f1 fd1 pLBeside spBeside) :
    FnOk P w K mg base CX0 2 f fd pLBeat spLBeat := by
  refine F.ok scLBeat (fun vs H Q E h => ?_) (fun cdv A outer s0 H vs Q E hr h => ?_)
  · obtain ⟨row, bars, rs, cs, wo, b, r, c, z, cas, rfl, _⟩ := h
    rfl
  · refine ⟨_, pss_cons (ps_par (i := 3) (j := 4) rfl scLBeat.nd rfl rfl (by decide) rfl rfl (pa_cons pe_str (pa_cons (pe_lst pa_nil) pa_nil)) (by rfl))
      (pss_cons (ps_for PassesOwn.never rfl (pi_range1 (by rfl) B.rng (pa_cons (pe_callB call_len_str (by rfl) B.len boot_len (pa_cons (pv 1) pa_nil)) pa_nil)) (pg_name (i := 5) scLBeat.nd rfl (.inl rfl))
        (pss_cons (ps_par3 (i := 6) (j := 7) (l := 8) rfl scLBeat.nd rfl rfl rfl (by decide) (by decide) (by decide) rfl rfl rfl (pa_cons (pe_call G1 hr (by rfl) g1 k1 b1 .nil pass0 (pa_cons (pv 1) (pa_cons (pe_ix ix_tup (pv 0) pe_int (fun _ _ => rfl)) (pa_cons (pv 5) pa_nil)))) (pa_cons (pe_lst pa_nil) (pa_cons pe_str pa_nil))) (by rfl))
        (pss_cons (ps_for PassesOwn.never rfl (pi_range1 (by rfl) B.rng (pa_cons (pe_callB call_len_seq (by rfl) B.len boot_len (pa_cons (pe_ix ix_tup (pv 0) pe_int (fun _ _ => rfl)) pa_nil)) pa_nil)) (pg_name (i := 9) scLBeat.nd rfl (.inl rfl))
          (pss_cons (ps_asg (pe_ix ix_tup (pe_ix ix_tup (pv 0) pe_int (fun _ _ => rfl)) (pv 9) (fun _ _ => rfl)) (pg_tup (by rfl) (pgs_cons (pg_name (i := 10) scLBeat.nd rfl (.inl rfl)) (pgs_cons (pg_name (i := 11) scLBeat.nd rfl (.inl rfl)) (pgs_cons (pg_name (i := 12) scLBeat.nd rfl (.inl rfl)) (pgs_cons (pg_name (i := 13) scLBeat.nd rfl (.inl rfl)) (pgs_cons (pg_name (i := 14) scLBeat.nd rfl (.inl rfl)) pgs_nil)))))))
          (pss_cons (ps_set (i := 15) scLBeat.nd rfl (.inl rfl) (pe_and (pe_cmpR op_eq (pe_ix ix_str (pv 1) (pv 5) (fun _ _ => rfl)) (pv 10) (nomark _))
            (pe_one (pe_cmpR op_ge (pe_bm PySem.F.plainAttrs_list PySem.F.slot_list_count PySem.F.type_list_count mt_countF (pv 6) (pa_cons (pv 11) pa_nil)) (pv 12) (nomark _)))))
          (pss_cons (ps_expr (pe_bm PySem.F.plainAttrs_list PySem.F.slot_list_append PySem.F.type_list_append mt_append (pv 7) (pa_cons (pe_ifExp (pt_val (pv 15)) (pe_callB (call_min2 rfl) (by rfl) B.min (by decide +kernel) (pa_cons (pv 13) (pa_cons (pe_op op_add (pe_ix ix_list (pe_ix ix_list (pv 2) (pv 5) (fun _ _ => rfl)) (pv 9) (fun _ _ => rfl)) pe_int) pa_nil))) pe_int) pa_nil)))
          (pss_one (ps_if (PW.pt (pw_and (pt_cmpR op_eq (pe_ix ix_list (pv 7) (pv 9) (fun _ _ => rfl)) (pv 13) (nomark _)) (pw_and1 (pt_cmpR op_eq (pv 8) pe_str (nomark _)))))
            (pss_one (ps_set (i := 8) scLBeat.nd rfl (.inl rfl) (pv 14))) pss_nil))))))
        (pss_cons (ps_set (i := 3) scLBeat.nd rfl (.inl rfl) (pe_op op_add_str (pv 3) (pe_ifExp (pt_cmpR op_ne (pv 8) pe_str (nomark _)) (pv 8) (pe_ix ix_str (pv 1) (pv 5) (fun _ _ => rfl)))))
        (pss_one (ps_expr (pe_bm PySem.F.plainAttrs_list PySem.F.slot_list_append PySem.F.type_list_append mt_append (pv 4) (pa_cons (pe_ifExp (pt_cmpR op_eq (pv 8) pe_str (nomark _)) (pv 7) (pe_op op_rep (pe_lst (pa_cons pe_int pa_nil)) (pe_callB call_len_seq (by rfl) B.len boot_len (pa_cons (pv 7) pa_nil)))) pa_nil))))))))
      (pss_one (ps_ret (pe_tup (pa_cons (pv 3) (pa_cons (pv 4) pa_nil)))))), ?_⟩
    obtain ⟨row, bars, rs, cs, wo, b, r, c, z, cas, rfl, hw, hb, ⟨ras, hra, hrp⟩, R, hc, hcp, O, k⟩ := h
    have hz := O.z
    have hrl := hrp.length
    have hcl := hcp.length
    have hr4 := R.1
    have hzs : (txt row).length ≤ sizeLine := by rw [len_txt]; exact sz_of (by omega)
    refine ⟨by decide, fun fl nf => ⟨_, _, rfl, ?_⟩⟩
    have e1 : Ex H (upd H fl (.lst [])) := Ex.new nf
    have hf1 : upd H fl (.lst []) fl = some (.lst []) := upd_same
    show tSeq _ _ _ _ (upd H fl (.lst []))
    generalize upd H fl (.lst []) = H1 at e1 hf1
    refine q_forR1 (n := (row.length : Int)) (ea_cons (ev_is (ev_lenZ (ev_var rfl) hzs) (by rw [len_txt])) ea_nil) ⟨by omega, by omega⟩ (fun i σ' H' => (∃ v5 v6 v7 v8 v9 v10 v11 v12 v13 v14 v15, σ' = [some (.ref wo), some (.str (txt row)), some (.ref c), some (.str (txt ((List.range i).map fun p => (turn1 rs (row.getD p 0) (cntAt row bars rs cs p)).1))), some (.ref fl), v5, v6, v7, v8, v9, v10, v11, v12, v13, v14, v15]) ∧ Ex H H' ∧
      ∃ as : List Addr, H' fl = some (.lst (as.map V.ref)) ∧ (∀ a ∈ as, H a = none ∧ a ≠ fl) ∧ ListsAt H' as ((List.range i).map fun p => (turn1 rs (row.getD p 0) (cntAt row bars rs cs p)).2)) (fun H2 e2 => ⟨⟨_, _, _, _, _, _, _, _, _, _, _, rfl⟩, e1.trans e2, [], e2 _ _ hf1, (fun a h => nomatch h), trivial⟩) ?_ ?_
    · rintro i σ' H2 hi ⟨⟨v5, v6, v7, v8, v9, v10, v11, v12, v13, v14, v15, rfl⟩, e2, as, hf2, has, hp2⟩
      have hi' : i < row.length := by omega
      refine ⟨_, rfl, _, rfl, _, _, _, _, rfl, rfl, st_of (e2 _ _ hw), (by rfl : atI [z, V.ref b, V.ref r] 1 = some (.ref b)), _, rfl, row, bars, b, i, rfl, e2 _ _ hb, hi', hz, fun nr H4 nnr e4 h4 => ⟨by decide, fun nw nnw => ⟨_, _, _, rfl, ?_⟩⟩⟩
      have E4 := e2.trans e4
      have hnw5 : upd H4 nw (.lst []) nw = some (.lst []) := upd_same
      have e5 : Ex H4 (upd H4 nw (.lst [])) := Ex.new nnw
      show tSeq _ _ _ _ (upd H4 nw (.lst []))
      generalize upd H4 nw (.lst []) = H5 at hnw5 e5
      obtain ⟨ca, hca2, hcx⟩ := hcp.getR (show cs[i]? = some (cs.getD i []) by rw [List.getD_eq_getElem?_getD, List.getElem?_eq_getElem (by rw [O.c]; exact hi')]; rfl)
      have hcxl : (cs.getD i []).length = rs.length := O.e _ (by rw [List.getD_eq_getElem?_getD, List.getElem?_eq_getElem (by rw [O.c]; exact hi')]; exact List.getElem_mem _)
      have hcl5 : (cntAt row bars rs cs i).length = rs.length := cntRow_len hcxl
      have hixc : atI (cas.map V.ref) ((i : Nat) : Int) = some (.ref ca) := atI_nat (by rw [List.getElem?_map, hca2]; rfl)
      have hixR : ∀ {H1 : Hp} {σ : L2.St}, Ex H4 H1 → σ[0]? = some (some (.ref wo)) → Ev (tOp (rIxT K) (tVar 0) (tC (.int 2))) σ H1 (.ref r) := fun e s => ev_ixT (ev_var s) ev_c (e _ _ (E4 _ _ hw)) (by rfl)
      refine q_forR1 (n := (rs.length : Int)) (ea_cons (ev_is (ev_lenS (hixR e5 rfl) (e5 _ _ (E4 _ _ hra))) (by rw [List.length_map, hrl])) ea_nil) ⟨by omega, by omega⟩
        (fun j σ' H' => (∃ t8 : Str, t8 = tto (ripe (rs.take j) ((cntAt row bars rs cs i).take j)) ∧ ∃ v9 v10 v11 v12 v13 v14 v15, σ' = [some (.ref wo), some (.str (txt row)), some (.ref c), some (.str (txt ((List.range i).map fun p => (turn1 rs (row.getD p 0) (cntAt row bars rs cs p)).1))), some (.ref fl), some (iv i), some (.ref nr), some (.ref nw), some (.str t8), v9, v10, v11, v12, v13, v14, v15]) ∧ Ex H4 H' ∧ H' nw = some (.lst (iLs ((cntAt row bars rs cs i).take j))))
        (fun H6 e6 => ⟨⟨_, rfl, _, _, _, _, _, _, _, rfl⟩, e5.trans e6, e6 _ _ hnw5⟩) ?_ ?_
      · rintro j σ' H6 hj ⟨⟨_, rfl, v9, v10, v11, v12, v13, v14, v15, rfl⟩, e6, h6⟩
        have hj' : j < rs.length := by omega
        obtain ⟨ra, hra6, hrv⟩ := hrp.getR (show rs[j]? = some rs[j] from List.getElem?_eq_getElem hj')
        have hru : rs[j]? = some rs[j] := List.getElem?_eq_getElem hj'
        generalize rs[j] = ru at hrv hru
        have ho6 : (cs.getD i [])[j]? = some ((cs.getD i [])[j]'(by omega)) := List.getElem?_eq_getElem (by omega)
        generalize (cs.getD i [])[j]'(by omega) = o at ho6
        have hcj : (cntAt row bars rs cs i)[j]? = some (cnt1 (beside row bars i) (row.getD i 0) ru o) := by
          unfold cntAt cntRow
          rw [List.getElem?_zipWith, hru, ho6]
        have E6 := E4.trans e6
        refine (ev_ixT (i := (j : Int)) (z := .ref ra) (hixR e6 rfl) (ev_var rfl) (E6 _ _ hra) (atI_nat (by rw [List.getElem?_map, hra6]; rfl))) H6 (Ex.refl H6) _ fun H6' e6' => ⟨ra, _, rfl, st_of (e6' _ _ (E6 _ _ hrv)), rfl, _, _, rfl, _, _, rfl, _, _, rfl, _, _, rfl, _, _, rfl, rfl, ?_⟩
        replace h6 := e6' _ _ h6
        replace e6 := e6.trans e6'
        replace E6 := E6.trans e6'
        clear e6'
        revert h6 e6 E6
        generalize H6' = H6
        intro h6 e6 E6
        have hnr6 : H6 nr = some (.lst ((beside row bars i).map ch)) := e6 _ _ h4
        refine q_asg (v := .bl (decide (row.getD i 0 = ru.kind) && decide (ru.many ≤ ((beside row bars i).count ru.near : Int)))) (ev_is (ev_andV (ev_eq (ev_ixS (ev_var rfl) (ev_var rfl) hi' (by omega)) (ev_var rfl) rfl) fun _ => ev_I0 (ev_cntF (ev_var rfl) hnr6 (ev_var rfl) rfl flat_chs) (ev_var rfl)) ?_) fun H7 e7 => ?_
        · show V.bl (decide (ch (row.getD i 0) = ch ru.kind) && decide (ru.many ≤ (((List.map ch (beside row bars i)).countP fun z => eqV z (ch ru.near) : Nat) : Int))) = _
          rw [dec_ch, cnt_ch]
        have E7 := E6.trans e7
        refine q_app (l := nw) (xs := iLs ((cntAt row bars rs cs i).take j)) (e7 _ _ h6) (ev_var rfl) (v := .int (cnt1 (beside row bars i) (row.getD i 0) ru o)) (ev_if (et_B (ev_var rfl)) (fun hb => ev_is (ev_min2 (ev_var rfl) (ev_I0 (ev_op (ev_op (ev_var rfl) (ev_var rfl) (rv_ixL (sq_of (E7 _ _ hc)) hixc)) (ev_var rfl) (rv_ixL (sq_of (E7 _ _ hcx)) (atI_nat (j := j) (by rw [List.getElem?_map, ho6]; rfl)))) ev_c)) ?_) (fun hb => ev_is ev_c ?_)) (by rw [List.length_map, List.length_take]; omega) fun H8 e8 => ?_
        · rw [Bool.and_eq_true, decide_eq_true_eq, decide_eq_true_eq] at hb
          unfold cnt1
          have hb2 : ru.kind = row.getD i 0 ∧ ru.many ≤ (((beside row bars i).count ru.near : Nat) : Int) := ⟨hb.1.symm, hb.2⟩
          rw [if_pos hb2]
        · unfold cnt1
          rw [if_neg (fun q => by rw [decide_eq_true q.1.symm, decide_eq_true q.2] at hb; exact Bool.noConfusion hb)]
        have hnw9 : upd H8 nw (.lst (iLs ((cntAt row bars rs cs i).take j) ++ [.int (cnt1 (beside row bars i) (row.getD i 0) ru o)])) nw = some (.lst (iLs ((cntAt row bars rs cs i).take (j + 1)))) := by
          rw [upd_same, List.take_add_one, hcj]
          unfold iLs
          rw [List.map_append]
          rfl
        have e9 : Ex H4 (upd H8 nw (.lst (iLs ((cntAt row bars rs cs i).take j) ++ [.int (cnt1 (beside row bars i) (row.getD i 0) ru o)]))) := Ex.mut ((e6.trans e7).trans e8) nnw
        generalize upd H8 nw (.lst (iLs ((cntAt row bars rs cs i).take j) ++ [.int (cnt1 (beside row bars i) (row.getD i 0) ru o)])) = H9 at hnw9 e9
        refine s_when (b := decide (cnt1 (beside row bars i) (row.getD i 0) ru o = ru.beats) && (ripe (rs.take j) ((cntAt row bars rs cs i).take j)).isEmpty) (et_is (et_and (et_test (ev_eq (ev_op (ev_var rfl) (ev_var rfl) (rv_ixL (sq_of hnw9) (atI_nat (j := j) (v := V.int (cnt1 (beside row bars i) (row.getD i 0) ru o)) (by
            rw [List.getElem?_map, List.getElem?_take_of_lt (Nat.lt_succ_self j), hcj]
            rfl)))) (ev_var rfl) rfl)) fun _ => et_test (ev_eq (ev_var rfl) ev_c rfl)) ?_) (fun hb H10 e10 => ?_) (fun hb H10 e10 => ?_)
        · rw [dec_int, dec_str, tto_nil]
        · rw [Bool.and_eq_true, decide_eq_true_eq] at hb
          refine s_asg (ev_var rfl) fun H11 e11 => ⟨⟨⟨#[ru.later]⟩, ?_, _, _, _, _, _, _, _, rfl⟩, (e9.trans e10).trans e11, e11 _ _ (e10 _ _ hnw9)⟩
          rw [ripe_take hru hcj, if_pos hb.1, tto_app, if_pos hb.2]
        · refine ⟨⟨_, ?_, _, _, _, _, _, _, _, rfl⟩, e9.trans e10, e10 _ _ hnw9⟩
          have ht : tto (ripe (rs.take (j + 1)) ((cntAt row bars rs cs i).take (j + 1))) = tto (ripe (rs.take j) ((cntAt row bars rs cs i).take j)) := by
            rw [ripe_take hru hcj]
            by_cases h : cnt1 (beside row bars i) (row.getD i 0) ru o = ru.beats
            · rw [if_pos h, tto_app]
              rw [decide_eq_true h, Bool.true_and] at hb
              rw [if_neg (by rw [hb]; exact Bool.false_ne_true)]
            · rw [if_neg h, List.append_nil]
          exact ht.symm
      · rintro σ' H6 ⟨⟨_, rfl, v9, v10, v11, v12, v13, v14, v15, rfl⟩, e6, h6⟩
        have hto : ((rs.length : Nat) : Int).toNat = rs.length := by omega
        have hfull : (cntAt row bars rs cs i).take rs.length = cntAt row bars rs cs i := List.take_of_length_le (by omega)
        rw [hto, hfull] at h6
        rw [hto, hfull, List.take_length]
        have E6 := E4.trans e6
        refine q_asg (v := .str (txt ((List.range (i + 1)).map fun p => (turn1 rs (row.getD p 0) (cntAt row bars rs cs p)).1))) (ev_is (ev_addS (ev_var rfl) (ev_if (v := .str (txt [(turn1 rs (row.getD i 0) (cntAt row bars rs cs i)).1])) (et_test (ev_ne (ev_var rfl) ev_c rfl)) (fun hb => ev_is (ev_var rfl) ?_) (fun hb => ev_is (ev_ixS (ev_var rfl) (ev_var rfl) hi' (by omega)) ?_)) ?_) ?_) fun H7 e7 => ?_
        · rw [dec_str, tto_nil] at hb
          rw [turn1_fst, if_neg (by intro h; rw [h] at hb; exact Bool.noConfusion hb)]
        · rw [dec_str, tto_nil] at hb
          rw [turn1_fst, if_pos (by simpa using hb)]
          rfl
        · rw [len_txt, len_txt, List.length_map, List.length_range]
          show i + 1 ≤ 1000
          omega
        · rw [txt_app, List.range_succ, List.map_append]
          rfl
        refine s_appX (l := fl) (xs := as.map V.ref) (P := fun v H' => ∃ q, v = .ref q ∧ H q = none ∧ q ≠ fl ∧ H' q = some (.lst (iLs (turn1 rs (row.getD i 0) (cntAt row bars rs cs i)).2))) (e7 _ _ (e6 _ _ (e4 _ _ hf2))) (ev_var rfl) (ex_if (b := (ripe rs (cntAt row bars rs cs i)).isEmpty) (et_is (et_test (ev_eq (ev_var rfl) ev_c rfl)) ?_) (fun hb => ex_V (ev_var rfl) fun H' e' => ⟨nw, rfl, fresh_back E4 nnw, ?_, ?_⟩) (fun hb => ?_)) (by
          rw [List.length_map, hp2.length, List.length_map, List.length_range]
          omega) fun v H8 e8 ⟨q, ev, nq, nqf, hq⟩ => ?_
        · rw [dec_str, tto_nil]
        · exact Ne.symm (ne_of_none (e4 _ _ hf2) nnw)
        · rw [turn1_snd, if_pos hb]
          exact e' _ _ (e7 _ _ h6)
        · intro H8 e8 Q8 q8
          refine ⟨by decide, fun l0 nl0 => ?_⟩
          have hl0 : (upd H8 l0 (.lst [.int 0])) l0 = some (.lst [.int 0]) := upd_same
          refine ⟨_, rfl, nw, _, rfl, .inl (sq_of (Ex.new nl0 _ _ (e8 _ _ (e7 _ _ h6)))), l0, _, [.int 0], rfl, rfl, hl0, by omega, by rw [List.length_map, hcl5]; omega, by rw [List.length_map, hcl5, show ((rs.length : Nat) : Int).toNat = rs.length by omega]; exact sz_of (by show 1 * rs.length ≤ 100000; omega), fun p np => ?_⟩
          have e9 : Ex H8 (upd (upd H8 l0 (.lst [.int 0])) p (.lst (List.replicate (((iLs (cntAt row bars rs cs i)).length : Nat) : Int).toNat [V.int 0]).flatten)) := (Ex.new (o := .lst [.int 0]) nl0).trans (Ex.new np)
          have np8 : H8 p = none := fresh_back (Ex.new (o := .lst [.int 0]) nl0) np
          refine q8 _ _ e9 ⟨p, rfl, fresh_back ((E6.trans e7).trans e8) np8, Ne.symm (ne_of_none (e8 _ _ (e7 _ _ (e6 _ _ (e4 _ _ hf2)))) np8), ?_⟩
          rw [upd_same, turn1_snd, if_neg (by rw [hb]; exact Bool.false_ne_true)]
          rw [List.length_map, hcl5, show ((rs.length : Nat) : Int).toNat = rs.length by omega, List.flatten_replicate_singleton]
          unfold iLs
          rw [List.map_replicate]
        · subst ev
          have E8 := (E6.trans e7).trans e8
          refine ⟨⟨_, _, _, _, _, _, _, _, _, _, _, rfl⟩, Ex.mut E8 nf, as ++ [q], by rw [upd_same, List.map_append]; rfl, fun a ha => ?_, ?_⟩
          · rcases List.mem_append.mp ha with h | h
            · exact has a h
            · rw [List.mem_singleton.mp h]
              exact ⟨nq, nqf⟩
          · unfold ListsAt
            rw [List.range_succ, List.map_append]
            refine Pr.snoc (Pr.monoM (fun a x ha _ hax => ?_) hp2) (by rw [upd_ne nqf]; exact hq)
            rw [upd_ne (has a ha).2]
            exact e8 _ _ (e7 _ _ (e6 _ _ (e4 _ _ hax)))
    · rintro σ' H2 ⟨⟨v5, v6, v7, v8, v9, v10, v11, v12, v13, v14, v15, rfl⟩, e2, as, hf2, has, hp2⟩
      have hto : ((row.length : Nat) : Int).toNat = row.length := by omega
      rw [hto] at hp2
      rw [hto]
      refine s_retU (eu_tup (ea_cons (ev_var rfl) (ea_cons (ev_var rfl) ea_nil)) (by show 2 ≤ 100000; decide)) fun p H3 np e3 h3 => k p fl as H3 (fresh_back e2 np) (e2.trans e3) h3 nf (fun a ha => (has a ha).1) (e3 _ _ hf2) ?_
      exact hp2.mono fun a x h => e3 _ _ h
end
end S8
set_option Elab.async false
set_option linter.all false
set_option maxRecDepth 100000
set_option maxHeartbeats 400000
set_option pp.maxSteps 2000
namespace S8
open PySem PySem.Spec PyProof.Rows L2 L2H HotX Evl
/-! ### the law's own shelf: a dict -/
def wK (r row cl wl dl : V) : List (Key × V) := [(.inr "rules", r), (.inr "row", row), (.inr "counts", cl), (.inr "walls", wl), (.inr "deeds", dl)]
theorem wk_row (r row cl wl dl v : V) : putK (wK r row cl wl dl) (.inr "row") v = wK r v cl wl dl := by rfl
theorem wk_counts (r row cl wl dl v : V) : putK (wK r row cl wl dl) (.inr "counts") v = wK r row v wl dl := by rfl
theorem wk_walls (r row cl wl dl v : V) : putK (wK r row cl wl dl) (.inr "walls") v = wK r row cl v dl := by rfl
theorem wg_rules (r row cl wl dl : V) : valV (wK r row cl wl dl) (.inr "rules") = some r := by rfl
theorem wg_row (r row cl wl dl : V) : valV (wK r row cl wl dl) (.inr "row") = some row := by rfl
theorem wg_counts (r row cl wl dl : V) : valV (wK r row cl wl dl) (.inr "counts") = some cl := by rfl
theorem wg_walls (r row cl wl dl : V) : valV (wK r row cl wl dl) (.inr "walls") = some wl := by rfl
theorem wg_deeds (r row cl wl dl : V) : valV (wK r row cl wl dl) (.inr "deeds") = some dl := by rfl
structure WIn (H : Hp) (a r cl wl dl : Addr) (cas das : List Addr) (rs : List Ru) (s : Sta) (ds : List Deed) : Prop where
  d : H a = some (.dK (wK (.ref r) (.str (txt s.row)) (.ref cl) (.ref wl) (.ref dl)))
  c : H cl = some (.lst (cas.map V.ref))
  ci : ListsAt H cas s.cnt
  w : H wl = some (.lst (bls s.wal))
  n : H dl = some (.lst (das.map V.ref))
  ni : Pr (fun a x => H a = some (.tup (Deed.vals x))) das ds
  ru : RulesAt H r rs
  wd : wl ≠ dl
  wc : wl ≠ cl
  dc : dl ≠ cl
  wi : wl ∉ cas
  di : dl ∉ cas
def WAt (H : Hp) (a : Addr) (R : List Addr) (r : Addr) (rs : List Ru) (s : Sta) (ds : List Deed) : Prop := ∃ cl wl dl cas das, R = a :: wl :: dl :: cl :: cas ∧ WIn H a r cl wl dl cas das rs s ds
theorem WIn.ex {H H' : Hp} {a r cl wl dl : Addr} {cas das : List Addr} {rs : List Ru} {s : Sta} {ds : List Deed} (h : WIn H a r cl wl dl cas das rs s ds) (e : ∀ b ∈ a :: wl :: dl :: cl :: cas, ∀ o, H b = some o → H' b = some o) (t : ∀ b xs, H b = some (.tup xs) → H' b = some (.tup xs)) : WIn H' a r cl wl dl cas das rs s ds :=
  ⟨e _ (by simp) _ h.d, e _ (by simp) _ h.c, Pr.monoM (fun b x hb _ q => e b (by simp [hb]) _ q) h.ci, e _ (by simp) _ h.w, e _ (by simp) _ h.n, h.ni.mono fun b x q => t _ _ q, h.ru.ex t, h.wd, h.wc, h.dc, h.wi, h.di⟩
theorem WAt.ex {H H' : Hp} {a r : Addr} {R : List Addr} {rs : List Ru} {s : Sta} {ds : List Deed} (h : WAt H a R r rs s ds) (e : ∀ b ∈ R, ∀ o, H b = some o → H' b = some o) (t : ∀ b xs, H b = some (.tup xs) → H' b = some (.tup xs)) : WAt H' a R r rs s ds := by
  obtain ⟨cl, wl, dl, cas, das, rfl, h⟩ := h
  exact ⟨cl, wl, dl, cas, das, rfl, h.ex e t⟩
theorem WAt.mono {H H' : Hp} {a r : Addr} {R : List Addr} {rs : List Ru} {s : Sta} {ds : List Deed} (h : WAt H a R r rs s ds) (e : Ex H H') : WAt H' a R r rs s ds := h.ex (fun b _ o q => e b o q) fun b xs q => e b _ q
theorem WAt.fr {H H' : Hp} {a r : Addr} {R R2 : List Addr} {rs : List Ru} {s : Sta} {ds : List Deed} (h : WAt H a R r rs s ds) (f : Fr R2 H H') (d : ∀ b ∈ R, b ∉ R2) : WAt H' a R r rs s ds := h.ex (fun b hb o q => f.1 b o (d b hb) q) f.2
/-- what is at R is known -/
theorem WAt.known {H : Hp} {a r : Addr} {R : List Addr} {rs : List Ru} {s : Sta} {ds : List Deed} (h : WAt H a R r rs s ds) : ∀ b ∈ R, H b ≠ none := by
  obtain ⟨cl, wl, dl, cas, das, rfl, h⟩ := h
  intro b hb z
  rcases List.mem_cons.mp hb with rfl | hb
  · rw [h.d] at z; cases z
  rcases List.mem_cons.mp hb with rfl | hb
  · rw [h.w] at z; cases z
  rcases List.mem_cons.mp hb with rfl | hb
  · rw [h.n] at z; cases z
  rcases List.mem_cons.mp hb with rfl | hb
  · rw [h.c] at z; cases z
  obtain ⟨x, _, q⟩ := h.ci.memL hb
  rw [q] at z; cases z
section
variable {K : PySem.W.Frag} {σ : L2.St} {H : Hp} {ta td ty tv : TE} {v : V} {P : V → Hp → Prop} {D : Ends} {tz : TS} {a : Addr} {kvs : List (Key × V)} {k : Str}
theorem ev_dget (hd : Ev td σ H (.ref a)) (hk : Ev ty σ H (.str k)) (h : H a = some (.dK kvs)) (hv : valV kvs (.inr k) = some v) : Ev (tDGet td ty) σ H v := fun H1 e Q q =>
  hd H1 e _ fun H2 e2 => hk H2 (e.trans e2) _ fun H3 e3 => ⟨a, v, rfl, by rw [← hv]; exact DGet.k (k := .inr k) (e3 _ _ (e2 _ _ (e _ _ h))), q H3 (e2.trans e3)⟩
theorem s_dput (hv : EvX tv σ H P) (hP : ∀ v H1 H2, Ex H1 H2 → P v H1 → P v H2) (hd : Ev td σ H (.ref a)) (hk : Ev ty σ H (.str k)) (h : H a = some (.dK kvs)) (hl : kvs.length ≤ 1000) (q : ∀ y H1, Ex H H1 → P y H1 → D.nx σ (upd H1 a (.dK (putK kvs (.inr k) y)))) : sDPut td ty tv D σ H :=
  hv H (Ex.refl H) _ fun y H1 e1 p => hd H1 e1 _ fun H2 e2 => hk H2 (e1.trans e2) _ fun H3 e3 => ⟨a, _, rfl, DPut.k (k := .inr k) (e3 _ _ (e2 _ _ (e1 _ _ h))) (Nat.lt_of_le_of_lt hl (by decide)), q y H3 ((e1.trans e2).trans e3) (hP _ _ _ (e2.trans e3) p)⟩
theorem q_dput (hv : EvX tv σ H P) (hP : ∀ v H1 H2, Ex H1 H2 → P v H1 → P v H2) (hd : Ev td σ H (.ref a)) (hk : Ev ty σ H (.str k)) (h : H a = some (.dK kvs)) (hl : kvs.length ≤ 1000) (q : ∀ y H1, Ex H H1 → P y H1 → tz D σ (upd H1 a (.dK (putK kvs (.inr k) y)))) : tSeq (sDPut td ty tv) tz D σ H :=
  s_dput (D := { D with nx := tz D }) hv hP hd hk h hl q
theorem q_dputV (hv : Ev tv σ H v) (hd : Ev td σ H (.ref a)) (hk : Ev ty σ H (.str k)) (h : H a = some (.dK kvs)) (hl : kvs.length ≤ 1000) (q : ∀ H1, Ex H H1 → tz D σ (upd H1 a (.dK (putK kvs (.inr k) v)))) : tSeq (sDPut td ty tv) tz D σ H :=
  q_dput (P := fun y _ => y = v) (ex_V hv fun _ _ => rfl) (fun _ _ _ _ h => h) hd hk h hl fun y H1 e p => by rw [p]; exact q H1 e
theorem q_dputL {xs : List V} (hv : EvL tv σ H xs) (hd : Ev td σ H (.ref a)) (hk : Ev ty σ H (.str k)) (h : H a = some (.dK kvs)) (hl : kvs.length ≤ 1000) (q : ∀ p H1, H p = none → Ex H H1 → H1 p = some (.lst xs) → tz D σ (upd H1 a (.dK (putK kvs (.inr k) (.ref p))))) : tSeq (sDPut td ty tv) tz D σ H :=
  q_dput (P := fun v H' => ∃ p, v = .ref p ∧ H p = none ∧ H' p = some (.lst xs)) (fun H1 e Q q => hv H1 e Q fun p H2 np e2 h2 => q _ H2 e2 ⟨p, rfl, fresh_back e np, h2⟩) (fun _ _ _ e h => by obtain ⟨p, h1, h2, h3⟩ := h; exact ⟨p, h1, h2, e _ _ h3⟩) hd hk h hl fun y H1 e ⟨p, ep, np, hp⟩ => by rw [ep]; exact q p H1 np e hp
theorem s_dputL {xs : List V} (hv : EvL tv σ H xs) (hd : Ev td σ H (.ref a)) (hk : Ev ty σ H (.str k)) (h : H a = some (.dK kvs)) (hl : kvs.length ≤ 1000) (q : ∀ p H1, H p = none → Ex H H1 → H1 p = some (.lst xs) → D.nx σ (upd H1 a (.dK (putK kvs (.inr k) (.ref p))))) : sDPut td ty tv D σ H :=
  s_dput (P := fun v H' => ∃ p, v = .ref p ∧ H p = none ∧ H' p = some (.lst xs)) (fun H1 e Q q => hv H1 e Q fun p H2 np e2 h2 => q _ H2 e2 ⟨p, rfl, fresh_back e np, h2⟩) (fun _ _ _ e h => by obtain ⟨p, h1, h2, h3⟩ := h; exact ⟨p, h1, h2, e _ _ h3⟩) hd hk h hl fun y H1 e ⟨p, ep, np, hp⟩ => by rw [ep]; exact q p H1 np e hp
end
/-! ### shelf, bars -/
def spLShelf : Sp := fun vs H Q _ => ∃ (r : Addr) (rs : List Ru), vs = [.ref r] ∧ RulesAt H r rs ∧ ∀ a R H', Ex H H' → WAt H' a R r rs sta0 [] → (∀ b ∈ R, H b = none) → Q (.ref a) H'
def spLBars : Sp := fun vs H Q _ => ∃ (a : Addr) (R : List Addr) (r : Addr) (rs : List Ru) (s : Sta) (ds : List Deed), vs = [.ref a] ∧ WAt H a R r rs s ds ∧ s.Ok rs.length ∧ ∀ q H', H q = none → Ex H H' → H' q = some (.tup (s.bars.map iv)) → Q (.ref q) H'
section
variable {P : Program} {w : World} {K : PySem.W.Frag} {mg : Str → Option Value} {base : Heap}
theorem ok_lshelf {f : Addr} {fd : FuncData} (F : Fun K "_law_shelf" "_law_shelf" sLShelf f fd) : FnOk P w K mg base CX0 1 f fd pLShelf spLShelf := by
  refine F.ok scLShelf (fun vs H Q E h => ?_) (fun cdv A outer s0 H vs Q E hr h => ?_)
  · obtain ⟨r, rs, rfl, _⟩ := h
    rfl
  · refine ⟨_, pss_one (ps_ret (pe_disp (pps_cons pe_str (pv 0) (pps_cons pe_str pe_str (pps_cons pe_str (pe_lst pa_nil) (pps_cons pe_str (pe_lst pa_nil) (pps_cons pe_str (pe_lst pa_nil) pps_nil))))) (by rfl) (by rfl) (fun z => by cases z) (by decide))), ?_⟩
    obtain ⟨r, rs, rfl, hr0, k⟩ := h
    refine fun a na => ⟨_, rfl, by decide, fun cl nc => ⟨by decide, fun wl nw => ⟨by decide, fun dl nd => ?_⟩⟩⟩
    have e1 : Ex H (upd H a (.dK [])) := Ex.new na
    have e2 := e1.trans (Ex.new (o := .lst []) nc)
    have e3 := e2.trans (Ex.new (o := .lst []) nw)
    have e4 := e3.trans (Ex.new (o := .lst []) nd)
    have hca : cl ≠ a := Ne.symm (ne_of_none (o := .dK []) upd_same nc)
    have hwc : wl ≠ cl := Ne.symm (ne_of_none (o := .lst []) upd_same nw)
    have hwa : wl ≠ a := Ne.symm (ne_of_none (o := .dK []) (Ex.new nc _ _ upd_same) nw)
    have hdw : dl ≠ wl := Ne.symm (ne_of_none (o := .lst []) upd_same nd)
    have hdc : dl ≠ cl := Ne.symm (ne_of_none (o := .lst []) (Ex.new nw _ _ upd_same) nd)
    have hda : dl ≠ a := Ne.symm (ne_of_none (o := .dK []) (Ex.new nw _ _ (Ex.new nc _ _ upd_same)) nd)
    refine ⟨?_, wK (.ref r) (.str "") (.ref cl) (.ref wl) (.ref dl), rfl, by show 5 ≤ 15; decide, ?_⟩
    · rw [upd_ne (Ne.symm hda), upd_ne (Ne.symm hwa), upd_ne (Ne.symm hca), upd_same]
    · refine k a [a, wl, dl, cl] _ (Ex.mut e4 na) ⟨cl, wl, dl, [], [], rfl, by rw [upd_same]; rfl, ?_, trivial, ?_, ?_, trivial, hr0.ex fun b l q => Ex.mut e4 na _ _ q, Ne.symm hdw, hwc, hdc, by simp, by simp⟩ (fun b hb => ?_)
      · rw [upd_ne hca, upd_ne (Ne.symm hdc), upd_ne (Ne.symm hwc), upd_same]
        rfl
      · rw [upd_ne hwa, upd_ne (Ne.symm hdw), upd_same]
        rfl
      · rw [upd_ne hda, upd_same]
        rfl
      · have hb' : b = a ∨ b = wl ∨ b = dl ∨ b = cl := by simpa using hb
        rcases hb' with z | z | z | z <;> rw [z]
        · exact na
        · exact fresh_back e2 nw
        · exact fresh_back e3 nd
        · exact fresh_back e1 nc
theorem ok_lbars {f : Addr} {fd : FuncData} (F : Fun K "_law_bars" "_law_bars" sLBars f fd) (B : Bt mg) : FnOk P w K mg base CX0 1 f fd pLBars spLBars := by
  refine F.ok scLBars (fun vs H Q E h => ?_) (fun cdv A outer s0 H vs Q E hr h => ?_)
  · obtain ⟨a, R, r, rs, s, ds, rfl, _⟩ := h
    rfl
  · refine ⟨_, pss_one (ps_ret (pe_callTy call_tuple_of (by rfl) B.tup (by decide +kernel) (pa_cons (pe_lc (own := [("_law_place", 1)]) (g := gName 1) (tt := tB (tOp (rIxL K) (tDGet (tVar 0) (tC (.str "walls"))) (tVar 1))) (te := tVar 1) (by rfl) scLBars.nd (pi_range1 (by rfl) B.rng (pa_cons (pe_op op_sub (pe_callB call_len_str (by rfl) B.len boot_len (pa_cons (pe_dget (hu_of hr) (pv 0) pe_str (fun _ _ => rfl)) pa_nil)) pe_int) pa_nil)) (blkOk_by (own := [("_law_place", 1)]) (N := nLBars) (sc := defScope sLBars) (by decide +kernel))
          (fun _ _ _ _ _ => pg_name (i := 1) scLBars.nd rfl (.inl rfl)) (fun _ _ _ _ _ => pts_one (pt_val (pe_ix ix_list (pe_dget (hu_of hr) (pv 0) pe_str (fun _ _ => rfl)) (pv 1) (fun _ _ => rfl)))) (fun _ _ _ _ _ => pv 1)) pa_nil))), ?_⟩
    obtain ⟨a, R, r, rs, s, ds, rfl, ⟨cl, wl, dl, cas, das, rfl, W⟩, O, k⟩ := h
    have hz := O.z
    have hzs : (txt s.row).length ≤ sizeLine := by rw [len_txt]; exact sz_of (by omega)
    have hwl := O.w
    have el := el_lcRm (σ := L2.start nLBars [.ref a]) (H := H) (t := tB (tOp (rIxL K) (tDGet (tVar 0) (tC (.str "walls"))) (tVar 1))) (te := tVar 1) (j := 1) (vs := [1]) (n := ((txt s.row).length : Int) - 1) (fun n => s.wal.getD n false) iv (ea_cons (ev_I0 (g := fun i j => .int (i - j)) (ev_lenZ (ev_dget (ev_var (i := 0) rfl) ev_c W.d (wg_row _ _ _ _ _)) hzs) ev_c) ea_nil) (by rw [len_txt]; omega) (fun _ => rfl)
      (fun i H1 e hi => et_B (ev_op (ev_dget (ev_var (i := 0) rfl) ev_c (e _ _ W.d) (wg_walls _ _ _ _ _)) (ev_var rfl) (rv_ixL (sq_of (e _ _ W.w)) (bls_at (by rw [len_txt] at hi; omega))))) (fun i H1 e hi _ => ev_var rfl)
    have eg : given (((txt s.row).length : Int) - 1).toNat (fun n => s.wal.getD n false) iv = s.bars.map iv := by
      rw [len_txt, show ((s.row.length : Int) - 1).toNat = s.row.length - 1 by omega]
      rfl
    rw [eg] at el
    exact s_retU (eu_tupN el) fun q H1 nq e1 h1 => k q H1 nq e1 h1
end
end S8
set_option Elab.async false
set_option linter.all false
set_option maxRecDepth 100000
set_option maxHeartbeats 400000
set_option pp.maxSteps 2000
namespace S8
open PySem PySem.Spec PyProof.Rows L2 L2H HotX Evl
/-! ### done -/
/-- a new list of which something is known -/
def EvLY (te : TE) (σ : L2.St) (H : Hp) (P : List V → Hp → Prop) : Prop := ∀ H1, Ex H H1 → ∀ Q : VK, (∀ p xs H2, H1 p = none → Ex H1 H2 → H2 p = some (.lst xs) → P xs H2 → Q (.ref p) H2) → te σ H1 Q
section
variable {σ : L2.St} {H : Hp} {ta tb te : TE} {P P' : List V → Hp → Prop} {xs ys : List V}
theorem ely_L (h : EvL te σ H xs) : EvLY te σ H (fun ys _ => ys = xs) := fun H1 e Q q => h H1 e Q fun p H2 np e2 h2 => q p xs H2 np e2 h2 rfl
/-- [a new list] -/
theorem ely_one (h : EvL te σ H xs) : EvLY (tLst (tCons te tNil)) σ H (fun ys H' => ∃ t, ys = [V.ref t] ∧ H t = none ∧ H' t = some (.lst xs)) := fun H1 e Q q =>
  h H1 e _ fun t H2 nt e2 h2 => ⟨by show 1 ≤ sizeLine; decide, fun p np => q p _ _ (fresh_back e2 np) (e2.trans (Ex.new np)) upd_same ⟨t, rfl, fresh_back e nt, Ex.new np _ _ h2⟩⟩
theorem ely_cat (h1 : EvLY ta σ H P) (h2 : EvLY tb σ H P') (s1 : Stb P) (s2 : Stb P') (hz : ∀ xs ys H', P xs H' → P' ys H' → xs.length + ys.length ≤ 1000) : EvLY (tOp rCat ta tb) σ H (fun zs H' => ∃ xs ys, zs = xs ++ ys ∧ P xs H' ∧ P' ys H') := fun H1 e Q q =>
  h1 H1 e _ fun a xs H2 na e2 ha pa => h2 H2 (e.trans e2) _ fun b ys H3 nb e3 hb pb => ⟨a, b, xs, ys, rfl, rfl, e3 _ _ ha, hb, Nat.le_trans (hz xs ys H3 (s1 _ _ _ e3 pa) pb) (by decide), fun r nr =>
    q r _ _ (fresh_back (e2.trans e3) nr) ((e2.trans e3).trans (Ex.new nr)) upd_same ⟨xs, ys, rfl, s1 _ _ _ (e3.trans (Ex.new nr)) pa, s2 _ _ _ (Ex.new nr) pb⟩⟩
theorem ely_mono {P'' : List V → Hp → Prop} (h : EvLY te σ H P) (f : ∀ xs H', Ex H H' → P xs H' → P'' xs H') : EvLY te σ H P'' := fun H1 e Q q => h H1 e Q fun p xs H2 np e2 h2 p2 => q p xs H2 np e2 h2 (f xs H2 (e.trans e2) p2)
/-- [v] * n -/
theorem el_rep {n : Nat} {v : V} (h : EvL ta σ H [v]) (hn : Ev tb σ H (.int (n : Int))) (hz : n ≤ 1000) : EvL (tOp rRep ta tb) σ H (List.replicate n v) := fun H1 e Q q =>
  h H1 e _ fun l H2 nl e2 h2 => hn H2 (e.trans e2) _ fun H3 e3 => ⟨l, (n : Int), [v], rfl, rfl, e3 _ _ h2, by omega, by omega, by rw [show ((n : Int)).toNat = n by omega]; exact sz_of (by show 1 * n ≤ 100000; omega), fun p np => by
    have := q p _ (fresh_back (e2.trans e3) np) ((e2.trans e3).trans (Ex.new (o := .lst (List.replicate ((n : Int)).toNat [v]).flatten) np)) (by rw [upd_same, show ((n : Int)).toNat = n by omega, List.flatten_replicate_singleton])
    exact this⟩
variable {D : Ends} {tz : TS} {td ty : TE} {a : Addr} {kvs : List (Key × V)} {k : Str}
theorem q_dputLY (hv : EvLY te σ H P) (hP : Stb P) (hd : Ev td σ H (.ref a)) (hk : Ev ty σ H (.str k)) (h : H a = some (.dK kvs)) (hl : kvs.length ≤ 1000) (q : ∀ p xs H1, H p = none → Ex H H1 → H1 p = some (.lst xs) → P xs H1 → tz D σ (upd H1 a (.dK (putK kvs (.inr k) (.ref p))))) : tSeq (sDPut td ty te) tz D σ H :=
  q_dput (P := fun v H' => ∃ p xs, v = .ref p ∧ H p = none ∧ H' p = some (.lst xs) ∧ P xs H') (fun H1 e Q q => hv H1 e Q fun p xs H2 np e2 h2 p2 => q _ H2 e2 ⟨p, xs, rfl, fresh_back e np, h2, p2⟩) (fun _ _ _ e h => by obtain ⟨p, xs, h1, h2, h3, h4⟩ := h; exact ⟨p, xs, h1, h2, e _ _ h3, hP _ _ _ e h4⟩) hd hk h hl fun y H1 e ⟨p, xs, ep, np, hp, hq⟩ => by rw [ep]; exact q p xs H1 np e hp hq
end
theorem q_asgX {σ : L2.St} {H : Hp} {te : TE} {P : V → Hp → Prop} {D : Ends} {tz : TS} {g : TG} (h : EvX te σ H P) (k : ∀ v H1, Ex H H1 → P v H1 → g v σ H1 (tz D)) : tSeq (tAsg te g) tz D σ H := h H (Ex.refl H) _ k
theorem s_asgX {σ : L2.St} {H : Hp} {te : TE} {P : V → Hp → Prop} {D : Ends} {g : TG} (h : EvX te σ H P) (k : ∀ v H1, Ex H H1 → P v H1 → g v σ H1 D.nx) : tAsg te g D σ H := h H (Ex.refl H) _ k
theorem ex_LL {σ : L2.St} {H : Hp} {ta tb : TE} {xs ys : List V} (h1 : EvL ta σ H xs) (h2 : EvL tb σ H ys) : EvX (tTup (tCons ta (tCons tb tNil))) σ H (fun v H' => ∃ T a b, v = .ref T ∧ H' T = some (.tup [.ref a, .ref b]) ∧ H a = none ∧ H b = none ∧ a ≠ b ∧ H' a = some (.lst xs) ∧ H' b = some (.lst ys)) := fun H1 e Q q =>
  h1 H1 e _ fun a H2 na e2 ha => h2 H2 (e.trans e2) _ fun b H3 nb e3 hb => ⟨by show 2 ≤ sizeLine; decide, fun T nT => q _ _ ((e2.trans e3).trans (Ex.new nT)) ⟨T, a, b, rfl, upd_same, fresh_back e na, fresh_back (e.trans e2) nb, ne_of_none ha nb, Ex.new nT _ _ (e3 _ _ ha), Ex.new nT _ _ hb⟩⟩
structure DoneK (a : Addr) (R : List Addr) (r : Addr) (rs : List Ru) (s : Sta) (ds : List Deed) (d : Deed) (H : Hp) (Q : VK) : Prop where
  told : ∀ x s', act rs s d = (.told x, s') → ∀ p v R' H', H' p = some (.tup [.str "told", v]) → ResV x v H H' → Fr R H H' → WAt H' a R' r rs s' (ds ++ [d]) → (∀ b ∈ R', b ∈ R ∨ H b = none) → Q (.ref p) H'
  jar : ∀ i, act rs s d = (.jar i, s) → ∀ p H', Ex H H' → H' p = some (.tup [.str "jar", .int i]) → Q (.ref p) H'
  row : act rs s d = (.row, s) → ∀ p H', Ex H H' → H' p = some (.tup [.str "row", .int 0]) → Q (.ref p) H'
  count : act rs s d = (.count, s) → ∀ p H', Ex H H' → H' p = some (.tup [.str "count", .int 0]) → Q (.ref p) H'
def spDone : Sp := fun vs H Q _ => ∃ (a q : Addr) (R : List Addr) (r : Addr) (rs : List Ru) (s : Sta) (ds : List Deed) (d : Deed), vs = [.ref a, .ref q] ∧ H q = some (.tup d.vals) ∧ d.Small ∧ WAt H a R r rs s ds ∧ RsOk rs ∧ s.Ok rs.length ∧ ds.length ≤ 50000 ∧ DoneK a R r rs s ds d H Q
section
variable {P : Program} {w : World} {K : PySem.W.Frag} {mg : Str → Option Value} {base : Heap}
theorem ok_done {f f1 f2 : Addr} {fd fd1 fd2 : FuncData} (F : Fun K "_law_done" "_law_done" sDone f fd) (B : Bt mg) (g1 : mg "_law_beat" = some (.ref f1)) (k1 : PySem.W.keepIn K (.ref f1) = true) (b1 : Binds K fd1 pLBeat []) (G1 : FnOk P w K mg base CX0 2 f1 fd1 pLBeat spLBeat)
    (g2 : mg "_law_bars" = some (.ref f2)) (k2 : PySem.W.keepIn K (.ref f2) = true) (b2 : Binds K fd2 pLBars []) (G2 : FnOk P w K mg base CX0 1 f2 fd2 pLBars spLBars) : FnOk P w K mg base CX0 3 f fd pDone spDone := by
  refine F.ok scDone (fun vs H Q E h => ?_) (fun cdv A outer s0 H vs Q E hr h => ?_)
  · obtain ⟨a, q, R, r, rs, s, ds, d, rfl, _⟩ := h
    rfl
  · have hu := hu_of hr
    refine ⟨_, pss_cons (ps_asg (pe_tup (pa_cons (pe_ix ix_tup (pv 1) pe_int (fun _ _ => rfl)) (pa_cons (pe_dget hu (pv 0) pe_str (fun _ _ => rfl)) (pa_cons pe_non pa_nil)))) (pg_tup (by rfl) (pgs_cons (pg_name (i := 2) scDone.nd rfl (.inl rfl)) (pgs_cons (pg_name (i := 3) scDone.nd rfl (.inr rfl)) (pgs_cons (pg_name (i := 4) scDone.nd rfl (.inl rfl)) pgs_nil)))))
      (pss_cut (ps_if (pt_cmpR op_eq (pv 2) pe_str (nomark _))
        (pss_cons (ps_asg (pe_slice sl_tupA (pv 1) (po_some pe_int) po_none) (pg_tup (by rfl) (pgs_cons (pg_name (i := 5) scDone.nd rfl (.inl rfl)) (pgs_cons (pg_name (i := 6) scDone.nd rfl (.inl rfl)) pgs_nil))))
        (pss_cons (ps_if (pt_not (pt_chain op_le op_le pe_int (pv 5) (pe_callB call_len_str (by rfl) B.len boot_len (pa_cons (pv 3) pa_nil)))) (pss_one (ps_ret (pe_tup (pa_cons pe_str (pa_cons (pv 5) pa_nil))))) pss_nil)
        (pss_cons (ps_if (PW.pt (pw_or (pt_cmpR op_ne (pe_callB call_len_str (by rfl) B.len boot_len (pa_cons (pv 6) pa_nil)) pe_int (nomark _)) (pw_or1 (pt_cmpR op_notIn_sign (pv 6) pe_str (by rfl))))) (pss_one (ps_ret (pe_tup (pa_cons pe_str (pa_cons pe_int pa_nil))))) pss_nil)
        (pss_cons (ps_if (pt_cmpR op_eq (pe_callB call_len_str (by rfl) B.len boot_len (pa_cons (pv 3) pa_nil)) pe_int (nomark _)) (pss_one (ps_ret (pe_tup (pa_cons pe_str (pa_cons pe_int pa_nil))))) pss_nil)
        (pss_cons (ps_dput hu (pv 0) pe_str (pe_op op_add_str (pe_op op_add_str (pe_slice sl_str (pv 3) po_none (po_some (pv 5))) (pv 6)) (pe_slice sl_str (pv 3) (po_some (pv 5)) po_none)) rfl)
        (pss_cons (ps_dput hu (pv 0) pe_str (pe_op op_cat (pe_op op_cat (pe_slice sl_list (pe_dget hu (pv 0) pe_str (fun _ _ => rfl)) po_none (po_some (pv 5))) (pe_lst (pa_cons (pe_op op_rep (pe_lst (pa_cons pe_int pa_nil)) (pe_callB call_len_seq (by rfl) B.len boot_len (pa_cons (pe_dget hu (pv 0) pe_str (fun _ _ => rfl)) pa_nil))) pa_nil))) (pe_slice sl_list (pe_dget hu (pv 0) pe_str (fun _ _ => rfl)) (po_some (pv 5)) po_none)) rfl)
        (pss_one (ps_dput hu (pv 0) pe_str (pe_op op_cat (pe_op op_cat (pe_slice sl_list (pe_dget hu (pv 0) pe_str (fun _ _ => rfl)) po_none (po_some (pv 5))) (pe_lst (pa_cons pe_bl pa_nil))) (pe_slice sl_list (pe_dget hu (pv 0) pe_str (fun _ _ => rfl)) (po_some (pv 5)) po_none)) rfl))))))))
        (pss_one (ps_if (pt_cmpR op_eq (pv 2) pe_str (nomark _))
          (pss_cons (ps_asg (pe_call G1 hr (by rfl) g1 k1 b1 .nil pass0 (pa_cons (pe_tup (pa_cons (pv 3) (pa_cons (pe_call G2 (hr.mono (by decide)) (by rfl) g2 k2 b2 .nil pass0 (pa_cons (pv 0) pa_nil)) (pa_cons (pe_dget hu (pv 0) pe_str (fun _ _ => rfl)) pa_nil)))) (pa_cons (pv 3) (pa_cons (pe_dget hu (pv 0) pe_str (fun _ _ => rfl)) pa_nil))))
            (pg_tup (by rfl) (pgs_cons (pg_sub (pv 0) pe_str (set_dict hu)) (pgs_cons (pg_sub (pv 0) pe_str (set_dict hu)) pgs_nil))))
          (pss_one (ps_setLc (i := 4) (own := [("_law_place", 5)]) (g := gName 5) (tt := tTest (tOp rNe (tOp rIxS (tDGet (tVar 0) (tC (.str "row"))) (tVar 5)) (tOp rIxS (tVar 3) (tVar 5)))) (te := tVar 5) (by rfl) scDone.nd rfl rfl (sw_true rfl rfl rfl (by decide +kernel)) (pi_range1 (by rfl) B.rng (pa_cons (pe_callB call_len_str (by rfl) B.len boot_len (pa_cons (pv 3) pa_nil)) pa_nil)) (blkOk_by (own := [("_law_place", 5)]) (N := nDone) (sc := defScope sDone) (by decide +kernel))
            (fun _ _ _ _ _ => pg_name (i := 5) scDone.nd rfl (.inl rfl)) (fun _ _ _ _ _ => pts_one (pt_cmpR op_ne (pe_ix ix_str (pe_dget hu (pv 0) pe_str (fun _ _ => rfl)) (pv 5) (fun _ _ => rfl)) (pe_ix ix_str (pv 3) (pv 5) (fun _ _ => rfl)) (nomark _))) (fun _ _ _ _ _ => pv 5))))
          (pss_cons (ps_set (i := 5) scDone.nd rfl (.inl rfl) (pe_ix ix_tup (pv 1) pe_int (fun _ _ => rfl)))
          (pss_cons (ps_if (PW.pt (pw_or (pt_not (pt_chain op_le op_lt pe_int (pv 5) (pe_callB call_len_str (by rfl) B.len boot_len (pa_cons (pv 3) pa_nil)))) (pw_or1 (PW.pt (pw_and (pt_cmpR op_ne (pv 2) pe_str (nomark _)) (pw_and1 (pt_cmpR op_ne (pe_ix ix_list (pe_dget hu (pv 0) pe_str (fun _ _ => rfl)) (pv 5) (fun _ _ => rfl)) (pe_cmpR op_eq (pv 2) pe_str (nomark _)) (nomark _))))))))
            (pss_one (ps_ret (pe_tup (pa_cons pe_str (pa_cons (pv 5) pa_nil))))) pss_nil)
          (pss_one (ps_if (pt_cmpR op_eq (pv 2) pe_str (nomark _))
            (pss_cons (ps_asg (pe_tup (pa_cons (pe_ix ix_str (pv 3) (pv 5) (fun _ _ => rfl)) (pa_cons (pe_op op_add_str (pe_slice sl_str (pv 3) po_none (po_some (pv 5))) (pe_slice sl_str (pv 3) (po_some (pe_op op_add (pv 5) pe_int)) po_none)) pa_nil))) (pg_tup (by rfl) (pgs_cons (pg_name (i := 4) scDone.nd rfl (.inl rfl)) (pgs_cons (pg_sub (pv 0) pe_str (set_dict hu)) pgs_nil))))
            (pss_cons (ps_asg (pe_tup (pa_cons (pe_callTy call_list_of (by rfl) B.lst (by decide +kernel) (pa_cons (pe_dget hu (pv 0) pe_str (fun _ _ => rfl)) pa_nil)) (pa_cons (pe_callTy call_list_of (by rfl) B.lst (by decide +kernel) (pa_cons (pe_dget hu (pv 0) pe_str (fun _ _ => rfl)) pa_nil)) pa_nil))) (pg_tup (by rfl) (pgs_cons (pg_sub (pv 0) pe_str (set_dict hu)) (pgs_cons (pg_sub (pv 0) pe_str (set_dict hu)) pgs_nil))))
            (pss_cons (ps_expr (pe_bm PySem.F.plainAttrs_list PySem.F.slot_list_pop PySem.F.type_list_pop mt_popAt (pe_dget hu (pv 0) pe_str (fun _ _ => rfl)) (pa_cons (pv 5) pa_nil)))
            (pss_one (ps_expr (pe_bm PySem.F.plainAttrs_list PySem.F.slot_list_pop PySem.F.type_list_pop mt_popAt (pe_dget hu (pv 0) pe_str (fun _ _ => rfl)) (pa_cons (pv 5) pa_nil)))))))
            (pss_one (ps_asg (pe_cmpR op_eq (pv 2) pe_str (nomark _)) (pg_sub (pe_dget hu (pv 0) pe_str (fun _ _ => rfl)) (pv 5) set_list)))))))))) 
      (pss_cons (ps_expr (pe_bm PySem.F.plainAttrs_list PySem.F.slot_list_append PySem.F.type_list_append mt_append (pe_dget hu (pv 0) pe_str (fun _ _ => rfl)) (pa_cons (pv 1) pa_nil)))
      (pss_one (ps_ret (pe_tup (pa_cons pe_str (pa_cons (pv 4) pa_nil))))))), ?_⟩
    obtain ⟨a, q, R, r, rs, s, ds, d, rfl, hq, hs, ⟨cl, wl, dl, cas, das, rfl, W⟩, RO, O, hdl, DK⟩ := h
    have hz := O.z
    have hzs : (txt s.row).length ≤ sizeLine := by rw [len_txt]; exact sz_of (by omega)
    obtain ⟨rest, hv, _, _, hvl⟩ := vals_word d
    refine q_asgX (ex_U (eu_tup (ea_cons (ev_ixT (z := .str d.word) (ev_var rfl) ev_c hq (by rw [hv]; exact atI_nat (j := 0) rfl)) (ea_cons (ev_dget (ev_var rfl) ev_c W.d (wg_row _ _ _ _ _)) (ea_cons ev_c ea_nil))) (by show 3 ≤ 100000; decide))) fun _ H1 e1 ⟨T, ev, hT⟩ => ?_
    subst ev
    refine ⟨T, _, rfl, st_of hT, rfl, _, _, rfl, _, _, rfl, _, _, rfl, rfl, ?_⟩
    have hac : ∀ {b : Addr} {xs : List V}, H b = some (.lst xs) → b ≠ a := fun h z => by rw [z, W.d] at h; cases h
    refine q_cut (M := fun σ' H' => ∃ (x : Res) (s' : Sta) (v : V) (cl' wl' : Addr) (cas' : List Addr) (v5 v6 : Option V), σ' = [some (.ref a), some (.ref q), some (.str d.word), some (.str (txt s.row)), some v, v5, v6] ∧ act rs s d = (.told x, s') ∧ ResV x v H H' ∧ Fr (a :: wl :: dl :: cl :: cas) H H' ∧ WIn H' a r cl' wl' dl cas' das rs s' ds ∧ ∀ b ∈ a :: wl' :: dl :: cl' :: cas', b ∈ a :: wl :: dl :: cl :: cas ∨ H b = none) ?_ ?_
    · cases d with
      | put pl k =>
        refine s_if (b := decide (("put" : Str) = "put")) (w_eq (ev_var rfl) ev_c) (fun _ H2 e2 => ?_) (fun hb => absurd hb (by decide))
        have E2 := e1.trans e2
        refine q_asgX (ew_slice (ev_var rfl) (E2 _ _ hq) (eo_some ev_c) eo_none) fun _ H3 e3 ⟨T2, ev, hT2⟩ => ?_
        subst ev
        refine ⟨T2, [.int pl, .str k], rfl, st_of hT2, rfl, _, _, rfl, _, _, rfl, rfl, ?_⟩
        have E3 := E2.trans e3
        -- the place
        refine q_when (et_is (et_not (et_test (ev_chain ev_c (ev_var rfl) rv_I0 (fun _ => ev_lenZ (ev_var rfl) hzs) fun _ => rv_I0))) (b := decide (¬ (0 ≤ pl ∧ pl ≤ (s.row.length : Int)))) ?_) (fun hb H4 e4 => ?_) fun hb H4 e4 => ?_
        · rw [len_txt]
          by_cases h1 : 0 ≤ pl <;> by_cases h2 : pl ≤ (s.row.length : Int) <;> simp [h1, h2]
        · exact s_retU (eu_tup (ea_cons ev_c (ea_cons (ev_var rfl) ea_nil)) (by show 2 ≤ 100000; decide)) fun p H5 np e5 h5 => DK.jar pl (by rw [act_put, if_pos (of_decide_eq_true hb)]) p H5 ((E3.trans e4).trans e5) h5
        have hpl : 0 ≤ pl ∧ pl ≤ (s.row.length : Int) := Classical.not_not.mp (of_decide_eq_false hb)
        obtain ⟨n, rfl⟩ : ∃ n : Nat, pl = (n : Int) := ⟨pl.toNat, by omega⟩
        have hn0 : n ≤ s.row.length := by omega
        -- the kind
        refine q_when (b := !isK k) (et_is (et_or (et_test (ev_ne (ev_lenZ (ev_var rfl) (Nat.le_trans hs (by decide))) ev_c rfl)) fun h1 => (et_test (ev_op (ev_var rfl) ev_c (rv_of (z := .bl (!decide (k.cps.toList.getD 0 0 ∈ abcde))) fun H1 _ Q q => ⟨k.cps.toList.getD 0 0, "abcde", ?_, rfl, ?_⟩)))) ?_) (fun hb H5 e5 => ?_) fun hb H5 e5 => ?_
        · rw [dec_int] at h1
          have h2 : k.cps.size = 1 := by
            have h3 : (k.length : Int) = 1 := by simpa using h1
            have h4 : k.length = 1 := by omega
            exact h4
          have h3 : k.cps.toList.length = 1 := by rw [Array.length_toList]; exact h2
          obtain ⟨⟨l⟩⟩ := k
          match l, h3 with
          | [c], _ => rfl
        · rw [cps_abcde]
          exact q
        · rw [dec_int]
          have e2 : decide ((k.length : Int) = 1) = decide (k.cps.size = 1) := by
            by_cases h : k.cps.size = 1
            · rw [decide_eq_true h, decide_eq_true (by have : k.length = 1 := h; omega)]
            · rw [decide_eq_false h, decide_eq_false (fun q => h (by have : k.length = 1 := by omega
                                                                     exact this))]
          rw [e2]
          unfold isK
          cases decide (k.cps.size = 1) <;> cases decide (k.cps.toList.getD 0 0 ∈ abcde) <;> rfl
        · have hb' : isK k = false := by simpa using hb
          exact s_retU (eu_tup (ea_cons ev_c (ea_cons ev_c ea_nil)) (by show 2 ≤ 100000; decide)) fun p H6 np e6 h6 => DK.row (by rw [act_put, if_neg (Classical.not_not.mpr hpl), if_pos hb']) p H6 (((E3.trans e4).trans e5).trans e6) h6
        have hk1 : isK k = true := by simpa using hb
        -- room for one more
        refine q_when (et_is (et_test (ev_eq (ev_lenZ (ev_var rfl) hzs) ev_c rfl)) (b := decide (s.row.length = 12)) ?_) (fun hb H6 e6 => ?_) fun hb H6 e6 => ?_
        · rw [dec_int, len_txt]
          exact decide_eq_decide.mpr ⟨fun h => by omega, fun h => by omega⟩
        · exact s_retU (eu_tup (ea_cons ev_c (ea_cons ev_c ea_nil)) (by show 2 ≤ 100000; decide)) fun p H7 np e7 h7 => DK.count (by rw [act_put, if_neg (Classical.not_not.mpr hpl), if_neg (by rw [hk1]; decide), if_pos (of_decide_eq_true hb)]) p H7 ((((E3.trans e4).trans e5).trans e6).trans e7) h7
        have h12 := of_decide_eq_false hb
        have hact : act rs s (.put (n : Int) k) = (.told .non, s.put rs.length n k) := by
          rw [act_put, if_neg (Classical.not_not.mpr hpl), if_neg (by rw [hk1]; decide), if_neg h12]
          rfl
        have E6 := ((E3.trans e4).trans e5).trans e6
        have W6 : WIn H6 a r cl wl dl cas das rs s ds := W.ex (fun b _ o h => E6 _ _ h) fun b xs h => E6 _ _ h
        have hkl : k.length = 1 := by
          unfold isK at hk1
          rw [Bool.and_eq_true, decide_eq_true_eq] at hk1
          exact hk1.1
        have hks : (txt (s.row.take n)).length + k.length ≤ 1000 := by
          rw [len_txt, List.length_take, hkl]
          omega
        have hrow : txt (s.row.take n ++ k.cps.toList ++ s.row.drop n) = txt (s.put rs.length n k).row := rfl
        -- row
        refine q_dputV (v := .str (txt (s.put rs.length n k).row)) (ev_is (ev_addS (ev_addS (ev_slS (ev_var rfl) eo_none (eo_some (ev_var rfl)) hzs) (ev_var rfl) (by rw [txt_take hn0]; exact hks)) (ev_slS (ev_var rfl) (eo_some (ev_var rfl)) eo_none hzs) ?_) ?_) (ev_var rfl) ev_c W6.d (by show 5 ≤ 1000; decide) fun H7 e7 => ?_
        · rw [txt_take hn0, txt_drop hn0]
          have h1 : (txt (s.row.take n) ++ k) = txt (s.row.take n ++ k.cps.toList) := by rw [← txt_app, txt_cps]
          rw [h1, len_txt, len_txt, List.length_append, List.length_take, List.length_drop, Array.length_toList]
          have : k.length = k.cps.size := rfl
          omega
        · rw [txt_take hn0, txt_drop hn0]
          have h1 : (txt (s.row.take n) ++ k) = txt (s.row.take n ++ k.cps.toList) := by rw [← txt_app, txt_cps]
          rw [h1, txt_app, hrow]
        rw [wk_row]
        have nt : ∀ xs, H a ≠ some (.tup xs) := fun xs h => by rw [W.d] at h; cases h
        have f7 := (Fr.of (E6.trans e7)).upd (R := a :: wl :: dl :: cl :: cas) (a := a) (o := .dK (wK (.ref r) (.str (txt (s.put rs.length n k).row)) (.ref cl) (.ref wl) (.ref dl))) (.inl (by simp)) nt
        have b7 := (Bx.of (x := a) (E6.trans e7)).up (o := .dK (wK (.ref r) (.str (txt (s.put rs.length n k).row)) (.ref cl) (.ref wl) (.ref dl))) (Ex.refl H7)
        have d7 : upd H7 a (.dK (wK (.ref r) (.str (txt (s.put rs.length n k).row)) (.ref cl) (.ref wl) (.ref dl))) a = some (.dK (wK (.ref r) (.str (txt (s.put rs.length n k).row)) (.ref cl) (.ref wl) (.ref dl))) := upd_same
        generalize upd H7 a (.dK (wK (.ref r) (.str (txt (s.put rs.length n k).row)) (.ref cl) (.ref wl) (.ref dl))) = H8 at f7 b7 d7
        obtain ⟨ras, hr1, hr2⟩ := W.ru
        have hrl := hr2.length
        have hrl4 := RO.1
        have hcl := W.ci.length
        have hcs := O.c
        have hws := O.w
        have c8 := b7 _ _ (hac W.c) W.c
        have hnc : n ≤ (cas.map V.ref).length := by rw [List.length_map]; omega
        -- counts
        refine q_dputLY (P := fun zs H' => ∃ t, zs = (cas.map V.ref).take n ++ [V.ref t] ++ (cas.map V.ref).drop n ∧ H8 t = none ∧ H' t = some (.lst (iLs (List.replicate rs.length 0)))) (ely_mono (ely_cat (ely_cat (ely_L (el_sl0 (ev_dget (ev_var rfl) ev_c d7 (wg_counts _ _ _ _ _)) eo_none (eo_some (ev_var rfl)) c8))
          (ely_one (el_rep (n := rs.length) (el_lst (ea_cons ev_c ea_nil) (by decide)) (ev_is (ev_lenS (ev_dget (ev_var rfl) ev_c d7 (wg_rules _ _ _ _ _)) (f7.2 _ _ hr1)) (by rw [List.length_map, hrl])) (by omega))) (fun _ _ _ _ h => h) (fun v H1 H2 e ⟨t, h1, h2, h3⟩ => ⟨t, h1, h2, e _ _ h3⟩) ?_)
          (ely_L (el_sl0 (ev_dget (ev_var rfl) ev_c d7 (wg_counts _ _ _ _ _)) (eo_some (ev_var rfl)) eo_none c8)) (fun v H1 H2 e ⟨xs, ys, h0, h1, t, h2, h3, h4⟩ => ⟨xs, ys, h0, h1, t, h2, h3, e _ _ h4⟩) (fun _ _ _ _ h => h) ?_) ?_) (fun v H1 H2 e ⟨t, h1, h2, h3⟩ => ⟨t, h1, h2, e _ _ h3⟩) (ev_var rfl) ev_c d7 (by show 5 ≤ 1000; decide) fun c2 xs H9 nc2 e9 hc2 ht => ?_
        · rintro xs ys H' rfl ⟨t, rfl, _⟩
          rw [cutV_hd hnc, List.length_take, List.length_map]
          show _ + 1 ≤ 1000
          omega
        · rintro _ ys H' ⟨xs, zs, rfl, rfl, t, rfl, _⟩ rfl
          rw [cutV_hd hnc, cutV_tl hnc, List.length_append, List.length_take, List.length_drop, List.length_map]
          show _ + 1 + _ ≤ 1000
          omega
        · rintro _ H' e ⟨zs, ys, rfl, ⟨z1, z2, rfl, rfl, t, rfl, ht, ht2⟩, rfl⟩
          refine ⟨t, by rw [cutV_hd hnc, cutV_tl hnc], ht, ?_⟩
          rw [ht2]
          unfold iLs
          rw [List.map_replicate]
        obtain ⟨t, rfl, nt8, ht9⟩ := ht
        rw [wk_counts]
        have nc2a : c2 ≠ a := fun z => by rw [z, d7] at nc2; cases nc2
        have nta : t ≠ a := fun z => by rw [z, d7] at nt8; cases nt8
        have f9 := (f7.trans (Fr.of e9)).upd (a := a) (o := .dK (wK (.ref r) (.str (txt (s.put rs.length n k).row)) (.ref c2) (.ref wl) (.ref dl))) (.inl (by simp)) nt
        have b9 := b7.up (o := .dK (wK (.ref r) (.str (txt (s.put rs.length n k).row)) (.ref c2) (.ref wl) (.ref dl))) e9
        have d9 : upd H9 a (.dK (wK (.ref r) (.str (txt (s.put rs.length n k).row)) (.ref c2) (.ref wl) (.ref dl))) a = some (.dK (wK (.ref r) (.str (txt (s.put rs.length n k).row)) (.ref c2) (.ref wl) (.ref dl))) := upd_same
        have hc9 : upd H9 a (.dK (wK (.ref r) (.str (txt (s.put rs.length n k).row)) (.ref c2) (.ref wl) (.ref dl))) c2 = _ := (upd_ne nc2a).trans hc2
        have ht10 : upd H9 a (.dK (wK (.ref r) (.str (txt (s.put rs.length n k).row)) (.ref c2) (.ref wl) (.ref dl))) t = _ := (upd_ne nta).trans ht9
        generalize upd H9 a (.dK (wK (.ref r) (.str (txt (s.put rs.length n k).row)) (.ref c2) (.ref wl) (.ref dl))) = H10 at f9 b9 d9 hc9 ht10
        have w10 := b9 _ _ (hac W.w) W.w
        have hnw : n ≤ (bls s.wal).length := by rw [show (bls s.wal).length = s.wal.length from List.length_map ..]; omega
        have hwl : (bls s.wal).length = s.row.length := by rw [show (bls s.wal).length = s.wal.length from List.length_map ..]; omega
        -- walls
        refine s_dputL (el_cat (el_cat (el_sl0 (ev_dget (ev_var rfl) ev_c d9 (wg_walls _ _ _ _ _)) eo_none (eo_some (ev_var rfl)) w10) (el_lst (ea_cons ev_c ea_nil) (by decide)) ?_) (el_sl0 (ev_dget (ev_var rfl) ev_c d9 (wg_walls _ _ _ _ _)) (eo_some (ev_var rfl)) eo_none w10) ?_) (ev_var rfl) ev_c d9 (by show 5 ≤ 1000; decide) fun w2 H11 nw2 e11 hw2 => ?_
        · rw [cutV_hd hnw, List.length_take]
          show _ + 1 ≤ 100000
          omega
        · rw [cutV_hd hnw, cutV_tl hnw, List.length_append, List.length_take, List.length_drop]
          show _ + 1 + _ ≤ 100000
          omega
        rw [wk_walls]
        rw [cutV_hd hnw, cutV_tl hnw] at hw2
        have nw2a : w2 ≠ a := fun z => by rw [z, d9] at nw2; cases nw2
        have f11 := (f9.trans (Fr.of e11)).upd (a := a) (o := .dK (wK (.ref r) (.str (txt (s.put rs.length n k).row)) (.ref c2) (.ref w2) (.ref dl))) (.inl (by simp)) nt
        have b11 := b9.up (o := .dK (wK (.ref r) (.str (txt (s.put rs.length n k).row)) (.ref c2) (.ref w2) (.ref dl))) e11
        have ob : ∀ {x : Addr} {H' : Hp}, x ≠ a → Bx a H H' → H' x = none → H x = none := fun {x H'} hx hb hn => by
          cases h1 : H x with
          | none => rfl
          | some o => rw [hb _ _ hx h1] at hn; cases hn
        have kn : ∀ {x y : Addr} {o : HO}, H y = some o → H x = none → x ≠ y := fun h1 h2 z => by rw [z, h1] at h2; cases h2
        have nw0 := ob nw2a b9 nw2
        have nc0 := ob nc2a b7 nc2
        have nt0 := ob nta b7 nt8
        refine ⟨.non, s.put rs.length n k, .non, c2, w2, cas.take n ++ [t] ++ cas.drop n, _, _, rfl, hact, rfl, f11, ⟨upd_same, ?_, ?_, ?_, b11 _ _ (hac W.n) W.n, W.ni.mono fun b x h => f11.2 _ _ h, ⟨ras, f11.2 _ _ hr1, hr2.mono fun b x h => f11.2 _ _ h⟩, kn W.n nw0, ?_, Ne.symm (kn W.n nc0), fun hm => ?_, fun hm => ?_⟩, fun b hb => ?_⟩
        · rw [upd_ne nc2a, e11 _ _ hc9, List.map_append, List.map_append, List.map_take, List.map_drop]
          rfl
        · unfold ListsAt
          have hc11 : Pr (fun b x => upd H11 a (.dK (wK (.ref r) (.str (txt (s.put rs.length n k).row)) (.ref c2) (.ref w2) (.ref dl))) b = some (.lst (iLs x))) cas s.cnt := W.ci.mono fun b x h => b11 _ _ (hac h) h
          show Pr _ _ (s.cnt.take n ++ [List.replicate rs.length 0] ++ s.cnt.drop n)
          refine Pr.append (Pr.append (hc11.take n) ⟨?_, trivial⟩) (hc11.drop n)
          exact (upd_ne nta).trans (e11 _ _ ht10)
        · rw [upd_ne nw2a, hw2]
          show some (HO.lst ((bls s.wal).take n ++ [V.bl false] ++ (bls s.wal).drop n)) = some (HO.lst (bls (s.wal.take n ++ [false] ++ s.wal.drop n)))
          unfold bls
          simp
        · exact fun z => by rw [z, hc9] at nw2; cases nw2
        · simp only [List.mem_append, List.mem_singleton] at hm
          rcases hm with (hm | hm) | hm
          · obtain ⟨x, _, h⟩ := W.ci.memL (List.mem_of_mem_take hm)
            rw [h] at nw0; cases nw0
          · rw [hm, ht10] at nw2; cases nw2
          · obtain ⟨x, _, h⟩ := W.ci.memL (List.mem_of_mem_drop hm)
            rw [h] at nw0; cases nw0
        · simp only [List.mem_append, List.mem_singleton] at hm
          rcases hm with (hm | hm) | hm
          · exact W.di (List.mem_of_mem_take hm)
          · exact kn W.n nt0 hm.symm
          · exact W.di (List.mem_of_mem_drop hm)
        · simp only [List.mem_cons, List.mem_append, List.not_mem_nil, or_false] at hb ⊢
          rcases hb with hb | hb | hb | hb | (hb | hb) | hb
          · exact .inl (.inl hb)
          · rw [hb]; exact .inr nw0
          · exact .inl (.inr (.inr (.inl hb)))
          · rw [hb]; exact .inr nc0
          · exact .inl (.inr (.inr (.inr (.inr (List.mem_of_mem_take hb)))))
          · rw [hb]; exact .inr nt0
          · exact .inl (.inr (.inr (.inr (.inr (List.mem_of_mem_drop hb)))))
      | take pl =>
        refine s_if (b := decide (("take" : Str) = "put")) (w_eq (ev_var rfl) ev_c) (fun hb => absurd hb (by decide)) (fun _ H2 e2 => ?_)
        refine s_if (b := decide (("take" : Str) = "tick")) (w_eq (ev_var rfl) ev_c) (fun hb => absurd hb (by decide)) (fun _ H3 e3 => ?_)
        have E3 := (e1.trans e2).trans e3
        refine q_asg (v := .int pl) (ev_ixT (ev_var rfl) ev_c (E3 _ _ hq) (by rfl)) fun H4 e4 => ?_
        have E4 := E3.trans e4
        have hws := O.w
        have hch : ∀ {H' : Hp} {σ' : L2.St}, σ'[5]? = some (some (.int pl)) → σ'[3]? = some (some (.str (txt s.row))) → EvT (tNot (tTest (tChain (rI0 fun i j => .bl (decide (i ≤ j))) (rI0 fun i j => .bl (decide (i < j))) (tC (.int 0)) (tVar 5) (tCB (fun xs H Q => ∃ z, xs = [.str z] ∧ z.length ≤ sizeLine ∧ Q (.int z.length) H) (tCons (tVar 3) tNil))))) σ' H' (decide (¬ (0 ≤ pl ∧ pl < (s.row.length : Int)))) := fun h5 h3 => by
          refine et_is (et_not (et_test (ev_chain ev_c (ev_var h5) rv_I0 (fun _ => ev_lenZ (ev_var h3) hzs) fun _ => rv_I0))) ?_
          rw [len_txt]
          by_cases h1 : 0 ≤ pl <;> by_cases h2 : pl < (s.row.length : Int) <;> simp [h1, h2]
        refine q_when (b := decide (¬ (0 ≤ pl ∧ pl < (s.row.length : Int)))) ?_ (fun hb H5 e5 => ?_) (fun hb H5 e5 => ?_)
        · refine et_is (et_or (hch rfl rfl) (b := false) fun h => ?_) (Bool.or_false _)
          exact et_is (et_and (a := false) (b := false) (et_is (et_test (ev_ne (ev_var rfl) ev_c rfl)) (by rw [dec_str]; rfl)) (fun h => Bool.noConfusion h)) rfl
        · exact s_retU (eu_tup (ea_cons ev_c (ea_cons (ev_var rfl) ea_nil)) (by show 2 ≤ 100000; decide)) fun p H6 np e6 h6 => DK.jar pl (by rw [act_take, if_pos (of_decide_eq_true hb)]) p H6 ((E4.trans e5).trans e6) h6
        have hpl : 0 ≤ pl ∧ pl < (s.row.length : Int) := Classical.not_not.mp (of_decide_eq_false hb)
        have hact0 : act rs s (.take pl) = (.told (.sgn (s.row.getD pl.toNat 0)), s.take pl.toNat) := by rw [act_take, if_neg (Classical.not_not.mpr hpl)]
        obtain ⟨n, rfl⟩ : ∃ n : Nat, pl = (n : Int) := ⟨pl.toNat, by omega⟩
        have hact : act rs s (.take (n : Int)) = (.told (.sgn (s.row.getD n 0)), s.take n) := hact0
        have hn1 : n < s.row.length := by omega
        have p1 : ((n : Int) + 1) = ((n + 1 : Nat) : Int) := rfl
        refine s_if (b := decide (("take" : Str) = "take")) (w_eq (ev_var rfl) ev_c) (fun _ H6 e6 => ?_) (fun hb => absurd hb (by decide))
        have E6 := (E4.trans e5).trans e6
        refine q_asgX (ex_U (xs := [ch (s.row.getD n 0), .str (txt (s.take n).row)]) (eu_tup (ea_cons (ev_ixS (i := n) (ev_var rfl) (ev_var rfl) hn1 (by omega)) (ea_cons (ev_is (ev_addS (ev_slS (ev_var rfl) eo_none (eo_some (ev_var rfl)) hzs) (ev_slS (ev_var rfl) (eo_some (ev_I0 (ev_var rfl) ev_c)) eo_none hzs) ?_) ?_) ea_nil)) (by show 2 ≤ 100000; decide))) fun _ H7 e7 ⟨T2, ev, hT2⟩ => ?_
        · rw [p1, txt_take (by omega), txt_drop (by omega), len_txt, len_txt, List.length_take, List.length_drop]
          omega
        · rw [p1, txt_take (by omega), txt_drop (by omega), txt_app]
          rfl
        subst ev
        have E7 := E6.trans e7
        have W7 : WIn H7 a r cl wl dl cas das rs s ds := W.ex (fun b _ o h => E7 _ _ h) fun b xs h => E7 _ _ h
        refine ⟨T2, _, rfl, st_of hT2, rfl, _, _, rfl, _, _, rfl, _, rfl, a, _, rfl, DPut.k (k := .inr "row") W7.d (by show 5 < sizeLine; decide), rfl, ?_⟩
        rw [wk_row]
        have nt : ∀ xs, H a ≠ some (.tup xs) := fun xs h => by rw [W.d] at h; cases h
        have f7 := (Fr.of E7).upd (R := a :: wl :: dl :: cl :: cas) (a := a) (o := .dK (wK (.ref r) (.str (txt (s.take n).row)) (.ref cl) (.ref wl) (.ref dl))) (.inl (by simp)) nt
        have b7 := (Bx.of (x := a) E7).up (o := .dK (wK (.ref r) (.str (txt (s.take n).row)) (.ref cl) (.ref wl) (.ref dl))) (Ex.refl H7)
        have d7 : upd H7 a (.dK (wK (.ref r) (.str (txt (s.take n).row)) (.ref cl) (.ref wl) (.ref dl))) a = some (.dK (wK (.ref r) (.str (txt (s.take n).row)) (.ref cl) (.ref wl) (.ref dl))) := upd_same
        show tSeq _ _ _ _ (upd H7 a (.dK (wK (.ref r) (.str (txt (s.take n).row)) (.ref cl) (.ref wl) (.ref dl))))
        generalize upd H7 a (.dK (wK (.ref r) (.str (txt (s.take n).row)) (.ref cl) (.ref wl) (.ref dl))) = H8 at f7 b7 d7
        have c8 := b7 _ _ (hac W.c) W.c
        have w8 := b7 _ _ (hac W.w) W.w
        -- the copies
        refine q_asgX (ex_LL (el_list (ev_dget (ev_var rfl) ev_c d7 (wg_counts _ _ _ _ _)) (sq_of c8)) (el_list (ev_dget (ev_var rfl) ev_c d7 (wg_walls _ _ _ _ _)) (sq_of w8))) fun _ H9 e9 ⟨T3, c2, w2, ev, hT3, nc2, nw2, hcw, hc2, hw2⟩ => ?_
        subst ev
        have d9 := e9 _ _ d7
        have nc2a : c2 ≠ a := fun z => by rw [z, d7] at nc2; cases nc2
        have nw2a : w2 ≠ a := fun z => by rw [z, d7] at nw2; cases nw2
        refine ⟨T3, _, rfl, st_of hT3, rfl, _, _, rfl, _, rfl, a, _, rfl, DPut.k (k := .inr "counts") d9 (by show 5 < sizeLine; decide), _, _, rfl, _, rfl, a, _, rfl, DPut.k (k := .inr "walls") upd_same (by show 5 < sizeLine; decide), rfl, ?_⟩
        rw [wk_counts, wk_walls]
        have f9 := ((f7.trans (Fr.of e9)).upd (a := a) (o := .dK (wK (.ref r) (.str (txt (s.take n).row)) (.ref c2) (.ref wl) (.ref dl))) (.inl (by simp)) nt).upd (a := a) (o := .dK (wK (.ref r) (.str (txt (s.take n).row)) (.ref c2) (.ref w2) (.ref dl))) (.inl (by simp)) nt
        have b9 := (b7.up (o := .dK (wK (.ref r) (.str (txt (s.take n).row)) (.ref c2) (.ref wl) (.ref dl))) e9).up (o := .dK (wK (.ref r) (.str (txt (s.take n).row)) (.ref c2) (.ref w2) (.ref dl))) (Ex.refl _)
        have d10 : upd (upd H9 a (.dK (wK (.ref r) (.str (txt (s.take n).row)) (.ref c2) (.ref wl) (.ref dl)))) a (.dK (wK (.ref r) (.str (txt (s.take n).row)) (.ref c2) (.ref w2) (.ref dl))) a = some (.dK (wK (.ref r) (.str (txt (s.take n).row)) (.ref c2) (.ref w2) (.ref dl))) := upd_same
        have hc10 : upd (upd H9 a (.dK (wK (.ref r) (.str (txt (s.take n).row)) (.ref c2) (.ref wl) (.ref dl)))) a (.dK (wK (.ref r) (.str (txt (s.take n).row)) (.ref c2) (.ref w2) (.ref dl))) c2 = _ := (upd_ne nc2a).trans ((upd_ne nc2a).trans hc2)
        have hw10 : upd (upd H9 a (.dK (wK (.ref r) (.str (txt (s.take n).row)) (.ref c2) (.ref wl) (.ref dl)))) a (.dK (wK (.ref r) (.str (txt (s.take n).row)) (.ref c2) (.ref w2) (.ref dl))) w2 = _ := (upd_ne nw2a).trans ((upd_ne nw2a).trans hw2)
        show tSeq _ _ _ _ (upd (upd H9 a (.dK (wK (.ref r) (.str (txt (s.take n).row)) (.ref c2) (.ref wl) (.ref dl)))) a (.dK (wK (.ref r) (.str (txt (s.take n).row)) (.ref c2) (.ref w2) (.ref dl))))
        generalize upd (upd H9 a (.dK (wK (.ref r) (.str (txt (s.take n).row)) (.ref c2) (.ref wl) (.ref dl)))) a (.dK (wK (.ref r) (.str (txt (s.take n).row)) (.ref c2) (.ref w2) (.ref dl))) = H10 at f9 b9 d10 hc10 hw10
        have hcl := W.ci.length
        have hcs := O.c
        have ob : ∀ {x : Addr} {H' : Hp}, x ≠ a → Bx a H H' → H' x = none → H x = none := fun {x H'} hx hb hn => by
          cases h1 : H x with
          | none => rfl
          | some o => rw [hb _ _ hx h1] at hn; cases hn
        have kn : ∀ {x y : Addr} {o : HO}, H y = some o → H x = none → x ≠ y := fun h1 h2 z => by rw [z, h1] at h2; cases h2
        have nc0 := ob nc2a b7 nc2
        have nw0 := ob nw2a b7 nw2
        -- the two pops
        have hix : ∀ {m : Nat}, n < m → seqIndex? (n : Int) m = some n := fun {m} hm => by
          unfold seqIndex?
          simp
          omega
        refine (ev_dget (ev_var rfl) ev_c d10 (wg_counts _ _ _ _ _)) H10 (Ex.refl H10) _ fun H11 e11 => ⟨.inl ⟨rfl, _, sq_of (e11 _ _ hc10)⟩, _, rfl, c2, cas.map V.ref, (n : Int), n, ((cas.map V.ref)[n]'(by rw [List.length_map]; omega)), rfl, rfl, e11 _ _ hc10, by omega, by omega, hix (by rw [List.length_map]; omega), List.getElem?_eq_getElem _, ?_⟩
        have f11 := (f9.trans (Fr.of e11)).upd (a := c2) (o := .lst ((cas.map V.ref).eraseIdx n)) (.inr nc0) (fun xs h => by rw [nc0] at h; cases h)
        have d11 : upd H11 c2 (.lst ((cas.map V.ref).eraseIdx n)) a = _ := (upd_ne (Ne.symm nc2a)).trans (e11 _ _ d10)
        have hw11 : upd H11 c2 (.lst ((cas.map V.ref).eraseIdx n)) w2 = _ := (upd_ne (Ne.symm hcw)).trans (e11 _ _ hw10)
        have hc11 : upd H11 c2 (.lst ((cas.map V.ref).eraseIdx n)) c2 = some (.lst ((cas.map V.ref).eraseIdx n)) := upd_same
        have k11 : ∀ x o, x ≠ a → H x = some o → upd H11 c2 (.lst ((cas.map V.ref).eraseIdx n)) x = some o := fun x o hx h => by
          rw [upd_ne (fun z => by rw [z, nc0] at h; cases h)]
          exact e11 _ _ (b9 _ _ hx h)
        dsimp only
        generalize upd H11 c2 (.lst ((cas.map V.ref).eraseIdx n)) = H12 at f11 d11 hw11 hc11 k11
        have hwl : (bls s.wal).length = s.row.length := by rw [show (bls s.wal).length = s.wal.length from List.length_map ..]; omega
        refine (ev_dget (ev_var rfl) ev_c d11 (wg_walls _ _ _ _ _)) H12 (Ex.refl H12) _ fun H13 e13 => ⟨.inl ⟨rfl, _, sq_of (e13 _ _ hw11)⟩, _, rfl, w2, bls s.wal, (n : Int), n, ((bls s.wal)[n]'(by omega)), rfl, rfl, e13 _ _ hw11, by omega, by omega, hix (by omega), List.getElem?_eq_getElem _, ?_⟩
        have f13 := (f11.trans (Fr.of e13)).upd (a := w2) (o := .lst ((bls s.wal).eraseIdx n)) (.inr nw0) (fun xs h => by rw [nw0] at h; cases h)
        have k13 : ∀ x o, x ≠ a → H x = some o → upd H13 w2 (.lst ((bls s.wal).eraseIdx n)) x = some o := fun x o hx h => by
          rw [upd_ne (fun z => by rw [z, nw0] at h; cases h)]
          exact e13 _ _ (k11 _ _ hx h)
        refine ⟨.sgn (s.row.getD n 0), s.take n, ch (s.row.getD n 0), c2, w2, cas.take n ++ cas.drop (n + 1), _, _, rfl, hact, rfl, f13, ⟨(upd_ne (Ne.symm nw2a)).trans (e13 _ _ d11), ?_, ?_, ?_, k13 _ _ (hac W.n) W.n, W.ni.mono fun b x h => f13.2 _ _ h, W.ru.ex f13.2, kn W.n nw0, Ne.symm hcw, Ne.symm (kn W.n nc0), fun hm => ?_, fun hm => ?_⟩, fun b hb => ?_⟩
        · rw [upd_ne hcw, e13 _ _ hc11, List.eraseIdx_eq_take_drop_succ, List.map_append, List.map_take, List.map_drop]
        · have hc13 : Pr (fun b x => upd H13 w2 (.lst ((bls s.wal).eraseIdx n)) b = some (.lst (iLs x))) cas s.cnt := W.ci.mono fun b x h => k13 _ _ (hac h) h
          show Pr _ _ (s.cnt.take n ++ s.cnt.drop (n + 1))
          exact Pr.append (hc13.take n) (hc13.drop (n + 1))
        · rw [upd_same, List.eraseIdx_eq_take_drop_succ]
          show some (HO.lst ((bls s.wal).take n ++ (bls s.wal).drop (n + 1))) = some (HO.lst (bls (s.wal.take n ++ s.wal.drop (n + 1))))
          unfold bls
          simp
        · simp only [List.mem_append] at hm
          rcases hm with hm | hm
          · obtain ⟨x, _, h⟩ := W.ci.memL (List.mem_of_mem_take hm)
            rw [h] at nw0; cases nw0
          · obtain ⟨x, _, h⟩ := W.ci.memL (List.mem_of_mem_drop hm)
            rw [h] at nw0; cases nw0
        · simp only [List.mem_append] at hm
          rcases hm with hm | hm
          · exact W.di (List.mem_of_mem_take hm)
          · exact W.di (List.mem_of_mem_drop hm)
        · simp only [List.mem_cons, List.mem_append] at hb ⊢
          rcases hb with hb | hb | hb | hb | hb | hb
          · exact .inl (.inl hb)
          · rw [hb]; exact .inr nw0
          · exact .inl (.inr (.inr (.inl hb)))
          · rw [hb]; exact .inr nc0
          · exact .inl (.inr (.inr (.inr (.inr (List.mem_of_mem_take hb)))))
          · exact .inl (.inr (.inr (.inr (.inr (List.mem_of_mem_drop hb)))))
      | bar pl =>
        refine s_if (b := decide (("bar" : Str) = "put")) (w_eq (ev_var rfl) ev_c) (fun hb => absurd hb (by decide)) (fun _ H2 e2 => ?_)
        refine s_if (b := decide (("bar" : Str) = "tick")) (w_eq (ev_var rfl) ev_c) (fun hb => absurd hb (by decide)) (fun _ H3 e3 => ?_)
        have E3 := (e1.trans e2).trans e3
        refine q_asg (v := .int pl) (ev_ixT (ev_var rfl) ev_c (E3 _ _ hq) (by rfl)) fun H4 e4 => ?_
        have E4 := E3.trans e4
        have hws := O.w
        have hch : ∀ {H' : Hp} {σ' : L2.St}, σ'[5]? = some (some (.int pl)) → σ'[3]? = some (some (.str (txt s.row))) → EvT (tNot (tTest (tChain (rI0 fun i j => .bl (decide (i ≤ j))) (rI0 fun i j => .bl (decide (i < j))) (tC (.int 0)) (tVar 5) (tCB (fun xs H Q => ∃ z, xs = [.str z] ∧ z.length ≤ sizeLine ∧ Q (.int z.length) H) (tCons (tVar 3) tNil))))) σ' H' (decide (¬ (0 ≤ pl ∧ pl < (s.row.length : Int)))) := fun h5 h3 => by
          refine et_is (et_not (et_test (ev_chain ev_c (ev_var h5) rv_I0 (fun _ => ev_lenZ (ev_var h3) hzs) fun _ => rv_I0))) ?_
          rw [len_txt]
          by_cases h1 : 0 ≤ pl <;> by_cases h2 : pl < (s.row.length : Int) <;> simp [h1, h2]
        refine q_when (b := decide (¬ (0 ≤ pl ∧ pl < (s.row.length : Int))) || (s.wal.getD pl.toNat false)) ?_ (fun hb H5 e5 => ?_) (fun hb H5 e5 => ?_)
        · refine et_or (hch rfl rfl) fun h => ?_
          have hpl : 0 ≤ pl ∧ pl < (s.row.length : Int) := Classical.not_not.mp (of_decide_eq_false h)
          refine et_is (et_and (a := true) (et_is (et_test (ev_ne (ev_var rfl) ev_c rfl)) (by rw [dec_str]; rfl)) (fun h => et_test (ev_ne (ev_op (ev_dget (ev_var rfl) ev_c (E4 _ _ W.d) (wg_walls _ _ _ _ _)) (ev_var rfl) (rv_ixL (v := .bl (s.wal.getD pl.toNat false)) (sq_of (E4 _ _ W.w)) ?_)) (ev_eq (ev_var rfl) ev_c rfl) rfl))) ?_
          · have := bls_at (l := s.wal) (n := pl.toNat) (by omega)
            rw [Int.toNat_of_nonneg hpl.1] at this
            exact this
          · rw [dec_str]
            cases s.wal.getD pl.toNat false <;> rfl
        · refine s_retU (eu_tup (ea_cons ev_c (ea_cons (ev_var rfl) ea_nil)) (by show 2 ≤ 100000; decide)) fun p H6 np e6 h6 => DK.jar pl ?_ p H6 ((E4.trans e5).trans e6) h6
          rw [act_bar]
          by_cases h1 : ¬ (0 ≤ pl ∧ pl < (s.row.length : Int))
          · rw [if_pos h1]
          · rw [if_neg h1, if_pos]
            rw [decide_eq_false h1, Bool.false_or] at hb
            exact hb
        rw [Bool.or_eq_false_iff] at hb
        have hpl : 0 ≤ pl ∧ pl < (s.row.length : Int) := Classical.not_not.mp (of_decide_eq_false hb.1)
        have hact0 : act rs s (.bar pl) = (.told .non, { s with wal := s.wal.set pl.toNat true }) := by
          rw [act_bar, if_neg (Classical.not_not.mpr hpl)]
          refine if_neg ?_
          have := hb.2
          intro h; rw [h] at this; exact Bool.noConfusion this
        obtain ⟨n, rfl⟩ : ∃ n : Nat, pl = (n : Int) := ⟨pl.toNat, by omega⟩
        have hact : act rs s (.bar (n : Int)) = (.told .non, { s with wal := s.wal.set n true }) := hact0
        have hn1 : n < s.row.length := by omega
        refine s_if (b := decide (("bar" : Str) = "take")) (w_eq (ev_var rfl) ev_c) (fun hb => absurd hb (by decide)) (fun _ H6 e6 => ?_)
        have E6 := (E4.trans e5).trans e6
        refine s_setL (l := wl) (xs := bls s.wal) (j := n) (v := .bl true) (E6 _ _ W.w) (ev_is (ev_eq (ev_var rfl) ev_c rfl) (by rw [dec_str]; rfl)) (ev_dget (ev_var rfl) ev_c (E6 _ _ W.d) (wg_walls _ _ _ _ _)) (ev_var rfl) (by unfold bls; rw [List.length_map]; omega) fun H7 e7 => ?_
        have E7 := E6.trans e7
        have f7 := (Fr.of E7).upd (R := a :: wl :: dl :: cl :: cas) (a := wl) (o := .lst ((bls s.wal).set n (.bl true))) (.inl (by simp)) (fun xs h => by rw [W.w] at h; cases h)
        refine ⟨.non, _, .non, cl, wl, cas, _, _, rfl, hact, rfl, f7, ⟨(upd_ne (Ne.symm (hac W.w))).trans (E7 _ _ W.d), (upd_ne (Ne.symm W.wc)).trans (E7 _ _ W.c), Pr.monoM (fun b x hb _ h => (upd_ne (fun z => W.wi (by rw [← z]; exact hb))).trans (E7 _ _ h)) W.ci, by rw [upd_same]; unfold bls; rw [List.map_set], (upd_ne (Ne.symm W.wd)).trans (E7 _ _ W.n), W.ni.mono fun b x h => f7.2 _ _ h, W.ru.ex f7.2, W.wd, W.wc, W.dc, W.wi, W.di⟩, fun b hb => .inl hb⟩
      | unbar pl =>
        refine s_if (b := decide (("unbar" : Str) = "put")) (w_eq (ev_var rfl) ev_c) (fun hb => absurd hb (by decide)) (fun _ H2 e2 => ?_)
        refine s_if (b := decide (("unbar" : Str) = "tick")) (w_eq (ev_var rfl) ev_c) (fun hb => absurd hb (by decide)) (fun _ H3 e3 => ?_)
        have E3 := (e1.trans e2).trans e3
        refine q_asg (v := .int pl) (ev_ixT (ev_var rfl) ev_c (E3 _ _ hq) (by rfl)) fun H4 e4 => ?_
        have E4 := E3.trans e4
        have hws := O.w
        have hch : ∀ {H' : Hp} {σ' : L2.St}, σ'[5]? = some (some (.int pl)) → σ'[3]? = some (some (.str (txt s.row))) → EvT (tNot (tTest (tChain (rI0 fun i j => .bl (decide (i ≤ j))) (rI0 fun i j => .bl (decide (i < j))) (tC (.int 0)) (tVar 5) (tCB (fun xs H Q => ∃ z, xs = [.str z] ∧ z.length ≤ sizeLine ∧ Q (.int z.length) H) (tCons (tVar 3) tNil))))) σ' H' (decide (¬ (0 ≤ pl ∧ pl < (s.row.length : Int)))) := fun h5 h3 => by
          refine et_is (et_not (et_test (ev_chain ev_c (ev_var h5) rv_I0 (fun _ => ev_lenZ (ev_var h3) hzs) fun _ => rv_I0))) ?_
          rw [len_txt]
          by_cases h1 : 0 ≤ pl <;> by_cases h2 : pl < (s.row.length : Int) <;> simp [h1, h2]
        refine q_when (b := decide (¬ (0 ≤ pl ∧ pl < (s.row.length : Int))) || !(s.wal.getD pl.toNat false)) ?_ (fun hb H5 e5 => ?_) (fun hb H5 e5 => ?_)
        · refine et_or (hch rfl rfl) fun h => ?_
          have hpl : 0 ≤ pl ∧ pl < (s.row.length : Int) := Classical.not_not.mp (of_decide_eq_false h)
          refine et_is (et_and (a := true) (et_is (et_test (ev_ne (ev_var rfl) ev_c rfl)) (by rw [dec_str]; rfl)) (fun h => et_test (ev_ne (ev_op (ev_dget (ev_var rfl) ev_c (E4 _ _ W.d) (wg_walls _ _ _ _ _)) (ev_var rfl) (rv_ixL (v := .bl (s.wal.getD pl.toNat false)) (sq_of (E4 _ _ W.w)) ?_)) (ev_eq (ev_var rfl) ev_c rfl) rfl))) ?_
          · have := bls_at (l := s.wal) (n := pl.toNat) (by omega)
            rw [Int.toNat_of_nonneg hpl.1] at this
            exact this
          · rw [dec_str]
            cases s.wal.getD pl.toNat false <;> rfl
        · refine s_retU (eu_tup (ea_cons ev_c (ea_cons (ev_var rfl) ea_nil)) (by show 2 ≤ 100000; decide)) fun p H6 np e6 h6 => DK.jar pl ?_ p H6 ((E4.trans e5).trans e6) h6
          rw [act_unbar]
          by_cases h1 : ¬ (0 ≤ pl ∧ pl < (s.row.length : Int))
          · rw [if_pos h1]
          · rw [if_neg h1, if_pos]
            rw [decide_eq_false h1, Bool.false_or] at hb
            simpa using hb
        rw [Bool.or_eq_false_iff] at hb
        have hpl : 0 ≤ pl ∧ pl < (s.row.length : Int) := Classical.not_not.mp (of_decide_eq_false hb.1)
        have hact0 : act rs s (.unbar pl) = (.told .non, { s with wal := s.wal.set pl.toNat false }) := by
          rw [act_unbar, if_neg (Classical.not_not.mpr hpl)]
          refine if_neg ?_
          have := hb.2
          intro h; rw [h] at this; exact Bool.noConfusion this
        obtain ⟨n, rfl⟩ : ∃ n : Nat, pl = (n : Int) := ⟨pl.toNat, by omega⟩
        have hact : act rs s (.unbar (n : Int)) = (.told .non, { s with wal := s.wal.set n false }) := hact0
        have hn1 : n < s.row.length := by omega
        refine s_if (b := decide (("unbar" : Str) = "take")) (w_eq (ev_var rfl) ev_c) (fun hb => absurd hb (by decide)) (fun _ H6 e6 => ?_)
        have E6 := (E4.trans e5).trans e6
        refine s_setL (l := wl) (xs := bls s.wal) (j := n) (v := .bl false) (E6 _ _ W.w) (ev_is (ev_eq (ev_var rfl) ev_c rfl) (by rw [dec_str]; rfl)) (ev_dget (ev_var rfl) ev_c (E6 _ _ W.d) (wg_walls _ _ _ _ _)) (ev_var rfl) (by unfold bls; rw [List.length_map]; omega) fun H7 e7 => ?_
        have E7 := E6.trans e7
        have f7 := (Fr.of E7).upd (R := a :: wl :: dl :: cl :: cas) (a := wl) (o := .lst ((bls s.wal).set n (.bl false))) (.inl (by simp)) (fun xs h => by rw [W.w] at h; cases h)
        refine ⟨.non, _, .non, cl, wl, cas, _, _, rfl, hact, rfl, f7, ⟨(upd_ne (Ne.symm (hac W.w))).trans (E7 _ _ W.d), (upd_ne (Ne.symm W.wc)).trans (E7 _ _ W.c), Pr.monoM (fun b x hb _ h => (upd_ne (fun z => W.wi (by rw [← z]; exact hb))).trans (E7 _ _ h)) W.ci, by rw [upd_same]; unfold bls; rw [List.map_set], (upd_ne (Ne.symm W.wd)).trans (E7 _ _ W.n), W.ni.mono fun b x h => f7.2 _ _ h, W.ru.ex f7.2, W.wd, W.wc, W.dc, W.wi, W.di⟩, fun b hb => .inl hb⟩
      | tick =>
        refine s_if (b := decide (("tick" : Str) = "put")) (w_eq (ev_var rfl) ev_c) (fun hb => absurd hb (by decide)) (fun _ H2 e2 => ?_)
        refine s_if (b := decide (("tick" : Str) = "tick")) (w_eq (ev_var rfl) ev_c) (fun _ H3 e3 => ?_) (fun hb => absurd hb (by decide))
        have E3 := (e1.trans e2).trans e3
        have W3 : WIn H3 a r cl wl dl cas das rs s ds := W.ex (fun b _ o h => E3 _ _ h) fun b xs h => E3 _ _ h
        refine ⟨_, rfl, _, rfl, a, _, r, rs, s, ds, rfl, ⟨cl, wl, dl, cas, das, rfl, W3⟩, O, fun b H4 nb e4 hb => ⟨_, rfl, a, .ref r, rfl, DGet.k (k := .inr "rules") (e4 _ _ W3.d), by show 3 ≤ sizeLine; decide, fun wo nwo => ⟨_, rfl, _, rfl, a, .ref cl, rfl, DGet.k (k := .inr "counts") (Ex.new nwo _ _ (e4 _ _ W3.d)), ?_⟩⟩⟩
        have E5 := (E3.trans e4).trans (Ex.new (o := .tup [.str (txt s.row), .ref b, .ref r]) nwo)
        refine ⟨s.row, s.bars, rs, s.cnt, wo, b, r, cl, .str (txt s.row), cas, rfl, upd_same, Ex.new nwo _ _ hb, W.ru.ex fun b l q => E5 _ _ q, RO, E5 _ _ W.c, W.ci.mono fun b x h => E5 _ _ h, ⟨O.c, O.z, O.e⟩, fun z t as2 H6 nz e6 h6 nt nas ht hci => ?_⟩
        have E6 := E5.trans e6
        have W6 : WIn H6 a r cl wl dl cas das rs s ds := W.ex (fun b _ o h => E6 _ _ h) fun b xs h => E6 _ _ h
        refine ⟨z, _, rfl, st_of h6, rfl, _, _, rfl, _, rfl, a, _, rfl, DPut.k (k := .inr "row") W6.d (by show 5 < sizeLine; decide), _, _, rfl, _, rfl, a, _, rfl, DPut.k (k := .inr "counts") upd_same (by show 5 < sizeLine; decide), rfl, ?_⟩
        rw [wk_row, wk_counts]
        have nt0 : H t = none := fresh_back E5 nt
        have nas0 : ∀ x ∈ as2, H x = none := fun x hx => fresh_back E5 (nas x hx)
        have nta : t ≠ a := fun q => by rw [q, W.d] at nt0; cases nt0
        have ntu : ∀ xs, H a ≠ some (.tup xs) := fun xs h => by rw [W.d] at h; cases h
        have f7 := ((Fr.of E6).upd (R := a :: wl :: dl :: cl :: cas) (a := a) (o := .dK (wK (.ref r) (.str (txt (beatR s.row s.bars rs s.cnt))) (.ref cl) (.ref wl) (.ref dl))) (.inl (by simp)) ntu).upd (a := a) (o := .dK (wK (.ref r) (.str (txt (beatR s.row s.bars rs s.cnt))) (.ref t) (.ref wl) (.ref dl))) (.inl (by simp)) ntu
        have b7 := ((Bx.of (x := a) (Ex.refl H6)).up (o := .dK (wK (.ref r) (.str (txt (beatR s.row s.bars rs s.cnt))) (.ref cl) (.ref wl) (.ref dl))) (Ex.refl H6)).up (o := .dK (wK (.ref r) (.str (txt (beatR s.row s.bars rs s.cnt))) (.ref t) (.ref wl) (.ref dl))) (Ex.refl _)
        have d7 : upd (upd H6 a (.dK (wK (.ref r) (.str (txt (beatR s.row s.bars rs s.cnt))) (.ref cl) (.ref wl) (.ref dl)))) a (.dK (wK (.ref r) (.str (txt (beatR s.row s.bars rs s.cnt))) (.ref t) (.ref wl) (.ref dl))) a = some (.dK (wK (.ref r) (.str (txt (beatR s.row s.bars rs s.cnt))) (.ref t) (.ref wl) (.ref dl))) := upd_same
        dsimp only
        generalize upd (upd H6 a (.dK (wK (.ref r) (.str (txt (beatR s.row s.bars rs s.cnt))) (.ref cl) (.ref wl) (.ref dl)))) a (.dK (wK (.ref r) (.str (txt (beatR s.row s.bars rs s.cnt))) (.ref t) (.ref wl) (.ref dl))) = H7 at f7 b7 d7
        have hbl : (beatR s.row s.bars rs s.cnt).length = s.row.length := by unfold beatR; rw [List.length_map, List.length_range]
        have el := el_lcRm (σ := [some (.ref a), some (.ref q), some (.str "tick"), some (.str (txt s.row)), some .non, none, none]) (H := H7) (t := tTest (tOp rNe (tOp rIxS (tDGet (tVar 0) (tC (.str "row"))) (tVar 5)) (tOp rIxS (tVar 3) (tVar 5)))) (te := tVar 5) (j := 5) (vs := [5]) (n := ((txt s.row).length : Int)) (fun n => !decide ((beatR s.row s.bars rs s.cnt).getD n 0 = s.row.getD n 0)) iv (ea_cons (ev_lenZ (ev_var (i := 3) rfl) hzs) ea_nil) (by rw [len_txt]; omega) (fun _ => rfl)
          (fun i H1 e hi => by
            rw [len_txt] at hi
            have := et_test (ev_ne (ev_ixS (row := beatR s.row s.bars rs s.cnt) (i := i) (ev_dget (ev_var (σ := (wipe [some (.ref a), some (.ref q), some (.str "tick"), some (.str (txt s.row)), some .non, none, none] [5]).set 5 (some (.int (i : Int)))) (i := 0) rfl) ev_c (e _ _ d7) (wg_row _ _ _ _ _)) (ev_var (i := 5) rfl) (by omega) (by omega)) (ev_ixS (row := s.row) (i := i) (ev_var (i := 3) rfl) (ev_var (i := 5) rfl) (by omega) (by omega)) rfl)
            rw [dec_ch] at this
            exact this) (fun i H1 e hi _ => ev_var rfl)
        refine s_asgL el fun u H8 nu e8 hu8 => ?_
        have f8 := f7.trans (Fr.of e8)
        have kn : ∀ {x y : Addr} {o : HO}, H y = some o → H x = none → x ≠ y := fun h1 h2 z => by rw [z, h1] at h2; cases h2
        have nu0 : H u = none := by
          cases h1 : H u with
          | none => rfl
          | some o =>
            by_cases hm : u = a
            · rw [hm, d7] at nu; cases nu
            · rw [b7 _ _ hm (E6 _ _ h1)] at nu; cases nu
        have ha2 : ∀ x ∈ as2, x ≠ a := fun x hx => kn W.d (nas0 x hx)
        refine ⟨.plc (diff s.row (s.tick rs).row), s.tick rs, .ref u, t, wl, as2, _, _, rfl, act_tick, ⟨u, rfl, nu0, ?_⟩, f8, ⟨e8 _ _ d7, e8 _ _ (b7 _ _ nta ht), Pr.monoM (fun x y hx _ h => e8 _ _ (b7 _ _ (ha2 x hx) h)) hci, e8 _ _ (b7 _ _ (hac W.w) (E6 _ _ W.w)), e8 _ _ (b7 _ _ (hac W.n) (E6 _ _ W.n)), W.ni.mono fun b x h => f8.2 _ _ h, W.ru.ex f8.2, W.wd, Ne.symm (kn W.w nt0), Ne.symm (kn W.n nt0), fun hm => kn W.w (nas0 _ hm) rfl, fun hm => kn W.n (nas0 _ hm) rfl⟩, fun x hx => ?_⟩
        · rw [hu8]
          have : ((txt s.row).length : Int).toNat = s.row.length := by rw [len_txt]; omega
          rw [this]
          rfl
        · simp only [List.mem_cons] at hx ⊢
          rcases hx with hx | hx | hx | hx | hx
          · exact .inl (.inl hx)
          · exact .inl (.inr (.inl hx))
          · exact .inl (.inr (.inr (.inl hx)))
          · rw [hx]; exact .inr nt0
          · exact .inr (nas0 _ hx)
    · rintro σ' H2 ⟨x, s', v, cl', wl', cas', v5, v6, rfl, hact, hres, f2, W2, hR2⟩
      have hnl := W2.ni.length
      refine q_app (l := dl) (xs := das.map V.ref) W2.n (ev_dget (ev_var rfl) ev_c W2.d (wg_deeds _ _ _ _ _)) (ev_var rfl) (by rw [List.length_map]; omega) fun H3 e3 => ?_
      have f3 := (f2.trans (Fr.of e3)).upd (a := dl) (o := .lst (das.map V.ref ++ [.ref q])) (.inl (by simp)) (fun xs h => by rw [W.n] at h; cases h)
      have W3 : WIn (upd H3 dl (.lst (das.map V.ref ++ [.ref q]))) a r cl' wl' dl cas' (das ++ [q]) rs s' (ds ++ [d]) := by
        refine ⟨?_, ?_, Pr.monoM (fun b x hb _ h => ?_) W2.ci, ?_, by rw [upd_same, List.map_append]; rfl, Pr.snoc (W.ni.mono fun b x h => f3.2 _ _ h) (f3.2 _ _ hq), W.ru.ex f3.2, W2.wd, W2.wc, W2.dc, W2.wi, W2.di⟩
        · rw [upd_ne (fun z => hac W.n z.symm)]
          exact e3 _ _ W2.d
        · rw [upd_ne (Ne.symm W2.dc)]
          exact e3 _ _ W2.c
        · rw [upd_ne (show b ≠ dl from fun z => W2.di (by rw [← z]; exact hb))]
          exact e3 _ _ h
        · rw [upd_ne W2.wd]
          exact e3 _ _ W2.w
      have hres3 : ResV x v H (upd H3 dl (.lst (das.map V.ref ++ [.ref q]))) := by
        cases x with
        | non => exact hres
        | sgn c => exact hres
        | plc l =>
          obtain ⟨u, h1, h2, h3⟩ := hres
          exact ⟨u, h1, h2, by rw [upd_ne (Ne.symm (ne_of_none W.n h2))]; exact e3 _ _ h3⟩
      generalize upd H3 dl (.lst (das.map V.ref ++ [.ref q])) = H4 at f3 W3 hres3
      refine s_retU (eu_tup (ea_cons ev_c (ea_cons (ev_var rfl) ea_nil)) (by show 2 ≤ 100000; decide)) fun p H5 np e5 h5 => DK.told x s' hact p v _ H5 h5 ?_ (f3.trans (Fr.of e5)) ⟨cl', wl', dl, cas', das ++ [q], rfl, W3.ex (fun b _ o h => e5 _ _ h) fun b xs h => e5 _ _ h⟩ hR2
      cases x with
      | non => exact hres3
      | sgn c => exact hres3
      | plc l =>
        obtain ⟨u, h1, h2, h3⟩ := hres3
        exact ⟨u, h1, h2, e5 _ _ h3⟩
end
end S8
set_option Elab.async false
set_option linter.all false
set_option maxRecDepth 100000
set_option maxHeartbeats 400000
set_option pp.maxSteps 2000
namespace S8
open PySem PySem.Spec PyProof.Rows L2 L2H HotX Evl
/-! ### numbers drawn within expressions: an invariant of the heap, a word of the value -/
def EvR (te : TE) (σ : L2.St) (I : Hp → Prop) (P : V → Prop) : Prop := ∀ H1, I H1 → ∀ Q : VK, (∀ v H2, I H2 → P v → Q v H2) → te σ H1 Q
def EvRT (t : TT) (σ : L2.St) (I : Hp → Prop) (P : Bool → Prop) : Prop := ∀ H1, I H1 → ∀ Q : Bool → Hp → Prop, (∀ b H2, I H2 → P b → Q b H2) → t σ H1 Q
def StbI (I : Hp → Prop) : Prop := ∀ H1 H2, I H1 → Ex H1 H2 → I H2
def HI (H0 : Hp) (a c : Addr) (H : Hp) : Prop := Fr [a, c] H0 H ∧ HR H a c
theorem hi_stb {H0 : Hp} {a c : Addr} : StbI (HI H0 a c) := fun H1 H2 h e => ⟨h.1.trans (Fr.of e), h.2.mono e⟩
section
variable {σ : L2.St} {I : Hp → Prop} {ta tb te : TE} {t u : TT} {P P' : V → Prop} {Pb Pb' : Bool → Prop} {v : V} {D : Ends} {tz tu tw : TS} {H : Hp}
theorem er_ev (hS : StbI I) (h : ∀ H1, I H1 → Ev te σ H1 v) : EvR te σ I (fun x => x = v) := fun H1 i Q q => h H1 i H1 (Ex.refl H1) Q fun H2 e2 => q v H2 (hS _ _ i e2) rfl
theorem er_mono {P'' : V → Prop} (h : EvR te σ I P) (f : ∀ v, P v → P'' v) : EvR te σ I P'' := fun H1 i Q q => h H1 i Q fun v H2 i2 p => q v H2 i2 (f v p)
theorem er_next {H0 : Hp} {a c : Addr} {E : XK} {Pm : Int → Prop} (h0 : σ[0]? = some (some (.ref a))) (ha : EvR ta σ (HI H0 a c) (fun v => ∃ m, v = .int m ∧ Pm m)) (hm : ∀ m, Pm m → 0 < m ∧ m ≤ 1000000) :
    EvR (tCall spNext [] E (tCons (tVar 0) (tCons ta tNil))) σ (HI H0 a c) (fun v => ∃ (r : Nat) (m : Int), v = iv r ∧ Pm m ∧ (r : Int) < m) := fun H1 i Q q =>
  ⟨_, h0, ha H1 i _ fun v H2 i2 ⟨m, e, pm⟩ => by
    subst e
    exact ⟨a, c, m, rfl, i2.2, (hm m pm).1, (hm m pm).2, fun r H3 hr f3 hR => q (iv r) H3 ⟨i2.1.trans f3, hR⟩ ⟨r, m, rfl, pm, hr⟩⟩⟩
/-- the bound written -/
theorem er_nextC {H0 : Hp} {a c : Addr} {E : XK} {m : Int} (h0 : σ[0]? = some (some (.ref a))) (hm : 0 < m ∧ m ≤ 1000000) :
    EvR (tCall spNext [] E (tCons (tVar 0) (tCons (tC (.int m)) tNil))) σ (HI H0 a c) (fun v => ∃ r : Nat, v = iv r ∧ (r : Int) < m) :=
  er_mono (er_next (Pm := fun x => x = m) h0 (fun H1 i Q q => q _ H1 i ⟨m, rfl, rfl⟩) (fun x h => by rw [h]; exact hm)) fun v ⟨r, m', e, em, hr⟩ => ⟨r, e, by rw [← em]; exact hr⟩
theorem ert_eq {n : Int} (h : EvR ta σ I (fun v => ∃ m, v = .int m)) : EvRT (tTest (tOp rEq ta (tC (.int n)))) σ I (fun _ => True) := fun H1 i Q q =>
  h H1 i _ fun v H2 i2 ⟨m, e⟩ => by
    subst e
    exact ⟨rfl, _, rfl, q _ H2 i2 trivial⟩
theorem ert_ev {b : Bool} (hS : StbI I) (h : ∀ H1, I H1 → EvT t σ H1 b) : EvRT t σ I (fun x => x = b) := fun H1 i Q q => h H1 i H1 (Ex.refl H1) Q fun H2 e2 => q b H2 (hS _ _ i e2) rfl
theorem ert_and (h1 : EvRT t σ I Pb) (h2 : EvRT u σ I Pb') : EvRT (tAnd t u) σ I (fun _ => True) := fun H1 i Q q => h1 H1 i _ fun b H2 i2 _ => by
  cases b with
  | true =>
    show u σ H2 Q
    exact h2 H2 i2 Q fun b H3 i3 _ => q b H3 i3 trivial
  | false =>
    show Q false H2
    exact q false H2 i2 trivial
theorem r_asg {i : Nat} (hI : I H) (h : EvR te σ I P) (k : ∀ v H2, I H2 → P v → tz D (σ.set i (some v)) H2) : tSeq (tAsg te (gName i)) tz D σ H := h H hI _ fun v H2 i2 p => k v H2 i2 p
theorem s_rasg {i : Nat} (hI : I H) (h : EvR te σ I P) (k : ∀ v H2, I H2 → P v → D.nx (σ.set i (some v)) H2) : tAsg te (gName i) D σ H := h H hI _ fun v H2 i2 p => k v H2 i2 p
theorem r_if (hI : I H) (h : EvRT t σ I Pb) (h1 : ∀ H2, I H2 → Pb true → tu D σ H2) (h2 : ∀ H2, I H2 → Pb false → tw D σ H2) : tIfS t tu tw D σ H := h H hI _ fun b H2 i2 p => by
  cases b with
  | true =>
    show tu D σ H2
    exact h1 H2 i2 p
  | false =>
    show tw D σ H2
    exact h2 H2 i2 p
theorem er_if (h : EvRT t σ I Pb) (h1 : Pb true → EvR ta σ I P) (h2 : Pb false → EvR tb σ I P) : EvR (tIf t ta tb) σ I P := fun H1 i Q q => h H1 i _ fun b H2 i2 p => by
  cases b with
  | true =>
    show ta σ H2 Q
    exact h1 p H2 i2 Q q
  | false =>
    show tb σ H2 Q
    exact h2 p H2 i2 Q q
theorem er_andV (h1 : EvR ta σ I (fun v => ∃ b, v = .bl b)) (h2 : EvR tb σ I (fun v => ∃ b, v = .bl b)) : EvR (tAndV ta tb) σ I (fun v => ∃ b, v = .bl b) := fun H1 i Q q => h1 H1 i _ fun v H2 i2 ⟨b, e⟩ => by
  subst e
  refine ⟨b, rfl, ?_⟩
  cases b with
  | true =>
    show tb σ H2 Q
    exact h2 H2 i2 Q q
  | false =>
    show Q (.bl false) H2
    exact q _ H2 i2 ⟨_, rfl⟩
theorem er_eqV {n : Int} (h : EvR ta σ I (fun v => ∃ m, v = .int m)) : EvR (tOp rEq ta (tC (.int n))) σ I (fun v => ∃ b, v = .bl b) := fun H1 i Q q => h H1 i _ fun v H2 i2 ⟨m, e⟩ => by
  subst e
  exact ⟨rfl, q _ H2 i2 ⟨_, rfl⟩⟩
theorem HI.refl {H : Hp} {a c : Addr} (h : HR H a c) : HI H a c H := ⟨Fr.of (Ex.refl H), h⟩
theorem HI.trans {H0 H1 H2 : Hp} {a c : Addr} (h : HI H0 a c H1) (h2 : HI H1 a c H2) : HI H0 a c H2 := ⟨h.1.trans h2.1, h2.2⟩
theorem HI.ext {H0 H1 H2 : Hp} {a c : Addr} (h : HI H0 a c H1) (e : Ex H1 H2) : HI H0 a c H2 := ⟨h.1.trans (Fr.of e), h.2.mono e⟩
theorem HI.new {H0 H1 : Hp} {a c p : Addr} (h : HI H0 a c H1) (n : H1 p = none) : p ∉ [a, c] := fun hm => by
  obtain ⟨m, i, cs, h1, h2, _⟩ := h.2
  have hm' : p = a ∨ p = c := by simpa using hm
  rcases hm' with z | z
  · rw [z, h1] at n; cases n
  · rw [z, h2] at n; cases n
/-- a list written, at a drawn place -/
theorem er_pick {K : PySem.W.Frag} {H0 : Hp} {a c : Addr} {xs : List V} {Pr : Nat → Prop} (h1 : ∀ H1, EvL ta σ H1 xs) (h2 : ∀ B, EvR tb σ (HI B a c) (fun v => ∃ r : Nat, v = iv r ∧ Pr r)) (hx : ∀ r, Pr r → ∃ x, xs[r]? = some x ∧ P x) : EvR (tOp (rIxL K) ta tb) σ (HI H0 a c) P := by
  intro H1 i Q q
  refine h1 H1 H1 (Ex.refl H1) _ fun p H2 np e2 hp => ?_
  refine h2 H2 H2 (HI.refl (i.2.mono e2)) _ fun v H3 i3 ⟨r, e, pr⟩ => ?_
  subst e
  obtain ⟨x, hx1, hx2⟩ := hx r pr
  exact ⟨p, xs, (r : Int), x, rfl, rfl, sq_of (i3.1.1 _ _ (i.new np) hp), atI_nat hx1, q x H3 ((i.ext e2).trans i3) hx2⟩
theorem er_pickS {z : Str} {Pr : Nat → Prop} (h2 : EvR tb σ I (fun v => ∃ r : Nat, v = iv r ∧ Pr r)) (hz : z.length ≤ sizeLine) (hx : ∀ r, Pr r → ∃ x, z.cps.toList[r]? = some x ∧ P (ch x)) : EvR (tOp rIxS (tC (.str z)) tb) σ I P := by
  intro H1 i Q q
  refine h2 H1 i _ fun v H3 i3 ⟨r, e, pr⟩ => ?_
  subst e
  obtain ⟨x, hx1, hx2⟩ := hx r pr
  exact ⟨z, (r : Int), x, rfl, rfl, hz, atI_nat hx1, q _ H3 i3 hx2⟩
end
/-! ### deed -/
/-- deeds as data -/
def Deed.data : Deed → PyData
  | .put p k => .tuple [.str "put", .int p, .str k]
  | .take p => .tuple [.str "take", .int p]
  | .bar p => .tuple [.str "bar", .int p]
  | .unbar p => .tuple [.str "unbar", .int p]
  | .tick => .tuple [.str "tick"]
theorem abc_mem {r : Nat} (h : r < 5) : abcde.getD r 0 ∈ abcde := by
  have h5 : r = 0 ∨ r = 1 ∨ r = 2 ∨ r = 3 ∨ r = 4 := by omega
  rcases h5 with rfl | rfl | rfl | rfl | rfl <;> decide
theorem lay_put {p : Int} {k : Str} (h : PyData.canLay0 (.str k) = true) : (Deed.put p k).data.canLay0 = true := by
  have h1 : PyData.canLay0 (.str "put") = true := by decide +kernel
  have hi : PyData.canLay0 (.int p) = true := rfl
  show (PyData.canLay0 (.str "put") && (PyData.canLay0 (.int p) && (PyData.canLay0 (.str k) && true))) = true
  rw [h, h1, hi]
  rfl
theorem lay_two {w : Str} {p : Int} (h : PyData.canLay0 (.str w) = true) : PyData.canLay0 (.tuple [.str w, .int p]) = true := by
  show (PyData.canLay0 (.str w) && (PyData.canLay0 (.int p) && true)) = true
  rw [h]
  rfl
theorem lay_take {p : Int} : (Deed.take p).data.canLay0 = true := lay_two (by decide +kernel)
theorem lay_bar {p : Int} : (Deed.bar p).data.canLay0 = true := lay_two (by decide +kernel)
theorem lay_unbar {p : Int} : (Deed.unbar p).data.canLay0 = true := lay_two (by decide +kernel)
theorem lay_tick : Deed.tick.data.canLay0 = true := by
  show (PyData.canLay0 (.str "tick") && true) = true
  rw [show PyData.canLay0 (.str "tick") = true by decide +kernel]
  rfl
def spLDeed : Sp := fun vs H Q _ => ∃ (a c wa : Addr) (wild : Bool) (R : List Addr) (r : Addr) (rs : List Ru) (s : Sta) (ds : List Deed), vs = [.ref a, .ref wa, .bl wild] ∧ HR H a c ∧ WAt H wa R r rs s ds ∧ s.Ok rs.length ∧ (∀ b ∈ R, b ∉ [a, c]) ∧
  ∀ d p H', Deed.Small d → d.data.canLay0 = true → HI H a c H' → H' p = some (.tup d.vals) → Q (.ref p) H'
section
variable {P : Program} {w : World} {K : PySem.W.Frag} {mg : Str → Option Value} {base : Heap}
theorem ok_ldeed {f f1 : Addr} {fd fd1 : FuncData} (F : Fun K "_law_deed" "_law_deed" sLDeed f fd) (B : Bt mg) (g1 : mg "_law_next" = some (.ref f1)) (k1 : PySem.W.keepIn K (.ref f1) = true) (b1 : Binds K fd1 pNext []) (G1 : FnOk P w K mg base CX0 1 f1 fd1 pNext spNext) : FnOk P w K mg base CX0 2 f fd pLDeed spLDeed := by
  refine F.ok scLDeed (fun vs H Q E h => ?_) (fun cdv A outer s0 H vs Q E hr h => ?_)
  · obtain ⟨a, c, wa, wild, R, r, rs, s, ds, rfl, _⟩ := h
    rfl
  · have hu := hu_of hr
    refine ⟨_, pss_cons (ps_par (i := 3) (j := 4) rfl scLDeed.nd rfl rfl (by decide) rfl rfl (pa_cons (pe_call G1 hr (by rfl) g1 k1 b1 .nil pass0 (pa_cons (pv 0) (pa_cons pe_int pa_nil))) (pa_cons (pe_callB call_len_str (by rfl) B.len boot_len (pa_cons (pe_dget hu (pv 1) pe_str (fun _ _ => rfl)) pa_nil)) pa_nil)) (by rfl))
      (pss_cons (ps_set (i := 5) scLDeed.nd rfl (.inl rfl) (pe_ifExp (pt_cmpR op_gt (pv 4) pe_int (nomark _)) (pe_call G1 hr (by rfl) g1 k1 b1 .nil pass0 (pa_cons (pv 0) (pa_cons (pv 4) pa_nil))) pe_int))
      (pss_cut (ps_if (PW.pt (pw_and (pt_val (pv 2)) (pw_and1 (pt_cmpR op_eq (pe_call G1 hr (by rfl) g1 k1 b1 .nil pass0 (pa_cons (pv 0) (pa_cons pe_int pa_nil))) pe_int (nomark _)))))
        (pss_one (ps_set (i := 5) scLDeed.nd rfl (.inl rfl) (pe_ix ix_list (pe_lst (pa_cons (pe_un un_neg pe_int) (pa_cons (pv 4) (pa_cons (pe_op op_add (pv 4) pe_int) pa_nil)))) (pe_call G1 hr (by rfl) g1 k1 b1 .nil pass0 (pa_cons (pv 0) (pa_cons pe_int pa_nil))) (fun _ _ => rfl)))) pss_nil)
      (pss_cons (ps_if (PW.pt (pw_or (pt_cmpR op_eq (pv 4) pe_int (nomark _)) (pw_or1 (pt_cmpR op_lt (pv 3) pe_int (nomark _)))))
        (pss_cons (ps_set (i := 6) scLDeed.nd rfl (.inl rfl) (pe_ix ix_str pe_str (pe_call G1 hr (by rfl) g1 k1 b1 .nil pass0 (pa_cons (pv 0) (pa_cons (pe_ix ix_list (pe_lst (pa_cons pe_int (pa_cons pe_int pa_nil))) (pe_call G1 hr (by rfl) g1 k1 b1 .nil pass0 (pa_cons (pv 0) (pa_cons pe_int pa_nil))) (fun _ _ => rfl)) pa_nil))) (fun _ _ => rfl)))
        (pss_cut (ps_if (PW.pt (pw_and (pt_val (pv 2)) (pw_and1 (pt_cmpR op_eq (pe_call G1 hr (by rfl) g1 k1 b1 .nil pass0 (pa_cons (pv 0) (pa_cons pe_int pa_nil))) pe_int (nomark _)))))
          (pss_one (ps_set (i := 6) scLDeed.nd rfl (.inl rfl) (pe_ix ix_list (pe_lst (pa_cons pe_str (pa_cons pe_str (pa_cons pe_str (pa_cons pe_str pa_nil))))) (pe_call G1 hr (by rfl) g1 k1 b1 .nil pass0 (pa_cons (pv 0) (pa_cons pe_int pa_nil))) (fun _ _ => rfl)))) pss_nil)
        (pss_one (ps_ret (pe_tup (pa_cons pe_str (pa_cons (pe_op op_add (pv 5) (pe_callTy call_int1 (by rfl) B.int (by decide +kernel) (pa_cons (pe_and (pe_cmpR op_eq (pv 5) (pe_op op_sub (pv 4) pe_int) (nomark _)) (pe_one (pe_cmpR op_eq (pe_call G1 hr (by rfl) g1 k1 b1 .nil pass0 (pa_cons (pv 0) (pa_cons pe_int pa_nil))) pe_int (nomark _)))) pa_nil))) (pa_cons (pv 6) pa_nil)))))))) pss_nil)
      (pss_cons (ps_if (pt_cmpR op_eq (pv 3) pe_int (nomark _)) (pss_one (ps_ret (pe_ifExp (pt_cmpR op_eq (pe_call G1 hr (by rfl) g1 k1 b1 .nil pass0 (pa_cons (pv 0) (pa_cons pe_int pa_nil))) pe_int (nomark _)) (pe_tup (pa_cons pe_str (pa_cons (pv 5) pa_nil))) (pe_tup (pa_cons pe_str pa_nil))))) pss_nil)
      (pss_cons (ps_if (pt_cmpR op_lt (pv 3) pe_int (nomark _))
        (pss_cons (ps_set (i := 7) scLDeed.nd rfl (.inl rfl) (pe_and (pe_chain op_le op_lt pe_int (pv 5) (pv 4)) (pe_one (pe_ix ix_list (pe_dget hu (pv 1) pe_str (fun _ _ => rfl)) (pv 5) (fun _ _ => rfl)))))
        (pss_cut (ps_if (PW.pt (pw_and (pt_val (pv 2)) (pw_and1 (pt_cmpR op_eq (pe_call G1 hr (by rfl) g1 k1 b1 .nil pass0 (pa_cons (pv 0) (pa_cons pe_int pa_nil))) pe_int (nomark _)))))
          (pss_one (ps_set (i := 7) scLDeed.nd rfl (.inl rfl) (pe_not (pv 7)))) pss_nil)
        (pss_one (ps_ret (pe_tup (pa_cons (pe_ifExp (pt_val (pv 7)) pe_str pe_str) (pa_cons (pv 5) pa_nil))))))) pss_nil)
      (pss_one (ps_ret (pe_tup (pa_cons pe_str pa_nil))))))))), ?_⟩
    obtain ⟨a, c, wa, wild, R, r, rs, s, ds, rfl, hR, hW, O, hd, k⟩ := h
    have hz := O.z
    have hwl := O.w
    have hzs : (txt s.row).length ≤ sizeLine := by rw [len_txt]; exact sz_of (by omega)
    have hWi : ∀ {H' : Hp}, HI H a c H' → ∃ cl wl dl cas das, WIn H' wa r cl wl dl cas das rs s ds := fun i => by
      obtain ⟨cl, wl, dl, cas, das, _, h⟩ := hW.fr i.1 hd
      exact ⟨cl, wl, dl, cas, das, h⟩
    -- wish, many
    refine (er_nextC (m := 12) rfl ⟨by decide, by decide⟩) H (HI.refl hR) _ fun _ H1 i1 ⟨wish, e, hwish⟩ => ?_
    subst e
    obtain ⟨cl, wl, dl, cas, das, W1⟩ := hWi i1
    refine (ev_lenZ (ev_dget (ev_var rfl) ev_c W1.d (wg_row _ _ _ _ _)) hzs) H1 (Ex.refl H1) _ fun H2 e2 => ⟨_, _, rfl, ?_⟩
    have i2 := i1.ext e2
    rw [len_txt]
    dsimp only
    -- place
    refine r_asg (P := fun v => ∃ p : Int, v = .int p) i2 (er_if (ert_ev hi_stb fun H' i => et_test (ev_I0 (ev_var rfl) ev_c)) (fun hb => er_mono (er_next (Pm := fun m => m = (s.row.length : Int)) rfl (er_mono (er_ev hi_stb fun H' i => ev_var rfl) fun v h => ⟨_, h, rfl⟩) (fun m h => by
      have := of_decide_eq_true hb.symm
      omega)) fun v ⟨r, m, h, _⟩ => ⟨r, h⟩) (fun hb => er_mono (er_ev hi_stb fun H' i => ev_c) fun v h => ⟨_, h⟩)) fun _ H3 i3 ⟨pl, e⟩ => ?_
    subst e
    -- wild
    have hwild : ∀ {σ' : L2.St} (n : Int), 0 < n ∧ n ≤ 1000000 → σ'[0]? = some (some (.ref a)) → σ'[2]? = some (some (.bl wild)) → EvRT (tAnd (tB (tVar 2)) (tTest (tOp rEq (tCall spNext [] E0 (tCons (tVar 0) (tCons (tC (.int n)) tNil))) (tC (.int 0))))) σ' (HI H a c) (fun _ => True) := fun n hn h0 h2 =>
      ert_and (ert_ev hi_stb fun H' i => et_B (ev_var h2)) (ert_eq (er_mono (er_nextC h0 hn) fun v ⟨r, h, _⟩ => ⟨r, h⟩))
    refine q_cut (M := fun σ' H' => HI H a c H' ∧ ∃ (pl : Int) (v6 v7 : Option V), σ' = [some (.ref a), some (.ref wa), some (.bl wild), some (iv wish), some (.int s.row.length), some (.int pl), v6, v7]) ?_ ?_
    · refine r_if i3 (hwild 8 ⟨by decide, by decide⟩ rfl rfl) (fun H4 i4 _ => ?_) (fun H4 i4 _ => ⟨i4, pl, _, _, rfl⟩)
      refine s_rasg (P := fun v => ∃ p : Int, v = .int p) i4 (er_pick (xs := [.int (-1), .int s.row.length, .int (s.row.length + 1)]) (fun H1 => el_lst (ea_cons (ev_un ev_c ru_neg) (ea_cons (ev_var rfl) (ea_cons (ev_I0 (ev_var rfl) ev_c) ea_nil))) (by show 3 ≤ 100000; decide)) (fun B => er_nextC (m := 3) rfl ⟨by decide, by decide⟩) (fun r hr => ?_)) fun _ H5 i5 ⟨p, e⟩ => ?_
      · have : r = 0 ∨ r = 1 ∨ r = 2 := by omega
        rcases this with rfl | rfl | rfl
        · exact ⟨_, rfl, _, rfl⟩
        · exact ⟨_, rfl, _, rfl⟩
        · exact ⟨_, rfl, _, rfl⟩
      · subst e
        exact ⟨i5, p, _, _, rfl⟩
    rintro σ' H4 ⟨i4, pl2, v6, v7, rfl⟩
    refine q_when (et_or (et_test (ev_eq (ev_var rfl) ev_c rfl)) fun _ => et_test (ev_I0 (ev_var rfl) ev_c)) (fun hb H5 e5 => ?_) (fun hb H5 e5 => ?_)
    · have i5 := i4.ext e5
      refine r_asg (P := fun v => ∃ z : Str, v = .str z ∧ z.length ≤ 1000 ∧ PyData.canLay0 (.str z) = true) i5 (er_pickS (Pr := fun r => r < 5) (er_mono (er_next (Pm := fun m => m = 2 ∨ m = 5) rfl (er_pick (xs := [.int 2, .int 5]) (fun H1 => el_lst (ea_cons ev_c (ea_cons ev_c ea_nil)) (by show 2 ≤ 100000; decide)) (fun B => er_nextC (m := 2) rfl ⟨by decide, by decide⟩) (fun r hr => ?_)) (fun m h => ?_)) fun v ⟨r, m, h, hm, hr⟩ => ⟨r, h, ?_⟩) (by decide) (fun r hr => ?_)) fun _ H6 i6 ⟨z, e, hz⟩ => ?_
      · have : r = 0 ∨ r = 1 := by omega
        rcases this with rfl | rfl
        · exact ⟨_, rfl, 2, rfl, .inl rfl⟩
        · exact ⟨_, rfl, 5, rfl, .inr rfl⟩
      · rcases h with h | h <;> rw [h] <;> exact ⟨by decide, by decide⟩
      · rcases hm with h | h <;> omega
      · refine ⟨abcde.getD r 0, ?_, ⟨_, rfl, by show 1 ≤ 1000; decide, lay_ch (abc_mem hr)⟩⟩
        rw [cps_abcde]
        have : r < abcde.length := hr
        rw [List.getD_eq_getElem?_getD, List.getElem?_eq_getElem this]
        rfl
      subst e
      refine q_cut (M := fun σ' H' => HI H a c H' ∧ ∃ (z : Str) (v7 : Option V), (z.length ≤ 1000 ∧ PyData.canLay0 (.str z) = true) ∧ σ' = [some (.ref a), some (.ref wa), some (.bl wild), some (iv wish), some (.int s.row.length), some (.int pl2), some (.str z), v7]) ?_ ?_
      · refine r_if i6 (hwild 6 ⟨by decide, by decide⟩ rfl rfl) (fun H7 i7 _ => ?_) (fun H7 i7 _ => ⟨i7, z, _, hz, rfl⟩)
        refine s_rasg (P := fun v => ∃ z : Str, v = .str z ∧ z.length ≤ 1000 ∧ PyData.canLay0 (.str z) = true) i7 (er_pick (xs := [.str "", .str "f", .str "ab", .str "A"]) (fun H1 => el_lst (ea_cons ev_c (ea_cons ev_c (ea_cons ev_c (ea_cons ev_c ea_nil)))) (by show 4 ≤ 100000; decide)) (fun B => er_nextC (m := 4) rfl ⟨by decide, by decide⟩) (fun r hr => ?_)) fun _ H8 i8 ⟨z2, e, hz2⟩ => ?_
        · have : r = 0 ∨ r = 1 ∨ r = 2 ∨ r = 3 := by omega
          rcases this with rfl | rfl | rfl | rfl
          · exact ⟨_, rfl, _, rfl, by decide, by decide +kernel⟩
          · exact ⟨_, rfl, _, rfl, by decide, by decide +kernel⟩
          · exact ⟨_, rfl, _, rfl, by decide, by decide +kernel⟩
          · exact ⟨_, rfl, _, rfl, by decide, by decide +kernel⟩
        · subst e
          exact ⟨i8, z2, _, hz2, rfl⟩
      rintro σ' H7 ⟨i7, z3, v7, hz3, rfl⟩
      refine ⟨_, rfl, ?_⟩
      refine (er_andV (σ := [some (.ref a), some (.ref wa), some (.bl wild), some (iv wish), some (.int s.row.length), some (.int pl2), some (.str z3), v7]) (er_mono (er_ev hi_stb fun H' i => ev_eq (x := .int pl2) (y := .int ((s.row.length : Int) - 1)) (ev_var rfl) (ev_I0 (ev_var rfl) ev_c) rfl) fun v h => ⟨_, h⟩) (er_eqV (er_mono (er_nextC (m := 2) rfl ⟨by decide, by decide⟩) fun v ⟨r, h, _⟩ => ⟨r, h⟩))) H7 i7 _ fun _ H8 i8 ⟨b, e⟩ => ?_
      subst e
      refine .inr ⟨b, rfl, pl2, _, rfl, rfl, _, rfl, by show 3 ≤ sizeLine; decide, fun p np => ?_⟩
      exact k (.put (pl2 + if b = true then 1 else 0) z3) p _ hz3.1 (lay_put hz3.2) (i8.ext (Ex.new np)) upd_same
    have i5 := i4.ext e5
    refine q_when (et_test (ev_eq (ev_var rfl) ev_c rfl)) (fun hb H6 e6 => ?_) (fun hb H6 e6 => ?_)
    · have i6 := i5.ext e6
      refine (ert_eq (n := 0) (er_mono (er_nextC (σ := [some (.ref a), some (.ref wa), some (.bl wild), some (iv wish), some (.int s.row.length), some (.int pl2), v6, v7]) (E := E0) (m := 2) rfl ⟨by decide, by decide⟩) fun v ⟨r, h, _⟩ => ⟨r, h⟩)) H6 i6 _ fun b H7 i7 _ => ?_
      cases b with
      | true => exact ⟨_, rfl, by show 2 ≤ sizeLine; decide, fun p np => k (.take pl2) p _ trivial lay_take (i7.ext (Ex.new np)) upd_same⟩
      | false => exact ⟨by show 1 ≤ sizeLine; decide, fun p np => k .tick p _ trivial lay_tick (i7.ext (Ex.new np)) upd_same⟩
    have i6 := i5.ext e6
    refine q_when (et_test (ev_I0 (ev_var rfl) ev_c)) (fun hb H7 e7 => ?_) (fun hb H7 e7 => ?_)
    · have i7 := i6.ext e7
      obtain ⟨cl, wl, dl, cas, das, W7⟩ := hWi i7
      refine q_asg (v := .bl ((decide (0 ≤ pl2) && decide (pl2 < (s.row.length : Int))) && s.wal.getD pl2.toNat false)) (ev_andV (ev_chain ev_c (ev_var rfl) rv_I0 (fun _ => ev_var rfl) fun _ => rv_I0) fun h => ev_op (ev_dget (ev_var rfl) ev_c W7.d (wg_walls _ _ _ _ _)) (ev_var rfl) (rv_ixL (sq_of W7.w) ?_)) fun H8 e8 => ?_
      · rw [Bool.and_eq_true, decide_eq_true_eq, decide_eq_true_eq] at h
        have := bls_at (l := s.wal) (n := pl2.toNat) (by omega)
        rw [Int.toNat_of_nonneg h.1] at this
        exact this
      have i8 := i7.ext e8
      refine q_cut (M := fun σ' H' => HI H a c H' ∧ ∃ (sh : Bool) (v6 : Option V), σ' = [some (.ref a), some (.ref wa), some (.bl wild), some (iv wish), some (.int s.row.length), some (.int pl2), v6, some (.bl sh)]) ?_ ?_
      · refine r_if i8 (hwild 5 ⟨by decide, by decide⟩ rfl rfl) (fun H9 i9 _ => ?_) (fun H9 i9 _ => ⟨i9, _, _, rfl⟩)
        exact s_asg (ev_notV (ev_var rfl)) fun H10 e10 => ⟨i9.ext e10, _, _, rfl⟩
      rintro σ' H9 ⟨i9, sh, v6, rfl⟩
      refine s_retU (eu_tup (ea_cons (ev_if (v := .str (if sh then "unbar" else "bar")) (et_B (ev_var rfl)) (fun h => by rw [if_pos h]; exact ev_c) (fun h => by rw [if_neg (by rw [h]; exact Bool.false_ne_true)]; exact ev_c)) (ea_cons (ev_var rfl) ea_nil)) (by show 2 ≤ 100000; decide)) fun p H10 np e10 h10 => ?_
      cases sh with
      | true => exact k (.unbar pl2) p H10 trivial lay_unbar (i9.ext e10) h10
      | false => exact k (.bar pl2) p H10 trivial lay_bar (i9.ext e10) h10
    exact s_retU (eu_tup (ea_cons ev_c ea_nil) (by show 1 ≤ 100000; decide)) fun p H8 np e8 h8 => k .tick p H8 trivial lay_tick ((i6.ext e7).ext e8) h8
end
end S8
set_option Elab.async false
set_option linter.all false
set_option maxRecDepth 100000
set_option maxHeartbeats 400000
set_option pp.maxSteps 2000
namespace S8
open PySem PySem.Spec PyProof.Rows L2 L2H HotX Evl
/-! ### real -/
def spReal (xa : XA) (C : Addr) : Sp := fun vs H Q E => ∃ (p q : Addr) (R : List Addr) (rs : List Ru) (s : Sta) (ds : List Deed) (d : Deed), vs = [.ref p, .ref q] ∧ H q = some (.tup d.vals) ∧ d.Small ∧ ShelfAt C H p R rs s ds ∧ Good rs s ds ∧ DeedK xa C p R rs s ds d H Q E
section
variable {P : Program} {w : World} {K : PySem.W.Frag} {mg : Str → Option Value} {base : Heap}
theorem ok_real {xa : XA} {C f f1 f2 f3 f4 f5 : Addr} {fd fd1 fd2 fd3 fd4 fd5 : FuncData} (F : Fun K "_law_real" "_law_real" sReal f fd) (T : ShC K C)
    (m1 : Meth K C "put" f1) (b1 : Binds K fd1 pPut []) (G1 : FnOk P w K mg base (L2N.CX P w) 3 f1 fd1 pPut (spPut xa C))
    (m2 : Meth K C "take" f2) (b2 : Binds K fd2 pTake []) (G2 : FnOk P w K mg base (L2N.CX P w) 4 f2 fd2 pTake (spTake xa C))
    (m3 : Meth K C "bar" f3) (b3 : Binds K fd3 pBar []) (G3 : FnOk P w K mg base (L2N.CX P w) 4 f3 fd3 pBar (spBar xa C))
    (m4 : Meth K C "unbar" f4) (b4 : Binds K fd4 pUnbar []) (G4 : FnOk P w K mg base (L2N.CX P w) 4 f4 fd4 pUnbar (spUnbar xa C))
    (m5 : Meth K C "tick" f5) (b5 : Binds K fd5 pTick []) (G5 : FnOk P w K mg base CX0 4 f5 fd5 pTick (spTick xa C)) :
    FnOk P w K mg base (L2N.CX P w) 5 f fd pReal (spReal xa C) := by
  refine okXN F scReal (fun vs H Q E h => ?_) (fun cdv A outer s0 H vs Q E hr h => ?_)
  · obtain ⟨p, q, R, rs, s, ds, d, rfl, _⟩ := h
    rfl
  · have tk : L2N.Takes (cxOf (L2N.CX P w) P w K mg base nReal "_law_real" (defScope sReal) f cdv A outer s0 H E) (fun cls d _ H => E cls d H) := L2N.takes_of rfl rfl rfl rfl
    have hx := L2N.passes_call (E := E) tk fun _ _ _ _ h => h
    refine ⟨_, pss_cons (ps_set (i := 2) scReal.nd rfl (.inl rfl) (pe_ix ix_tup (pv 1) pe_int (fun _ _ => rfl)))
      (pss_cons (ps_if (pt_cmpR op_eq (pv 2) pe_str (nomark _)) (pss_one (ps_ret (pe_meth (pv 0) T.cl m1 G1 (hr.mono (by decide)) b1 .nil hx (pa_cons (pe_ix ix_tup (pv 1) pe_int (fun _ _ => rfl)) (pa_cons (pe_ix ix_tup (pv 1) pe_int (fun _ _ => rfl)) pa_nil))))) pss_nil)
      (pss_cons (ps_if (pt_cmpR op_eq (pv 2) pe_str (nomark _)) (pss_one (ps_ret (pe_meth (pv 0) T.cl m2 G2 hr b2 .nil hx (pa_cons (pe_ix ix_tup (pv 1) pe_int (fun _ _ => rfl)) pa_nil)))) pss_nil)
      (pss_cons (ps_if (pt_cmpR op_eq (pv 2) pe_str (nomark _)) (pss_one (ps_ret (pe_meth (pv 0) T.cl m3 G3 hr b3 .nil hx (pa_cons (pe_ix ix_tup (pv 1) pe_int (fun _ _ => rfl)) pa_nil)))) pss_nil)
      (pss_one (ps_ret (pe_ifExp (pt_cmpR op_eq (pv 2) pe_str (nomark _)) (pe_meth (pv 0) T.cl m4 G4 hr b4 .nil hx (pa_cons (pe_ix ix_tup (pv 1) pe_int (fun _ _ => rfl)) pa_nil)) (pe_meth0 (E := E) (pv 0) T.cl m5 G5 hr b5 .nil pass0))))))), ?_⟩
    obtain ⟨p, q, R, rs, s, ds, d, rfl, hq, hs, ⟨dx, r, c, wl, nl, rfl, hp, hrest⟩, G, DK⟩ := h
    have S : ShelfAt C H p [p, wl, nl] rs s ds := ⟨dx, r, c, wl, nl, rfl, hp, hrest⟩
    obtain ⟨rest, hv, _, _, hvl⟩ := vals_word d
    refine q_asg (ev_ixT (z := .str d.word) (ev_var rfl) ev_c hq (by rw [hv]; exact atI_nat (j := 0) rfl)) fun H1 e1 => ?_
    cases d with
    | put pl k =>
      refine q_when (b := decide (("put" : Str) = "put")) (w_eq (ev_var rfl) ev_c) (fun _ H2 e2 => ?_) (fun hb => absurd hb (by decide))
      have E2 := e1.trans e2
      refine m_call (vs := [.int pl, .str k]) (ev_var rfl) (E2 _ _ hp) (by rfl) (ea_cons (ev_ixT (ev_var rfl) ev_c (E2 _ _ hq) (by rfl)) (ea_cons (ev_ixT (ev_var rfl) ev_c (E2 _ _ hq) (by rfl)) ea_nil)) fun H3 e3 => ?_
      exact ⟨p, _, rs, s, ds, pl, k, rfl, hs, S.mono (E2.trans e3), G, DK.mono (E2.trans e3)⟩
    | take pl =>
      refine q_when (b := decide (("take" : Str) = "put")) (w_eq (ev_var rfl) ev_c) (fun hb => absurd hb (by decide)) (fun _ H2 e2 => ?_)
      refine q_when (b := decide (("take" : Str) = "take")) (w_eq (ev_var rfl) ev_c) (fun _ H3 e3 => ?_) (fun hb => absurd hb (by decide))
      have E2 := (e1.trans e2).trans e3
      refine m_call (vs := [.int pl]) (ev_var rfl) (E2 _ _ hp) (by rfl) (ea_cons (ev_ixT (ev_var rfl) ev_c (E2 _ _ hq) (by rfl)) ea_nil) fun H4 e4 => ?_
      exact ⟨p, _, rs, s, ds, pl, rfl, S.mono (E2.trans e4), G, DK.mono (E2.trans e4)⟩
    | bar pl =>
      refine q_when (b := decide (("bar" : Str) = "put")) (w_eq (ev_var rfl) ev_c) (fun hb => absurd hb (by decide)) (fun _ H2 e2 => ?_)
      refine q_when (b := decide (("bar" : Str) = "take")) (w_eq (ev_var rfl) ev_c) (fun hb => absurd hb (by decide)) (fun _ H3 e3 => ?_)
      refine q_when (b := decide (("bar" : Str) = "bar")) (w_eq (ev_var rfl) ev_c) (fun _ H4 e4 => ?_) (fun hb => absurd hb (by decide))
      have E2 := ((e1.trans e2).trans e3).trans e4
      refine m_call (vs := [.int pl]) (ev_var rfl) (E2 _ _ hp) (by rfl) (ea_cons (ev_ixT (ev_var rfl) ev_c (E2 _ _ hq) (by rfl)) ea_nil) fun H5 e5 => ?_
      exact ⟨p, _, rs, s, ds, pl, rfl, S.mono (E2.trans e5), G, DK.mono (E2.trans e5)⟩
    | unbar pl =>
      refine q_when (b := decide (("unbar" : Str) = "put")) (w_eq (ev_var rfl) ev_c) (fun hb => absurd hb (by decide)) (fun _ H2 e2 => ?_)
      refine q_when (b := decide (("unbar" : Str) = "take")) (w_eq (ev_var rfl) ev_c) (fun hb => absurd hb (by decide)) (fun _ H3 e3 => ?_)
      refine q_when (b := decide (("unbar" : Str) = "bar")) (w_eq (ev_var rfl) ev_c) (fun hb => absurd hb (by decide)) (fun _ H4 e4 => ?_)
      have E3 := ((e1.trans e2).trans e3).trans e4
      refine (w_eq (a := "unbar") (b := "unbar") (ev_var rfl) ev_c) H4 (Ex.refl H4) _ fun H5 e5 => ?_
      have E2 := E3.trans e5
      rw [if_pos (by decide)]
      refine m_call (vs := [.int pl]) (ev_var rfl) (E2 _ _ hp) (by rfl) (ea_cons (ev_ixT (ev_var rfl) ev_c (E2 _ _ hq) (by rfl)) ea_nil) fun H6 e6 => ?_
      exact ⟨p, _, rs, s, ds, pl, rfl, S.mono (E2.trans e6), G, DK.mono (E2.trans e6)⟩
    | tick =>
      refine q_when (b := decide (("tick" : Str) = "put")) (w_eq (ev_var rfl) ev_c) (fun hb => absurd hb (by decide)) (fun _ H2 e2 => ?_)
      refine q_when (b := decide (("tick" : Str) = "take")) (w_eq (ev_var rfl) ev_c) (fun hb => absurd hb (by decide)) (fun _ H3 e3 => ?_)
      refine q_when (b := decide (("tick" : Str) = "bar")) (w_eq (ev_var rfl) ev_c) (fun hb => absurd hb (by decide)) (fun _ H4 e4 => ?_)
      have E3 := ((e1.trans e2).trans e3).trans e4
      refine (w_eq (a := "tick") (b := "unbar") (ev_var rfl) ev_c) H4 (Ex.refl H4) _ fun H5 e5 => ?_
      have E2 := E3.trans e5
      rw [if_neg (by decide)]
      refine m_call (vs := []) (ev_var rfl) (E2 _ _ hp) (by rfl) ea_nil fun H6 e6 => ?_
      exact ⟨p, _, rs, s, ds, rfl, S.mono (E2.trans e6), G, DK.mono (E2.trans e6)⟩
end
end S8
set_option Elab.async false
set_option linter.all false
set_option maxRecDepth 100000
set_option maxHeartbeats 400000
set_option pp.maxSteps 2000
namespace S8
open PySem PySem.Spec PyProof.Rows L2 L2H HotX Evl
/-! ### alike -/
inductive Like (H : Hp) : Nat → V → V → Prop
  | int {n : Nat} (i : Int) : Like H (n + 1) (.int i) (.int i)
  | bl {n : Nat} (b : Bool) : Like H (n + 1) (.bl b) (.bl b)
  | str {n : Nat} (z : Str) : Like H (n + 1) (.str z) (.str z)
  | non {n : Nat} : Like H (n + 1) .non .non
  | tup {n : Nat} {p q : Addr} {xs ys : List V} (hp : H p = some (.tup xs)) (hq : H q = some (.tup ys)) (hl : xs.length = ys.length) (hz : ys.length ≤ 1000) (h : ∀ (i : Nat) (x y : V), xs[i]? = some x → ys[i]? = some y → Like H n x y) : Like H (n + 1) (.ref p) (.ref q)
  | lst {n : Nat} {p q : Addr} {xs ys : List V} (hp : H p = some (.lst xs)) (hq : H q = some (.lst ys)) (hl : xs.length = ys.length) (hz : ys.length ≤ 1000) (h : ∀ (i : Nat) (x y : V), xs[i]? = some x → ys[i]? = some y → Like H n x y) : Like H (n + 1) (.ref p) (.ref q)
theorem Like.mono {H H' : Hp} (e : Ex H H') : ∀ {n : Nat} {x y : V}, Like H n x y → Like H' n x y := fun h => by
  induction h with
  | int i => exact .int i
  | bl b => exact .bl b
  | str z => exact .str z
  | non => exact .non
  | tup hp hq hl hz _ ih => exact .tup (e _ _ hp) (e _ _ hq) hl hz ih
  | lst hp hq hl hz _ ih => exact .lst (e _ _ hp) (e _ _ hq) hl hz ih
theorem Like.up {H : Hp} {n : Nat} {x y : V} (h : Like H n x y) : Like H (n + 1) x y := by
  induction h with
  | int i => exact .int i
  | bl b => exact .bl b
  | str z => exact .str z
  | non => exact .non
  | tup hp hq hl hz _ ih => exact .tup hp hq hl hz ih
  | lst hp hq hl hz _ ih => exact .lst hp hq hl hz ih
section
variable {K : PySem.W.Frag} {σ : L2.St} {H : Hp} {ta : TE} {x : V} {t : String}
theorem ev_isi {n : String} {b : Bool} (ha : Ev ta σ H x) (ht : ∀ H', Ex H H' → TyX K H' x (.type t)) (hk : kitB t n = some b) : Ev (tCB (rIsi K) (tCons ta (tCons (tC (.ty n)) tNil))) σ H (.bl b) := fun H1 e Q q =>
  ha H1 e _ fun H2 e2 => ⟨x, .ty n, .type t, .type n, b, rfl, .ty n, ht H2 (e.trans e2), kit_ty hk, q H2 e2⟩
theorem ev_isiT {b1 b2 : Bool} (ha : Ev ta σ H x) (ht : ∀ H', Ex H H' → TyX K H' x (.type t)) (hk1 : kitB t "tuple" = some b1) (hk2 : kitB t "list" = some b2) : Ev (tCB (rIsiT K) (tCons ta (tCons (tTup (tCons (tC (.ty "tuple")) (tCons (tC (.ty "list")) tNil))) tNil))) σ H (.bl (b1 || b2)) := fun H1 e Q q =>
  ha H1 e _ fun H2 e2 => ⟨by show 2 ≤ sizeLine; decide, fun p np => ⟨x, p, [.ty "tuple", .ty "list"], .type t, [.type "tuple", .type "list"], b1 || b2, rfl, upd_same, .cons (.ty _) (.cons (.ty _) .nil), ht _ ((e.trans e2).trans (Ex.new np)), kitAny_cons (kit_ty hk1) (fun h => by
    rw [h]
    exact kitAny_cons (kit_ty hk2) (fun h2 => by rw [h2]; exact kitAny_nil) (fun h2 => h2)) (fun h => by rw [h]; rfl), q _ (e2.trans (Ex.new np))⟩⟩
end
def spAlike (n : Nat) : Sp := fun vs H Q _ => ∃ x y, vs = [x, y] ∧ Like H n x y ∧ RetV (.bl true) H Q
section
variable {P : Program} {w : World} {K : PySem.W.Frag} {mg : Str → Option Value} {base : Heap}
theorem ok_alike0 {f : Addr} {fd : FuncData} : FnOk P w K mg base CX0 0 f fd pAlike (spAlike 0) := by
  refine ⟨fun vs H Q E h => ?_, fun A outer s H args us vs Q E hr h0 hb r h => ?_⟩
  · obtain ⟨x, y, rfl, _⟩ := h
    rfl
  · obtain ⟨x, y, rfl, h, _⟩ := h
    cases h
theorem ok_alikeS {n : Nat} {f : Addr} {fd : FuncData} (F : Fun K "_law_alike" "_law_alike" sAlike f fd) (B : Bt mg) (g : mg "_law_alike" = some (.ref f)) (k : PySem.W.keepIn K (.ref f) = true) (b : Binds K fd pAlike []) (G : FnOk P w K mg base CX0 n f fd pAlike (spAlike n)) : FnOk P w K mg base CX0 (n + 1) f fd pAlike (spAlike (n + 1)) := by
  refine F.ok scAlike (fun vs H Q E h => ?_) (fun cdv A outer s0 H vs Q E hr h => ?_)
  · obtain ⟨x, y, rfl, _⟩ := h
    rfl
  · refine ⟨_, pss_cons (ps_if (pt_val (pe_callB call_isiT (by rfl) B.isi (by decide +kernel) (pa_cons (pv 1) (pa_cons (pe_tup (pa_cons (pe_bltn (v := .ty "tuple") (by rfl) B.tup (by decide +kernel) rfl) (pa_cons (pe_bltn (v := .ty "list") (by rfl) B.lst (by decide +kernel) rfl) pa_nil))) pa_nil))))
        (pss_cons (ps_if (PW.pt (pw_or (pt_not (pt_val (pe_callB call_isiT (by rfl) B.isi (by decide +kernel) (pa_cons (pv 0) (pa_cons (pe_tup (pa_cons (pe_bltn (v := .ty "tuple") (by rfl) B.tup (by decide +kernel) rfl) (pa_cons (pe_bltn (v := .ty "list") (by rfl) B.lst (by decide +kernel) rfl) pa_nil))) pa_nil))))) (pw_or1 (pt_cmpR op_ne (pe_callB call_isi (by rfl) B.isi (by decide +kernel) (pa_cons (pv 0) (pa_cons (pe_bltn (v := .ty "list") (by rfl) B.lst (by decide +kernel) rfl) pa_nil))) (pe_callB call_isi (by rfl) B.isi (by decide +kernel) (pa_cons (pv 1) (pa_cons (pe_bltn (v := .ty "list") (by rfl) B.lst (by decide +kernel) rfl) pa_nil))) (nomark _)))))
          (pss_one (ps_ret pe_bl)) pss_nil)
        (pss_cons (ps_if (pt_cmpR op_ne (pe_callB call_len_seq (by rfl) B.len boot_len (pa_cons (pv 0) pa_nil)) (pe_callB call_len_seq (by rfl) B.len boot_len (pa_cons (pv 1) pa_nil)) (nomark _)) (pss_one (ps_ret pe_bl)) pss_nil)
        (pss_one (ps_ret (pe_cmpR (op_eqD hr.units) (pe_lc (own := [("_law_k", 2)]) (g := gName 2) (tt := tNot (tB (tCall (spAlike n) [] E0 (tCons (tOp (rIx K) (tVar 0) (tVar 2)) (tCons (tOp (rIx K) (tVar 1) (tVar 2)) tNil))))) (te := tVar 2) (by rfl) scAlike.nd (pi_range1 (by rfl) B.rng (pa_cons (pe_callB call_len_seq (by rfl) B.len boot_len (pa_cons (pv 1) pa_nil)) pa_nil)) (blkOk_by (own := [("_law_k", 2)]) (N := nAlike) (sc := defScope sAlike) (by decide +kernel))
          (fun _ _ _ _ _ => pg_name (i := 2) scAlike.nd rfl (.inl rfl)) (fun _ _ _ _ _ => pts_one (pt_not (pt_val (pe_call G hr (by rfl) g k b .nil pass0 (pa_cons (pe_ix ix_seq (pv 0) (pv 2) (fun _ _ => rfl)) (pa_cons (pe_ix ix_seq (pv 1) (pv 2) (fun _ _ => rfl)) pa_nil)))))) (fun _ _ _ _ _ => pv 2)) (pe_lst pa_nil) (nomark _)))))) pss_nil)
      (pss_cons (ps_if (PW.pt (pw_or (pt_cmpR op_isN (pv 1) pe_non (nomark _)) (pw_or1 (pt_val (pe_callB call_isi (by rfl) B.isi (by decide +kernel) (pa_cons (pv 1) (pa_cons (pe_bltn (v := .ty "str") (by rfl) B.str (by decide +kernel) rfl) pa_nil)))))))
        (pss_one (ps_ret (pe_and (pe_cmpR op_eq (pv 0) (pv 1) (nomark _)) (pe_one (pe_cmpR op_eq (pe_callB call_isi (by rfl) B.isi (by decide +kernel) (pa_cons (pv 0) (pa_cons (pe_bltn (v := .ty "str") (by rfl) B.str (by decide +kernel) rfl) pa_nil))) (pe_callB call_isi (by rfl) B.isi (by decide +kernel) (pa_cons (pv 1) (pa_cons (pe_bltn (v := .ty "str") (by rfl) B.str (by decide +kernel) rfl) pa_nil))) (nomark _)))))) pss_nil)
      (pss_one (ps_ret (pe_and (pe_callB call_isi (by rfl) B.isi (by decide +kernel) (pa_cons (pv 0) (pa_cons (pe_bltn (v := .ty "int") (by rfl) B.int (by decide +kernel) rfl) pa_nil)))
        (pe_and (pe_cmpR op_eq (pe_callB call_isi (by rfl) B.isi (by decide +kernel) (pa_cons (pv 0) (pa_cons (pe_bltn (v := .ty "bool") (by rfl) B.bool (by decide +kernel) rfl) pa_nil))) (pe_callB call_isi (by rfl) B.isi (by decide +kernel) (pa_cons (pv 1) (pa_cons (pe_bltn (v := .ty "bool") (by rfl) B.bool (by decide +kernel) rfl) pa_nil))) (nomark _))
        (pe_one (pe_cmpR op_eq (pv 0) (pv 1) (nomark _)))))))), ?_⟩
    obtain ⟨x, y, rfl, hL, kk⟩ := h
    cases hL with
    | int i =>
      have ty : ∀ H', Ex H H' → TyX K H' (.int i) (.type "int") := fun H' _ => .base (.int i)
      refine q_when (b := false || false) (et_B (ev_isiT (ev_var rfl) ty (by decide +kernel) (by decide +kernel))) (fun q => Bool.noConfusion q) (fun _ H1 e1 => ?_)
      have ty1 : ∀ H', Ex H1 H' → TyX K H' (.int i) (.type "int") := fun H' e => ty H' (e1.trans e)
      refine q_when (b := false || false) (et_or (et_test (ev_op (z := .bl false) (ev_var rfl) ev_c (rv_of fun H1 _ Q q => ⟨rfl, q⟩))) fun _ => et_B (ev_isi (ev_var rfl) ty1 (by decide +kernel))) (fun q => Bool.noConfusion q) (fun _ H2 e2 => ?_)
      have ty2 : ∀ H', Ex H2 H' → TyX K H' (.int i) (.type "int") := fun H' e => ty1 H' (e2.trans e)
      refine s_ret (ev_is (ev_andV (ev_isi (b := true) (ev_var rfl) ty2 (by decide +kernel)) fun _ => ev_andV (ev_eq (ev_isi (b := false) (ev_var rfl) ty2 (by decide +kernel)) (ev_isi (b := false) (ev_var rfl) ty2 (by decide +kernel)) rfl) fun _ => ev_eq (ev_var rfl) (ev_var rfl) rfl) (w := .bl true) ?_) fun H3 e3 => kk H3 ((e1.trans e2).trans e3)
      simp
    | bl b =>
      have ty : ∀ H', Ex H H' → TyX K H' (.bl b) (.type "bool") := fun H' _ => .base (.bl b)
      refine q_when (b := false || false) (et_B (ev_isiT (ev_var rfl) ty (by decide +kernel) (by decide +kernel))) (fun q => Bool.noConfusion q) (fun _ H1 e1 => ?_)
      have ty1 : ∀ H', Ex H1 H' → TyX K H' (.bl b) (.type "bool") := fun H' e => ty H' (e1.trans e)
      refine q_when (b := false || false) (et_or (et_test (ev_op (z := .bl false) (ev_var rfl) ev_c (rv_of fun H1 _ Q q => ⟨rfl, q⟩))) fun _ => et_B (ev_isi (ev_var rfl) ty1 (by decide +kernel))) (fun q => Bool.noConfusion q) (fun _ H2 e2 => ?_)
      have ty2 : ∀ H', Ex H2 H' → TyX K H' (.bl b) (.type "bool") := fun H' e => ty1 H' (e2.trans e)
      refine s_ret (ev_is (ev_andV (ev_isi (b := true) (ev_var rfl) ty2 (by decide +kernel)) fun _ => ev_andV (ev_eq (ev_isi (b := true) (ev_var rfl) ty2 (by decide +kernel)) (ev_isi (b := true) (ev_var rfl) ty2 (by decide +kernel)) rfl) fun _ => ev_eq (ev_var rfl) (ev_var rfl) rfl) (w := .bl true) ?_) fun H3 e3 => kk H3 ((e1.trans e2).trans e3)
      simp
    | str z =>
      have ty : ∀ H', Ex H H' → TyX K H' (.str z) (.type "str") := fun H' _ => .base (.str z)
      refine q_when (b := false || false) (et_B (ev_isiT (ev_var rfl) ty (by decide +kernel) (by decide +kernel))) (fun q => Bool.noConfusion q) (fun _ H1 e1 => ?_)
      have ty1 : ∀ H', Ex H1 H' → TyX K H' (.str z) (.type "str") := fun H' e => ty H' (e1.trans e)
      refine q_when (b := false || true) (et_or (et_test (ev_op (z := .bl false) (ev_var rfl) ev_c (rv_of fun H1 _ Q q => ⟨rfl, q⟩))) fun _ => et_B (ev_isi (ev_var rfl) ty1 (by decide +kernel))) (fun _ H2 e2 => ?_) (fun q => Bool.noConfusion q)
      have ty2 : ∀ H', Ex H2 H' → TyX K H' (.str z) (.type "str") := fun H' e => ty1 H' (e2.trans e)
      refine s_ret (ev_is (ev_andV (ev_eq (ev_var rfl) (ev_var rfl) rfl) fun _ => ev_eq (ev_isi (b := true) (ev_var rfl) ty2 (by decide +kernel)) (ev_isi (b := true) (ev_var rfl) ty2 (by decide +kernel)) rfl) (w := .bl true) ?_) fun H3 e3 => kk H3 ((e1.trans e2).trans e3)
      simp
    | non =>
      have ty : ∀ H', Ex H H' → TyX K H' .non (.type "NoneType") := fun H' _ => .base .non
      refine q_when (b := false || false) (et_B (ev_isiT (ev_var rfl) ty (by decide +kernel) (by decide +kernel))) (fun q => Bool.noConfusion q) (fun _ H1 e1 => ?_)
      have ty1 : ∀ H', Ex H1 H' → TyX K H' .non (.type "NoneType") := fun H' e => ty H' (e1.trans e)
      refine q_when (b := true || false) (et_or (et_test (ev_op (z := .bl true) (ev_var rfl) ev_c (rv_of fun H1 _ Q q => ⟨rfl, q⟩))) fun _ => et_B (ev_isi (ev_var rfl) ty1 (by decide +kernel))) (fun _ H2 e2 => ?_) (fun q => Bool.noConfusion q)
      have ty2 : ∀ H', Ex H2 H' → TyX K H' .non (.type "NoneType") := fun H' e => ty1 H' (e2.trans e)
      refine s_ret (ev_is (ev_andV (ev_eq (ev_var rfl) (ev_var rfl) rfl) fun _ => ev_eq (ev_isi (b := false) (ev_var rfl) ty2 (by decide +kernel)) (ev_isi (b := false) (ev_var rfl) ty2 (by decide +kernel)) rfl) (w := .bl true) ?_) fun H3 e3 => kk H3 ((e1.trans e2).trans e3)
      simp
    | @tup _ p q xs ys hp hq hl hz hh =>
      have tyx : ∀ H', Ex H H' → TyX K H' (.ref p) (.type "tuple") := fun H' e => .base (.tup (e _ _ hp))
      have tyy : ∀ H', Ex H H' → TyX K H' (.ref q) (.type "tuple") := fun H' e => .base (.tup (e _ _ hq))
      refine q_when (b := true || false) (et_B (ev_isiT (ev_var rfl) tyy (by decide +kernel) (by decide +kernel))) (fun _ H1 e1 => ?_) (fun q => Bool.noConfusion q)
      refine q_when (b := false) (et_is (et_or (et_not (et_B (ev_isiT (b1 := true) (b2 := false) (ev_var rfl) (fun H' e => tyx H' (e1.trans e)) (by decide +kernel) (by decide +kernel)))) fun _ => et_test (ev_ne (ev_isi (b := false) (ev_var rfl) (fun H' e => tyx H' (e1.trans e)) (by decide +kernel)) (ev_isi (b := false) (ev_var rfl) (fun H' e => tyy H' (e1.trans e)) (by decide +kernel)) rfl)) rfl) (fun q => Bool.noConfusion q) (fun _ H2 e2 => ?_)
      have E2 := e1.trans e2
      have lenE : ∀ {i : Nat} {r : Addr} {zs : List V} {σ' : L2.St} {H' : Hp}, σ'[i]? = some (some (.ref r)) → H' r = some (.tup zs) → Ev (tCB (fun xs H Q => ∃ p ys, xs = [.ref p] ∧ (SqL K H p ys ∨ SqT K H p ys) ∧ Q (.int ys.length) H) (tCons (tVar i) tNil)) σ' H' (.int zs.length) := fun h1 h2 => ev_lenS (ev_var h1) h2
      refine q_when (b := false) (et_is (et_test (ev_ne (lenE rfl (E2 _ _ hp)) (lenE rfl (E2 _ _ hq)) rfl)) (by rw [hl]; simp)) (fun q => Bool.noConfusion q) (fun _ H3 e3 => ?_)
      have E3 := E2.trans e3
      have ixE : ∀ {i : Nat} {r : Addr} {zs : List V} {j : Nat} {z : V} {σ' : L2.St} {H' : Hp}, σ'[i]? = some (some (.ref r)) → σ'[2]? = some (some (.int (j : Int))) → H' r = some (.tup zs) → zs[j]? = some z → Ev (tOp (rIx K) (tVar i) (tVar 2)) σ' H' z := fun h1 h2 h3 h4 => ev_op (ev_var h1) (ev_var h2) (fun H1 e Q q => .inr (.inl ⟨_, _, _, _, rfl, rfl, st_of (e _ _ h3), atI_nat h4, q H1 (Ex.refl H1)⟩))
      have el := el_lcRm (σ := L2.start nAlike [.ref p, .ref q]) (H := H3) (t := tNot (tB (tCall (spAlike n) [] E0 (tCons (tOp (rIx K) (tVar 0) (tVar 2)) (tCons (tOp (rIx K) (tVar 1) (tVar 2)) tNil))))) (te := tVar 2) (j := 2) (vs := [2]) (n := (ys.length : Int)) (fun _ => false) iv (ea_cons (lenE (i := 1) rfl (E3 _ _ hq)) ea_nil) (by omega) (fun _ => rfl)
        (fun i H4 e4 hi => by
          have hi1 : i < ys.length := by omega
          have hi2 : i < xs.length := by omega
          refine et_is (et_not (et_B (ev_call (vs := [xs[i], ys[i]]) (ea_cons (ixE (i := 0) rfl rfl (e4 _ _ (E3 _ _ hp)) (List.getElem?_eq_getElem hi2)) (ea_cons (ixE (i := 1) rfl rfl (e4 _ _ (E3 _ _ hq)) (List.getElem?_eq_getElem hi1)) ea_nil)) (z := .bl true) (fun H5 e5 Q2 q2 E' => ⟨xs[i], ys[i], rfl, (hh i _ _ (List.getElem?_eq_getElem hi2) (List.getElem?_eq_getElem hi1)).mono ((E3.trans e4).trans e5), q2⟩)))) rfl)
        (fun i H4 e4 hi h => Bool.noConfusion h)
      have eg : given ((ys.length : Int)).toNat (fun _ => false) iv = [] := by
        unfold given
        rw [List.filter_eq_nil_iff.mpr (fun _ _ => Bool.false_ne_true)]
        rfl
      rw [eg] at el
      refine s_ret (ev_opLL el (el_lst ea_nil (by decide)) (z := .bl true) fun u v H4 hu hv e4 => rv_of fun H5 e5 Q q => ⟨.list [], .list [], .lst (sq_of (e5 _ _ hu)) .nil, .lst (sq_of (e5 _ _ hv)) .nil, by decide, by decide, ?_⟩) fun H4 e4 => kk H4 (E3.trans e4)
      exact q
    | @lst _ p q xs ys hp hq hl hz hh =>
      have tyx : ∀ H', Ex H H' → TyX K H' (.ref p) (.type "list") := fun H' e => .base (.lst (e _ _ hp))
      have tyy : ∀ H', Ex H H' → TyX K H' (.ref q) (.type "list") := fun H' e => .base (.lst (e _ _ hq))
      refine q_when (b := false || true) (et_B (ev_isiT (ev_var rfl) tyy (by decide +kernel) (by decide +kernel))) (fun _ H1 e1 => ?_) (fun q => Bool.noConfusion q)
      refine q_when (b := false) (et_is (et_or (et_not (et_B (ev_isiT (b1 := false) (b2 := true) (ev_var rfl) (fun H' e => tyx H' (e1.trans e)) (by decide +kernel) (by decide +kernel)))) fun _ => et_test (ev_ne (ev_isi (b := true) (ev_var rfl) (fun H' e => tyx H' (e1.trans e)) (by decide +kernel)) (ev_isi (b := true) (ev_var rfl) (fun H' e => tyy H' (e1.trans e)) (by decide +kernel)) rfl)) rfl) (fun q => Bool.noConfusion q) (fun _ H2 e2 => ?_)
      have E2 := e1.trans e2
      have lenE : ∀ {i : Nat} {r : Addr} {zs : List V} {σ' : L2.St} {H' : Hp}, σ'[i]? = some (some (.ref r)) → H' r = some (.lst zs) → Ev (tCB (fun xs H Q => ∃ p ys, xs = [.ref p] ∧ (SqL K H p ys ∨ SqT K H p ys) ∧ Q (.int ys.length) H) (tCons (tVar i) tNil)) σ' H' (.int zs.length) := fun h1 h2 => ev_len (ev_var h1) (sq_of h2)
      refine q_when (b := false) (et_is (et_test (ev_ne (lenE rfl (E2 _ _ hp)) (lenE rfl (E2 _ _ hq)) rfl)) (by rw [hl]; simp)) (fun q => Bool.noConfusion q) (fun _ H3 e3 => ?_)
      have E3 := E2.trans e3
      have ixE : ∀ {i : Nat} {r : Addr} {zs : List V} {j : Nat} {z : V} {σ' : L2.St} {H' : Hp}, σ'[i]? = some (some (.ref r)) → σ'[2]? = some (some (.int (j : Int))) → H' r = some (.lst zs) → zs[j]? = some z → Ev (tOp (rIx K) (tVar i) (tVar 2)) σ' H' z := fun h1 h2 h3 h4 => ev_op (ev_var h1) (ev_var h2) (fun H1 e Q q => .inl ⟨_, _, _, _, rfl, rfl, sq_of (e _ _ h3), atI_nat h4, q H1 (Ex.refl H1)⟩)
      have el := el_lcRm (σ := L2.start nAlike [.ref p, .ref q]) (H := H3) (t := tNot (tB (tCall (spAlike n) [] E0 (tCons (tOp (rIx K) (tVar 0) (tVar 2)) (tCons (tOp (rIx K) (tVar 1) (tVar 2)) tNil))))) (te := tVar 2) (j := 2) (vs := [2]) (n := (ys.length : Int)) (fun _ => false) iv (ea_cons (lenE (i := 1) rfl (E3 _ _ hq)) ea_nil) (by omega) (fun _ => rfl)
        (fun i H4 e4 hi => by
          have hi1 : i < ys.length := by omega
          have hi2 : i < xs.length := by omega
          refine et_is (et_not (et_B (ev_call (vs := [xs[i], ys[i]]) (ea_cons (ixE (i := 0) rfl rfl (e4 _ _ (E3 _ _ hp)) (List.getElem?_eq_getElem hi2)) (ea_cons (ixE (i := 1) rfl rfl (e4 _ _ (E3 _ _ hq)) (List.getElem?_eq_getElem hi1)) ea_nil)) (z := .bl true) (fun H5 e5 Q2 q2 E' => ⟨xs[i], ys[i], rfl, (hh i _ _ (List.getElem?_eq_getElem hi2) (List.getElem?_eq_getElem hi1)).mono ((E3.trans e4).trans e5), q2⟩)))) rfl)
        (fun i H4 e4 hi h => Bool.noConfusion h)
      have eg : given ((ys.length : Int)).toNat (fun _ => false) iv = [] := by
        unfold given
        rw [List.filter_eq_nil_iff.mpr (fun _ _ => Bool.false_ne_true)]
        rfl
      rw [eg] at el
      refine s_ret (ev_opLL el (el_lst ea_nil (by decide)) (z := .bl true) fun u v H4 hu hv e4 => rv_of fun H5 e5 Q q => ⟨.list [], .list [], .lst (sq_of (e5 _ _ hu)) .nil, .lst (sq_of (e5 _ _ hv)) .nil, by decide, by decide, ?_⟩) fun H4 e4 => kk H4 (E3.trans e4)
      exact q
end
end S8
set_option Elab.async false
set_option linter.all false
set_option maxRecDepth 100000
set_option maxHeartbeats 400000
set_option pp.maxSteps 2000
namespace S8
open PySem PySem.Spec PyProof.Rows L2 L2H HotX Evl LamX
/-! ### kind -/
structure KA where
  c0 : Addr
  c1 : Addr
  c2 : Addr
  c3 : Addr
  c4 : Addr
  c5 : Addr
  c6 : Addr
  c7 : Addr
  c8 : Addr
structure KG (mg : Str → Option Value) (ka : KA) : Prop where
  g0 : Glb mg "BadRow" (.ref ka.c0)
  g1 : Glb mg "NoJar" (.ref ka.c1)
  g2 : Glb mg "BadBars" (.ref ka.c2)
  g3 : Glb mg "BadRules" (.ref ka.c3)
  g4 : Glb mg "BadKept" (.ref ka.c4)
  g5 : Glb mg "BadDeed" (.ref ka.c5)
  g6 : Glb mg "BadText" (.ref ka.c6)
  g7 : Glb mg "BadCount" (.ref ka.c7)
  g8 : Glb mg "TooMany" (.ref ka.c8)
structure IsT (K : PySem.W.Frag) (D : Addr) (ka : KA) (j : Nat) : Prop where
  b0 : PySem.W.kitOne K (.ref D) (.ref ka.c0) = some (decide (0 = j))
  b1 : PySem.W.kitOne K (.ref D) (.ref ka.c1) = some (decide (1 = j))
  b2 : PySem.W.kitOne K (.ref D) (.ref ka.c2) = some (decide (2 = j))
  b3 : PySem.W.kitOne K (.ref D) (.ref ka.c3) = some (decide (3 = j))
  b4 : PySem.W.kitOne K (.ref D) (.ref ka.c4) = some (decide (4 = j))
  b5 : PySem.W.kitOne K (.ref D) (.ref ka.c5) = some (decide (5 = j))
  b6 : PySem.W.kitOne K (.ref D) (.ref ka.c6) = some (decide (6 = j))
  b7 : PySem.W.kitOne K (.ref D) (.ref ka.c7) = some (decide (7 = j))
  b8 : PySem.W.kitOne K (.ref D) (.ref ka.c8) = some (decide (8 = j))
  v : PySem.W.kitOne K (.ref D) (.type "ValueError") = some true
  x : ExcC K D
theorem takes_len {X : Cx} {W : WX} (tk : L2.Takes X W) : L2.Takes X (fun c d σ H => σ.length = X.N.length → W c d σ H) := fun u s' x => by
  obtain ⟨a, B, sI, pins, σ, H, cls, d, e, I, nb, up, sky, na, os, ag, w⟩ := x
  exact tk u s' ⟨a, B, sI, pins, σ, H, cls, d, e, I, nb, up, sky, na, os, ag, w I.len⟩
/-- what kind gives: of the call's end, of what it lets out -/
def KndE (xa : XA) (xd : Addr) (Q : VK) : XK := fun cls d H =>
  (cls = .ref xa.jar ∧ ∃ dd v, d = some dd ∧ H dd = some (.xd [("place", v)]) ∧ ∀ p H', Ex H H' → H' p = some (.tup [.str "jar", v]) → Q (.ref p) H') ∨
  (cls = .ref xa.row ∧ ∃ dd v, d = some dd ∧ H dd = some (.xd [("place", v)]) ∧ ∀ p H', Ex H H' → H' p = some (.tup [.str "row", v]) → Q (.ref p) H') ∨
  (cls = .ref xd ∧ ∃ dd v, d = some dd ∧ H dd = some (.xd [("number", v)]) ∧ ∀ p H', Ex H H' → H' p = some (.tup [.str "deed", v]) → Q (.ref p) H') ∨
  (cls = .ref xa.count ∧ d = none ∧ ∀ p H', Ex H H' → H' p = some (.tup [.str "count", .int 0]) → Q (.ref p) H')
def TTkind (xa : XA) (xd : Addr) : (XK → Hp → VK → Prop) → Hp → VK → Prop := fun tl H Q => tl (KndE xa xd Q) H fun _ H' => [V.str "", V.int 0].length ≤ sizeLine ∧ ∀ p, H' p = none → Q (.ref p) (upd H' p (.tup [.str "", .int 0]))
section
variable {K : PySem.W.Frag} {σ : L2.St} {H : Hp}
theorem ev_isX {a D : Addr} {d : Option Addr} {c : V} {cv : Value} {b : Bool} {ta tc : TE} (hx : ExcC K D) (hd : d = none ∨ ∃ dd fs, d = some dd ∧ H dd = some (.xd fs)) (ha : Ev ta σ H (.ref a)) (hc : Ev tc σ H c) (hv : ∀ u, RelV c u → u = cv) (hk : PySem.W.kitOne K (.ref D) cv = some b) :
    Ev (tCB (rIsX K a (.ref D) d) (tCons ta (tCons tc tNil))) σ H (.bl b) := fun H1 e Q q => ha H1 e _ fun H2 e2 => hc H2 (e.trans e2) _ fun H3 e3 => ⟨D, c, cv, b, rfl, hx, by
  rcases hd with h | ⟨dd, fs, h, h2⟩
  · exact .inl h
  · exact .inr ⟨dd, fs, h, e3 _ _ (e2 _ _ (e _ _ h2))⟩, rfl, hv, hk, q H3 (e2.trans e3)⟩
theorem ev_xfV {a C dd : Addr} {f : Str} {v : V} {te : TE} {fs : List (Str × V)} (hx : XfC K C) (hn : PySem.W.findIn K (.ref C) f = some none) (ha : Ev te σ H (.ref a)) (hd : H dd = some (.xd fs)) (hl : fs.lookup f = some v) : Ev (tXfV K a (.ref C) (some dd) f te) σ H v := fun H1 e Q q =>
  ha H1 e _ fun H2 e2 => ⟨rfl, C, dd, fs, v, rfl, hx, hn, rfl, e2 _ _ (e _ _ hd), hl, q H2 e2⟩
end
def kb (j : Nat) : List V := [.bl (decide (0 = j)), .bl (decide (1 = j)), .bl (decide (2 = j)), .bl (decide (3 = j)), .bl (decide (4 = j)), .bl (decide (5 = j)), .bl (decide (6 = j)), .bl (decide (7 = j)), .bl (decide (8 = j))]
def tI (K : PySem.W.Frag) (a : Addr) (cls : Value) (d : Option Addr) (c : V) : TE := tCB (rIsX K a cls d) (tCons (tVar 1) (tCons (tC c) tNil))
def tKs (K : PySem.W.Frag) : TE := tSl (rSlL K) (tVar 2) (tPart (tC (.int 2))) (tPart (tC (.int 6)))
def tsKind (K : PySem.W.Frag) (ka : KA) (a : Addr) (cls : Value) (d : Option Addr) : TS :=
  tSeq (tAsg (tLst (tCons (tI K a cls d (.ref ka.c0)) (tCons (tI K a cls d (.ref ka.c1)) (tCons (tI K a cls d (.ref ka.c2)) (tCons (tI K a cls d (.ref ka.c3)) tNil))))) (gName 2))
  (tSeq (tDrop (tBM K "list" rExtend (tVar 2) (tCons (tLst (tCons (tI K a cls d (.ref ka.c4)) (tCons (tI K a cls d (.ref ka.c5)) (tCons (tI K a cls d (.ref ka.c6)) tNil)))) tNil)))
  (tSeq (tDrop (tBM K "list" rExtend (tVar 2) (tCons (tLst (tCons (tI K a cls d (.ref ka.c7)) (tCons (tI K a cls d (.ref ka.c8)) tNil))) tNil)))
  (tSeq (tIfS (tOr (tTest (tOp rNe (tBM K "list" (rCntF K) (tVar 2) (tCons (tC (.bl true)) tNil)) (tC (.int 1)))) (tNot (tB (tI K a cls d (.ty "ValueError"))))) (tRet (tTup (tCons (tC (.str "other")) (tCons (tC (.int 0)) tNil)))) tNext)
  (tSeq (tIfS (tOr (tB (tOp (rIxL K) (tVar 2) (tC (.int 0)))) (tB (tOp (rIxL K) (tVar 2) (tC (.int 1))))) (tRet (tTup (tCons (tIf (tB (tOp (rIxL K) (tVar 2) (tC (.int 0)))) (tC (.str "row")) (tC (.str "jar"))) (tCons (tXfV K a cls d "place" (tVar 1)) tNil)))) tNext)
  (tSeq (tIfS (tTest (tOp (rIn K false) (tC (.bl true)) (tKs K))) (tRet (tTup (tCons (tOp (rIxL K) (tLst (tCons (tC (.str "bars")) (tCons (tC (.str "rules")) (tCons (tC (.str "kept")) (tCons (tC (.str "deed")) tNil))))) (tBM K "list" (rIndex K) (tKs K) (tCons (tC (.bl true)) tNil))) (tCons (tXfV K a cls d "number" (tVar 1)) tNil)))) tNext)
  (tRet (tIf (tB (tOp (rIxL K) (tVar 2) (tC (.int 6)))) (tTup (tCons (tC (.str "text")) (tCons (tXfV K a cls d "line" (tVar 1)) tNil))) (tIf (tB (tOp (rIxL K) (tVar 2) (tC (.int 7)))) (tTup (tCons (tC (.str "count")) (tCons (tC (.int 0)) tNil))) (tTup (tCons (tC (.str "many")) (tCons (tC (.int 0)) tNil)))))))))))
theorem q_extL {K : PySem.W.Frag} {σ : L2.St} {H : Hp} {ta te : TE} {l : Addr} {xs ys : List V} {D : Ends} {tz : TS} (hl : H l = some (.lst xs)) (ha : Ev ta σ H (.ref l)) (he : EvL te σ H ys) (hz : xs.length + ys.length ≤ 100000) (k : ∀ H1, Ex H H1 → tz D σ (upd H1 l (.lst (xs ++ ys)))) :
    tSeq (tDrop (tBM K "list" rExtend ta (tCons te tNil))) tz D σ H := ha H (Ex.refl H) _ fun H1 e1 => ⟨.inl ⟨rfl, xs, sq_of (e1 _ _ hl)⟩, he H1 e1 _ fun b H2 nb e2 hb => ⟨l, b, xs, ys, rfl, rfl, e2 _ _ (e1 _ _ hl), hb, sz_of hz, k H2 (e1.trans e2)⟩⟩
theorem kind_mid {K : PySem.W.Frag} {H : Hp} {a D : Addr} {d : Option Addr} {ka : KA} {j : Nat} {x0 x2 : Option V} {Ds : Ends} {tz : TS} (T : IsT K D ka j) (hd : d = none ∨ ∃ dd fs, d = some dd ∧ H dd = some (.xd fs))
    (k : ∀ l H', Ex H H' → H' l = some (.lst (kb j)) → tz Ds [x0, some (.ref a), some (.ref l)] H') :
    tSeq (tAsg (tLst (tCons (tI K a (.ref D) d (.ref ka.c0)) (tCons (tI K a (.ref D) d (.ref ka.c1)) (tCons (tI K a (.ref D) d (.ref ka.c2)) (tCons (tI K a (.ref D) d (.ref ka.c3)) tNil))))) (gName 2))
    (tSeq (tDrop (tBM K "list" rExtend (tVar 2) (tCons (tLst (tCons (tI K a (.ref D) d (.ref ka.c4)) (tCons (tI K a (.ref D) d (.ref ka.c5)) (tCons (tI K a (.ref D) d (.ref ka.c6)) tNil)))) tNil)))
    (tSeq (tDrop (tBM K "list" rExtend (tVar 2) (tCons (tLst (tCons (tI K a (.ref D) d (.ref ka.c7)) (tCons (tI K a (.ref D) d (.ref ka.c8)) tNil))) tNil))) tz)) Ds [x0, some (.ref a), x2] H := by
  have ei : ∀ {H' : Hp} {σ : L2.St} {c : Addr} {b : Bool}, Ex H H' → σ[1]? = some (some (.ref a)) → PySem.W.kitOne K (.ref D) (.ref c) = some b → Ev (tI K a (.ref D) d (.ref c)) σ H' (.bl b) := fun {H' σ c b} e h1 hk => ev_isX T.x (by
    rcases hd with h | ⟨dd, fs, h, h2⟩
    · exact .inl h
    · exact .inr ⟨dd, fs, h, e _ _ h2⟩) (ev_var h1) ev_c (fun u h => h) hk
  refine q_asgL (el_lst (ea_cons (ei (Ex.refl H) rfl T.b0) (ea_cons (ei (Ex.refl H) rfl T.b1) (ea_cons (ei (Ex.refl H) rfl T.b2) (ea_cons (ei (Ex.refl H) rfl T.b3) ea_nil)))) (by show 4 ≤ 100000; decide)) fun l H1 nl e1 h1 => ?_
  refine q_extL h1 (ev_var rfl) (el_lst (ea_cons (ei e1 rfl T.b4) (ea_cons (ei e1 rfl T.b5) (ea_cons (ei e1 rfl T.b6) ea_nil))) (by show 3 ≤ 100000; decide)) (by show 7 ≤ 100000; decide) fun H2 e2 => ?_
  have e3 : Ex H (upd H2 l (.lst ([.bl (decide (0 = j)), .bl (decide (1 = j)), .bl (decide (2 = j)), .bl (decide (3 = j))] ++ [.bl (decide (4 = j)), .bl (decide (5 = j)), .bl (decide (6 = j))]))) := Ex.mut (e1.trans e2) nl
  refine q_extL upd_same (ev_var rfl) (el_lst (ea_cons (ei e3 rfl T.b7) (ea_cons (ei e3 rfl T.b8) ea_nil)) (by show 2 ≤ 100000; decide)) (by show 9 ≤ 100000; decide) fun H4 e4 => ?_
  exact k l _ (Ex.mut (e3.trans e4) nl) upd_same
theorem ev_cutB {K : PySem.W.Frag} {σ : L2.St} {H : Hp} {l : Addr} {j : Nat} (h2 : σ[2]? = some (some (.ref l))) (hl : H l = some (.lst (kb j))) : EvL (tKs K) σ H (cutV (kb j) (some 2) (some 6)) := el_sl (ev_var h2) (eo_some ev_c) (eo_some ev_c) (sq_of hl)
theorem kind_row {K : PySem.W.Frag} {H : Hp} {a D : Addr} {ka : KA} {x0 x2 : Option V} {Ds : Ends} {Q : VK} (T : IsT K D ka 0) {dd : Addr} {v : V} (xf : XfC K D) (nf : PySem.W.findIn K (.ref D) "place" = some none) (hdd : H dd = some (.xd [("place", v)])) (hr : Ds.rt = Q) (k : ∀ p H', Ex H H' → H' p = some (.tup [.str "row", v]) → Q (.ref p) H') :
    tsKind K ka a (.ref D) (some dd) Ds [x0, some (.ref a), x2] H := by
  subst hr
  refine kind_mid T (.inr ⟨dd, _, rfl, hdd⟩) fun l H1 e1 h1 => ?_
  refine q_when (b := false) (et_is (et_or (et_test (ev_ne (ev_cntF (ev_var rfl) h1 ev_c rfl (by decide)) ev_c rfl)) fun _ => et_not (et_B (ev_isX T.x (.inr ⟨dd, _, rfl, e1 _ _ hdd⟩) (ev_var rfl) ev_c (fun u h => h) T.v))) (by decide)) (fun q => Bool.noConfusion q) (fun _ H2 e2 => ?_)
  have h2 := e2 _ _ h1
  have E2 := e1.trans e2
  refine q_when (b := true || false) (et_or (et_B (ev_op (ev_var rfl) ev_c (rv_ixL (v := .bl true) (sq_of h2) (by decide)))) fun _ => et_B (ev_op (ev_var rfl) ev_c (rv_ixL (v := .bl false) (sq_of h2) (by decide)))) (fun _ H3 e3 => ?_) (fun q => Bool.noConfusion q)
  have h3 := e3 _ _ h2
  exact s_retU (eu_tup (ea_cons (ev_if (b := true) (et_B (ev_op (ev_var rfl) ev_c (rv_ixL (v := .bl true) (sq_of h3) (by decide)))) (fun h => ev_c) (fun h => Bool.noConfusion h)) (ea_cons (ev_xfV xf nf (ev_var rfl) (e3 _ _ (E2 _ _ hdd)) (by rfl)) ea_nil)) (by show 2 ≤ 100000; decide)) fun p H4 np e4 h4 => k p H4 ((E2.trans e3).trans e4) h4
theorem kind_jar {K : PySem.W.Frag} {H : Hp} {a D : Addr} {ka : KA} {x0 x2 : Option V} {Ds : Ends} {Q : VK} (T : IsT K D ka 1) {dd : Addr} {v : V} (xf : XfC K D) (nf : PySem.W.findIn K (.ref D) "place" = some none) (hdd : H dd = some (.xd [("place", v)])) (hr : Ds.rt = Q) (k : ∀ p H', Ex H H' → H' p = some (.tup [.str "jar", v]) → Q (.ref p) H') :
    tsKind K ka a (.ref D) (some dd) Ds [x0, some (.ref a), x2] H := by
  subst hr
  refine kind_mid T (.inr ⟨dd, _, rfl, hdd⟩) fun l H1 e1 h1 => ?_
  refine q_when (b := false) (et_is (et_or (et_test (ev_ne (ev_cntF (ev_var rfl) h1 ev_c rfl (by decide)) ev_c rfl)) fun _ => et_not (et_B (ev_isX T.x (.inr ⟨dd, _, rfl, e1 _ _ hdd⟩) (ev_var rfl) ev_c (fun u h => h) T.v))) (by decide)) (fun q => Bool.noConfusion q) (fun _ H2 e2 => ?_)
  have h2 := e2 _ _ h1
  have E2 := e1.trans e2
  refine q_when (b := false || true) (et_or (et_B (ev_op (ev_var rfl) ev_c (rv_ixL (v := .bl false) (sq_of h2) (by decide)))) fun _ => et_B (ev_op (ev_var rfl) ev_c (rv_ixL (v := .bl true) (sq_of h2) (by decide)))) (fun _ H3 e3 => ?_) (fun q => Bool.noConfusion q)
  have h3 := e3 _ _ h2
  exact s_retU (eu_tup (ea_cons (ev_if (b := false) (et_B (ev_op (ev_var rfl) ev_c (rv_ixL (v := .bl false) (sq_of h3) (by decide)))) (fun h => Bool.noConfusion h) (fun h => ev_c)) (ea_cons (ev_xfV xf nf (ev_var rfl) (e3 _ _ (E2 _ _ hdd)) (by rfl)) ea_nil)) (by show 2 ≤ 100000; decide)) fun p H4 np e4 h4 => k p H4 ((E2.trans e3).trans e4) h4
theorem kind_deed {K : PySem.W.Frag} {H : Hp} {a D : Addr} {ka : KA} {x0 x2 : Option V} {Ds : Ends} {Q : VK} (T : IsT K D ka 5) {dd : Addr} {v : V} (xf : XfC K D) (nf : PySem.W.findIn K (.ref D) "number" = some none) (hdd : H dd = some (.xd [("number", v)])) (hr : Ds.rt = Q) (k : ∀ p H', Ex H H' → H' p = some (.tup [.str "deed", v]) → Q (.ref p) H') :
    tsKind K ka a (.ref D) (some dd) Ds [x0, some (.ref a), x2] H := by
  subst hr
  refine kind_mid T (.inr ⟨dd, _, rfl, hdd⟩) fun l H1 e1 h1 => ?_
  refine q_when (b := false) (et_is (et_or (et_test (ev_ne (ev_cntF (ev_var rfl) h1 ev_c rfl (by decide)) ev_c rfl)) fun _ => et_not (et_B (ev_isX T.x (.inr ⟨dd, _, rfl, e1 _ _ hdd⟩) (ev_var rfl) ev_c (fun u h => h) T.v))) (by decide)) (fun q => Bool.noConfusion q) (fun _ H2 e2 => ?_)
  have h2 := e2 _ _ h1
  have E2 := e1.trans e2
  refine q_when (b := false || false) (et_or (et_B (ev_op (ev_var rfl) ev_c (rv_ixL (v := .bl false) (sq_of h2) (by decide)))) fun _ => et_B (ev_op (ev_var rfl) ev_c (rv_ixL (v := .bl false) (sq_of h2) (by decide)))) (fun q => Bool.noConfusion q) (fun _ H3 e3 => ?_)
  have h3 := e3 _ _ h2
  have E3 := E2.trans e3
  refine q_when (b := true) (et_is (et_test (ev_opL ev_c (ev_cutB rfl h3) (z := .bl (inV (.bl true) (cutV (kb 5) (some 2) (some 6)))) fun p H' hp e => rv_isL (sq_of hp) rfl (by decide))) (by decide)) (fun _ H4 e4 => ?_) (fun q => Bool.noConfusion q)
  have h4 := e4 _ _ h3
  have E4 := E3.trans e4
  refine s_retU (eu_tup (ea_cons (ev_opL1 (el_lst (ea_cons ev_c (ea_cons ev_c (ea_cons ev_c (ea_cons ev_c ea_nil)))) (by show 4 ≤ 100000; decide)) (y := .int 3) (z := .str "deed") (fun H' e' => fun H5 e5 Q5 q5 => (ev_cutB (K := K) rfl (e' _ _ h4)) H5 e5 _ fun p H6 np e6 h6 => ⟨.inl ⟨rfl, _, sq_of h6⟩, p, _, .bl true, 3, .bl true, rfl, rfl, sq_of h6, rfl, by decide, by decide, by decide, fun m z' hm hz => ?_, q5 H6 e6⟩) fun p H' hp e' => rv_ixL (sq_of hp) (by rfl)) (ea_cons (ev_xfV xf nf (ev_var rfl) (E4 _ _ hdd) (by rfl)) ea_nil)) (by show 2 ≤ 100000; decide)) fun p H5 np e5 h5 => k p H5 (E4.trans e5) h5
  have : m = 0 ∨ m = 1 ∨ m = 2 := by omega
  rcases this with rfl | rfl | rfl
  · have hz : some (V.bl false) = some z' := hz
    cases hz; rfl
  · have hz : some (V.bl false) = some z' := hz
    cases hz; rfl
  · have hz : some (V.bl false) = some z' := hz
    cases hz; rfl
theorem kind_count {K : PySem.W.Frag} {H : Hp} {a D : Addr} {ka : KA} {x0 x2 : Option V} {Ds : Ends} {Q : VK} (T : IsT K D ka 7) (hr : Ds.rt = Q) (k : ∀ p H', Ex H H' → H' p = some (.tup [.str "count", .int 0]) → Q (.ref p) H') :
    tsKind K ka a (.ref D) none Ds [x0, some (.ref a), x2] H := by
  subst hr
  refine kind_mid T (.inl rfl) fun l H1 e1 h1 => ?_
  refine q_when (b := false) (et_is (et_or (et_test (ev_ne (ev_cntF (ev_var rfl) h1 ev_c rfl (by decide)) ev_c rfl)) fun _ => et_not (et_B (ev_isX T.x (.inl rfl) (ev_var rfl) ev_c (fun u h => h) T.v))) (by decide)) (fun q => Bool.noConfusion q) (fun _ H2 e2 => ?_)
  have h2 := e2 _ _ h1
  have E2 := e1.trans e2
  refine q_when (b := false || false) (et_or (et_B (ev_op (ev_var rfl) ev_c (rv_ixL (v := .bl false) (sq_of h2) (by decide)))) fun _ => et_B (ev_op (ev_var rfl) ev_c (rv_ixL (v := .bl false) (sq_of h2) (by decide)))) (fun q => Bool.noConfusion q) (fun _ H3 e3 => ?_)
  have h3 := e3 _ _ h2
  have E3 := E2.trans e3
  refine q_when (b := false) (et_is (et_test (ev_opL ev_c (ev_cutB rfl h3) (z := .bl (inV (.bl true) (cutV (kb 7) (some 2) (some 6)))) fun p H' hp e => rv_isL (sq_of hp) rfl (by decide))) (by decide)) (fun q => Bool.noConfusion q) (fun _ H4 e4 => ?_)
  have h4 := e4 _ _ h3
  have E4 := E3.trans e4
  refine (et_B (b := false) (ev_op (ev_var rfl) ev_c (rv_ixL (v := .bl false) (sq_of h4) (by decide)))) H4 (Ex.refl H4) _ fun H5 e5 => ?_
  have h5 := e5 _ _ h4
  rw [if_neg Bool.false_ne_true]
  refine (et_B (b := true) (ev_op (ev_var rfl) ev_c (rv_ixL (v := .bl true) (sq_of h5) (by decide)))) H5 (Ex.refl H5) _ fun H6 e6 => ?_
  rw [if_pos rfl]
  exact (eu_tup (ea_cons ev_c (ea_cons ev_c ea_nil)) (by show 2 ≤ 100000; decide)) H6 (Ex.refl H6) _ fun p H7 np e7 h7 => k p H7 (((E4.trans e5).trans e6).trans e7) h7
theorem kind_gives {X : Cx} {g : Addr} {cdg : Value} {q : Str} {xa : XA} {xd RE : Addr} {ka : KA} (B : Bt X.mg) (KGf : KG X.mg ka) (gRE : X.mg "RowError" = some (.ref RE))
    (ij : IsT X.K xa.jar ka 1) (ir : IsT X.K xa.row ka 0) (id_ : IsT X.K xd ka 5) (ic : IsT X.K xa.count ka 7)
    (xj : XfC X.K xa.jar) (xr : XfC X.K xa.row) (xdd : XfC X.K xd) (nj : PySem.W.findIn X.K (.ref xa.jar) "place" = some none) (nr : PySem.W.findIn X.K (.ref xa.row) "place" = some none) (nd : PySem.W.findIn X.K (.ref xd) "number" = some none)
    (ej : PySem.W.exmOne X.K (.ref xa.jar) (.ref RE) = some true) (er : PySem.W.exmOne X.K (.ref xa.row) (.ref RE) = some true) (ed : PySem.W.exmOne X.K (.ref xd) (.ref RE) = some true) (ec : PySem.W.exmOne X.K (.ref xa.count) (.ref RE) = some true) :
    GivesTo X nKind "_law_kind" (defScope sKind) g cdg (defBody sKind) "_law_call" q (TTkind xa xd) := by
  intro f c' s H Q tl act hc h
  rcases X with ⟨xprog, xw, xK, xmg, xbase, xA, xN, xs, xH, xenv, xouter, xstack, xex, xfn, xcalm, xpn, xxe⟩
  dsimp only at B KGf gRE ij ir id_ ic xj xr xdd nj nr nd ej er ed ec act
  dsimp only
  refine ⟨_, pss_cons (ps_try_as (X := (cxOf C8.CX0 xprog xw xK xmg xbase nKind "_law_kind" (defScope sKind) g cdg xA xstack s H C8.E0).nox) (i := 1) (c := .ref RE) (ts := tsKind xK ka)
      (tb := fun W D σ H => ∃ Ech : XK, (∀ cls d σ' H', Ech cls d H' → σ'.length = 3 → W cls d σ' H') ∧ σ[0]? = some (some (.ref f)) ∧ H c' = some (CodeO c' q) ∧ tl Ech H fun _ H' => D.nx σ H')
      rfl rfl scKind.nd rfl rfl ⟨by rfl, by decide, .inl gRE⟩ LamX.takes0 (fun W pn xe tk _ => ?_) (fun a oe cls d pn hz hf => ?_))
      (pss_one (ps_ret (pe_tup (pa_cons pe_str (pa_cons pe_int pa_nil))))), ?_⟩
  · refine ⟨fun pins s' σ H' D I h' => ?_⟩
    obtain ⟨Ech, hW, h1, h2, h3⟩ := h'
    have hp := fun p1 p2 => act _ pn xe Ech p1 p2 (takes_len tk) fun cls d σ' H' h hl => hW cls d σ' H' h hl
    exact (pss_one (ps_expr (hp _ _))).run pins s' σ H' D I ⟨h1, h2, h3⟩
  · clear act h
    exact pss_cons (ps_set (i := 2) scKind.nd rfl (.inl rfl) (pe_lst (pa_cons (pe_callB (call_isX hz hf) (by rfl) B.isi (by decide +kernel) (pa_cons (pv 1) (pa_cons (pe_g (by rfl) KGf.g0) pa_nil))) (pa_cons (pe_callB (call_isX hz hf) (by rfl) B.isi (by decide +kernel) (pa_cons (pv 1) (pa_cons (pe_g (by rfl) KGf.g1) pa_nil))) (pa_cons (pe_callB (call_isX hz hf) (by rfl) B.isi (by decide +kernel) (pa_cons (pv 1) (pa_cons (pe_g (by rfl) KGf.g2) pa_nil))) (pa_cons (pe_callB (call_isX hz hf) (by rfl) B.isi (by decide +kernel) (pa_cons (pv 1) (pa_cons (pe_g (by rfl) KGf.g3) pa_nil))) pa_nil))))))
        (pss_cons (ps_expr (pe_bm PySem.F.plainAttrs_list PySem.F.slot_list_extend PySem.F.type_list_extend mt_extend (pv 2) (pa_cons (pe_lst (pa_cons (pe_callB (call_isX hz hf) (by rfl) B.isi (by decide +kernel) (pa_cons (pv 1) (pa_cons (pe_g (by rfl) KGf.g4) pa_nil))) (pa_cons (pe_callB (call_isX hz hf) (by rfl) B.isi (by decide +kernel) (pa_cons (pv 1) (pa_cons (pe_g (by rfl) KGf.g5) pa_nil))) (pa_cons (pe_callB (call_isX hz hf) (by rfl) B.isi (by decide +kernel) (pa_cons (pv 1) (pa_cons (pe_g (by rfl) KGf.g6) pa_nil))) pa_nil)))) pa_nil)))
        (pss_cons (ps_expr (pe_bm PySem.F.plainAttrs_list PySem.F.slot_list_extend PySem.F.type_list_extend mt_extend (pv 2) (pa_cons (pe_lst (pa_cons (pe_callB (call_isX hz hf) (by rfl) B.isi (by decide +kernel) (pa_cons (pv 1) (pa_cons (pe_g (by rfl) KGf.g7) pa_nil))) (pa_cons (pe_callB (call_isX hz hf) (by rfl) B.isi (by decide +kernel) (pa_cons (pv 1) (pa_cons (pe_g (by rfl) KGf.g8) pa_nil))) pa_nil))) pa_nil)))
        (pss_cons (ps_if (PW.pt (pw_or (pt_cmpR op_ne (pe_bm PySem.F.plainAttrs_list PySem.F.slot_list_count PySem.F.type_list_count mt_countF (pv 2) (pa_cons pe_bl pa_nil)) pe_int (nomark _)) (pw_or1 (pt_not (pt_val (pe_callB (call_isX hz hf) (by rfl) B.isi (by decide +kernel) (pa_cons (pv 1) (pa_cons (pe_bltn (v := .ty "ValueError") (by rfl) B.ve (by decide +kernel) rfl) pa_nil)))))))) (pss_one (ps_ret (pe_tup (pa_cons pe_str (pa_cons pe_int pa_nil))))) pss_nil)
        (pss_cons (ps_if (PW.pt (pw_or (pt_val (pe_ix ix_list (pv 2) pe_int (fun _ _ => rfl))) (pw_or1 (pt_val (pe_ix ix_list (pv 2) pe_int (fun _ _ => rfl)))))) (pss_one (ps_ret (pe_tup (pa_cons (pe_ifExp (pt_val (pe_ix ix_list (pv 2) pe_int (fun _ _ => rfl))) pe_str pe_str) (pa_cons (pe_xfV hz hf (pv 1)) pa_nil))))) pss_nil)
        (pss_cons (ps_if (pt_cmpR op_in_seq pe_bl (pe_slice sl_list (pv 2) (po_some pe_int) (po_some pe_int)) (by rfl)) (pss_one (ps_ret (pe_tup (pa_cons (pe_ix ix_list (pe_lst (pa_cons pe_str (pa_cons pe_str (pa_cons pe_str (pa_cons pe_str pa_nil))))) (pe_bm PySem.F.plainAttrs_list PySem.F.slot_list_index PySem.F.type_list_index mt_index (pe_slice sl_list (pv 2) (po_some pe_int) (po_some pe_int)) (pa_cons pe_bl pa_nil)) (fun _ _ => rfl)) (pa_cons (pe_xfV hz hf (pv 1)) pa_nil))))) pss_nil)
        (pss_one (ps_ret (pe_ifExp (pt_val (pe_ix ix_list (pv 2) pe_int (fun _ _ => rfl))) (pe_tup (pa_cons pe_str (pa_cons (pe_xfV hz hf (pv 1)) pa_nil))) (pe_ifExp (pt_val (pe_ix ix_list (pv 2) pe_int (fun _ _ => rfl))) (pe_tup (pa_cons pe_str (pa_cons pe_int pa_nil))) (pe_tup (pa_cons pe_str (pa_cons pe_int pa_nil))))))))))))
  · refine ⟨KndE xa xd Q, fun cls d σ' H' he hl => ?_, rfl, hc, ?_⟩
    · obtain ⟨x0, x1, x2, rfl⟩ : ∃ x0 x1 x2, σ' = [x0, x1, x2] := by
        match σ', hl with
        | [x0, x1, x2], _ => exact ⟨x0, x1, x2, rfl⟩
      rcases he with ⟨rfl, dd, v, rfl, hdd, k⟩ | ⟨rfl, dd, v, rfl, hdd, k⟩ | ⟨rfl, dd, v, rfl, hdd, k⟩ | ⟨rfl, rfl, k⟩
      · exact ⟨true, ej, fun _ a _ => kind_jar ij xj nj hdd rfl k, fun q => Bool.noConfusion q⟩
      · exact ⟨true, er, fun _ a _ => kind_row ir xr nr hdd rfl k, fun q => Bool.noConfusion q⟩
      · exact ⟨true, ed, fun _ a _ => kind_deed id_ xdd nd hdd rfl k, fun q => Bool.noConfusion q⟩
      · exact ⟨true, ec, fun _ a _ => kind_count ic rfl k, fun q => Bool.noConfusion q⟩
    · exact h
end S8
set_option Elab.async false
set_option linter.all false
set_option maxRecDepth 100000
set_option maxHeartbeats 400000
set_option pp.maxSteps 2000
namespace S8
open PySem PySem.Spec PyProof.Rows L2 L2H HotX Evl
/-! ### stands -/
theorem like_ints {H : Hp} {n : Nat} {a b : Addr} {l : List Int} (ha : H a = some (.tup (iLs l))) (hb : H b = some (.tup (iLs l))) (hz : l.length ≤ 1000) : Like H (n + 2) (.ref a) (.ref b) := .tup ha hb rfl (by rw [List.length_map]; exact hz) fun i x y hx hy => by
  rw [hx] at hy
  cases hy
  obtain ⟨z, _, rfl⟩ := map_get hx
  exact .int z
theorem like_nats {H : Hp} {n : Nat} {a b : Addr} {l : List Nat} (ha : H a = some (.tup (l.map iv))) (hb : H b = some (.tup (l.map iv))) (hz : l.length ≤ 1000) : Like H (n + 2) (.ref a) (.ref b) := .tup ha hb rfl (by rw [List.length_map]; exact hz) fun i x y hx hy => by
  rw [hx] at hy
  cases hy
  obtain ⟨z, _, rfl⟩ := map_get hx
  exact .int _
theorem like_natL {H : Hp} {n : Nat} {a b : Addr} {l : List Nat} (ha : H a = some (.lst (l.map iv))) (hb : H b = some (.lst (l.map iv))) (hz : l.length ≤ 1000) : Like H (n + 2) (.ref a) (.ref b) := .lst ha hb rfl (by rw [List.length_map]; exact hz) fun i x y hx hy => by
  rw [hx] at hy
  cases hy
  obtain ⟨z, _, rfl⟩ := map_get hx
  exact .int _
theorem like_row {H : Hp} {n : Nat} {a b : Addr} {x : Row3} (ha : RowAt H a x) (hb : RowAt H b x) (hz : x.2.1.length ≤ 1000) : Like H (n + 3) (.ref a) (.ref b) := by
  obtain ⟨c, h1, h2⟩ := ha
  obtain ⟨c', h3, h4⟩ := hb
  refine .tup h1 h3 rfl (by show 3 ≤ 1000; decide) fun i u v hu hv => ?_
  match i, hu, hv with
  | 0, hu, hv =>
    cases hu; cases hv
    exact .str _
  | 1, hu, hv =>
    cases hu; cases hv
    exact like_ints h2 h4 hz
  | 2, hu, hv =>
    cases hu; cases hv
    exact .bl _
  | _ + 3, hu, _ => cases hu
theorem like_rows {H : Hp} {n : Nat} {p q : Addr} {as bs : List Addr} {xs : List Row3} (hp : H p = some (.lst (as.map V.ref))) (hq : H q = some (.lst (bs.map V.ref))) (ha : Pr (RowAt H) as xs) (hb : Pr (RowAt H) bs xs) (hz : ∀ x ∈ xs, x.2.1.length ≤ 1000) (hl : xs.length ≤ 1000) : Like H (n + 4) (.ref p) (.ref q) := by
  refine .lst hp hq (by rw [List.length_map, List.length_map, ha.length, hb.length]) (by rw [List.length_map, hb.length]; exact hl) fun i u v hu hv => ?_
  obtain ⟨a, h1, rfl⟩ := map_get hu
  obtain ⟨b, h2, rfl⟩ := map_get hv
  obtain ⟨x, h3, h4⟩ := ha.getL h1
  exact like_row h4 (hb.get h2 h3) (hz x (List.mem_of_getElem? h3))
theorem like_rules {H : Hp} {n : Nat} {p q : Addr} {rs : List Ru} (hp : RulesAt H p rs) (hq : RulesAt H q rs) (hl : rs.length ≤ 1000) : Like H (n + 3) (.ref p) (.ref q) := by
  obtain ⟨as, h1, h2⟩ := hp
  obtain ⟨bs, h3, h4⟩ := hq
  refine .tup h1 h3 (by rw [List.length_map, List.length_map, h2.length, h4.length]) (by rw [List.length_map, h4.length]; exact hl) fun i u v hu hv => ?_
  obtain ⟨a, g1, rfl⟩ := map_get hu
  obtain ⟨b, g2, rfl⟩ := map_get hv
  obtain ⟨r, g3, g4⟩ := h2.getL g1
  refine .tup g4 (h4.get g2 g3) rfl (by show 5 ≤ 1000; decide) fun j u v hu hv => ?_
  rw [hu] at hv
  cases hv
  match j, hu with
  | 0, hu => cases hu; exact .str _
  | 1, hu => cases hu; exact .str _
  | 2, hu => cases hu; exact .int _
  | 3, hu => cases hu; exact .int _
  | 4, hu => cases hu; exact .str _
  | _ + 5, hu => cases hu
def Deed.Clean : Deed → Prop
  | .put _ k => isK k = true
  | _ => True
theorem lay_isK {k : Str} (h : isK k = true) : PyData.canLay0 (.str k) = true := by
  unfold isK at h
  rw [Bool.and_eq_true, decide_eq_true_eq, decide_eq_true_eq] at h
  obtain ⟨⟨l⟩⟩ := k
  match l, h with
  | [c], h => exact lay_ch h.2
theorem Deed.lay {d : Deed} (h : d.Clean) : d.data.canLay0 = true := by
  cases d with
  | put p k => exact lay_put (lay_isK h)
  | take p => exact lay_take
  | bar p => exact lay_bar
  | unbar p => exact lay_unbar
  | tick => exact lay_tick
theorem Deed.dep (d : Deed) : d.data.depth ≤ 1 := by
  cases d <;> exact Nat.le_refl 1
theorem Deed.dp {K : PySem.W.Frag} {H : Hp} {a : Addr} {d : Deed} (h : H a = some (.tup d.vals)) : Dp K H (.ref a) d.data := by
  cases d with
  | put p k => exact .tup (st_of h) (.cons (.str _) (.cons (.int _) (.cons (.str _) .nil)))
  | take p => exact .tup (st_of h) (.cons (.str _) (.cons (.int _) .nil))
  | bar p => exact .tup (st_of h) (.cons (.str _) (.cons (.int _) .nil))
  | unbar p => exact .tup (st_of h) (.cons (.str _) (.cons (.int _) .nil))
  | tick => exact .tup (st_of h) (.cons (.str _) .nil)
theorem dps_deeds {K : PySem.W.Frag} {H : Hp} : ∀ {as : List Addr} {ds : List Deed}, Pr (fun a x => H a = some (.tup (Deed.vals x))) as ds → DpAll K H (as.map V.ref) (ds.map Deed.data)
  | [], [], _ => .nil
  | _ :: _, _ :: _, h => .cons (Deed.dp h.1) (dps_deeds h.2)
  | [], _ :: _, h => h.elim
  | _ :: _, [], h => h.elim
theorem Pr.mapR {α β γ : Type} {P : α → γ → Prop} {f : β → γ} : ∀ {as : List α} {l : List β}, Pr (fun a i => P a (f i)) as l → Pr P as (l.map f)
  | [], [], _ => trivial
  | _ :: _, _ :: _, h => ⟨h.1, Pr.mapR h.2⟩
  | [], _ :: _, h => h.elim
  | _ :: _, [], h => h.elim
theorem ex_lcRA {σ : L2.St} {H : Hp} {ta : TA} {te : TE} {j n : Nat} {vs : List Nat} {P : Hp → Addr → Nat → Prop} (h : EvA ta σ H [.int (n : Int)]) (hn : n ≤ 40000) (hw : ∀ x, wipe ((wipe σ vs).set j (some x)) vs = wipe σ vs)
    (hP : ∀ H1 H2 a i, (∀ b xs, H1 b = some (.tup xs) → H2 b = some (.tup xs)) → P H1 a i → P H2 a i)
    (he : ∀ i H1, Ex H H1 → i < n → ∀ Q : VK, (∀ q H2, Ex H1 H2 → P H2 q i → Q (.ref q) H2) → te ((wipe σ vs).set j (some (.int (i : Int)))) H1 Q) :
    EvX (tLc (iRng1 ta) (gName j) tYes te vs) σ H (fun v H' => ∃ D bs, v = .ref D ∧ H' D = some (.lst (bs.map V.ref)) ∧ Pr (P H') bs (List.range n)) := fun H0 e Q q => h H0 e _ fun H1 e1 => ⟨(n : Int), rfl, by omega, by omega, fun Dl hD =>
  lc_range (lo := 0) (n := ((n : Int)).toNat) (fun i H' => Ex H1 H' ∧ ∃ bs : List Addr, H' Dl = some (.lst (bs.map V.ref)) ∧ Pr (P H') bs (List.range i)) ⟨Ex.new hD, [], upd_same, trivial⟩ (fun i H' hi ⟨e2, bs, hDl, hbs⟩ => by
    have e0 : (0 : Int) + (i : Int) = (i : Int) := Int.zero_add _
    show wipe ((wipe σ vs).set j (some (.int ((0 : Int) + (i : Int))))) vs = wipe σ vs ∧ te ((wipe σ vs).set j (some (.int ((0 : Int) + (i : Int))))) H' fun y H4 => ∃ acc, H4 Dl = some (.lst acc) ∧ acc.length < sizeLine ∧ (Ex H1 (upd H4 Dl (.lst (acc ++ [y]))) ∧ ∃ bs : List Addr, upd H4 Dl (.lst (acc ++ [y])) Dl = some (.lst (bs.map V.ref)) ∧ Pr (P (upd H4 Dl (.lst (acc ++ [y])))) bs (List.range (i + 1)))
    rw [e0]
    refine ⟨hw _, he i H' ((e.trans e1).trans e2) (by omega) _ fun q H4 e4 hq => ⟨bs.map V.ref, e4 _ _ hDl, ?_, Ex.mut (e2.trans e4) hD, bs ++ [q], by rw [upd_same, List.map_append]; rfl, ?_⟩⟩
    · rw [List.length_map, hbs.length, List.length_range]
      exact sz_lt (by omega)
    · have ht : ∀ b xs, H4 b = some (.tup xs) → upd H4 Dl (.lst (bs.map V.ref ++ [.ref q])) b = some (.tup xs) := fun b xs hb => by
        rw [upd_ne (fun z => by rw [z, e4 _ _ hDl] at hb; cases hb)]
        exact hb
      rw [List.range_succ]
      exact Pr.snoc (hbs.mono fun a i h => hP _ _ _ _ (fun b xs hb => ht b xs (e4 _ _ hb)) h) (hP _ _ _ _ ht hq))
    (fun H' ⟨e2, bs, hDl, hbs⟩ => by
      rw [show ((n : Int)).toNat = n by omega] at hbs
      exact q (.ref Dl) H' (e1.trans e2) ⟨Dl, bs, rfl, hDl, hbs⟩)⟩
def spStands (C : Addr) : Sp := fun vs H Q _ => ∃ (p a : Addr) (R R2 : List Addr) (r : Addr) (rs : List Ru) (s : Sta) (ds : List Deed), vs = [.ref p, .ref a] ∧ ShelfAt C H p R rs s ds ∧ WAt H a R2 r rs s ds ∧ Good rs s ds ∧ (∀ d ∈ ds, d.Clean) ∧ RetV (.bl true) H Q
section
variable {P : Program} {w : World} {K : PySem.W.Frag} {mg : Str → Option Value} {base : Heap}
theorem ok_stands {C f fa fl fb fw fd_ fl2 : Addr} {fd fda fdl fdb fdw fdd fdl2 : FuncData} (F : Fun K "_law_stands" "_law_stands" sStands f fd) (B : Bt mg) (T : ShC K C)
    (ga : mg "_law_alike" = some (.ref fa)) (ka : PySem.W.keepIn K (.ref fa) = true) (ba : Binds K fda pAlike []) (Ga : FnOk P w K mg base CX0 4 fa fda pAlike (spAlike 4))
    (ml : Meth K C "look" fl) (bl : Binds K fdl pLook []) (Gl_ : FnOk P w K mg base CX0 1 fl fdl pLook (spLook C))
    (mb : Meth K C "bars" fb) (bb : Binds K fdb pBars []) (Gb : FnOk P w K mg base CX0 1 fb fdb pBars (spBars C))
    (mw : Meth K C "world" fw) (bw : Binds K fdw pWorld []) (Gw : FnOk P w K mg base CX0 2 fw fdw pWorld (spWorld C))
    (md : Meth K C "deeds" fd_) (bd : Binds K fdd pDeeds []) (Gd : FnOk P w K mg base CX0 1 fd_ fdd pDeeds (spDeeds C))
    (g2 : mg "_law_bars" = some (.ref fl2)) (k2 : PySem.W.keepIn K (.ref fl2) = true) (b2 : Binds K fdl2 pLBars []) (G2 : FnOk P w K mg base CX0 1 fl2 fdl2 pLBars spLBars) :
    FnOk P w K mg base CX0 5 f fd pStands (spStands C) := by
  refine F.ok scStands (fun vs H Q E h => ?_) (fun cdv A outer s0 H vs Q E hr h => ?_)
  · obtain ⟨p, a, R, R2, r, rs, s, ds, rfl, _⟩ := h
    rfl
  · have hu := hu_of hr
    refine ⟨_, pss_cons (ps_setLc (i := 2) (own := [("_law_k", 3)]) (g := gName 3) (tt := tYes) (te := tTup (tCons (tOp rIxS (tDGet (tVar 1) (tC (.str "row"))) (tVar 3)) (tCons (tCB (fun xs H Q => ∃ p ys, xs = [.ref p] ∧ ((SqL K H p ys ∧ ∀ l, H l = none → Q (.ref l) (upd H l (.tup ys))) ∨ (SqT K H p ys ∧ Q (.ref p) H))) (tCons (tOp (rIxL K) (tDGet (tVar 1) (tC (.str "counts"))) (tVar 3)) tNil)) (tCons (tOp (rIxL K) (tDGet (tVar 1) (tC (.str "walls"))) (tVar 3)) tNil)))) (by rfl) scStands.nd rfl rfl (sw_true rfl rfl rfl (by decide +kernel)) (pi_range1 (by rfl) B.rng (pa_cons (pe_callB call_len_str (by rfl) B.len boot_len (pa_cons (pe_dget hu (pv 1) pe_str (fun _ _ => rfl)) pa_nil)) pa_nil)) (blkOk_by (own := [("_law_k", 3)]) (N := nStands) (sc := defScope sStands) (by decide +kernel))
        (fun _ _ _ _ _ => pg_name (i := 3) scStands.nd rfl (.inl rfl)) (fun _ _ _ _ _ => pts_nil) (fun _ _ _ _ _ => pe_tup (pa_cons (pe_ix ix_str (pe_dget hu (pv 1) pe_str (fun _ _ => rfl)) (pv 3) (fun _ _ => rfl)) (pa_cons (pe_callTy call_tuple_of (by rfl) B.tup (by decide +kernel) (pa_cons (pe_ix ix_list (pe_dget hu (pv 1) pe_str (fun _ _ => rfl)) (pv 3) (fun _ _ => rfl)) pa_nil)) (pa_cons (pe_ix ix_list (pe_dget hu (pv 1) pe_str (fun _ _ => rfl)) (pv 3) (fun _ _ => rfl)) pa_nil)))))
      (pss_cons (ps_if (PW.pt (pw_or (pt_not (pt_val (pe_call Ga hr (by rfl) ga ka ba .nil pass0 (pa_cons (pe_meth0 (E := E0) (pv 0) T.cl ml Gl_ (hr.mono (by decide)) bl .nil pass0) (pa_cons (pv 2) pa_nil))))) (pw_or1 (pt_not (pt_val (pe_call Ga hr (by rfl) ga ka ba .nil pass0 (pa_cons (pe_meth0 (E := E0) (pv 0) T.cl mb Gb (hr.mono (by decide)) bb .nil pass0) (pa_cons (pe_call G2 (hr.mono (by decide)) (by rfl) g2 k2 b2 .nil pass0 (pa_cons (pv 1) pa_nil)) pa_nil)))))))) (pss_one (ps_ret pe_bl)) pss_nil)
      (pss_one (ps_ret (pe_and (pe_call Ga hr (by rfl) ga ka ba .nil pass0 (pa_cons (pe_meth0 (E := E0) (pv 0) T.cl mw Gw (hr.mono (by decide)) bw .nil pass0) (pa_cons (pe_tup (pa_cons (pe_dget hu (pv 1) pe_str (fun _ _ => rfl)) (pa_cons (pe_call G2 (hr.mono (by decide)) (by rfl) g2 k2 b2 .nil pass0 (pa_cons (pv 1) pa_nil)) (pa_cons (pe_dget hu (pv 1) pe_str (fun _ _ => rfl)) pa_nil)))) pa_nil)))
        (pe_one (pe_cmpR (op_eqD hr.units) (pe_meth0 (E := E0) (pv 0) T.cl md Gd (hr.mono (by decide)) bd .nil pass0) (pe_dget hu (pv 1) pe_str (fun _ _ => rfl)) (nomark _))))))), ?_⟩
    obtain ⟨p, a, R, R2, r, rs, s, ds, rfl, hS, hW, G, hC, k⟩ := h
    have hz := G.s.z
    have hcs := G.s.c
    have hws := G.s.w
    have hr4 := G.r.1
    have hzs : (txt s.row).length ≤ sizeLine := by rw [len_txt]; exact sz_of (by omega)
    obtain ⟨cl, wl, dl, cas, das, rfl, W⟩ := hW
    have hcl := W.ci.length
    obtain ⟨dx, r0, c0, wl0, nl0, hRR, hp, hSr⟩ := hS
    have S : ShelfAt C H p R rs s ds := ⟨dx, r0, c0, wl0, nl0, hRR, hp, hSr⟩
    have cE : ∀ {H' : Hp} {σ' : L2.St}, Ex H H' → σ'[1]? = some (some (.ref a)) → Ev (tDGet (tVar 1) (tC (.str "counts"))) σ' H' (.ref cl) := fun e h => ev_dget (ev_var h) ev_c (e _ _ W.d) (wg_counts _ _ _ _ _)
    refine q_asgX (ex_lcRA (n := s.row.length) (P := fun H' q i => RowAt H' q (s.row.getD i 0, s.cnt.getD i [], s.wal.getD i false)) (ea_cons (ev_is (ev_lenZ (ev_dget (ev_var rfl) ev_c W.d (wg_row _ _ _ _ _)) hzs) (by rw [len_txt])) ea_nil) (by omega) (fun _ => rfl) (fun H1 H2 b i ht h => h.ex ht) (fun i H1 e1 hi Q1 q1 => ?_)) fun _ H1 e1 ⟨D, bs, ev, hD, hbs⟩ => ?_
    · obtain ⟨ca, hca, hcx⟩ := W.ci.getR (show s.cnt[i]? = some (s.cnt.getD i []) by rw [List.getD_eq_getElem?_getD, List.getElem?_eq_getElem (by omega)]; rfl)
      refine (ev_ixS (i := i) (ev_dget (ev_var (i := 1) rfl) ev_c (e1 _ _ W.d) (wg_row _ _ _ _ _)) (ev_var (i := 3) rfl) hi (by omega)) H1 (Ex.refl H1) _ fun H2 e2 => ?_
      refine (eu_tupL (K := K) (ev_op (cE (e1.trans e2) rfl) (ev_var (i := 3) rfl) (rv_ixL (v := .ref ca) (sq_of ((e1.trans e2) _ _ W.c)) (atI_nat (by rw [List.getElem?_map, hca]; rfl)))) ((e1.trans e2) _ _ hcx)) H2 (Ex.refl H2) _ fun t H3 nt e3 h3 => ?_
      refine (ev_op (ev_dget (ev_var (i := 1) rfl) ev_c (((e1.trans e2).trans e3) _ _ W.d) (wg_walls _ _ _ _ _)) (ev_var (i := 3) rfl) (rv_ixL (sq_of (((e1.trans e2).trans e3) _ _ W.w)) (bls_at (by omega)))) H3 (Ex.refl H3) _ fun H4 e4 => ⟨by show 3 ≤ sizeLine; decide, fun q nq => ?_⟩
      exact q1 q _ (((e2.trans e3).trans e4).trans (Ex.new nq)) ⟨t, upd_same, Ex.new nq _ _ (e4 _ _ h3)⟩
    subst ev
    replace hbs : Pr (RowAt H1) bs s.rows := Pr.mapR hbs
    have hrz : ∀ x ∈ s.rows, x.2.1.length ≤ 1000 := fun x hx => by
      unfold Sta.rows at hx
      obtain ⟨i, hi, rfl⟩ := List.mem_map.mp hx
      have hi' : i < s.cnt.length := by rw [hcs]; exact List.mem_range.mp hi
      have := G.s.e (s.cnt.getD i []) (by rw [List.getD_eq_getElem?_getD, List.getElem?_eq_getElem hi']; exact List.getElem_mem _)
      show (s.cnt.getD i []).length ≤ 1000
      omega
    have hrl : s.rows.length ≤ 1000 := by unfold Sta.rows; rw [List.length_map, List.length_range]; omega
    have hbl : s.bars.length ≤ 1000 := by
      unfold Sta.bars
      have := List.length_filter_le (fun p => s.wal.getD p false) (List.range (s.row.length - 1))
      rw [List.length_range] at this
      omega
    have S1 := S.mono e1
    have W1 : WIn H1 a r cl wl dl cas das rs s ds := W.ex (fun b _ o h => e1 _ _ h) fun b xs h => e1 _ _ h
    have hWA : ∀ {H' : Hp}, Ex H1 H' → WAt H' a (a :: wl :: dl :: cl :: cas) r rs s ds := fun e => ⟨cl, wl, dl, cas, das, rfl, W1.ex (fun b _ o h => e _ _ h) fun b xs h => e _ _ h⟩
    have A1 : ∀ {H2 : Hp}, Ex H1 H2 → Ev (tCall (spAlike 4) [] E0 (tCons (tMeth C "look" (spLook C) [] E0 (tVar 0) tNil) (tCons (tVar 2) tNil))) [some (.ref p), some (.ref a), some (.ref D), none] H2 (.bl true) := fun e2 H3 e3 Q3 q3 =>
      ⟨_, rfl, p, dx, _, rfl, e3 _ _ (e2 _ _ (e1 _ _ hp)), by rfl, p, R, rs, s, ds, rfl, S1.mono (e2.trans e3), G, fun u as H4 nu e4 hu4 has => ⟨_, rfl, .ref u, .ref D, rfl, like_rows hu4 (e4 _ _ (e3 _ _ (e2 _ _ hD))) has (hbs.mono fun b x h => h.ex fun b l hb => e4 _ _ (e3 _ _ (e2 _ _ hb))) hrz hrl, fun H5 e5 => q3 H5 (e4.trans e5)⟩⟩
    have A2 : ∀ {H2 : Hp}, Ex H1 H2 → Ev (tCall (spAlike 4) [] E0 (tCons (tMeth C "bars" (spBars C) [] E0 (tVar 0) tNil) (tCons (tCall spLBars [] E0 (tCons (tVar 1) tNil)) tNil))) [some (.ref p), some (.ref a), some (.ref D), none] H2 (.bl true) := fun e2 H3 e3 Q3 q3 =>
      ⟨_, rfl, p, dx, _, rfl, e3 _ _ (e2 _ _ (e1 _ _ hp)), by rfl, p, R, rs, s, ds, rfl, S1.mono (e2.trans e3), G, fun u H4 nu e4 hu4 => ⟨_, rfl, a, _, r, rs, s, ds, rfl, hWA ((e2.trans e3).trans e4), G.s, fun v H5 nv e5 hv5 => ⟨.ref u, .ref v, rfl, like_nats (e5 _ _ hu4) hv5 hbl, fun H6 e6 => q3 H6 ((e4.trans e5).trans e6)⟩⟩⟩
    refine q_when (b := false) (et_is (et_or (et_not (et_B (A1 (Ex.refl H1)))) fun _ => et_not (et_B (A2 (Ex.refl H1)))) rfl) (fun q => Bool.noConfusion q) (fun _ H2 e2 => ?_)
    refine s_ret (ev_is (ev_andV (a := true) (b := true) (fun H3 e3 Q3 q3 => ?_) fun _ H3 e3 Q3 q3 => ?_) rfl) fun H3 e3 => k H3 ((e1.trans e2).trans e3)
    · refine ⟨_, rfl, p, dx, _, rfl, e3 _ _ (e2 _ _ (e1 _ _ hp)), by rfl, p, R, rs, s, ds, rfl, S1.mono (e2.trans e3), G, fun u b r2 H4 nu e4 hu4 hb4 hr4 => ?_⟩
      have E4 := (e2.trans e3).trans e4
      refine (ev_dget (ev_var (i := 1) rfl) ev_c (E4 _ _ W1.d) (wg_row _ _ _ _ _)) H4 (Ex.refl H4) _ fun H5 e5 => ⟨_, rfl, a, _, r, rs, s, ds, rfl, hWA (E4.trans e5), G.s, fun v H6 nv e6 hv6 => ?_⟩
      refine (ev_dget (ev_var (i := 1) rfl) ev_c (((E4.trans e5).trans e6) _ _ W1.d) (wg_rules _ _ _ _ _)) H6 (Ex.refl H6) _ fun H7 e7 => ⟨by show 3 ≤ sizeLine; decide, fun T nT => ?_⟩
      have E7 := (((e5.trans e6).trans e7).trans (Ex.new (o := .tup [.str (txt s.row), .ref v, .ref r]) nT))
      refine ⟨.ref u, .ref T, rfl, .tup (E7 _ _ hu4) upd_same rfl (by show 3 ≤ 1000; decide) fun i x y hx hy => ?_, fun H8 e8 => q3 H8 ((e4.trans E7).trans e8)⟩
      match i, hx, hy with
      | 0, hx, hy =>
        cases hx; cases hy
        exact .str _
      | 1, hx, hy =>
        cases hx; cases hy
        exact like_nats (E7 _ _ hb4) (Ex.new nT _ _ (e7 _ _ hv6)) hbl
      | 2, hx, hy =>
        cases hx; cases hy
        exact like_rules (hr4.ex fun b l h => E7 _ _ h) (W1.ru.ex fun b l h => E7 _ _ (E4 _ _ h)) (by omega)
      | _ + 3, hx, _ => cases hx
    · refine ⟨_, rfl, p, dx, _, rfl, e3 _ _ (e2 _ _ (e1 _ _ hp)), by rfl, p, R, rs, s, ds, rfl, S1.mono (e2.trans e3), fun u H4 nu e4 ⟨nas, hn4, hn5⟩ => ?_⟩
      have E4 := (e2.trans e3).trans e4
      refine (ev_dget (ev_var (i := 1) rfl) ev_c (E4 _ _ W1.d) (wg_deeds _ _ _ _ _)) H4 (Ex.refl H4) _ fun H5 e5 => ?_
      have sh : SeqAt.shaped (.list (ds.map Deed.data)) = true := shaped_list (m := 1) (fun d hd => Deed.lay (hC d hd)) (fun d _ => d.dep) (by decide)
      refine ⟨.list (ds.map Deed.data), .list (ds.map Deed.data), .lst (sq_of (e5 _ _ hn4)) (dps_deeds (hn5.mono fun b x h => e5 _ _ h)), .lst (sq_of (e5 _ _ (E4 _ _ W1.n))) (dps_deeds (W1.ni.mono fun b x h => e5 _ _ (E4 _ _ h))), sh, sh, ?_⟩
      have hq : PyData.eqv (.list (ds.map Deed.data)) (.list (ds.map Deed.data)) = true := SeqAt.eqv_refl _ (lay_map fun d hd => Deed.lay (hC d hd))
      rw [hq]
      exact q3 H5 (e4.trans e5)
end
end S8
set_option Elab.async false
set_option linter.all false
set_option maxRecDepth 100000
set_option maxHeartbeats 400000
set_option pp.maxSteps 2000
namespace S8
open PySem PySem.Spec PyProof.Rows L2 L2H HotX Evl LamX
/-! ### frames that leave the tables of code out -/
def FrN (R : List Addr) (H H' : Hp) : Prop := (∀ b o, b ∉ R → H b = some o → (∀ ps, o ≠ .tbl ps) → H' b = some o) ∧ ∀ b xs, H b = some (.tup xs) → H' b = some (.tup xs)
theorem FrN.of {R : List Addr} {H H' : Hp} (f : Fr R H H') : FrN R H H' := ⟨fun b o hb h _ => f.1 b o hb h, f.2⟩
theorem FrN.ext {H H' : Hp} (e : ExtN H H') : FrN [] H H' := ⟨fun b o _ h n => e b o h n, fun b xs h => e b _ h fun ps z => by cases z⟩
theorem FrN.mono {R R' : List Addr} {H H' : Hp} (f : FrN R H H') (h : ∀ a ∈ R, a ∈ R') : FrN R' H H' := ⟨fun b o hb => f.1 b o fun z => hb (h b z), f.2⟩
theorem FrN.trans {R : List Addr} {H H1 H2 : Hp} (a : FrN R H H1) (b : FrN R H1 H2) : FrN R H H2 := ⟨fun c o hc h n => b.1 c o hc (a.1 c o hc h n) n, fun c xs h => b.2 c xs (a.2 c xs h)⟩
def NoTC (H : Hp) (R : List Addr) : Prop := ∀ b ∈ R, (∀ ps, H b ≠ some (.tbl ps)) ∧ ∀ q, H b ≠ some (CodeO b q)
theorem tabs_fr {T : List (Addr × Str)} {R : List Addr} {H H' : Hp} (t : Tabs T H) (f : Fr R H H') (n : NoTC H R) : Tabs T H' := fun p hp => by
  obtain ⟨ps, h1, h2, h3⟩ := t p hp
  refine ⟨ps, f.1 _ _ (fun z => (n _ z).1 ps h1) h1, h2, fun pos cv hc => ?_⟩
  obtain ⟨c, e1, e2⟩ := h3 pos cv hc
  exact ⟨c, e1, f.1 _ _ (fun z => (n _ z).2 _ e2) e2⟩
theorem tabs_ex {T : List (Addr × Str)} {H H' : Hp} (t : Tabs T H) (e : Ex H H') : Tabs T H' := t.ext e
theorem ShelfAt.ntc {C : Addr} {H : Hp} {p : Addr} {R : List Addr} {rs : List Ru} {s : Sta} {ds : List Deed} (h : ShelfAt C H p R rs s ds) : NoTC H R := by
  obtain ⟨dx, r, c, wl, nl, rfl, hp, hr, hc, hw, ⟨as, hn, hn2⟩, hne⟩ := h
  intro b hb
  have hb' : b = p ∨ b = wl ∨ b = nl := by simpa using hb
  rcases hb' with z | z | z <;> subst z
  · exact ⟨fun ps q => (by rw [hp] at q; cases q), fun q z => (by rw [hp] at z; unfold CodeO at z; cases z)⟩
  · exact ⟨fun ps q => (by rw [hw] at q; cases q), fun q z => (by rw [hw] at z; unfold CodeO at z; cases z)⟩
  · exact ⟨fun ps q => (by rw [hn] at q; cases q), fun q z => (by rw [hn] at z; unfold CodeO at z; cases z)⟩
theorem WAt.ntc {H : Hp} {a r : Addr} {R : List Addr} {rs : List Ru} {s : Sta} {ds : List Deed} (h : WAt H a R r rs s ds) : NoTC H R := by
  obtain ⟨cl, wl, dl, cas, das, rfl, h⟩ := h
  intro b hb
  have key : ∀ {o : HO}, H b = some o → (∀ ps, o ≠ .tbl ps) → (∀ q, o ≠ CodeO b q) → (∀ ps, H b ≠ some (.tbl ps)) ∧ ∀ q, H b ≠ some (CodeO b q) := fun ho h1 h2 => ⟨fun ps q => by rw [ho] at q; exact h1 ps (Option.some.inj q), fun q z => by rw [ho] at z; exact h2 q (Option.some.inj z)⟩
  rcases List.mem_cons.mp hb with rfl | hb
  · exact key h.d (fun ps z => by cases z) (fun q z => by unfold CodeO at z; cases z)
  rcases List.mem_cons.mp hb with rfl | hb
  · exact key h.w (fun ps z => by cases z) (fun q z => by unfold CodeO at z; cases z)
  rcases List.mem_cons.mp hb with rfl | hb
  · exact key h.n (fun ps z => by cases z) (fun q z => by unfold CodeO at z; cases z)
  rcases List.mem_cons.mp hb with rfl | hb
  · exact key h.c (fun ps z => by cases z) (fun q z => by unfold CodeO at z; cases z)
  obtain ⟨x, _, q⟩ := h.ci.memL hb
  exact key q (fun ps z => by cases z) (fun q z => by unfold CodeO at z; cases z)
theorem HR.ntc {H : Hp} {a c : Addr} (h : HR H a c) : NoTC H [a, c] := by
  obtain ⟨m, i, cs, h1, h2, _⟩ := h
  intro b hb
  have hb' : b = a ∨ b = c := by simpa using hb
  rcases hb' with z | z <;> subst z
  · exact ⟨fun ps q => (by rw [h1] at q; cases q), fun q z => (by rw [h1] at z; unfold CodeO at z; cases z)⟩
  · exact ⟨fun ps q => (by rw [h2] at q; cases q), fun q z => (by rw [h2] at z; unfold CodeO at z; cases z)⟩
theorem ShelfAt.frN {C : Addr} {H H' : Hp} {p : Addr} {R R2 : List Addr} {rs : List Ru} {s : Sta} {ds : List Deed} (h : ShelfAt C H p R rs s ds) (f : FrN R2 H H') (d : ∀ b ∈ R, b ∉ R2) : ShelfAt C H' p R rs s ds := by
  obtain ⟨dx, r, c, wl, nl, rfl, hp, hr, hc, hw, ⟨as, hn, hn2⟩, hne⟩ := h
  exact ⟨dx, r, c, wl, nl, rfl, f.1 _ _ (d _ (by simp)) hp (fun ps z => by cases z), hr.ex f.2, hc.ex f.2, f.1 _ _ (d _ (by simp)) hw (fun ps z => by cases z), ⟨as, f.1 _ _ (d _ (by simp)) hn (fun ps z => by cases z), hn2.mono fun a x h => f.2 _ _ h⟩, hne⟩
theorem ShelfAt.known {C : Addr} {H : Hp} {p : Addr} {R : List Addr} {rs : List Ru} {s : Sta} {ds : List Deed} (h : ShelfAt C H p R rs s ds) : ∀ b ∈ R, H b ≠ none := by
  obtain ⟨dx, r, c, wl, nl, rfl, hp, hr, hc, hw, ⟨as, hn, hn2⟩, hne⟩ := h
  intro b hb q
  have hb' : b = p ∨ b = wl ∨ b = nl := by simpa using hb
  rcases hb' with z | z | z <;> subst z
  · rw [hp] at q; cases q
  · rw [hw] at q; cases q
  · rw [hn] at q; cases q
theorem WAt.frN {H H' : Hp} {a r : Addr} {R R2 : List Addr} {rs : List Ru} {s : Sta} {ds : List Deed} (h : WAt H a R r rs s ds) (f : FrN R2 H H') (d : ∀ b ∈ R, b ∉ R2) : WAt H' a R r rs s ds := by
  obtain ⟨cl, wl, dl, cas, das, rfl, h⟩ := h
  exact ⟨cl, wl, dl, cas, das, rfl, f.1 _ _ (d _ (by simp)) h.d (fun ps z => by cases z), f.1 _ _ (d _ (by simp)) h.c (fun ps z => by cases z), Pr.monoM (fun b x hb _ q => f.1 _ _ (d _ (by simp [hb])) q (fun ps z => by cases z)) h.ci, f.1 _ _ (d _ (by simp)) h.w (fun ps z => by cases z), f.1 _ _ (d _ (by simp)) h.n (fun ps z => by cases z), h.ni.mono fun b x q => f.2 _ _ q, h.ru.ex f.2, h.wd, h.wc, h.dc, h.wi, h.di⟩
theorem HR.frN {H H' : Hp} {a c : Addr} {R2 : List Addr} (h : HR H a c) (f : FrN R2 H H') (d : ∀ b ∈ [a, c], b ∉ R2) : HR H' a c := by
  obtain ⟨m, i, cs, h1, h2, r⟩ := h
  exact ⟨m, i, cs, f.1 _ _ (d _ (by simp)) h1 (fun ps z => by cases z), f.1 _ _ (d _ (by simp)) h2 (fun ps z => by cases z), r⟩
theorem HR.known {H : Hp} {a c : Addr} (h : HR H a c) : ∀ b ∈ [a, c], H b ≠ none := by
  obtain ⟨m, i, cs, h1, h2, r⟩ := h
  intro b hb q
  have hb' : b = a ∨ b = c := by simpa using hb
  rcases hb' with z | z <;> subst z
  · rw [h1] at q; cases q
  · rw [h2] at q; cases q
/-! ### told -/
structure FunC (K : PySem.W.Frag) (x qual : Str) (st : Stmt) (f : Addr) (fd : FuncData) (c : Addr) : Prop where
  ex : ∃ (oc : Value) (od : Option Addr) (kV doc pm : Value) (an : Option Addr) (ct : Value) (osl : Array (Option Value)),
    fd = PySem.W.fnOf x qual (defArgs st) (defBody st) (defScope st) .none kV doc pm an (.ref c) ct ∧ K.lookup f = some ⟨oc, od, .func fd, osl⟩ ∧ PySem.W.codeIn K (.ref c) qual = true
theorem FunC.ok {P : Program} {w : World} {K : PySem.W.Frag} {mg : Str → Option Value} {base : Heap} {x qual : Str} {st : Stmt} {f c : Addr} {fd : FuncData} {N ps : List Str} {k : Nat} {sp : Sp} (F : FunC K x qual st f fd c) (S : FnScope N ps (defScope st)) (len : ∀ vs H Q E, sp vs H Q E → vs.length = ps.length)
    (hbody : ∀ (A : Around) (outer : List Env) (s : Shared) (H : Hp) (vs : List V) (Q : VK) (E : XK), Room k (A.deeper (envOfC qual (defScope st) s.heap.objs.size f (.ref c))) → sp vs H Q E →
      ∃ t, PSs (cxOf CX0 P w K mg base N qual (defScope st) f (.ref c) A outer s H E).nox (defBody st) t ∧ t { nx := fun _ H' => Q .non H', rt := Q } (start N vs) H) : FnOk P w K mg base CX0 (k + 1) f fd ps sp := by
  obtain ⟨oc, od, kV, doc, pm, an, ct, osl, rfl, lk, hcd⟩ := F.ex
  refine fn_of lk hcd S len fun A outer s H vs Q E hr hsp => ?_
  obtain ⟨t, h, q⟩ := hbody A outer s H vs Q E hr hsp
  exact ⟨t, h.nox, q⟩
def Nw (H : Hp) (b : Addr) : Prop := ∀ o, H b = some o → ∃ ps, o = .tbl ps
def ResW : Res → V → Hp → Hp → Prop
  | .non, v, _, _ => v = .non
  | .sgn c, v, _, _ => v = ch c
  | .plc l, v, H, H' => ∃ q, v = .ref q ∧ Nw H q ∧ H' q = some (.lst (l.map iv))
structure ToldK (T : List (Addr × Str)) (C p0 : Addr) (R : List Addr) (rs : List Ru) (s : Sta) (ds : List Deed) (d : Deed) (H : Hp) (Q : VK) : Prop where
  told : ∀ x s', act rs s d = (.told x, s') → ∀ p v R' H', H' p = some (.tup [.str "told", v]) → ResW x v H H' → FrN R H H' → ShelfAt C H' p0 R' rs s' (ds ++ [d]) → (∀ b ∈ R', b ∈ R ∨ Nw H b) → Tabs T H' → Q (.ref p) H'
  jar : ∀ i, act rs s d = (.jar i, s) → ∀ p H', FrN [] H H' → Tabs T H' → H' p = some (.tup [.str "jar", .int i]) → Q (.ref p) H'
  row : act rs s d = (.row, s) → ∀ p H', FrN [] H H' → Tabs T H' → H' p = some (.tup [.str "row", .int 0]) → Q (.ref p) H'
  count : act rs s d = (.count, s) → ∀ p H', FrN [] H H' → Tabs T H' → H' p = some (.tup [.str "count", .int 0]) → Q (.ref p) H'
def spTold (T : List (Addr × Str)) (C : Addr) : Sp := fun vs H Q _ => ∃ (p q : Addr) (R : List Addr) (rs : List Ru) (s : Sta) (ds : List Deed) (d : Deed), vs = [.ref p, .ref q] ∧ H q = some (.tup d.vals) ∧ d.Small ∧ ShelfAt C H p R rs s ds ∧ Good rs s ds ∧ Tabs T H ∧ ToldK T C p R rs s ds d H Q
end S8
set_option Elab.async false
set_option linter.all false
set_option maxRecDepth 100000
set_option maxHeartbeats 400000
set_option pp.maxSteps 2000
namespace S8
open PySem PySem.Spec PyProof.Rows L2 L2H HotX Evl LamX
/-- what kind needs to be told of the classes -/
structure KindF (K : PySem.W.Frag) (mg : Str → Option Value) (xa : XA) (xd RE : Addr) (ka : KA) : Prop where
  kg : KG mg ka
  gRE : mg "RowError" = some (.ref RE)
  ij : IsT K xa.jar ka 1
  ir : IsT K xa.row ka 0
  id_ : IsT K xd ka 5
  ic : IsT K xa.count ka 7
  xj : XfC K xa.jar
  xr : XfC K xa.row
  xdd : XfC K xd
  nj : PySem.W.findIn K (.ref xa.jar) "place" = some none
  nr : PySem.W.findIn K (.ref xa.row) "place" = some none
  nd : PySem.W.findIn K (.ref xd) "number" = some none
  ej : PySem.W.exmOne K (.ref xa.jar) (.ref RE) = some true
  er : PySem.W.exmOne K (.ref xa.row) (.ref RE) = some true
  ed : PySem.W.exmOne K (.ref xd) (.ref RE) = some true
  ec : PySem.W.exmOne K (.ref xa.count) (.ref RE) = some true
structure KindD (K : PySem.W.Frag) (mg : Str → Option Value) (g : Addr) : Prop where
  gk : mg "_law_kind" = some (.ref g)
  kk : PySem.W.keepIn K (.ref g) = true
  F : ∃ fd, Fun K "_law_kind" "_law_kind" sKind g fd ∧ Binds K fd pKind []
theorem FrN.upd {R : List Addr} {H H' : Hp} {a : Addr} {o : HO} (f : FrN R H H') (ha : H a = none) : FrN R H (upd H' a o) := ⟨fun b u hb h n => by
  rw [upd_ne (ne_of_none h ha)]
  exact f.1 b u hb h n, fun b xs h => by
  rw [upd_ne (ne_of_none h ha)]
  exact f.2 b xs h⟩
theorem FrN.ex {R : List Addr} {H H1 H2 : Hp} (f : FrN R H H1) (e : Ex H1 H2) : FrN R H H2 := f.trans (FrN.of (Fr.of e))
theorem sh_k {z : Str} {i : Int} (hz : PyData.canLay0 (.str z) = true) : SeqAt.shaped (.tuple [.str z, .int i]) = true := by
  unfold SeqAt.shaped
  have h1 : PyData.canLay0 (.tuple [.str z, .int i]) = true := by
    show (PyData.canLay0 (.str z) && (PyData.canLay0 (.int i) && true)) = true
    rw [hz]
    rfl
  rw [h1]
  rfl
/-- kind == ('', 0) -/
theorem et_kind {K : PySem.W.Frag} {σ : L2.St} {H : Hp} {ta : TE} {p : Addr} {z : Str} {i : Int} {b : Bool} (ha : Ev ta σ H (.ref p)) (hp : H p = some (.tup [.str z, .int i])) (hz : PyData.canLay0 (.str z) = true) (hb : PyData.eqv (.tuple [.str z, .int i]) (.tuple [.str "", .int 0]) = b) :
    EvT (tTest (tOp (rEqD K) ta (tTup (tCons (tC (.str "")) (tCons (tC (.int 0)) tNil))))) σ H b := et_test (fun H1 e Q q => ha H1 e _ fun H2 e2 => ⟨by show 2 ≤ sizeLine; decide, fun r nr =>
  ⟨.tuple [.str z, .int i], .tuple [.str "", .int 0], .tup (st_of (Ex.new nr _ _ (e2 _ _ (e _ _ hp)))) (.cons (.str _) (.cons (.int _) .nil)), .tup (st_of upd_same) (.cons (.str _) (.cons (.int _) .nil)), sh_k hz, sh_k (by decide +kernel), by
    rw [hb]
    exact q _ (e2.trans (Ex.new nr))⟩⟩)
def lamQ (q : Str) : Str := q ++ "<lambda>"
section
variable {P : Program} {w : World} {K : PySem.W.Frag} {mg : Str → Option Value} {base : Heap}
theorem ok_told {T : List (Addr × Str)} {P1 c1 : Addr} {xa : XA} {xd RE C f fr g : Addr} {ka : KA} {fd fdr : FuncData} (F : FunC K "_law_told" "_law_told" sTold f fd c1) (B : Bt mg) (KF : KindF K mg xa xd RE ka) (KD : KindD K mg g)
    (gr : mg "_law_real" = some (.ref fr)) (kr : PySem.W.keepIn K (.ref fr) = true) (br : Binds K fdr pReal []) (Gr : FnOk P w K mg base (L2N.CX P w) 5 fr fdr pReal (spReal xa C))
    (TB : TabB base mg c1 P1) (hmT : (P1, ("_law_told.<locals>.<lambda>" : Str)) ∈ T) (hu : ∀ p ∈ T, p.1 = P1 → p.2 = ("_law_told.<locals>.<lambda>" : Str)) :
    FnOk P w K mg base CX0 8 f fd pTold (spTold T C) := by
  refine F.ok scTold (fun vs H Q E h => ?_) (fun A outer s0 H vs Q E hr h => ?_)
  · obtain ⟨p, q, R, rs, s, ds, d, rfl, _⟩ := h
    rfl
  · obtain ⟨fdk, Fk, bk⟩ := KD.F
    obtain ⟨oc, od, kV, doc, pm, an, cdv, ct, osl, rfl, lk, hcd⟩ := Fk.ex
    refine ⟨_, pss_cons (ps_set (i := 2) scTold.nd rfl (.inr rfl) (pe_lst pa_nil))
      (pss_cons (ps_set (i := 3) scTold.nd rfl (.inl rfl) (pe_lamcall (T := T) (TT := TTkind xa xd) (Ng := nKind) (k := 5) (P := P1) (c := c1) (t := fun E' => tBM K "list" rAppend (tVar 2) (tCons (tCall (spReal xa C) [] E' (tCons (tVar 0) (tCons (tVar 1) tNil))) tNil)) (by rfl) KD.gk KD.kk lk hcd bk scKind rfl (.inl rfl)
          (kind_gives (X := (cxOf CX0 P w K mg base nTold "_law_told" (defScope sTold) f (.ref c1) A outer s0 H E).nox) B KF.kg KF.gRE KF.ij KF.ir KF.id_ KF.ic KF.xj KF.xr KF.xdd KF.nj KF.nr KF.nd KF.ej KF.er KF.ed KF.ec)
          TB rfl hmT hu hr (lamS_by (sc := defScope sTold) (by decide +kernel)) (by rfl) (fun _ _ _ _ _ => by rfl) (fun A' outer' s' H' E' f' c' hr' => ?_)))
      (pss_one (ps_ret (pe_ifExp (pt_cmpR (op_eqD hr.units) (pv 3) (pe_tup (pa_cons pe_str (pa_cons pe_int pa_nil))) (nomark _)) (pe_tup (pa_cons pe_str (pa_cons (pe_ix ix_list (pv 2) pe_int (fun _ _ => rfl)) pa_nil))) (pv 3))))), ?_⟩
    · exact pe_bm PySem.F.plainAttrs_list PySem.F.slot_list_append PySem.F.type_list_append mt_append (pv 2) (pa_cons (pe_call Gr hr' (by rfl) gr kr br .nil (L2N.passes_call (L2N_takes (L2.takes_of rfl rfl rfl rfl)) fun _ _ _ _ h => h) (pa_cons (pv 0) (pa_cons (pv 1) pa_nil))) pa_nil)
    · obtain ⟨p, q, R, rs, s, ds, d, rfl, hq, hs, hS, G, hT, TK⟩ := h
      refine q_asgL (el_lst ea_nil (by decide)) fun l H1 nl e1 hl1 => ⟨tabs_ex hT e1, fun H2 eN T2 => ?_⟩
      have fN : FrN [] H H2 := (FrN.of (Fr.of e1)).trans (FrN.ext eN)
      have hl2 : H2 l = some (.lst []) := eN _ _ hl1 (fun ps z => by cases z)
      have hq2 := fN.2 _ _ hq
      have S2 : ShelfAt C H2 p R rs s ds := hS.frN fN (fun b _ h => nomatch h)
      -- what an exception leaves
      have fin : ∀ {z : Str} {v : V} {p1 : Addr} {i : Int} {H3 : Hp}, Ex H2 H3 → H3 p1 = some (.tup [.str z, .int i]) → PyData.canLay0 (.str z) = true → PyData.eqv (.tuple [.str z, .int i]) (.tuple [.str "", .int 0]) = false → (∀ H4, Ex H3 H4 → Q (.ref p1) H4) →
          (tRet (tIf (tTest (tOp (rEqD K) (tVar 3) (tTup (tCons (tC (.str "")) (tCons (tC (.int 0)) tNil))))) (tTup (tCons (tC (.str "told")) (tCons (tOp (rIxL K) (tVar 2) (tC (.int 0))) tNil))) (tVar 3))) { nx := fun _ H' => Q .non H', rt := Q } [some (.ref p), some (.ref q), some (.ref l), some (.ref p1)] H3 := fun e3 hp hz hb k => by
        refine s_ret (ev_if (et_kind (ev_var rfl) hp hz hb) (fun h => Bool.noConfusion h) (fun _ => ev_var rfl)) fun H4 e4 => k H4 e4
      have k0 : PyData.canLay0 (.str "jar") = true := by decide +kernel
      have k1 : PyData.canLay0 (.str "row") = true := by decide +kernel
      have k2 : PyData.canLay0 (.str "count") = true := by decide +kernel
      refine ⟨_, rfl, .inl ⟨rfl, [], sq_of hl2⟩, _, rfl, _, rfl, p, q, R, rs, s, ds, d, rfl, hq2, hs, S2, G, ⟨fun x s' hact v R' H3 hres f3 S3 hR' => ?_, fun i hact e H3 e3 ne he => .inl ⟨rfl, e, .int i, rfl, he, fun p1 H4 e4 hp1 => ?_⟩, fun hact e H3 e3 ne he => .inr (.inl ⟨rfl, e, .int 0, rfl, he, fun p1 H4 e4 hp1 => ?_⟩), fun hact H3 e3 => .inr (.inr (.inr ⟨rfl, rfl, fun p1 H4 e4 hp1 => ?_⟩))⟩⟩
      · have hlR : l ∉ R := fun hm => hS.known l hm nl
        have hl3 : H3 l = some (.lst []) := f3.1 _ _ hlR hl2
        refine ⟨l, [], v, rfl, rfl, hl3, by decide, by show 2 ≤ sizeLine; decide, fun p1 np1 => ?_⟩
        have f4 : FrN R H (upd H3 l (.lst ([] ++ [v]))) := ((fN.mono fun a h => nomatch h).trans (FrN.of f3)).upd nl
        have hl4 : upd H3 l (.lst ([] ++ [v])) l = some (.lst [v]) := upd_same
        have T4 : Tabs T (upd H3 l (.lst ([] ++ [v]))) := by
          refine tabs_fr (R := [l]) (tabs_fr T2 f3 S2.ntc) ((Fr.of (Ex.refl H3)).upd (.inl (by simp)) (fun xs h => by rw [hl3] at h; cases h)) fun b hb => ?_
          obtain rfl : b = l := by simpa using hb
          exact ⟨fun ps q => (by rw [hl3] at q; cases q), fun q z => (by rw [hl3] at z; unfold CodeO at z; cases z)⟩
        have hR4 : ∀ b ∈ R', b ≠ l := fun b hb z => by
          rcases hR' b hb with h | h
          · exact hlR (z ▸ h)
          · rw [z, hl2] at h; cases h
        have S4 : ShelfAt C (upd H3 l (.lst ([] ++ [v]))) p R' rs s' (ds ++ [d]) := S3.ex (fun b hb => upd_ne (hR4 b hb)) (fun b xs h => by rw [upd_ne (fun z => by rw [z, hl3] at h; cases h)]; exact h)
        have hNw : ∀ b, H2 b = none → Nw H b := fun b h o ho => by
          by_cases ht : ∃ ps, o = .tbl ps
          · exact ht
          · have := fN.1 b o (fun h => nomatch h) ho fun ps z => ht ⟨ps, z⟩
            rw [h] at this
            cases this
        have hW4 : ResW x v H (upd H3 l (.lst ([] ++ [v]))) := by
          cases x with
          | non => exact hres
          | sgn c => exact hres
          | plc k =>
            obtain ⟨u, h1, h2, h3⟩ := hres
            exact ⟨u, h1, hNw u h2, by rw [upd_ne (fun z => by rw [z, hl2] at h2; cases h2)]; exact h3⟩
        have hRN : ∀ b ∈ R', b ∈ R ∨ Nw H b := fun b hb => (hR' b hb).imp_right fun h o ho => by
          by_cases ht : ∃ ps, o = .tbl ps
          · exact ht
          · have := fN.1 b o (fun h => nomatch h) ho fun ps z => ht ⟨ps, z⟩
            rw [h] at this
            cases this
        show (tRet (tIf (tTest (tOp (rEqD K) (tVar 3) (tTup (tCons (tC (.str "")) (tCons (tC (.int 0)) tNil))))) (tTup (tCons (tC (.str "told")) (tCons (tOp (rIxL K) (tVar 2) (tC (.int 0))) tNil))) (tVar 3))) { nx := fun _ H' => Q .non H', rt := Q } [some (.ref p), some (.ref q), some (.ref l), some (.ref p1)] (upd (upd H3 l (.lst ([] ++ [v]))) p1 (.tup [.str "", .int 0]))
        have e5 : Ex (upd H3 l (.lst ([] ++ [v]))) (upd (upd H3 l (.lst ([] ++ [v]))) p1 (.tup [.str "", .int 0])) := Ex.new np1
        have hp5 : upd (upd H3 l (.lst ([] ++ [v]))) p1 (.tup [.str "", .int 0]) p1 = some (.tup [.str "", .int 0]) := upd_same
        generalize upd H3 l (.lst ([] ++ [v])) = H4 at f4 hl4 T4 S4 hW4 e5 hp5
        generalize upd H4 p1 (.tup [.str "", .int 0]) = H5 at e5 hp5
        refine (et_kind (b := true) (ev_var rfl) hp5 (by decide +kernel) (by decide +kernel)) H5 (Ex.refl H5) _ fun H6 e6 => ?_
        rw [if_pos rfl]
        have E6 := e5.trans e6
        refine (eu_tup (ea_cons ev_c (ea_cons (ev_op (ev_var rfl) ev_c (rv_ixL (sq_of (E6 _ _ hl4)) (by rfl))) ea_nil)) (by show 2 ≤ 100000; decide)) H6 (Ex.refl H6) _ fun pr H7 npr e7 h7 => TK.told x s' hact pr v R' H7 h7 ?_ (f4.ex (E6.trans e7)) (S4.mono (E6.trans e7)) hRN (tabs_ex T4 (E6.trans e7))
        cases x with
        | non => exact hW4
        | sgn c => exact hW4
        | plc k =>
          obtain ⟨u, h1, h2, h3⟩ := hW4
          exact ⟨u, h1, h2, e7 _ _ (E6 _ _ h3)⟩
      · exact fin (v := .non) (e3.trans e4) hp1 k0 (show (PyData.eqv (.str "jar") (.str "") && PyData.eqvAll [.int i] [.int 0]) = false by rw [show PyData.eqv (.str "jar") (.str "") = false by decide +kernel]; rfl) fun H5 e5 => TK.jar i hact p1 H5 (fN.ex ((e3.trans e4).trans e5)) (tabs_ex T2 ((e3.trans e4).trans e5)) (e5 _ _ hp1)
      · exact fin (v := .non) (e3.trans e4) hp1 k1 (by decide +kernel) fun H5 e5 => TK.row hact p1 H5 (fN.ex ((e3.trans e4).trans e5)) (tabs_ex T2 ((e3.trans e4).trans e5)) (e5 _ _ hp1)
      · exact fin (v := .non) (e3.trans e4) hp1 k2 (by decide +kernel) fun H5 e5 => TK.count hact p1 H5 (fN.ex ((e3.trans e4).trans e5)) (tabs_ex T2 ((e3.trans e4).trans e5)) (e5 _ _ hp1)
end
end S8
set_option Elab.async false
set_option linter.all false
set_option maxRecDepth 100000
set_option maxHeartbeats 400000
set_option pp.maxSteps 2000
namespace S8
open PySem PySem.Spec PyProof.Rows L2 L2H HotX Evl
/-! ### a text's token, carried by the frame's dict: x, y = 'abc'[i], e; z = 'abc'.replace(x, '')[k] -/
section
variable {X : Cx} {pins : List (Addr × Obj)} {σ : L2.St} {H : Hp} {s : Shared}
theorem store_known {M : Model} {A : Around} {E : Value → Shared → Prop} {i : Nat} {x : Str} {v : V} {u : Value} {Q : Unit → Shared → Prop} (I : Inv X pins σ H s) (hN : X.N.Nodup) (hi : X.N[i]? = some x) (hk : X.env.scope.names.lookup x = some .local) (r : RelV v u)
    (h : ∀ s' m, Inv X pins (σ.set i (some v)) H s' → s'.heap.Ns X.env.locals m → m x = some u → s'.toks = s.toks + 1 → Q () s') : wpAny M A (storeName X.env x u) Q E s := by
  obtain ⟨m, hn, hl⟩ := id I.loc
  have hcls : (X.env.scope.kind == .class || (X.env.scope.kind == .module && X.env.locals != X.env.globals)) = false := by rw [I.ok.kind]; rfl
  have hiσ : i < σ.length := by rw [I.len]; exact (List.getElem?_eq_some_iff.mp hi).1
  refine wpAny_storeName_local hk hn (fun h' hn' hs => ?_) hcls
  have J := gone_inv (h' := h') I (fun b hb => hs.2 b hb) hn'
  refine h { s with heap := h', toks := s.toks + 1 } _ ⟨J.ok, J.os, J.bare, J.base, ⟨_, hn', fun j y v' e1 e2 e3 => ?_⟩, J.cell, J.free, J.freeC, J.pin, J.hok, by simpa using I.len⟩ hn' (if_pos rfl) rfl
  by_cases hj : j = i
  · subst hj
    rw [hi] at e1
    cases e1
    rw [List.getElem?_set_self hiσ] at e2
    cases e2
    exact ⟨u, r, .inl ⟨hk, if_pos rfl⟩⟩
  · rw [List.getElem?_set_ne (Ne.symm hj)] at e2
    obtain ⟨u', r', q⟩ := hl j y v' e1 e2 e3
    refine ⟨u', r', ?_⟩
    rcases q with ⟨k, e⟩ | ⟨k, c, e, z⟩
    · have ne : y ≠ x := fun e => hj (nodup_ix hN e1 (e ▸ hi))
      exact .inl ⟨k, (if_neg ne).trans e⟩
    · exact .inr ⟨k, c, e, z.sameBut hs (I.cne y c e)⟩
end
def PEK (X : Cx) (e : Expr) (t : TE) : Prop := ∀ (pins : List (Addr × Obj)) (s : Shared) (σ : L2.St) (H : Hp) (Q : VK), Inv X pins σ H s → t σ H Q →
  wpAny (model X.prog X.w) X.A (eval e X.env) (fun u s' => (∃ v H', Inv X pins σ H' s' ∧ RelV v u ∧ Q v H') ∧ ∃ (z : Str) (t : Tok), u = .str z t ∧ t ≠ 0 ∧ t < s'.toks) X.xe s
section
variable {X : Cx}
theorem pek_ixS {b : Expr} {tb : TE} {z : Str} {j : Nat} {p pos : Pos} (hb : PE X b tb) (hs : PlainIx b) : PEK X (.Subscript (.Constant (.str z) j p) b pos) (tOp rIxS (tC (.str z)) tb) := by
  intro pins s σ H Q I h
  refine Subscript_ (Calls.Constant_str ?_)
  refine wpAny_mono (PySem.wpAny_toks (hb.run pins { s with toks := s.toks + 1 } σ H _ (I.tok _) h)) (fun u s2 q => ?_) fun _ _ z => z.2
  obtain ⟨hk, y, H2, I2, ry, z', i, c, e1, rfl, hz, he, q⟩ := q
  cases e1
  obtain ⟨t', rfl⟩ := ry
  obtain ⟨j', h1, h2, h3, h4, h5⟩ := atI_get he
  have hl : z.cps.toList.length = z.length := by simp [Str.length]
  rw [hl] at h1 h4 h5
  have hn := line63
  have hk' : s.toks + 1 ≤ s2.toks := hk
  exact tail_any (typeIs_str s2 z s.toks) slot_str_getitem.lookup (getItem_str (c := c) (by
    have e1 : decide (i < -(2 ^ 63 : Int)) = false := decide_eq_false (by omega)
    have e2 : decide (i ≥ 2 ^ 63) = false := decide_eq_false (by omega)
    rw [e1, e2, Bool.or_false]) (by rw [h1]; simpa using h2) ⟨⟨.str ⟨#[c]⟩, H2, I2.tok _, ⟨_, rfl⟩, q⟩, ⟨#[c]⟩, s2.toks, rfl, fun e => by have e' : s2.toks = 0 := e; omega, Nat.lt_succ_self s2.toks⟩) (hs _ _)
/-- what is known of x's text -/
def KnT (X : Cx) (i : Nat) (x : Str) (σ : L2.St) (s : Shared) : Prop := ∃ (m : Str → Option Value) (z : Str) (t : Tok), s.heap.Ns X.env.locals m ∧ m x = some (.str z t) ∧ σ[i]? = some (some (.str z)) ∧ t ≠ 0 ∧ t < s.toks
theorem par_known {i j : Nat} {x y : Str} {a b : Expr} {t1 t2 : TE} {px py pt pos : Pos} {kt k2 pt2} (hc : X.calm = true) (hN : X.N.Nodup) (hi : X.N[i]? = some x) (hj : X.N[j]? = some y) (hij : i ≠ j)
    (hx : X.env.scope.names.lookup x = some .local) (hy : X.env.scope.names.lookup y = some .local) (h1 : PEK X a t1) (h2 : PE X b t2)
    (hw : swappedStores [.Tuple [.Name x px, .Name y py] kt pt] (.Tuple [a, b] k2 pt2) X.env = pure (some [x, y]))
    (hs : swapsWithSole [.Tuple [.Name x px, .Name y py] kt pt] (.Tuple [a, b] k2 pt2) pos.line X.env = pure false)
    (hst : starEach [a, b] X.env = [(false, eval a X.env), (false, eval b X.env)])
    {pins : List (Addr × Obj)} {s : Shared} {σ : L2.St} {H : Hp} {Q : L2.St → Hp → Prop} (I : Inv X pins σ H s) (h : t1 σ H fun v H1 => t2 σ H1 fun w H2 => Q ((σ.set i (some v)).set j (some w)) H2) :
    wpAny (model X.prog X.w) X.A (exec (.Assign [.Tuple [.Name x px, .Name y py] kt pt] (.Tuple [a, b] k2 pt2) pos) X.env) (fun f s' => f = .next ∧ ∃ σ' H', Inv X pins σ' H' s' ∧ Q σ' H' ∧ KnT X i x σ' s') X.xe s := by
  rw [exec_Assign_arm]
  refine wpAny_bind (wpAny_standAt ?_)
  rw [hs]
  refine wpAny_bind (wpAny_pure ?_)
  rw [if_neg (by decide)]
  refine wpAny_bind (Tuple_ ?_)
  rw [hst]
  refine Calls.spliced_cons (wpAny_mono (h1 pins s σ H _ I h) (fun u1 s1 hq => ?_) fun _ _ z => z)
  obtain ⟨⟨v, H1, I1, rv, q1⟩, z, t, e1, ht0, ht1⟩ := hq
  refine Calls.spliced_cons (wpAny_mono (PySem.wpAny_toks (h2.run pins s1 σ H1 _ I1 q1)) (fun u2 s2 hq => ?_) fun _ _ z => z.2)
  obtain ⟨hk2, w, H2, I2, rw', q2⟩ := hq
  refine Calls.spliced_nil ?_
  refine wpAny_newObj_type ?_ (by show 2 ≤ sizeLine; decide)
  have I3 : Inv X pins σ H2 { s2 with heap := s2.heap.push { cls := .type "tuple", data := .seq [u1, u2].toArray } } := I2.kept (t' := s2.toks) fun b o e => Heap.get?_push_of_some _ e
  rw [hw]
  refine wpAny_bind (wpAny_pure ?_)
  show wpAny (model X.prog X.w) X.A (do rule "assign.swapped-stores"; let items ← unpackItems (.ref s2.heap.objs.size) 2 none; assignInOrder [fun v => bindName X.env y v, fun v => bindName X.env x v] items.reverse; pure Flow.next) _ _ _
  refine wpAny_bind (wpAny_rule (wpAny_bind (unpackItems_tuple (items := #[u1, u2]) (I.ok.hd hc) (IsTup.new s2.heap _) fun h' hx' => ?_)))
  have I4 := I3.kept (h' := h') (t' := s2.toks) fun b o e => hx' b o (Nat.ne_of_lt (Heap.lt_size e)) e
  show wpAny _ _ (assignInOrder [fun v => bindName X.env y v, fun v => bindName X.env x v] [u2, u1] >>= fun _ => pure Flow.next) _ _ _
  refine wpAny_bind (assignInOrder_cons (wpAny_bindName (store_known I4 hN hj hy rw' (fun s3 m3 I5 _ _ ht3 => ?_))))
  refine assignInOrder_cons (wpAny_bindName (store_known I5 hN hi hx rv (fun s4 m4 I6 hm4 hu4 ht4 => assignInOrder_nil (wpAny_pure ⟨rfl, ?_⟩))))
  rw [List.set_comm _ _ (Ne.symm hij)] at I6
  have hiσ : i < σ.length := by rw [I.len]; exact (List.getElem?_eq_some_iff.mp hi).1
  have hvz : v = .str z := by
    subst e1
    cases v with
    | non => cases (show Value.str z t = Value.none from rv)
    | bl b => cases (show Value.str z t = Value.bool b from rv)
    | int n => obtain ⟨_, h⟩ := (show ∃ t', Value.str z t = Value.int n t' from rv); cases h
    | str y => obtain ⟨_, h⟩ := (show ∃ t', Value.str z t = Value.str y t' from rv); cases h; rfl
    | byt b => obtain ⟨_, h⟩ := (show ∃ t', Value.str z t = Value.bytes b t' from rv); cases h
    | flt b => obtain ⟨_, h⟩ := (show ∃ t', Value.str z t = Value.float b t' from rv); cases h
    | ref a => cases (show Value.str z t = Value.ref a from rv)
    | ty n => cases (show Value.str z t = Value.type n from rv)
  refine ⟨_, H2, I6, q2, m4, z, t, hm4, by rw [hu4, e1], ?_, ht0, ?_⟩
  · rw [List.getElem?_set_ne (Ne.symm hij), List.getElem?_set_self hiσ, hvz]
  · have e3 : s3.toks = s2.toks + 1 := ht3
    have e4 : s4.toks = s3.toks + 1 := ht4
    have e5 : s1.toks ≤ s2.toks := hk2
    exact Nat.lt_of_lt_of_le ht1 (by omega)
/-- 'abc'.replace(x, '') [k] -/
def tRepS (y : Str) (i : Nat) (tk : TE) : TE := fun σ H Q => ∃ z, σ[i]? = some (some (.str z)) ∧ (z == ("" : Str)) = false ∧ tk σ H fun k H1 => rIxS (.str (Txt.replace y z "")) k H1 Q
theorem rep_known {i j0 j1 : Nat} {x y : Str} {e3 : Expr} {tk : TE} {p0 p1 p2 apos cpos pos : Pos} (hx : X.env.scope.names.lookup x = some .local) (hk : PE X e3 tk) (hs : PlainIx e3) (hdb : (x == ("__debug__" : Str)) = false)
    (hst : starEach [.Name x p1, .Constant (.str "") j1 p2] X.env = [(false, eval (.Name x p1) X.env), (false, eval (.Constant (.str "") j1 p2) X.env)])
    (hbase : attributeBase (.Constant (.str y) j0 p0) "replace" X.env (eval (.Constant (.str y) j0 p0) X.env) = eval (.Constant (.str y) j0 p0) X.env) (hline : (apos.endLine == cpos.line) = true) (hyb : y.length ≤ 1000)
    {pins : List (Addr × Obj)} {s : Shared} {σ : L2.St} {H : Hp} {Q : VK} (I : Inv X pins σ H s) (K : KnT X i x σ s) (h : tRepS y i tk σ H Q) :
    wpAny (model X.prog X.w) X.A (eval (.Subscript (.Call (.Attribute (.Constant (.str y) j0 p0) "replace" apos) [.Name x p1, .Constant (.str "") j1 p2] [] cpos) e3 pos) X.env) (EP X pins σ Q) X.xe s := by
  obtain ⟨m, z, t, hm, hmx, hσ, ht0, ht1⟩ := K
  obtain ⟨z', hσ', hz, h⟩ := h
  have ez : z' = z := by rw [hσ] at hσ'; cases hσ'; rfl
  subst ez
  refine Subscript_ (PySem.Call_method2 hbase hst hline (Calls.Constant_str ⟨"str", _, PySem.F.plainAttrs_str, PySem.F.slot_str_replace, PySem.F.type_str_replace, typeIs_str _ _ _, (fun _ e => nomatch e), Calls.callWith_builtin rfl (Calls.evalArgs_plain (Calls.spliced_cons ?_))⟩))
  refine wpAny_Name (wpAny_loadName_local (m := m) I.ok.kind hx hm hmx (Calls.spliced_cons (Calls.Constant_str (Calls.spliced_nil ?_)))) hdb
  refine PySem.SC.replace ht0 (by show s.toks + 1 ≠ 0; omega) (fun e => by have h1 : t < s.toks := ht1; have e' : t = s.toks + 1 := e; rw [e'] at h1; exact absurd h1 (Nat.not_lt.mpr (Nat.le_succ _))) hz ?_ fun t' k => ?_
  · show y.length + (y.length + 1) * 0 ≤ 16777216
    omega
  · have I2 : Inv X pins σ H { s with toks := k } := I.tok k
    refine thn (hk.run pins _ σ H _ I2 h) fun u s2 ⟨kv, H2, I3, rk, q⟩ => ?_
    exact ix_str (.Name "x" p0) e3 pins s2 σ H2 (.str (Txt.replace y z' "")) kv (.str (Txt.replace y z' "") t') u Q I3 ⟨t', rfl⟩ rk q (hs _ _)
end
end S8
set_option Elab.async false
set_option linter.all false
set_option maxRecDepth 100000
set_option maxHeartbeats 400000
set_option pp.maxSteps 2000
namespace S8
open PySem PySem.Spec PyProof.Rows L2 L2H HotX Evl
def tParK (i j : Nat) (t1 t2 : TE) : TS := fun D σ H => t1 σ H fun v H1 => t2 σ H1 fun w H2 => D.nx ((σ.set i (some v)).set j (some w)) H2
theorem pss_rep {X : Cx} {i j l j0 j1 : Nat} {x yn zn y : Str} {a b e3 : Expr} {t1 t2 tk : TE} {px py pt pos p0 p1 p2 pz apos cpos spos pos2 : Pos} {kt k2 pt2} {rest : List Stmt} {u : TS} (hc : X.calm = true) (hN : X.N.Nodup) (hi : X.N[i]? = some x) (hj : X.N[j]? = some yn) (hl : X.N[l]? = some zn) (hij : i ≠ j)
    (hx : X.env.scope.names.lookup x = some .local) (hy : X.env.scope.names.lookup yn = some .local) (hz : X.env.scope.names.lookup zn = some .local) (h1 : PEK X a t1) (h2 : PE X b t2) (hk : PE X e3 tk) (hs3 : PlainIx e3) (h3 : PSs X rest u) (hyb : y.length ≤ 1000)
    (hw : swappedStores [.Tuple [.Name x px, .Name yn py] kt pt] (.Tuple [a, b] k2 pt2) X.env = pure (some [x, yn]))
    (hs : swapsWithSole [.Tuple [.Name x px, .Name yn py] kt pt] (.Tuple [a, b] k2 pt2) pos.line X.env = pure false)
    (hst : starEach [a, b] X.env = [(false, eval a X.env), (false, eval b X.env)]) (hdb : (x == ("__debug__" : Str)) = false)
    (hst2 : starEach [.Name x p1, .Constant (.str "") j1 p2] X.env = [(false, eval (.Name x p1) X.env), (false, eval (.Constant (.str "") j1 p2) X.env)])
    (hbase : attributeBase (.Constant (.str y) j0 p0) "replace" X.env (eval (.Constant (.str y) j0 p0) X.env) = eval (.Constant (.str y) j0 p0) X.env) (hline : (apos.endLine == cpos.line) = true)
    (hsw : swapsWith (.Subscript (.Call (.Attribute (.Constant (.str y) j0 p0) "replace" apos) [.Name x p1, .Constant (.str "") j1 p2] [] cpos) e3 spos) (some (.Name zn pz)) pos2.line X.env = pure false) :
    PSs X (.Assign [.Tuple [.Name x px, .Name yn py] kt pt] (.Tuple [a, b] k2 pt2) pos :: .Assign [.Name zn pz] (.Subscript (.Call (.Attribute (.Constant (.str y) j0 p0) "replace" apos) [.Name x p1, .Constant (.str "") j1 p2] [] cpos) e3 spos) pos2 :: rest)
      (tSeq (tParK i j t1 t2) (tSeq (tAsg (tRepS y i tk) (gName l)) u)) := by
  refine ⟨fun pins s σ H D I h => ?_⟩
  refine wpAny_execs_cons (wpAny_mono (par_known (Q := fun σ' H' => (tSeq (tAsg (tRepS y i tk) (gName l)) u) D σ' H') hc hN hi hj hij hx hy h1 h2 hw hs hst I h) (fun f s1 q => ?_) fun _ _ z => z)
  obtain ⟨rfl, σ', H', I1, q1, K⟩ := q
  refine wpAny_execs_cons (wpAny_Assign_Name (thn (rep_known hx hk hs3 hdb hst2 hbase hline hyb I1 K q1) fun v s2 ⟨y', H2, I2, r2, q2⟩ => ?_) hsw)
  exact store_ok I2 hN hl (.inl hz) r2 (fun s3 I3 => h3.run pins s3 _ H2 D I3 q2) (.inr hz)
/-! ### rules -/
theorem repl_abcde (k : Nat) : (Txt.replace ("abcde" : Str) ⟨#[k]⟩ "").cps.toList = abcde.filter (· != k) := by
  have h := replace_strikes ("abcde" : Str) k
  rw [cps_abcde] at h
  exact h
theorem later_at {k r : Nat} (hk : k < 3) (hr : r < 2) : ∃ l, (Txt.replace ("abcde" : Str) ⟨#[abcde.getD k 0]⟩ "").cps.toList[r]? = some l ∧ l ∈ abcde ∧ l ≠ abcde.getD k 0 := by
  rw [repl_abcde]
  have h1 : k = 0 ∨ k = 1 ∨ k = 2 := by omega
  have h2 : r = 0 ∨ r = 1 := by omega
  rcases h1 with rfl | rfl | rfl <;> rcases h2 with rfl | rfl
  · exact ⟨98, by decide, by decide, by decide⟩
  · exact ⟨99, by decide, by decide, by decide⟩
  · exact ⟨97, by decide, by decide, by decide⟩
  · exact ⟨99, by decide, by decide, by decide⟩
  · exact ⟨97, by decide, by decide, by decide⟩
  · exact ⟨98, by decide, by decide, by decide⟩
theorem repl_len (k : Nat) : (Txt.replace ("abcde" : Str) ⟨#[k]⟩ "").length ≤ sizeLine := by
  have h : (Txt.replace ("abcde" : Str) ⟨#[k]⟩ "").length = (abcde.filter (· != k)).length := by
    rw [← repl_abcde, Array.length_toList]
    rfl
  rw [h]
  exact Nat.le_trans (List.length_filter_le _ _) (by decide)
def spRules : Sp := fun vs H Q _ => ∃ (a c : Addr), vs = [.ref a, .int 3, .int 4] ∧ HR H a c ∧ ∀ (rs : List Ru) p H', RsOk rs → HI H a c H' → RulesAt H' p rs → Q (.ref p) H'
section
variable {P : Program} {w : World} {K : PySem.W.Frag} {mg : Str → Option Value} {base : Heap}
theorem ok_rules {f f1 : Addr} {fd fd1 : FuncData} (F : Fun K "_law_rules" "_law_rules" sRules f fd) (B : Bt mg) (g1 : mg "_law_next" = some (.ref f1)) (k1 : PySem.W.keepIn K (.ref f1) = true) (b1 : Binds K fd1 pNext []) (G1 : FnOk P w K mg base CX0 1 f1 fd1 pNext spNext) : FnOk P w K mg base CX0 2 f fd pRules spRules := by
  refine F.ok scRules (fun vs H Q E h => ?_) (fun cdv A outer s0 H vs Q E hr h => ?_)
  · obtain ⟨a, c, rfl, _⟩ := h
    rfl
  · refine ⟨_, pss_cons (ps_set (i := 3) scRules.nd rfl (.inl rfl) (pe_lst pa_nil))
      (pss_cons (ps_for PassesOwn.never rfl (pi_range1 (by rfl) B.rng (pa_cons (pe_call G1 hr (by rfl) g1 k1 b1 .nil pass0 (pa_cons (pv 0) (pa_cons (pe_op op_add (pv 2) pe_int) pa_nil))) pa_nil)) (pg_name (i := 4) scRules.nd rfl (.inl rfl))
        (pss_rep (i := 5) (j := 6) (l := 7) rfl scRules.nd rfl rfl rfl (by decide) rfl rfl rfl
          (pek_ixS (pe_call G1 hr (by rfl) g1 k1 b1 .nil pass0 (pa_cons (pv 0) (pa_cons (pv 1) pa_nil))) (fun _ _ => rfl))
          (pe_ix ix_str pe_str (pe_call G1 hr (by rfl) g1 k1 b1 .nil pass0 (pa_cons (pv 0) (pa_cons (pv 1) pa_nil))) (fun _ _ => rfl))
          (pe_call G1 hr (by rfl) g1 k1 b1 .nil pass0 (pa_cons (pv 0) (pa_cons (pe_callB (call_max2 rfl) (by rfl) B.max (by decide +kernel) (pa_cons pe_int (pa_cons (pe_op op_sub (pv 1) pe_int) pa_nil))) pa_nil))) (fun _ _ => rfl)
          (pss_one (ps_expr (pe_bm PySem.F.plainAttrs_list PySem.F.slot_list_append PySem.F.type_list_append mt_append (pv 3) (pa_cons (pe_tup (pa_cons (pv 5) (pa_cons (pv 6)
            (pa_cons (pe_op op_add pe_int (pe_op op_fdivN (pe_call G1 hr (by rfl) g1 k1 b1 .nil pass0 (pa_cons (pv 0) (pa_cons pe_int pa_nil))) pe_int))
            (pa_cons (pe_op op_add pe_int (pe_op op_mul (pe_call G1 hr (by rfl) g1 k1 b1 .nil pass0 (pa_cons (pv 0) (pa_cons pe_int pa_nil))) (pe_call G1 hr (by rfl) g1 k1 b1 .nil pass0 (pa_cons (pv 0) (pa_cons pe_int pa_nil)))))
            (pa_cons (pv 7) pa_nil)))))) pa_nil)))) (by decide) (by rfl) (by rfl) (by rfl) (by decide) (by rfl) (by rfl) (by rfl) (by rfl)))
      (pss_one (ps_ret (pe_callTy call_tuple_of (by rfl) B.tup (by decide +kernel) (pa_cons (pv 3) pa_nil))))), ?_⟩
    obtain ⟨a, c, rfl, hR, k⟩ := h
    refine q_asgL (el_lst ea_nil (by decide)) fun l H1 nl e1 h1 => ?_
    have hR1 := hR.mono e1
    refine (er_next (Pm := fun m => m = 5) rfl (er_mono (er_ev hi_stb fun H' i => ev_I0 (g := fun i j => .int (i + j)) (ev_var (i := 2) rfl) ev_c) fun v h => ⟨5, h, rfl⟩) (fun m h => by rw [h]; exact ⟨by decide, by decide⟩)) H1 (HI.refl hR1) _ fun _ H2 i2 ⟨n, m, e, em, hn⟩ => ?_
    subst e
    subst em
    have nla : l ∉ [a, c] := (HI.refl hR).new nl
    refine ⟨(n : Int), rfl, by omega, by omega, for_range (lo := 0) (n := ((n : Int)).toNat) (fun i σ' H' => (∃ v4 v5 v6 v7, σ' = [some (.ref a), some (.int 3), some (.int 4), some (.ref l), v4, v5, v6, v7]) ∧ Fr [a, c] H H' ∧ HR H' a c ∧ ∃ (rs : List Ru) (as : List Addr), H' l = some (.lst (as.map V.ref)) ∧ Pr (fun a x => H' a = some (.tup (Ru.vals x))) as rs ∧ rs.length = i ∧ ∀ r ∈ rs, r.Ok)
      ⟨⟨_, _, _, _, rfl⟩, (Fr.of e1).trans i2.1, i2.2, [], [], i2.1.1 _ _ nla h1, trivial, rfl, (fun r h => nomatch h)⟩ ?_ ?_⟩
    · rintro i σ' H3 hi ⟨⟨v4, v5, v6, v7, rfl⟩, f3, hR3, rs, as, hl3, hp3, hrl, hro⟩
      have hi4 : i < 5 := by omega
      have dr : ∀ {σ' : L2.St} {m : Int} (B : Hp), 0 < m ∧ m ≤ 1000000 → σ'[0]? = some (some (.ref a)) → EvR (tCall spNext [] E0 (tCons (tVar 0) (tCons (tC (.int m)) tNil))) σ' (HI B a c) (fun v => ∃ r : Nat, v = iv r ∧ (r : Int) < m) := fun B hm h0 => er_nextC h0 hm
      have dk : ∀ {σ' : L2.St} (B : Hp), σ'[0]? = some (some (.ref a)) → σ'[1]? = some (some (.int 3)) → EvR (tOp rIxS (tC (.str "abcde")) (tCall spNext [] E0 (tCons (tVar 0) (tCons (tVar 1) tNil)))) σ' (HI B a c) (fun v => ∃ k : Nat, k < 3 ∧ v = ch (abcde.getD k 0)) := fun B h0 h1 =>
        er_pickS (Pr := fun r => r < 3) (er_mono (er_next (Pm := fun m => m = 3) h0 (er_mono (er_ev hi_stb fun H' i => ev_var h1) fun v h => ⟨3, h, rfl⟩) (fun m h => by rw [h]; exact ⟨by decide, by decide⟩)) fun v ⟨r, m, h, hm, hr⟩ => ⟨r, h, by omega⟩) (by decide) (fun r hr => ⟨abcde.getD r 0, by
          rw [cps_abcde]
          have : r < abcde.length := by show r < 5; omega
          rw [List.getD_eq_getElem?_getD, List.getElem?_eq_getElem this]
          rfl, r, hr, rfl⟩)
      refine (dk H3 rfl rfl) H3 (HI.refl hR3) _ fun _ H4 i4 ⟨k1, hk1, e⟩ => ?_
      subst e
      refine (dk H3 rfl rfl) H4 i4 _ fun _ H5 i5 ⟨k2, hk2, e⟩ => ?_
      subst e
      refine ⟨⟨#[abcde.getD k1 0]⟩, rfl, ?_, ?_⟩
      · refine beq_eq_false_iff_ne.mpr fun z => ?_
        have z2 : (#[abcde.getD k1 0] : Array Nat) = #[] := congrArg Str.cps z
        simp at z2
      refine (er_next (σ := [some (.ref a), some (.int 3), some (.int 4), some (.ref l), some (.int (0 + (i : Int))), some (ch (abcde.getD k1 0)), some (ch (abcde.getD k2 0)), v7]) (Pm := fun m => m = 2) rfl (er_mono (er_ev hi_stb fun H' i => ev_max2 ev_c (ev_I0 (g := fun i j => .int (i - j)) (ev_var (i := 1) rfl) ev_c)) fun v h => ⟨2, by rw [h]; rfl, rfl⟩) (fun m h => by rw [h]; exact ⟨by decide, by decide⟩)) H5 i5 _ fun _ H6 i6 ⟨r7, m, e, em, hr7⟩ => ?_
      subst e
      subst em
      obtain ⟨lt, hlt1, hlt2, hlt3⟩ := later_at hk1 (show r7 < 2 by omega)
      refine ⟨_, (r7 : Int), lt, rfl, rfl, repl_len _, atI_nat hlt1, ?_⟩
      -- the rule
      have hl6 : H6 l = some (.lst (as.map V.ref)) := i6.1.1 _ _ nla hl3
      refine ⟨_, rfl, .inl ⟨rfl, _, sq_of hl6⟩, _, rfl, _, rfl, ?_⟩
      refine (dr (σ' := [some (.ref a), some (.int 3), some (.int 4), some (.ref l), some (.int (0 + (i : Int))), some (ch (abcde.getD k1 0)), some (ch (abcde.getD k2 0)), some (ch lt)]) (m := 3) H3 ⟨by decide, by decide⟩ rfl) H6 i6 _ fun _ H7 i7 ⟨r8, e, hr8⟩ => ?_
      subst e
      refine ⟨(r8 : Int), 2, rfl, rfl, ⟨by decide, by decide⟩, 1, _, rfl, rfl, ?_⟩
      refine (dr (σ' := [some (.ref a), some (.int 3), some (.int 4), some (.ref l), some (.int (0 + (i : Int))), some (ch (abcde.getD k1 0)), some (ch (abcde.getD k2 0)), some (ch lt)]) (m := 4) H3 ⟨by decide, by decide⟩ rfl) H7 i7 _ fun _ H8 i8 ⟨r9, e, hr9⟩ => ?_
      subst e
      refine (dr (σ' := [some (.ref a), some (.int 3), some (.int 4), some (.ref l), some (.int (0 + (i : Int))), some (ch (abcde.getD k1 0)), some (ch (abcde.getD k2 0)), some (ch lt)]) (m := 2) H3 ⟨by decide, by decide⟩ rfl) H8 i8 _ fun _ H9 i9 ⟨r10, e, hr10⟩ => ?_
      subst e
      refine ⟨(r9 : Int), (r10 : Int), rfl, rfl, .inl ⟨by omega, by omega⟩, 1, _, rfl, rfl, _, rfl, by show 5 ≤ sizeLine; decide, fun T nT => ?_⟩
      have hl9 : H9 l = some (.lst (as.map V.ref)) := i9.1.1 _ _ nla hl3
      have nlT : T ≠ l := Ne.symm (ne_of_none hl9 nT)
      refine ⟨l, as.map V.ref, .ref T, rfl, rfl, Ex.new nT _ _ hl9, sz_lt (by rw [List.length_map, hp3.length]; omega), ?_⟩
      have hk3 : abcde.getD k1 0 ∈ abcde := by
        have : k1 = 0 ∨ k1 = 1 ∨ k1 = 2 := by omega
        rcases this with rfl | rfl | rfl <;> decide
      have hk4 : abcde.getD k2 0 ∈ abcde := by
        have : k2 = 0 ∨ k2 = 1 ∨ k2 = 2 := by omega
        rcases this with rfl | rfl | rfl <;> decide
      have hd8 : (r8 : Int).fdiv 2 = 0 ∨ (r8 : Int).fdiv 2 = 1 := by
        have : r8 = 0 ∨ r8 = 1 ∨ r8 = 2 := by omega
        rcases this with rfl | rfl | rfl <;> decide
      have hm9 : 0 ≤ (r9 : Int) * (r10 : Int) ∧ (r9 : Int) * (r10 : Int) ≤ 3 := by
        have : r10 = 0 ∨ r10 = 1 := by omega
        rcases this with rfl | rfl
        · rw [show ((0 : Nat) : Int) = 0 from rfl, Int.mul_zero]; exact ⟨by decide, by decide⟩
        · rw [show ((1 : Nat) : Int) = 1 from rfl, Int.mul_one]; omega
      refine ⟨⟨_, _, _, _, rfl⟩, (f3.trans (i9.1.trans (Fr.of (Ex.new nT)))).upd (.inr nl) (fun xs h => by rw [nl] at h; cases h), HR.ex (i9.2.mono (Ex.new (o := .tup [ch (abcde.getD k1 0), ch (abcde.getD k2 0), .int (1 + (r8 : Int).fdiv 2), .int (1 + (r9 : Int) * (r10 : Int)), ch lt]) nT)) (upd_ne (fun z => nla (by rw [← z]; simp))) (upd_ne (fun z => nla (by rw [← z]; simp))),
        rs ++ [⟨abcde.getD k1 0, abcde.getD k2 0, 1 + (r8 : Int).fdiv 2, 1 + (r9 : Int) * (r10 : Int), lt⟩], as ++ [T], by rw [upd_same, List.map_append]; rfl, ?_, by rw [List.length_append, hrl]; rfl, fun r hr => ?_⟩
      · refine Pr.snoc (hp3.mono fun b x hb => ?_) (by rw [upd_ne nlT]; exact upd_same)
        rw [upd_ne (fun z => by rw [z, hl3] at hb; cases hb)]
        exact Ex.new nT _ _ (i9.1.2 _ _ hb)
      · rcases List.mem_append.mp hr with h | h
        · exact hro r h
        · rw [List.mem_singleton.mp h]
          exact ⟨hk3, hk4, hlt2, hlt3, by show 1 ≤ 1 + (r8 : Int).fdiv 2 ∧ 1 + (r8 : Int).fdiv 2 ≤ 2; omega, by show 1 ≤ 1 + (r9 : Int) * (r10 : Int) ∧ 1 + (r9 : Int) * (r10 : Int) ≤ 4; omega⟩
    · rintro σ' H3 ⟨⟨v4, v5, v6, v7, rfl⟩, f3, hR3, rs, as, hl3, hp3, hrl, hro⟩
      refine s_retU (eu_tupL (ev_var rfl) hl3) fun p H4 np e4 h4 => k rs p H4 ⟨by omega, hro⟩ ⟨f3.trans (Fr.of e4), hR3.mono e4⟩ ⟨as, h4, hp3.mono fun b x h => e4 _ _ h⟩
end
end S8
set_option Elab.async false
set_option linter.all false
set_option maxRecDepth 100000
set_option maxHeartbeats 400000
set_option pp.maxSteps 2000
namespace S8
open PySem PySem.Spec PyProof.Rows L2 L2H HotX Evl LamX
/-! ### what the law knows of its shelf -/
theorem doAll_app {rs : List Ru} : ∀ {a b : List Item} {s s' : Sta} {i : Nat}, doAll rs s i a = .inr s' → doAll rs s i (a ++ b) = doAll rs s' (i + a.length) b
  | [], b, s, s', i, h => by
    rw [doAll_nil] at h
    cases h
    rfl
  | .no vs :: a, b, s, s', i, h => by
    rw [doAll_no] at h
    cases h
  | .ok d :: a, b, s, s', i, h => by
    have key : ∀ {o : Out} {s1 : Sta}, act rs s d = (o, s1) → doAll rs s i ((.ok d :: a) ++ b) = doAll rs s' (i + (a.length + 1)) b := fun {o s1} ha => by
      cases o with
      | told x =>
        rw [List.cons_append, doAll_told ha]
        rw [doAll_told ha] at h
        rw [doAll_app h, Nat.add_assoc, Nat.add_comm 1 a.length]
      | jar p =>
        have : doAll rs s i (.ok d :: a) = .inl i := by
          show (match act rs s d with
            | (.told _, s') => doAll rs s' (i + 1) a
            | _ => .inl i) = _
          rw [ha]
        rw [this] at h
        cases h
      | row =>
        have : doAll rs s i (.ok d :: a) = .inl i := by
          show (match act rs s d with
            | (.told _, s') => doAll rs s' (i + 1) a
            | _ => .inl i) = _
          rw [ha]
        rw [this] at h
        cases h
      | count =>
        have : doAll rs s i (.ok d :: a) = .inl i := by
          show (match act rs s d with
            | (.told _, s') => doAll rs s' (i + 1) a
            | _ => .inl i) = _
          rw [ha]
        rw [this] at h
        cases h
    exact key (o := (act rs s d).1) (s1 := (act rs s d).2) rfl
structure Rch (rs : List Ru) (s : Sta) (ds : List Deed) : Prop where
  d : doAll rs sta0 0 (ds.map Item.ok) = .inr s
  o : s.Ok rs.length
  c : ∀ d ∈ ds, d.Clean
  m : ∀ d ∈ ds, d.Small
theorem rch0 (rs : List Ru) : Rch rs sta0 [] := ⟨rfl, sta0_ok _, (fun d h => nomatch h), fun d h => nomatch h⟩
theorem told_clean {rs : List Ru} {s s' : Sta} {d : Deed} {x : Res} (h : act rs s d = (.told x, s')) : d.Clean := by
  cases d with
  | put p k =>
    rw [act_put] at h
    split at h
    · cases h
    · split at h
      · cases h
      · rename_i h2
        show isK k = true
        simpa using h2
  | take p => exact trivial
  | bar p => exact trivial
  | unbar p => exact trivial
  | tick => exact trivial
theorem Rch.snoc {rs : List Ru} {s s' : Sta} {ds : List Deed} {d : Deed} {x : Res} (R : Rch rs s ds) (h : act rs s d = (.told x, s')) (hs : d.Small) : Rch rs s' (ds ++ [d]) := by
  refine ⟨?_, act_ok R.o h, fun e he => ?_, fun e he => ?_⟩
  · rw [List.map_append, doAll_app R.d]
    show doAll rs s (0 + (ds.map Item.ok).length) [Item.ok d] = _
    rw [doAll_told h, doAll_nil]
  · rcases List.mem_append.mp he with h1 | h1
    · exact R.c e h1
    · rw [List.mem_singleton.mp h1]
      exact told_clean h
  · rcases List.mem_append.mp he with h1 | h1
    · exact R.m e h1
    · rw [List.mem_singleton.mp h1]
      exact hs
/-- how a deed ends -/
theorem act_cases (rs : List Ru) (s : Sta) (d : Deed) : (∃ x s', act rs s d = (.told x, s')) ∨ (∃ i, act rs s d = (.jar i, s)) ∨ act rs s d = (.row, s) ∨ act rs s d = (.count, s) := by
  cases d with
  | put p k =>
    rw [act_put]
    split
    · exact .inr (.inl ⟨_, rfl⟩)
    · split
      · exact .inr (.inr (.inl rfl))
      · split
        · exact .inr (.inr (.inr rfl))
        · exact .inl ⟨_, _, rfl⟩
  | take p =>
    rw [act_take]
    split
    · exact .inr (.inl ⟨_, rfl⟩)
    · exact .inl ⟨_, _, rfl⟩
  | bar p =>
    rw [act_bar]
    split
    · exact .inr (.inl ⟨_, rfl⟩)
    · split
      · exact .inr (.inl ⟨_, rfl⟩)
      · exact .inl ⟨_, _, rfl⟩
  | unbar p =>
    rw [act_unbar]
    split
    · exact .inr (.inl ⟨_, rfl⟩)
    · split
      · exact .inr (.inl ⟨_, rfl⟩)
      · exact .inl ⟨_, _, rfl⟩
  | tick => exact .inl ⟨_, _, rfl⟩
def Dj (A B : List Addr) : Prop := ∀ b ∈ A, b ∉ B
theorem Dj.symm {A B : List Addr} (h : Dj A B) : Dj B A := fun b hb ha => h b ha hb
/-- a region that has grown by what was not known -/
theorem Dj.grow {A A' B : List Addr} {H : Hp} (h : Dj A B) (g : ∀ b ∈ A', b ∈ A ∨ H b = none) (k : ∀ b ∈ B, H b ≠ none) : Dj A' B := fun b hb hB => by
  rcases g b hb with z | z
  · exact h b z hB
  · exact k b hB z
def Kn (H : Hp) (B : List Addr) : Prop := ∀ b ∈ B, H b ≠ none ∧ ∀ ps, H b ≠ some (.tbl ps)
theorem kn_of {H : Hp} {B : List Addr} (k : ∀ b ∈ B, H b ≠ none) (n : NoTC H B) : Kn H B := fun b hb => ⟨k b hb, (n b hb).1⟩
theorem nw_not {H : Hp} {B : List Addr} {b : Addr} (k : Kn H B) (n : Nw H b) : b ∉ B := fun hb => by
  cases h : H b with
  | none => exact (k b hb).1 h
  | some o =>
    obtain ⟨ps, rfl⟩ := n o h
    exact (k b hb).2 ps h
theorem Dj.growN {A A' B : List Addr} {H : Hp} (h : Dj A B) (g : ∀ b ∈ A', b ∈ A ∨ Nw H b) (k : Kn H B) : Dj A' B := fun b hb hB => by
  rcases g b hb with z | z
  · exact h b z hB
  · exact nw_not k z hB
theorem Dj.new {A B : List Addr} {H : Hp} (g : ∀ b ∈ A, H b = none) (k : ∀ b ∈ B, H b ≠ none) : Dj A B := fun b hb hB => k b hB (g b hb)
end S8
set_option Elab.async false
set_option linter.all false
set_option maxRecDepth 100000
set_option maxHeartbeats 400000
set_option pp.maxSteps 2000
namespace S8
open PySem PySem.Spec PyProof.Rows L2 L2H HotX Evl LamX
/-! ### items with an odd one among them -/
structure ItG (it : Item) : Prop where
  ok : it.Ok2
  dat : ∃ dt : PyData, (∀ (K : PySem.W.Frag) (H : Hp) (a : Addr), H a = some (.tup it.vals) → Dp K H (.ref a) dt) ∧ SeqAt.shaped dt = true ∧ PyData.eqv dt (.tuple []) = it.vals.isEmpty
theorem sh_tup {l : List PyData} (h : PyData.canLay0 (.tuple l) = true) (h2 : PyData.depth (.tuple l) ≤ 60) : SeqAt.shaped (.tuple l) = true := by
  unfold SeqAt.shaped
  rw [h, decide_eq_true (show PyData.depth (.tuple l) ≤ 64 by omega)]
  rfl
theorem itg_ok {d : Deed} (hs : d.Small) (hl : d.data.canLay0 = true) : ItG (.ok d) := by
  refine ⟨hs, d.data, fun K H a h => Deed.dp h, ?_, ?_⟩
  · have hd := d.dep
    unfold SeqAt.shaped
    rw [hl, decide_eq_true (show d.data.depth ≤ 64 by omega)]
    rfl
  · cases d <;> rfl
theorem itg0 : ItG (.no []) := ⟨.inl rfl, .tuple [], fun K H a h => .tup (st_of h) .nil, by decide +kernel, rfl⟩
theorem itg1 : ItG (.no [.str "go"]) := ⟨.inr ⟨"go", [], rfl, by decide, by simp [words], by decide⟩, .tuple [.str "go"], fun K H a h => .tup (st_of h) (.cons (.str _) .nil), by decide +kernel, rfl⟩
theorem itg2 : ItG (.no [.str "put", .int 0]) := ⟨.inr ⟨"put", _, rfl, by decide, by simp [words], by decide⟩, .tuple [.str "put", .int 0], fun K H a h => .tup (st_of h) (.cons (.str _) (.cons (.int _) .nil)), by decide +kernel, rfl⟩
theorem itg3 : ItG (.no [.str "tick", .int 1]) := ⟨.inr ⟨"tick", _, rfl, by decide, by simp [words], by decide⟩, .tuple [.str "tick", .int 1], fun K H a h => .tup (st_of h) (.cons (.str _) (.cons (.int _) .nil)), by decide +kernel, rfl⟩
theorem itg4 : ItG (.no [.str "take"]) := ⟨.inr ⟨"take", _, rfl, by decide, by simp [words], by decide⟩, .tuple [.str "take"], fun K H a h => .tup (st_of h) (.cons (.str _) .nil), by decide +kernel, rfl⟩
theorem itg5 : ItG (.no [.str "bar", .int 0, .int 1]) := ⟨.inr ⟨"bar", _, rfl, by decide, by simp [words], by decide⟩, .tuple [.str "bar", .int 0, .int 1], fun K H a h => .tup (st_of h) (.cons (.str _) (.cons (.int _) (.cons (.int _) .nil))), by decide +kernel, rfl⟩
theorem itg6 : ItG (.ok (.unbar 12)) := itg_ok trivial lay_unbar
def szK : List (Key × V) := [(.inr "put", .int 3), (.inr "take", .int 2), (.inr "bar", .int 2), (.inr "unbar", .int 2), (.inr "tick", .int 1)]
theorem szK_get (z : Str) : (valV szK (.inr z)).getD (.int 0) = .int (szOf z) := by
  unfold szOf szK
  by_cases h1 : z = "put"
  · subst h1; rfl
  rw [if_neg h1, valV_neg (fun e => h1 (Sum.inr.inj e).symm)]
  by_cases h2 : z = "take"
  · subst h2; rfl
  rw [if_neg h2, valV_neg (fun e => h2 (Sum.inr.inj e).symm)]
  by_cases h3 : z = "bar"
  · subst h3; rfl
  rw [if_neg h3, valV_neg (fun e => h3 (Sum.inr.inj e).symm)]
  by_cases h4 : z = "unbar"
  · subst h4; rfl
  rw [if_neg h4, valV_neg (fun e => h4 (Sum.inr.inj e).symm)]
  by_cases h5 : z = "tick"
  · subst h5; rfl
  rw [if_neg h5, valV_neg (fun e => h5 (Sum.inr.inj e).symm), valV_nil]
  rfl
end S8
set_option Elab.async false
set_option linter.all false
set_option maxRecDepth 100000
set_option maxHeartbeats 400000
set_option pp.maxSteps 2000
namespace S8
open PySem PySem.Spec PyProof.Rows L2 L2H HotX Evl LamX
/-! ### a list of deeds with an odd one: whether an item is a deed by its form -/
def Item.good : Item → Bool
  | .ok _ => true
  | .no _ => false
theorem good_empty {it : Item} (h : it.vals.isEmpty = true) : it.good = false := by
  cases it with
  | ok d => cases d <;> cases h
  | no vs => rfl
theorem item_word {it : Item} (g : ItG it) (h : it.vals.isEmpty = false) : ∃ z r, it.vals = V.str z :: r ∧ decide (szOf z = (it.vals.length : Int)) = it.good := by
  cases it with
  | ok d =>
    obtain ⟨r, h1, h2, _⟩ := vals_word d
    exact ⟨_, r, h1, decide_eq_true h2⟩
  | no vs =>
    rcases (show vs = [] ∨ ∃ z r, vs = V.str z :: r ∧ szOf z ≠ (vs.length : Int) ∧ z ∈ words ∧ vs.length ≤ 1000 from g.ok) with h0 | ⟨z, r, h1, h2, _⟩
    · subst h0
      cases h
    · exact ⟨z, r, h1, decide_eq_false h2⟩
section
variable {K : PySem.W.Frag} {σ : L2.St} {H : Hp}
theorem ev_dget2 {td ty tx : TE} {a : Addr} {kvs : List (Key × V)} {k : Str} {x v : V} (hd : Ev td σ H (.ref a)) (hk : Ev ty σ H (.str k)) (hx : Ev tx σ H x) (h : H a = some (.dK kvs)) (hv : (valV kvs (.inr k)).getD x = v) : Ev (tDGet2 td ty tx) σ H v := fun H1 e Q q =>
  hd H1 e _ fun H2 e2 => ⟨a, rfl, .inl ⟨kvs, .inl (e2 _ _ (e _ _ h))⟩, hk H2 (e.trans e2) _ fun H3 e3 => hx H3 ((e.trans e2).trans e3) _ fun H4 e4 => ⟨_, DGet.k (k := .inr k) (e4 _ _ (e3 _ _ (e2 _ _ (e _ _ h)))), by
    rw [hv]
    exact q H4 ((e2.trans e3).trans e4)⟩⟩
theorem ev_good {ti td : TE} {b dz : Addr} {it : Item} (g : ItG it) (hi : Ev ti σ H (.ref b)) (hb : H b = some (.tup it.vals)) (hd : Ev td σ H (.ref dz)) (hz : H dz = some (.dK szK)) :
    Ev (tAndV (tOp (rNeD K) ti (tTup tNil)) (tOp rEq (tDGet2 td (tOp (rIxT K) ti (tC (.int 0))) (tC (.int 0))) (tCB (fun xs H Q => ∃ p ys, xs = [.ref p] ∧ (SqL K H p ys ∨ SqT K H p ys) ∧ Q (.int ys.length) H) (tCons ti tNil)))) σ H (.bl it.good) := by
  obtain ⟨dt, h1, h2, h3⟩ := g.dat
  cases he : it.vals.isEmpty with
  | true =>
    refine ev_is (ev_andV (a := false) (b := false) (ev_opU hi (eu_tup ea_nil (by decide)) fun p H1 hp e => rv_of fun H2 e2 Q q => ⟨dt, .tuple [], h1 K H2 b (e2 _ _ (e _ _ hb)), .tup (st_of (e2 _ _ hp)) .nil, h2, by decide +kernel, ?_⟩) (fun q => Bool.noConfusion q)) ?_
    · rw [h3, he]
      exact q
    · rw [good_empty he]
      rfl
  | false =>
    obtain ⟨z, r, hv, hg⟩ := item_word g he
    have hb' : H b = some (.tup (V.str z :: r)) := by rw [← hv]; exact hb
    refine ev_is (ev_andV (a := true) (ev_opU hi (eu_tup ea_nil (by decide)) fun p H1 hp e => rv_of fun H2 e2 Q q => ⟨dt, .tuple [], h1 K H2 b (e2 _ _ (e _ _ hb)), .tup (st_of (e2 _ _ hp)) .nil, h2, by decide +kernel, ?_⟩) (fun _ => ev_eq (ev_dget2 hd (ev_ixT hi ev_c hb' (atI_nat (j := 0) rfl)) ev_c hz (szK_get z)) (ev_lenS hi hb) rfl)) ?_
    · rw [h3, he]
      exact q
    · rw [dec_int, hg]
      rfl
end
theorem er_nextJ {H0 : Hp} {a c : Addr} {E : XK} {m : Int} {j : Nat} {σ : L2.St} (h0 : σ[j]? = some (some (.ref a))) (hm : 0 < m ∧ m ≤ 1000000) :
    EvR (tCall spNext [] E (tCons (tVar j) (tCons (tC (.int m)) tNil))) σ (HI H0 a c) (fun v => ∃ r : Nat, v = iv r ∧ (r : Int) < m) := fun H1 i Q q =>
  ⟨_, h0, a, c, m, rfl, i.2, hm.1, hm.2, fun r H3 hr f3 hR => q (iv r) H3 ⟨i.1.trans f3, hR⟩ ⟨r, rfl, hr⟩⟩
/-! ### what goes on behind a region that grows -/
theorem Fr.step {R2 R' : List Addr} {Hs H H' : Hp} (f : Fr R2 Hs H) (n : ∀ b ∈ R', b ∈ R2 ∨ Hs b = none) (g : Fr R' H H') : Fr R2 Hs H' := ⟨fun b o hb h => g.1 b o (fun z => (n b z).elim hb (fun q => by rw [q] at h; cases h)) (f.1 b o hb h), fun b xs h => g.2 b xs (f.2 b xs h)⟩
theorem reg_step {R2 R' R'' : List Addr} {Hs H : Hp} (f : Fr R2 Hs H) (n : ∀ b ∈ R', b ∈ R2 ∨ Hs b = none) (g : ∀ b ∈ R'', b ∈ R' ∨ H b = none) : ∀ b ∈ R'', b ∈ R2 ∨ Hs b = none := fun b hb => by
  rcases g b hb with z | z
  · exact n b z
  · by_cases h2 : b ∈ R2
    · exact .inl h2
    · refine .inr ?_
      cases h : Hs b with
      | none => rfl
      | some o =>
        rw [f.1 b o h2 h] at z
        cases z
theorem odd_pick {H : Hp} {t0 t1 t2 t3 t4 t5 t6 p8 : Addr} {d8 : Deed} (h0 : H t0 = some (.tup [])) (h1 : H t1 = some (.tup [.str "go"])) (h2 : H t2 = some (.tup [.str "put", .int 0])) (h3 : H t3 = some (.tup [.str "tick", .int 1])) (h4 : H t4 = some (.tup [.str "take"]))
    (h5 : H t5 = some (.tup [.str "bar", .int 0, .int 1])) (h6 : H t6 = some (.tup [.str "unbar", .int 12])) (h8 : H p8 = some (.tup d8.vals)) (hs : d8.Small) (hl : d8.data.canLay0 = true) {n : Nat} (hn : (n : Int) < 8) :
    ∃ (b : Addr) (it : Item), [V.ref t0, V.ref t1, V.ref t2, V.ref t3, V.ref t4, V.ref t5, V.ref t6, V.ref p8][n]? = some (.ref b) ∧ H b = some (.tup it.vals) ∧ ItG it := by
  have h : n = 0 ∨ n = 1 ∨ n = 2 ∨ n = 3 ∨ n = 4 ∨ n = 5 ∨ n = 6 ∨ n = 7 := by omega
  rcases h with rfl | rfl | rfl | rfl | rfl | rfl | rfl | rfl
  · exact ⟨t0, .no [], rfl, h0, itg0⟩
  · exact ⟨t1, .no [.str "go"], rfl, h1, itg1⟩
  · exact ⟨t2, .no [.str "put", .int 0], rfl, h2, itg2⟩
  · exact ⟨t3, .no [.str "tick", .int 1], rfl, h3, itg3⟩
  · exact ⟨t4, .no [.str "take"], rfl, h4, itg4⟩
  · exact ⟨t5, .no [.str "bar", .int 0, .int 1], rfl, h5, itg5⟩
  · exact ⟨t6, .ok (.unbar 12), rfl, h6, itg6⟩
  · exact ⟨p8, .ok d8, rfl, h8, itg_ok hs hl⟩
/-- the list with the odd one in it -/
def somes (ds : List Deed) (m : Nat) (it : Item) : List Item := (ds.take m).map Item.ok ++ [it] ++ (ds.drop m).map Item.ok
theorem somes_len {ds : List Deed} {m : Nat} {it : Item} : (somes ds m it).length = ds.length + 1 := by
  unfold somes
  rw [List.length_append, List.length_append, List.length_map, List.length_map, List.length_cons, List.length_nil, List.length_take, List.length_drop]
  omega
theorem somes_itg {ds : List Deed} {m : Nat} {it : Item} (g : ItG it) (h1 : ∀ d ∈ ds, d.Small) (h2 : ∀ d ∈ ds, d.data.canLay0 = true) : ∀ x ∈ somes ds m it, ItG x := fun x hx => by
  unfold somes at hx
  rw [List.mem_append, List.mem_append, List.mem_singleton] at hx
  rcases hx with (hx | hx) | hx
  · obtain ⟨d, hd, rfl⟩ := List.mem_map.mp hx
    exact itg_ok (h1 d (List.mem_of_mem_take hd)) (h2 d (List.mem_of_mem_take hd))
  · rw [hx]
    exact g
  · obtain ⟨d, hd, rfl⟩ := List.mem_map.mp hx
    exact itg_ok (h1 d (List.mem_of_mem_drop hd)) (h2 d (List.mem_of_mem_drop hd))
theorem somes_at {H : Hp} {das : List Addr} {ds : List Deed} {m : Nat} {b : Addr} {it : Item} (h : Pr (fun a x => H a = some (.tup (Deed.vals x))) das ds) (hb : H b = some (.tup it.vals)) : Pr (fun a x => H a = some (.tup (Item.vals x))) (das.take m ++ [b] ++ das.drop m) (somes ds m it) :=
  ((Pr.mapR (P := fun a x => H a = some (.tup (Item.vals x))) (f := Item.ok) (h.take m)).append (as' := [b]) (bs' := [it]) ⟨hb, trivial⟩).append (Pr.mapR (P := fun a x => H a = some (.tup (Item.vals x))) (f := Item.ok) (h.drop m))
theorem somes_adr {das : List Addr} {m : Nat} {b : Addr} (h : m ≤ das.length) : cutV (das.map V.ref) none (some (m : Int)) ++ [V.ref b] ++ cutV (das.map V.ref) (some (m : Int)) none = (das.take m ++ [b] ++ das.drop m).map V.ref := by
  rw [cutV_hd (by rw [List.length_map]; exact h), cutV_tl (by rw [List.length_map]; exact h), List.map_append, List.map_append, List.map_take, List.map_drop]
  rfl
end S8
set_option Elab.async false
set_option linter.all false
set_option maxRecDepth 100000
set_option maxHeartbeats 400000
set_option pp.maxSteps 2000
namespace S8
open PySem PySem.Spec PyProof.Rows L2 L2H HotX Evl LamX
theorem go_nx {f b c : L2.St → Hp → Prop} {r : VK} {σ : L2.St} {H : Hp} (h : f σ H) : ({ nx := f, rt := r, bk := b, ct := c } : Ends).nx σ H := h
/-! ### the law's own loop over the list with the odd one -/
def lenK (K : PySem.W.Frag) : List V → Hp → VK → Prop := fun xs H Q => ∃ p ys, xs = [.ref p] ∧ (SqL K H p ys ∨ SqT K H p ys) ∧ Q (.int ys.length) H
def isN : R2 := fun x y H Q => y = .non ∧ Q (.bl (decide (x = .non))) H
def tIt (K : PySem.W.Frag) : TE := tOp (rIxL K) (tVar 12) (tVar 15)
def tsLoopK (K : PySem.W.Frag) : TS := tFor (iRng1 (tCons (tCB (lenK K) (tCons (tVar 12) tNil)) tNil)) (gName 15)
  (tSeq (tAsg (tAndV (tOp (rNeD K) (tIt K) (tTup tNil)) (tOp rEq (tDGet2 (tVar 13) (tOp (rIxT K) (tIt K) (tC (.int 0))) (tC (.int 0))) (tCB (lenK K) (tCons (tIt K) tNil)))) (gName 16))
    (tIfS (tAnd (tTest (tOp isN (tVar 14) (tC .non))) (tOr (tNot (tB (tVar 16))) (tTest (tOp rNe (tOp (rIxT K) (tCall spDone [] E0 (tCons (tVar 10) (tCons (tIt K) tNil))) (tC (.int 0))) (tC (.str "told")))))) (tAsg (tVar 15) (gName 14)) tNext))
def DInv (rs : List Ru) (items : List Item) (R2 : List Addr) (Hs : Hp) (fa r : Addr) (k : Nat) (v : V) (H : Hp) : Prop :=
  Fr R2 Hs H ∧ ((v = .non ∧ ∃ R' s' ds', WAt H fa R' r rs s' ds' ∧ s'.Ok rs.length ∧ ds'.length ≤ k ∧ (∀ b ∈ R', b ∈ R2 ∨ Hs b = none) ∧ doAll rs sta0 0 items = doAll rs s' k (items.drop k)) ∨ ∃ i : Nat, v = .int i ∧ doAll rs sta0 0 items = .inl i)
theorem DInv.mono {rs : List Ru} {items : List Item} {R2 : List Addr} {Hs H H' : Hp} {fa r : Addr} {k : Nat} {v : V} (h : DInv rs items R2 Hs fa r k v H) (e : Ex H H') : DInv rs items R2 Hs fa r k v H' := by
  obtain ⟨f, h⟩ := h
  refine ⟨f.trans (Fr.of e), ?_⟩
  rcases h with ⟨h1, R', s', ds', W, O, h2, h3, h4⟩ | h
  · exact .inl ⟨h1, R', s', ds', W.mono e, O, h2, h3, h4⟩
  · exact .inr h
theorem DInv.set {rs : List Ru} {items : List Item} {R2 : List Addr} {Hs H : Hp} {fa r : Addr} {k i : Nat} (f : Fr R2 Hs H) (h : doAll rs sta0 0 items = .inl i) : DInv rs items R2 Hs fa r k (.int i) H := ⟨f, .inr ⟨i, rfl, h⟩⟩
/-- the slots of the law: what the loop leaves -/
structure LV (σ : L2.St) (y : List (Option V)) (fa so dz : Addr) (v : V) : Prop where
  e : ∃ x0 x1 x2 x3 x4 x5 x6 x7 x8 x9 x11 v15 v16 x17, y = [x0, x1, x2, x3, x4, x5, x6, x7, x8, x9, x11, x17] ∧ σ = [x0, x1, x2, x3, x4, x5, x6, x7, x8, x9, some (.ref fa), x11, some (.ref so), some (.ref dz), some v, v15, v16, x17]
theorem loopK {K : PySem.W.Frag} {rs : List Ru} {items : List Item} {as : List Addr} {R2 : List Addr} {Hs : Hp} {fa r so dz : Addr} {y : List (Option V)} {σ : L2.St} {D : Ends} (hv : LV σ y fa so dz .non) (RO : RsOk rs) (g : ∀ x ∈ items, ItG x) (hl : items.length ≤ 1000)
    (hs : Hs so = some (.lst (as.map V.ref))) (ha : Pr (fun a x => Hs a = some (.tup (Item.vals x))) as items) (hz : Hs dz = some (.dK szK)) (ns : so ∉ R2) (nz : dz ∉ R2) (W : WAt Hs fa R2 r rs sta0 [])
    (k : ∀ σ' H' v, LV σ' y fa so dz v → Fr R2 Hs H' → ((v = .non ∧ ∃ s', doAll rs sta0 0 items = .inr s') ∨ ∃ i : Nat, v = .int i ∧ doAll rs sta0 0 items = .inl i) → D.nx σ' H') : tsLoopK K D σ Hs := by
  have hal := ha.length
  obtain ⟨x0, x1, x2, x3, x4, x5, x6, x7, x8, x9, x11, v15, v16, x17, rfl, rfl⟩ := hv
  refine s_forR1 (n := ((as.map V.ref).length : Int)) (ea_cons (ev_len (ev_var rfl) (sq_of hs)) ea_nil) (by rw [List.length_map]; omega) (fun i σ' H' => ∃ v, LV σ' [x0, x1, x2, x3, x4, x5, x6, x7, x8, x9, x11, x17] fa so dz v ∧ DInv rs items R2 Hs fa r i v H')
    (fun H1 e1 => ⟨.non, ⟨_, _, _, _, _, _, _, _, _, _, _, _, _, _, rfl, rfl⟩, Fr.of e1, .inl ⟨rfl, R2, sta0, [], W.mono e1, sta0_ok _, Nat.le_refl 0, fun b hb => .inl hb, rfl⟩⟩) ?_ ?_
  · rintro i σ' H hi ⟨v, ⟨y0, y1, y2, y3, y4, y5, y6, y7, y8, y9, y11, w15, w16, y17, ey, rfl⟩, f, hd⟩
    cases ey
    have hi' : i < items.length := by rw [List.length_map] at hi; omega
    have hsH : H so = some (.lst (as.map V.ref)) := f.1 _ _ ns hs
    have hzH : H dz = some (.dK szK) := f.1 _ _ nz hz
    obtain ⟨b, hb1, hb2⟩ := ha.getR (List.getElem?_eq_getElem hi')
    have hbH := f.2 _ _ hb2
    have git := g _ (List.getElem_mem hi')
    have hdrop : items.drop i = items[i] :: items.drop (i + 1) := List.drop_eq_getElem_cons hi'
    have hbv : (as.map V.ref)[i]? = some (.ref b) := by rw [List.getElem?_map, hb1]; rfl
    generalize items[i] = it at hbH git hdrop
    have hit : ∀ {H' : Hp} {u16 : Option V}, Ex H H' → Ev (tIt K) [x0, x1, x2, x3, x4, x5, x6, x7, x8, x9, some (.ref fa), x11, some (.ref so), some (.ref dz), some v, some (.int (i : Int)), u16, x17] H' (.ref b) := fun e => ev_op (ev_var rfl) (ev_var rfl) (rv_ixL (sq_of (e _ _ hsH)) (atI_nat hbv))
    refine q_asg (ev_good git (hit (Ex.refl H)) hbH (ev_var rfl) hzH) fun H1 e1 => ?_
    have f1 := f.trans (Fr.of e1)
    rcases hd with ⟨rfl, R', s', ds', W', O', hl', hn', hda⟩ | ⟨j, rfl, hj⟩
    · rw [hdrop] at hda
      cases it with
      | no vs =>
        have hlast : doAll rs sta0 0 items = .inl i := hda.trans (doAll_no _ _ _ _ _)
        refine s_when (b := true) (et_is (et_and (a := true) (b := true) (et_test (b := true) (ev_op (ev_var rfl) ev_c (rv_of fun H2 _ Q q => ⟨rfl, q⟩))) (fun _ => et_is (et_or (a := true) (b := true) (et_not (et_B (b := false) (ev_var rfl))) (fun q => Bool.noConfusion q)) rfl)) rfl) (fun _ H2 e2 => s_asg (ev_var rfl) fun H3 e3 => ?_) (fun q => Bool.noConfusion q)
        exact ⟨_, ⟨_, _, _, _, _, _, _, _, _, _, _, _, _, _, rfl, rfl⟩, DInv.set (f1.trans (Fr.of (e2.trans e3))) hlast⟩
      | ok d =>
        refine (et_test (b := true) (ev_op (ev_var rfl) ev_c (rv_of fun H2 _ Q q => ⟨rfl, q⟩))) H1 (Ex.refl H1) _ fun H2 e2 => ?_
        rw [if_pos rfl]
        refine (et_not (et_B (b := true) (ev_var rfl))) H2 (Ex.refl H2) _ fun H3 e3 => ?_
        rw [if_neg (by decide)]
        refine ⟨_, rfl, hit (e1.trans (e2.trans e3)) H3 (Ex.refl H3) _ fun H4 e4 => ?_⟩
        have E4 := ((e1.trans e2).trans e3).trans e4
        have f4 := f.trans (Fr.of E4)
        have W4 := W'.mono E4
        have fin : ∀ {z : Str} {p : Addr} {v : V} {H5 : Hp}, Ex H4 H5 → H5 p = some (.tup [.str z, v]) → (!decide (z = "told")) = true → doAll rs sta0 0 items = .inl i → ∃ p' xs i' v', V.ref p = .ref p' ∧ V.int 0 = .int i' ∧ SqT K H5 p' xs ∧ atI xs i' = some v' ∧ (scal v' (.str "told") = true ∧ ∃ c, V.bl (!decide (v' = .str "told")) = .bl c ∧ if c = true then tAsg (tVar 15) (gName 14) { D with nx := fun σ' H' => ∃ v, LV σ' [x0, x1, x2, x3, x4, x5, x6, x7, x8, x9, x11, x17] fa so dz v ∧ DInv rs items R2 Hs fa r (i + 1) v H', ct := fun σ' H' => ∃ v, LV σ' [x0, x1, x2, x3, x4, x5, x6, x7, x8, x9, x11, x17] fa so dz v ∧ DInv rs items R2 Hs fa r (i + 1) v H', bk := D.nx } [x0, x1, x2, x3, x4, x5, x6, x7, x8, x9, some (.ref fa), x11, some (.ref so), some (.ref dz), some .non, some (.int (i : Int)), some (.bl true), x17] H5 else
            tNext { D with nx := fun σ' H' => ∃ v, LV σ' [x0, x1, x2, x3, x4, x5, x6, x7, x8, x9, x11, x17] fa so dz v ∧ DInv rs items R2 Hs fa r (i + 1) v H', ct := fun σ' H' => ∃ v, LV σ' [x0, x1, x2, x3, x4, x5, x6, x7, x8, x9, x11, x17] fa so dz v ∧ DInv rs items R2 Hs fa r (i + 1) v H', bk := D.nx } [x0, x1, x2, x3, x4, x5, x6, x7, x8, x9, some (.ref fa), x11, some (.ref so), some (.ref dz), some .non, some (.int (i : Int)), some (.bl true), x17] H5) := fun {z p v H5} e5 hp hne hlast => by
          refine ⟨p, _, 0, .str z, rfl, rfl, st_of hp, atI_nat (j := 0) rfl, rfl, _, rfl, ?_⟩
          rw [dec_str, hne, if_pos rfl]
          refine s_asg (ev_var rfl) fun H6 e6 => ⟨_, ⟨_, _, _, _, _, _, _, _, _, _, _, _, _, _, rfl, rfl⟩, DInv.set (f4.trans (Fr.of (e5.trans e6))) hlast⟩
        refine ⟨fa, b, R', r, rs, s', ds', d, rfl, E4 _ _ hbH, git.ok, W4, RO, O', by omega, ⟨fun x s2 hact p v2 R'' H5 hp hres f5 W5 hR5 => ?_, fun j hact p H5 e5 hp => fin e5 hp (by decide +kernel) (hda.trans (doAll_jar hact)), fun hact p H5 e5 hp => fin e5 hp (by decide +kernel) (hda.trans (doAll_row hact)), fun hact p H5 e5 hp => fin e5 hp (by decide +kernel) (hda.trans (doAll_count hact))⟩⟩
        refine ⟨p, _, 0, .str "told", rfl, rfl, st_of hp, atI_nat (j := 0) rfl, rfl, _, rfl, ?_⟩
        rw [decide_eq_true rfl]
        show tNext _ _ H5
        exact ⟨.non, ⟨_, _, _, _, _, _, _, _, _, _, _, _, _, _, rfl, rfl⟩, f4.step hn' f5, .inl ⟨rfl, R'', s2, ds' ++ [d], W5, act_ok O' hact, by rw [List.length_append]; show ds'.length + 1 ≤ i + 1; omega, reg_step f4 hn' hR5, hda.trans (doAll_told hact)⟩⟩
    · refine s_when (b := false) (et_is (et_and (a := false) (b := false) (et_test (b := false) (ev_op (ev_var rfl) ev_c (rv_of fun H2 _ Q q => ⟨rfl, q⟩))) (fun q => Bool.noConfusion q)) rfl) (fun q => Bool.noConfusion q) (fun _ H2 e2 => ?_)
      exact ⟨_, ⟨_, _, _, _, _, _, _, _, _, _, _, _, _, _, rfl, rfl⟩, DInv.set (f1.trans (Fr.of e2)) hj⟩
  · rintro σ' H' ⟨v, hv, f, hd⟩
    refine k σ' H' v hv f ?_
    rcases hd with ⟨h1, R', s', ds', _, _, _, _, h⟩ | h
    · refine .inl ⟨h1, s', ?_⟩
      rw [h, List.drop_of_length_le (by rw [List.length_map]; omega), doAll_nil]
    · exact .inr h
/-! ### kind of again, and what is due -/
def tsCmp (K : PySem.W.Frag) (T : List (Addr × Str)) (xa : XA) (xd C : Addr) : TS :=
  tIfS (tTest (tOp (rNeD K) (tLam T (TTkind xa xd) fun E' => tCall (spAgain xd C K) [] E' (tCons (tVar 3) (tCons (tVar 12) tNil))) (tVar 17))) (tRet (tC (.bl false))) tNext
theorem cmpK {K : PySem.W.Frag} {T : List (Addr × Str)} {xa : XA} {xd C : Addr} {rs : List Ru} {items : List Item} {as : List Addr} {H : Hp} {r so du : Addr} {σ : L2.St} {D : Ends} (h3 : σ[3]? = some (some (.ref r))) (h12 : σ[12]? = some (some (.ref so))) (h17 : σ[17]? = some (some (.ref du)))
    (hT : Tabs T H) (hr : RulesAt H r rs) (RO : RsOk rs) (g : ∀ x ∈ items, ItG x) (hl : items.length ≤ 1000) (hs : H so = some (.lst (as.map V.ref))) (ha : Pr (fun a x => H a = some (.tup (Item.vals x))) as items)
    (hd : (H du = some (.tup [.str "", .int 0]) ∧ ∃ s', doAll rs sta0 0 items = .inr s') ∨ ∃ i : Nat, H du = some (.tup [.str "deed", .int i]) ∧ doAll rs sta0 0 items = .inl i)
    (k : ∀ H', FrN [] H H' → Tabs T H' → D.nx σ H') : tsCmp K T xa xd C D σ H := by
  refine ⟨hT, fun H1 eN T1 => ?_⟩
  have fN : FrN [] H H1 := FrN.ext eN
  have k0 : PyData.canLay0 (.str "deed") = true := by decide +kernel
  have k1 : PyData.canLay0 (.str "") = true := by decide +kernel
  have fin : ∀ {z : Str} {i : Int} {p : Addr} {H2 : Hp}, Ex H1 H2 → H2 p = some (.tup [.str z, .int i]) → H2 du = some (.tup [.str z, .int i]) → PyData.canLay0 (.str z) = true →
      ∃ v, σ[17]? = some (some v) ∧ rNeD K (.ref p) v H2 fun x H' => ∃ c, x = .bl c ∧ if c = true then tRet (tC (.bl false)) D σ H' else tNext D σ H' := fun {z i p H2} e2 hp hdu hz => by
    refine ⟨_, h17, .tuple [.str z, .int i], .tuple [.str z, .int i], .tup (st_of hp) (.cons (.str _) (.cons (.int _) .nil)), .tup (st_of hdu) (.cons (.str _) (.cons (.int _) .nil)), sh_k hz, sh_k hz, _, rfl, ?_⟩
    have he : PyData.eqv (.tuple [.str z, .int i]) (.tuple [.str z, .int i]) = true := by
      show (decide (z = z) && (decide (i = i) && true)) = true
      simp
    rw [he]
    exact k H2 (fN.ex e2) (tabs_ex T1 e2)
  refine ⟨_, h3, _, h12, r, .lst so, rs, items, as, rfl, hr.ex fN.2, RO, sq_of (fN.1 _ _ (fun h => nomatch h) hs fun ps z => by cases z), ha.mono fun b x h => fN.2 _ _ h, fun x hx => (g x hx).ok, by omega, fun s hs p R H2 e2 np S2 nR O2 => ⟨by decide, fun q nq => ?_⟩, fun i hi e H2 e2 ne he => ?_⟩
  · rcases hd with ⟨h1, s', h2⟩ | ⟨i, h1, h2⟩
    · exact fin (e2.trans (Ex.new nq)) upd_same ((e2.trans (Ex.new nq)) _ _ (fN.2 _ _ h1)) k1
    · rw [h2] at hs
      cases hs
  · rcases hd with ⟨h1, s', h2⟩ | ⟨j, h1, h2⟩
    · rw [h2] at hi
      cases hi
    · obtain rfl : j = i := by rw [h2] at hi; cases hi; rfl
      exact .inr (.inr (.inl ⟨rfl, e, _, rfl, he, fun p H3 e3 hp => fin (e2.trans e3) hp ((e2.trans e3) _ _ (fN.2 _ _ h1)) k0⟩))
end S8
set_option Elab.async false
set_option linter.all false
set_option maxRecDepth 100000
set_option maxHeartbeats 400000
set_option pp.maxSteps 2000
namespace S8
open PySem PySem.Spec PyProof.Rows L2 L2H HotX Evl LamX
/-! ### the odd things; the list with one of them -/
theorem tc_go {te : TE} {tr : TA} {σ : L2.St} {H : Hp} {Q : List V → Hp → Prop} (h : te σ H fun x H1 => tr σ H1 fun xs H2 => Q (x :: xs) H2) : tCons te tr σ H Q := h
theorem tl_go {t : TA} {σ : L2.St} {H : Hp} {Q : VK} (h : t σ H fun xs H1 => xs.length ≤ sizeLine ∧ ∀ p, H1 p = none → Q (.ref p) (upd H1 p (.lst xs))) : tLst t σ H Q := h
theorem q_par {i j : Nat} {ta : TA} {tz : TS} {D : Ends} {σ : L2.St} {H : Hp} (h : ta σ H fun vs H1 => ∃ v w, vs = [v, w] ∧ tz D ((σ.set i (some v)).set j (some w)) H1) : tSeq (tPar i j ta) tz D σ H := h
def Picks (H : Hp) (xs : List V) : Prop := ∀ n : Nat, (n : Int) < 8 → ∃ (b : Addr) (it : Item), xs[n]? = some (.ref b) ∧ H b = some (.tup it.vals) ∧ ItG it
def tOdds : TE := tLst (tCons (tTup tNil) (tCons (tTup (tCons (tC (.str "go")) tNil)) (tCons (tTup (tCons (tC (.str "put")) (tCons (tC (.int 0)) tNil))) (tCons (tTup (tCons (tC (.str "tick")) (tCons (tC (.int 1)) tNil))) (tCons (tTup (tCons (tC (.str "take")) tNil))
  (tCons (tTup (tCons (tC (.str "bar")) (tCons (tC (.int 0)) (tCons (tC (.int 1)) tNil)))) (tCons (tTup (tCons (tC (.str "unbar")) (tCons (tC (.int 12)) tNil))) (tCons (tCall spLDeed [] E0 (tCons (tVar 1) (tCons (tVar 4) (tCons (tC (.bl true)) tNil)))) tNil))))))))
theorem odds_go {σ : L2.St} {H : Hp} {Q : VK} {a c wa r : Addr} {R : List Addr} {rs : List Ru} {s : Sta} {ds : List Deed} (h1 : σ[1]? = some (some (.ref a))) (h4 : σ[4]? = some (some (.ref wa))) (hR : HR H a c) (W : WAt H wa R r rs s ds) (O : s.Ok rs.length) (D : Dj R [a, c])
    (k : ∀ oL xs H', HI H a c H' → oL ∉ [a, c] → H' oL = some (.lst xs) → Picks H' xs → Q (.ref oL) H') : tOdds σ H Q := by
  refine tl_go (tc_go ?_)
  refine (eu_tup (vs := []) ea_nil (by decide)) H (Ex.refl H) _ fun t0 H1 m0 ex0 ht0 => ?_
  refine tc_go ?_
  refine (eu_tup (vs := [.str "go"]) (ea_cons ev_c ea_nil) (by decide)) H1 (Ex.refl H1) _ fun t1 H2 m1 ex1 ht1 => ?_
  refine tc_go ?_
  refine (eu_tup (vs := [.str "put", .int 0]) (ea_cons ev_c (ea_cons ev_c ea_nil)) (by decide)) H2 (Ex.refl H2) _ fun t2 H3 m2 ex2 ht2 => ?_
  refine tc_go ?_
  refine (eu_tup (vs := [.str "tick", .int 1]) (ea_cons ev_c (ea_cons ev_c ea_nil)) (by decide)) H3 (Ex.refl H3) _ fun t3 H4 m3 ex3 ht3 => ?_
  refine tc_go ?_
  refine (eu_tup (vs := [.str "take"]) (ea_cons ev_c ea_nil) (by decide)) H4 (Ex.refl H4) _ fun t4 H5 m4 ex4 ht4 => ?_
  refine tc_go ?_
  refine (eu_tup (vs := [.str "bar", .int 0, .int 1]) (ea_cons ev_c (ea_cons ev_c (ea_cons ev_c ea_nil))) (by decide)) H5 (Ex.refl H5) _ fun t5 H6 m5 ex5 ht5 => ?_
  refine tc_go ?_
  refine (eu_tup (vs := [.str "unbar", .int 12]) (ea_cons ev_c (ea_cons ev_c ea_nil)) (by decide)) H6 (Ex.refl H6) _ fun t6 H7 m6 ex6 ht6 => ?_
  refine tc_go ?_
  have exA := (((((ex0.trans ex1).trans ex2).trans ex3).trans ex4).trans ex5).trans ex6
  have hR7 := hR.mono exA
  refine ⟨_, h1, _, h4, a, c, wa, true, R, r, rs, s, ds, rfl, hR7, W.mono exA, O, D, fun d8 p8 H8 hds8 hdl8 i8 hp8 => ⟨by show 8 ≤ sizeLine; decide, fun oL noL => ?_⟩⟩
  have e9 : Ex H8 (upd H8 oL (.lst [.ref t0, .ref t1, .ref t2, .ref t3, .ref t4, .ref t5, .ref t6, .ref p8])) := Ex.new noL
  have tu : ∀ {b : Addr} {l : List V}, H7 b = some (.tup l) → (upd H8 oL (.lst [.ref t0, .ref t1, .ref t2, .ref t3, .ref t4, .ref t5, .ref t6, .ref p8])) b = some (.tup l) := fun h => e9 _ _ (i8.1.2 _ _ h)
  refine k oL _ _ ((((HI.refl hR).ext exA).trans i8).ext e9) (i8.new noL) upd_same fun n hn => odd_pick (tu (ex6 _ _ (ex5 _ _ (ex4 _ _ (ex3 _ _ (ex2 _ _ (ex1 _ _ ht0))))))) (tu (ex6 _ _ (ex5 _ _ (ex4 _ _ (ex3 _ _ (ex2 _ _ ht1)))))) (tu (ex6 _ _ (ex5 _ _ (ex4 _ _ (ex3 _ _ ht2))))) (tu (ex6 _ _ (ex5 _ _ (ex4 _ _ ht3)))) (tu (ex6 _ _ (ex5 _ _ ht4))) (tu (ex6 _ _ ht5)) (tu ht6) (e9 _ _ hp8) hds8 hdl8 hn
def tSome (K : PySem.W.Frag) : TE := tOp rCat (tOp rCat (tSl (rSlL K) (tVar 6) tNoPart (tPart (tVar 9))) (tLst (tCons (tOp (rIxL K) (tVar 11) (tCall spNext [] E0 (tCons (tVar 1) (tCons (tC (.int 8)) tNil)))) tNil))) (tSl (rSlL K) (tVar 6) (tPart (tVar 9)) tNoPart)
theorem op_go {r : R2} {ta tb : TE} {σ : L2.St} {H : Hp} {Q : VK} (h : ta σ H fun x H1 => tb σ H1 fun y H2 => r x y H2 Q) : tOp r ta tb σ H Q := h
theorem some_go {K : PySem.W.Frag} {σ : L2.St} {H : Hp} {Q : VK} {a c dL oL : Addr} {das : List Addr} {xs : List V} {m : Nat} (h1 : σ[1]? = some (some (.ref a))) (h6 : σ[6]? = some (some (.ref dL))) (h9 : σ[9]? = some (some (.int (m : Int)))) (h11 : σ[11]? = some (some (.ref oL)))
    (hR : HR H a c) (hL : H dL = some (.lst (das.map V.ref))) (dA : dL ∉ [a, c]) (oA : oL ∉ [a, c]) (hO : H oL = some (.lst xs)) (hP : Picks H xs) (hm : m ≤ das.length) (hz : das.length ≤ 1000)
    (k : ∀ q b it H0 H', HI H a c H0 → Ex H0 H' → H0 q = none → H' q = some (.lst ((das.take m ++ [b] ++ das.drop m).map V.ref)) → H' b = some (.tup it.vals) → ItG it → Q (.ref q) H') : tSome K σ H Q := by
  have hlz : (das.map V.ref).length ≤ 1000 := by rw [List.length_map]; exact hz
  have hml : m ≤ (das.map V.ref).length := by rw [List.length_map]; exact hm
  have hc1 : (cutV (das.map V.ref) none (some (m : Int))).length ≤ 1000 := by
    rw [cutV_hd hml, List.length_take]
    omega
  have hc2 : (cutV (das.map V.ref) (some (m : Int)) none).length ≤ 1000 := by
    rw [cutV_tl hml, List.length_drop]
    omega
  refine op_go (op_go ?_)
  refine (el_sl0 (ev_var h6) eo_none (eo_some (ev_var h9)) hL) H (Ex.refl H) _ fun q1 H1 nq1 e1 hq1 => ?_
  have hR1 := hR.mono e1
  have nq1A : q1 ∉ [a, c] := (HI.refl hR).new nq1
  refine tl_go (tc_go (op_go ⟨_, h11, ?_⟩))
  refine (er_nextJ (j := 1) (m := 8) (a := a) (c := c) (H0 := H1) h1 ⟨by decide, by decide⟩) H1 (HI.refl hR1) _ fun _ H2 i2 ⟨n, en, hn⟩ => ?_
  subst en
  obtain ⟨b, it, hb, hit, git⟩ := hP n hn
  have hb2 := i2.1.2 _ _ (e1 _ _ hit)
  refine ⟨oL, xs, (n : Int), _, rfl, rfl, sq_of (i2.1.1 _ _ oA (e1 _ _ hO)), atI_nat hb, by show 1 ≤ sizeLine; decide, fun q2 nq2 => ?_⟩
  have e3 : Ex H2 (upd H2 q2 (.lst [V.ref b])) := Ex.new nq2
  have hq2 : upd H2 q2 (.lst [V.ref b]) q2 = some (.lst [V.ref b]) := upd_same
  show rCat (.ref q1) (.ref q2) (upd H2 q2 (.lst [V.ref b])) _
  generalize upd H2 q2 (.lst [V.ref b]) = H3 at e3 hq2
  refine ⟨q1, q2, _, _, rfl, rfl, e3 _ _ (i2.1.1 _ _ nq1A hq1), hq2, sz_of (by show (cutV (das.map V.ref) none (some (m : Int))).length + 1 ≤ 100000; omega), fun q3 nq3 => ?_⟩
  have e4 : Ex H3 (upd H3 q3 (.lst (cutV (das.map V.ref) none (some (m : Int)) ++ [V.ref b]))) := Ex.new nq3
  have hq3 : upd H3 q3 (.lst (cutV (das.map V.ref) none (some (m : Int)) ++ [V.ref b])) q3 = some (.lst (cutV (das.map V.ref) none (some (m : Int)) ++ [V.ref b])) := upd_same
  show tSl (rSlL K) (tVar 6) (tPart (tVar 9)) tNoPart σ (upd H3 q3 (.lst (cutV (das.map V.ref) none (some (m : Int)) ++ [V.ref b]))) fun y H' => rCat (.ref q3) y H' Q
  generalize upd H3 q3 (.lst (cutV (das.map V.ref) none (some (m : Int)) ++ [V.ref b])) = H4 at e4 hq3
  have i4 : HI H a c H4 := ((((HI.refl hR).ext e1).trans i2).ext e3).ext e4
  refine (el_sl0 (ev_var h6) (eo_some (ev_var h9)) eo_none (i4.1.1 _ _ dA hL)) H4 (Ex.refl H4) _ fun q4 H5 nq4 e5 hq4 => ?_
  refine ⟨q3, q4, _, _, rfl, rfl, e5 _ _ hq3, hq4, sz_of (by rw [List.length_append]; show (cutV (das.map V.ref) none (some (m : Int))).length + 1 + _ ≤ 100000; omega), fun q5 nq5 => ?_⟩
  refine k q5 b it H5 _ (i4.ext e5) (Ex.new nq5) nq5 ?_ (Ex.new nq5 _ _ (e5 _ _ (e4 _ _ (e3 _ _ hb2)))) git
  rw [upd_same, somes_adr hm]
/-! ### the sizes; what is due -/
def tSizes : TE := tDisp [(tC (.str "put"), tC (.int 3)), (tC (.str "take"), tC (.int 2)), (tC (.str "bar"), tC (.int 2)), (tC (.str "unbar"), tC (.int 2)), (tC (.str "tick"), tC (.int 1))]
theorem sizes_go {σ : L2.St} {H : Hp} {Q : VK} (k : ∀ dz H', H dz = none → Ex H H' → H' dz = some (.dK szK) → Q (.ref dz) H') : tSizes σ H Q := by
  intro dz nz
  refine ⟨upd_same, szK, rfl, by show 5 ≤ 15; decide, ?_⟩
  refine k dz _ nz (Ex.mut (Ex.new nz) nz) ?_
  rw [upd_same]
  rfl
def tDue : TE := tIf (tTest (tOp isN (tVar 14) (tC .non))) (tTup (tCons (tC (.str "")) (tCons (tC (.int 0)) tNil))) (tTup (tCons (tC (.str "deed")) (tCons (tVar 14) tNil)))
theorem due_go {rs : List Ru} {items : List Item} {σ : L2.St} {H : Hp} {v : V} (h14 : σ[14]? = some (some v)) (h : (v = .non ∧ ∃ s', doAll rs sta0 0 items = .inr s') ∨ ∃ i : Nat, v = .int i ∧ doAll rs sta0 0 items = .inl i) :
    EvX tDue σ H fun x H' => ∃ du, x = .ref du ∧ ((H' du = some (.tup [.str "", .int 0]) ∧ ∃ s', doAll rs sta0 0 items = .inr s') ∨ ∃ i : Nat, H' du = some (.tup [.str "deed", .int i]) ∧ doAll rs sta0 0 items = .inl i) := by
  rcases h with ⟨rfl, s', h⟩ | ⟨i, rfl, h⟩
  · refine ex_if (b := true) (et_test (b := true) (ev_op (ev_var h14) ev_c (rv_of fun H2 _ Q q => ⟨rfl, q⟩))) (fun _ => ex_mono (ex_U (eu_tup (ea_cons ev_c (ea_cons ev_c ea_nil)) (by show 2 ≤ 100000; decide))) fun x H' _ ⟨p, e, hp⟩ => ⟨p, e, .inl ⟨hp, s', h⟩⟩) (fun q => Bool.noConfusion q)
  · refine ex_if (b := false) (et_test (b := false) (ev_op (ev_var h14) ev_c (rv_of fun H2 _ Q q => ⟨rfl, q⟩))) (fun q => Bool.noConfusion q) (fun _ => ex_mono (ex_U (eu_tup (ea_cons ev_c (ea_cons (ev_var h14) ea_nil)) (by show 2 ≤ 100000; decide))) fun x H' _ ⟨p, e, hp⟩ => ⟨p, e, .inr ⟨i, hp, h⟩⟩)
end S8
set_option Elab.async false
set_option linter.all false
set_option maxRecDepth 100000
set_option maxHeartbeats 400000
set_option pp.maxSteps 2000
namespace S8
open PySem PySem.Spec PyProof.Rows L2 L2H HotX Evl LamX
/-! ### the law -/
theorem like_pair {H : Hp} {p q : Addr} {z : Str} {i : Int} (hp : H p = some (.tup [.str z, .int i])) (hq : H q = some (.tup [.str z, .int i])) : Like H 4 (.ref p) (.ref q) := .tup hp hq rfl (by show 2 ≤ 1000; decide) fun i x y hx hy => by
  rw [hx] at hy
  cases hy
  match i, hx with
  | 0, hx => cases hx; exact .str _
  | 1, hx => cases hx; exact .int _
  | _ + 2, hx => cases hx
theorem act_plc {rs : List Ru} {s s' : Sta} {d : Deed} {l : List Nat} (h : act rs s d = (.told (.plc l), s')) : l.length ≤ s.row.length := by
  cases d with
  | put p k =>
    rw [act_put] at h
    split at h
    · cases h
    · split at h
      · cases h
      · split at h <;> cases h
  | take p =>
    rw [act_take] at h
    split at h <;> cases h
  | bar p =>
    rw [act_bar] at h
    split at h
    · cases h
    · split at h <;> cases h
  | unbar p =>
    rw [act_unbar] at h
    split at h
    · cases h
    · split at h <;> cases h
  | tick =>
    rw [act_tick] at h
    cases h
    unfold diff
    have := List.length_filter_le (fun p => !decide ((s.tick rs).row.getD p 0 = s.row.getD p 0)) (List.range s.row.length)
    rw [List.length_range] at this
    exact this
theorem like_res {rs : List Ru} {s s' : Sta} {d : Deed} {x : Res} {v1 v2 : V} {H1 H2 H3 : Hp} {R : List Addr} (h : act rs s d = (.told x, s')) (hz : s.row.length ≤ 12) (h1 : ResW x v1 H1 H2) (h2 : ResV x v2 H2 H3) (f : Fr R H2 H3) (n : ∀ u, Nw H1 u → u ∉ R) : Like H3 3 v1 v2 := by
  cases x with
  | non =>
    obtain rfl : v1 = .non := h1
    obtain rfl : v2 = .non := h2
    exact .non
  | sgn c =>
    obtain rfl : v1 = ch c := h1
    obtain rfl : v2 = ch c := h2
    exact .str _
  | plc l =>
    obtain ⟨u, rfl, a1, a2⟩ := h1
    obtain ⟨w, rfl, b1, b2⟩ := h2
    have := act_plc h
    exact like_natL (f.1 _ _ (n u a1) a2) b2 (by omega)
theorem q_lst8 {σ : L2.St} {H : Hp} {te : TE} {D : Ends} {tz : TS} {g : TG} (h : te σ H fun x H1 => g x σ H1 (tz D)) : tSeq (tAsg te g) tz D σ H := h
theorem deedsOf_ok (ds : List Deed) : deedsOf (ds.map Item.ok) = ds := by
  induction ds with
  | nil => rfl
  | cons d ds ih => show d :: deedsOf (ds.map Item.ok) = d :: ds; rw [ih]
theorem vals_ok {H : Hp} {as : List Addr} {ds : List Deed} (h : Pr (fun a x => H a = some (.tup (Deed.vals x))) as ds) : Pr (fun a x => H a = some (.tup (Item.vals x))) as (ds.map Item.ok) := Pr.mapR h
theorem ok2_ok {ds : List Deed} (h : ∀ d ∈ ds, d.Small) : ∀ x ∈ ds.map Item.ok, x.Ok2 := fun x hx => by
  obtain ⟨d, hd, rfl⟩ := List.mem_map.mp hx
  exact h d hd
theorem passX0 {P : Program} {w : World} {X : Cx} : Passes (L2.CX P w) X (fun _ _ _ => False) := fun _ _ _ _ _ _ _ ⟨_, _, _, _, _, _, _, _, _, _, _, _, h⟩ => h.elim
def spLaw (T : List (Addr × Str)) (K : PySem.W.Frag) : Sp := fun vs H Q _ => ∃ (s : Addr) (ns : List Int), vs = [.ref s] ∧ SqL K H s (ns.map V.int) ∧ ns.length ≤ 63 ∧ Tabs T H ∧ ∀ H', Q (.bl true) H'
/-- the functions that the law calls -/
structure LawF (P : Program) (w : World) (K : PySem.W.Frag) (mg : Str → Option Value) (base : Heap) (T : List (Addr × Str)) (xa : XA) (xd C : Addr) : Prop where
  mix : ∃ f fd, mg "_law_mix" = some (.ref f) ∧ PySem.W.keepIn K (.ref f) = true ∧ Binds K fd pMix [] ∧ FnOk P w K mg base CX0 1 f fd pMix (spMix K)
  next : ∃ f fd, mg "_law_next" = some (.ref f) ∧ PySem.W.keepIn K (.ref f) = true ∧ Binds K fd pNext [] ∧ FnOk P w K mg base CX0 1 f fd pNext spNext
  alike : ∃ f fd, mg "_law_alike" = some (.ref f) ∧ PySem.W.keepIn K (.ref f) = true ∧ Binds K fd pAlike [] ∧ FnOk P w K mg base CX0 4 f fd pAlike (spAlike 4)
  rules : ∃ f fd, mg "_law_rules" = some (.ref f) ∧ PySem.W.keepIn K (.ref f) = true ∧ Binds K fd pRules [] ∧ FnOk P w K mg base CX0 2 f fd pRules spRules
  shelf : ∃ f fd, mg "_law_shelf" = some (.ref f) ∧ PySem.W.keepIn K (.ref f) = true ∧ Binds K fd pLShelf [] ∧ FnOk P w K mg base CX0 1 f fd pLShelf spLShelf
  done : ∃ f fd, mg "_law_done" = some (.ref f) ∧ PySem.W.keepIn K (.ref f) = true ∧ Binds K fd pDone [] ∧ FnOk P w K mg base CX0 3 f fd pDone spDone
  deed : ∃ f fd, mg "_law_deed" = some (.ref f) ∧ PySem.W.keepIn K (.ref f) = true ∧ Binds K fd pLDeed [] ∧ FnOk P w K mg base CX0 2 f fd pLDeed spLDeed
  told : ∃ f fd, mg "_law_told" = some (.ref f) ∧ PySem.W.keepIn K (.ref f) = true ∧ Binds K fd pTold [] ∧ FnOk P w K mg base CX0 8 f fd pTold (spTold T C)
  stands : ∃ f fd, mg "_law_stands" = some (.ref f) ∧ PySem.W.keepIn K (.ref f) = true ∧ Binds K fd pStands [] ∧ FnOk P w K mg base CX0 5 f fd pStands (spStands C)
  again : ∃ f fd, mg "again" = some (.ref f) ∧ PySem.W.keepIn K (.ref f) = true ∧ Binds K fd pAgain [] ∧ FnOk P w K mg base (L2.CX P w) 6 f fd pAgain (spAgain xd C K)
  deeds : ∃ f fd, Meth K C "deeds" f ∧ Binds K fd pDeeds [] ∧ FnOk P w K mg base CX0 1 f fd pDeeds (spDeeds C)
section
variable {P : Program} {w : World} {K : PySem.W.Frag} {mg : Str → Option Value} {base : Heap}
theorem ok_law {T : List (Addr × Str)} {P2 c2 : Addr} {xa : XA} {xd RE C f g : Addr} {ka : KA} {fd : FuncData} (F : FunC K "law" "law" sLaw f fd c2) (B : Bt mg) (SC : ShC K C) (KF : KindF K mg xa xd RE ka) (KD : KindD K mg g) (LF : LawF P w K mg base T xa xd C)
    (TB : TabB base mg c2 P2) (hmT : (P2, ("law.<locals>.<lambda>" : Str)) ∈ T) (hu : ∀ p ∈ T, p.1 = P2 → p.2 = ("law.<locals>.<lambda>" : Str)) :
    FnOk P w K mg base CX0 9 f fd pLaw (spLaw T K) := by
  refine F.ok scLaw (fun vs H Q E h => ?_) (fun A outer s0 H vs Q E hr h => ?_)
  · obtain ⟨s, ns, rfl, _⟩ := h
    rfl
  · have hU := hu_of hr
    obtain ⟨fdk, Fk, bk⟩ := KD.F
    obtain ⟨oc, od, kV, doc, pm, an, cdv, ct, osl, rfl, lk, hcd⟩ := Fk.ex
    obtain ⟨f1, d1, g1, k1, b1, G1⟩ := LF.mix
    obtain ⟨f2, d2, g2, k2, b2, G2⟩ := LF.next
    obtain ⟨f3, d3, g3, k3, b3, G3⟩ := LF.alike
    obtain ⟨f4, d4, g4, k4, b4, G4⟩ := LF.rules
    obtain ⟨f5, d5, g5, k5, b5, G5⟩ := LF.shelf
    obtain ⟨f6, d6, g6, k6, b6, G6⟩ := LF.done
    obtain ⟨f7, d7, g7, k7, b7, G7⟩ := LF.deed
    obtain ⟨f8, d8, g8, k8, b8, G8⟩ := LF.told
    obtain ⟨f9, d9, g9, k9, b9, G9⟩ := LF.stands
    obtain ⟨fa, da, ga, kA, ba, Ga⟩ := LF.again
    obtain ⟨fb, db, mb, bb, Gb⟩ := LF.deeds
    refine ⟨_, (pss_cons (ps_set (i := 1) scLaw.nd rfl (.inl rfl) (pe_call G1 (hr.mono (by decide)) (by rfl) g1 k1 b1 .nil pass0 (pa_cons (pv 0) (pa_cons pe_int pa_nil)))) (pss_cons (ps_for PassesOwn.never rfl (pi_range1 (by rfl) B.rng (pa_cons pe_int pa_nil)) (pg_name (i := 2) scLaw.nd rfl (.inl rfl)) (pss_cons (ps_set (i := 3) scLaw.nd rfl (.inr rfl) (pe_call G4 (hr.mono (by decide)) (by rfl) g4 k4 b4 .nil pass0 (pa_cons (pv 1) (pa_cons pe_int (pa_cons pe_int pa_nil))))) (pss_cons (ps_set (i := 4) scLaw.nd rfl (.inl rfl) (pe_call G5 (hr.mono (by decide)) (by rfl) g5 k5 b5 .nil pass0 (pa_cons (pv 3) pa_nil))) (pss_cut (ps_for PassesOwn.never rfl (pi_range1 (by rfl) B.rng (pa_cons (pe_call G2 (hr.mono (by decide)) (by rfl) g2 k2 b2 .nil pass0 (pa_cons (pv 1) (pa_cons pe_int pa_nil))) pa_nil)) (pg_name (i := 5) scLaw.nd rfl (.inl rfl)) (pss_one (ps_expr (pe_call G6 (hr.mono (by decide)) (by rfl) g6 k6 b6 .nil pass0 (pa_cons (pv 4) (pa_cons (pe_call G7 (hr.mono (by decide)) (by rfl) g7 k7 b7 .nil pass0 (pa_cons (pv 1) (pa_cons (pv 4) (pa_cons pe_bl pa_nil)))) pa_nil)))))) (pss_cons (ps_set (i := 6) scLaw.nd rfl (.inl rfl) (pe_callTy call_list_of (by rfl) B.lst (by decide +kernel) (pa_cons (pe_dget hU (pv 4) pe_str (fun _ _ => rfl)) pa_nil))) (pss_cons (ps_set (i := 7) scLaw.nd rfl (.inl rfl) (pe_call (E := fun _ _ _ => False) Ga (hr.mono (by decide)) (by rfl) ga kA ba .nil passX0 (pa_cons (pv 3) (pa_cons (pe_callTy call_tuple_of (by rfl) B.tup (by decide +kernel) (pa_cons (pv 6) pa_nil)) pa_nil)))) (pss_cons (ps_if (PW.pt (pw_or (pt_not (pt_val (pe_call G9 (hr.mono (by decide)) (by rfl) g9 k9 b9 .nil pass0 (pa_cons (pv 7) (pa_cons (pv 4) pa_nil))))) (pw_or1 (pt_not (pt_val (pe_call G9 (hr.mono (by decide)) (by rfl) g9 k9 b9 .nil pass0 (pa_cons (pe_call (E := fun _ _ _ => False) Ga (hr.mono (by decide)) (by rfl) ga kA ba .nil passX0 (pa_cons (pv 3) (pa_cons (pe_meth0 (E := E0) (pv 7) SC.cl mb Gb (hr.mono (by decide)) bb .nil pass0) pa_nil))) (pa_cons (pv 4) pa_nil)))))))) (pss_one (ps_ret pe_bl)) pss_nil) (pss_cut (ps_for PassesOwn.never rfl (pi_range1 (by rfl) B.rng (pa_cons pe_int pa_nil)) (pg_name (i := 5) scLaw.nd rfl (.inl rfl)) (pss_cons (ps_set (i := 8) scLaw.nd rfl (.inl rfl) (pe_call G7 (hr.mono (by decide)) (by rfl) g7 k7 b7 .nil pass0 (pa_cons (pv 1) (pa_cons (pv 4) (pa_cons pe_bl pa_nil))))) (pss_one (ps_if (pt_not (pt_val (pe_call G3 (hr.mono (by decide)) (by rfl) g3 k3 b3 .nil pass0 (pa_cons (pe_call G8 hr (by rfl) g8 k8 b8 .nil pass0 (pa_cons (pv 7) (pa_cons (pv 8) pa_nil))) (pa_cons (pe_call G6 (hr.mono (by decide)) (by rfl) g6 k6 b6 .nil pass0 (pa_cons (pv 4) (pa_cons (pv 8) pa_nil))) pa_nil))))) (pss_one (ps_ret pe_bl)) pss_nil)))) (pss_one (ps_for PassesOwn.never rfl (pi_range1 (by rfl) B.rng (pa_cons pe_int pa_nil)) (pg_name (i := 5) scLaw.nd rfl (.inl rfl)) (pss_cons (ps_par (i := 9) (j := 10) rfl scLaw.nd rfl rfl (by decide) rfl rfl (pa_cons (pe_call G2 (hr.mono (by decide)) (by rfl) g2 k2 b2 .nil pass0 (pa_cons (pv 1) (pa_cons (pe_op op_add (pe_callB call_len_seq (by rfl) B.len boot_len (pa_cons (pv 6) pa_nil)) pe_int) pa_nil))) (pa_cons (pe_call G5 (hr.mono (by decide)) (by rfl) g5 k5 b5 .nil pass0 (pa_cons (pv 3) pa_nil)) pa_nil)) (by rfl)) (pss_cons (ps_set (i := 11) scLaw.nd rfl (.inl rfl) (pe_lst (pa_cons (pe_tup pa_nil) (pa_cons (pe_tup (pa_cons pe_str pa_nil)) (pa_cons (pe_tup (pa_cons pe_str (pa_cons pe_int pa_nil))) (pa_cons (pe_tup (pa_cons pe_str (pa_cons pe_int pa_nil))) (pa_cons (pe_tup (pa_cons pe_str pa_nil)) (pa_cons (pe_tup (pa_cons pe_str (pa_cons pe_int (pa_cons pe_int pa_nil)))) (pa_cons (pe_tup (pa_cons pe_str (pa_cons pe_int pa_nil))) (pa_cons (pe_call G7 (hr.mono (by decide)) (by rfl) g7 k7 b7 .nil pass0 (pa_cons (pv 1) (pa_cons (pv 4) (pa_cons pe_bl pa_nil)))) pa_nil)))))))))) (pss_cons (ps_set (i := 12) scLaw.nd rfl (.inr rfl) (pe_op op_cat (pe_op op_cat (pe_slice sl_list (pv 6) po_none (po_some (pv 9))) (pe_lst (pa_cons (pe_ix ix_list (pv 11) (pe_call G2 (hr.mono (by decide)) (by rfl) g2 k2 b2 .nil pass0 (pa_cons (pv 1) (pa_cons pe_int pa_nil))) (fun _ _ => rfl)) pa_nil))) (pe_slice sl_list (pv 6) (po_some (pv 9)) po_none))) (pss_cons (ps_par (i := 13) (j := 14) rfl scLaw.nd rfl rfl (by decide) rfl rfl (pa_cons (pe_disp (pps_cons pe_str pe_int (pps_cons pe_str pe_int (pps_cons pe_str pe_int (pps_cons pe_str pe_int (pps_cons pe_str pe_int pps_nil))))) (by rfl) (by rfl) (fun z => by cases z) (by decide)) (pa_cons pe_non pa_nil)) (by rfl)) (pss_cut (ps_for PassesOwn.never rfl (pi_range1 (by rfl) B.rng (pa_cons (pe_callB call_len_seq (by rfl) B.len boot_len (pa_cons (pv 12) pa_nil)) pa_nil)) (pg_name (i := 15) scLaw.nd rfl (.inl rfl)) (pss_cons (ps_set (i := 16) scLaw.nd rfl (.inl rfl) (pe_and (pe_cmpR (op_neD hr.units) (pe_ix ix_list (pv 12) (pv 15) (fun _ _ => rfl)) (pe_tup pa_nil) (nomark _)) (pe_one (pe_cmpR op_eq (pe_dget2 hU (pv 13) (pe_ix ix_tup (pe_ix ix_list (pv 12) (pv 15) (fun _ _ => rfl)) pe_int (fun _ _ => rfl)) pe_int ⟨by rfl, by rfl, by rfl, by rfl⟩) (pe_callB call_len_seq (by rfl) B.len boot_len (pa_cons (pe_ix ix_list (pv 12) (pv 15) (fun _ _ => rfl)) pa_nil)) (nomark _))))) (pss_one (ps_if (PW.pt (pw_and (pt_cmpR op_isN (pv 14) pe_non (nomark _)) (pw_and1 (PW.pt (pw_or (pt_not (pt_val (pv 16))) (pw_or1 (pt_cmpR op_ne (pe_ix ix_tup (pe_call G6 (hr.mono (by decide)) (by rfl) g6 k6 b6 .nil pass0 (pa_cons (pv 10) (pa_cons (pe_ix ix_list (pv 12) (pv 15) (fun _ _ => rfl)) pa_nil))) pe_int (fun _ _ => rfl)) pe_str (nomark _)))))))) (pss_one (ps_set (i := 14) scLaw.nd rfl (.inl rfl) (pv 15))) pss_nil)))) (pss_cons (ps_set (i := 17) scLaw.nd rfl (.inl rfl) (pe_ifExp (pt_cmpR op_isN (pv 14) pe_non (nomark _)) (pe_tup (pa_cons pe_str (pa_cons pe_int pa_nil))) (pe_tup (pa_cons pe_str (pa_cons (pv 14) pa_nil))))) (pss_one (ps_if (pt_cmpR (op_neD hr.units) (pe_lamcall (T := T) (TT := TTkind xa xd) (Ng := nKind) (k := 6) (P := P2) (c := c2) (t := fun E' => tCall (spAgain xd C K) [] E' (tCons (tVar 3) (tCons (tVar 12) tNil))) (by rfl) KD.gk KD.kk lk hcd bk scKind rfl (.inl rfl)
              (kind_gives (X := (cxOf CX0 P w K mg base nLaw "law" (defScope sLaw) f (.ref c2) A outer s0 H E).nox) B KF.kg KF.gRE KF.ij KF.ir KF.id_ KF.ic KF.xj KF.xr KF.xdd KF.nj KF.nr KF.nd KF.ej KF.er KF.ed KF.ec)
              TB rfl hmT hu hr (lamS_by (sc := defScope sLaw) (by decide +kernel)) (by rfl) (fun _ _ _ _ _ => by rfl) (fun A' outer' s' H' E' f' c' hr' => pe_call Ga hr' (by rfl) ga kA ba .nil (L2.passes_call (L2.takes_of rfl rfl rfl rfl) fun _ _ _ _ h => h) (pa_cons (pv 3) (pa_cons (pv 12) pa_nil)))) (pv 17) (nomark _)) (pss_one (ps_ret pe_bl)) pss_nil)))))))))))))))))) (pss_one (ps_ret pe_bl)))), ?_⟩
    obtain ⟨sc, ns, rfl, hsc, hns, hT0, kQ⟩ := h
    -- mix
    refine ⟨_, rfl, sc, ns, rfl, hsc, hns, fun a c H1 na nc e1 hR1 => ?_⟩
    have T1 : Tabs T H1 := tabs_ex hT0 e1
    refine q_forR1 (n := 3) (ea_cons ev_c ea_nil) ⟨by decide, by decide⟩ (fun i σ' H' => (∃ v2 v3 v4 v5 v6 v7 v8 v9 v10 v11 v12 v13 v14 v15 v16 v17, σ' = [some (.ref sc), some (.ref a), v2, v3, v4, v5, v6, v7, v8, v9, v10, v11, v12, v13, v14, v15, v16, v17]) ∧ HR H' a c ∧ Tabs T H')
      (fun H2 e2 => ⟨⟨_, _, _, _, _, _, _, _, _, _, _, _, _, _, _, _, rfl⟩, hR1.mono e2, tabs_ex T1 e2⟩) ?_ (fun σ' H' q => ?_)
    · rintro i σ' H2 hi ⟨⟨v2, v3, v4, v5, v6, v7, v8, v9, v10, v11, v12, v13, v14, v15, v16, v17, rfl⟩, hR2, T2⟩
      -- rules
      refine ⟨_, rfl, a, c, rfl, hR2, fun rs r H3 RO i3 hr3 => ?_⟩
      have T3 := tabs_fr T2 i3.1 hR2.ntc
      have hR3 := i3.2
      -- shelf
      refine ⟨_, rfl, r, rs, rfl, hr3, fun wa R4 H4 e4 W4 n4 => ?_⟩
      have T4 := tabs_ex T3 e4
      have hR4 := hR3.mono e4
      have hr4 : RulesAt H4 r rs := hr3.ex fun b l q => e4 _ _ q
      have D4 : Dj R4 [a, c] := Dj.new n4 hR3.known
      -- the deeds
      refine q_cut (M := fun σ' H' => (∃ v5 v6 v7 v8 v9 v10 v11 v12 v13 v14 v15 v16 v17, σ' = [some (.ref sc), some (.ref a), some (.int (i : Int)), some (.ref r), some (.ref wa), v5, v6, v7, v8, v9, v10, v11, v12, v13, v14, v15, v16, v17]) ∧ HR H' a c ∧ Tabs T H' ∧ RulesAt H' r rs ∧ ∃ (R : List Addr) (s : Sta) (ds : List Deed), WAt H' wa R r rs s ds ∧ Rch rs s ds ∧ ds.length ≤ 60 ∧ Dj R [a, c]) ?_ ?_
      · refine (er_nextC (m := 60) (a := a) (c := c) (H0 := H4) rfl ⟨by decide, by decide⟩) H4 (HI.refl hR4) _ fun _ H5 i5 ⟨n, e, hn⟩ => ?_
        subst e
        refine ⟨(n : Int), rfl, by omega, by omega, for_range (lo := 0) (n := ((n : Int)).toNat) (fun k σ' H' => (∃ v5 v6 v7 v8 v9 v10 v11 v12 v13 v14 v15 v16 v17, σ' = [some (.ref sc), some (.ref a), some (.int (i : Int)), some (.ref r), some (.ref wa), v5, v6, v7, v8, v9, v10, v11, v12, v13, v14, v15, v16, v17]) ∧ HR H' a c ∧ Tabs T H' ∧ RulesAt H' r rs ∧ ∃ (R : List Addr) (s : Sta) (ds : List Deed), WAt H' wa R r rs s ds ∧ Rch rs s ds ∧ ds.length ≤ k ∧ Dj R [a, c])
          ⟨⟨_, _, _, _, _, _, _, _, _, _, _, _, _, rfl⟩, i5.2, tabs_fr T4 i5.1 hR4.ntc, hr4.ex i5.1.2, R4, sta0, [], W4.fr i5.1 D4, rch0 rs, Nat.le_refl 0, D4⟩ ?_ ?_⟩
        · rintro k σ' H6 hk ⟨⟨v5, v6, v7, v8, v9, v10, v11, v12, v13, v14, v15, v16, v17, rfl⟩, hR6, T6, hr6, R, s, ds, W6, C6, hl6, D6⟩
          refine ⟨_, rfl, _, rfl, _, rfl, a, c, wa, false, R, r, rs, s, ds, rfl, hR6, W6, C6.o, D6, fun d p H7 hds hdl i7 hp7 => ?_⟩
          have W7 := W6.fr i7.1 D6
          have T7 := tabs_fr T6 i7.1 hR6.ntc
          have hr7 := hr6.ex i7.1.2
          refine ⟨wa, p, R, r, rs, s, ds, d, rfl, hp7, hds, W7, RO, C6.o, by omega, ⟨fun x s' hact q v R' H8 _ _ f8 W8 hR' => ?_, fun j hact q H8 e8 _ => ?_, fun hact q H8 e8 _ => ?_, fun hact q H8 e8 _ => ?_⟩⟩
          · exact ⟨⟨_, _, _, _, _, _, _, _, _, _, _, _, _, rfl⟩, i7.2.frN (FrN.of f8) D6.symm, tabs_fr T7 f8 W7.ntc, hr7.ex f8.2, R', s', ds ++ [d], W8, C6.snoc hact hds, by rw [List.length_append]; show ds.length + 1 ≤ k + 1; omega, Dj.grow D6 hR' i7.2.known⟩
          · exact ⟨⟨_, _, _, _, _, _, _, _, _, _, _, _, _, rfl⟩, i7.2.mono e8, tabs_ex T7 e8, hr7.ex fun b l q => e8 _ _ q, R, s, ds, W7.mono e8, C6, by omega, D6⟩
          · exact ⟨⟨_, _, _, _, _, _, _, _, _, _, _, _, _, rfl⟩, i7.2.mono e8, tabs_ex T7 e8, hr7.ex fun b l q => e8 _ _ q, R, s, ds, W7.mono e8, C6, by omega, D6⟩
          · exact ⟨⟨_, _, _, _, _, _, _, _, _, _, _, _, _, rfl⟩, i7.2.mono e8, tabs_ex T7 e8, hr7.ex fun b l q => e8 _ _ q, R, s, ds, W7.mono e8, C6, by omega, D6⟩
        · rintro σ' H6 ⟨hσ, hR6, T6, hr6, R, s, ds, W6, C6, hl6, D6⟩
          exact ⟨hσ, hR6, T6, hr6, R, s, ds, W6, C6, by omega, D6⟩
      · rintro σ' H5 ⟨⟨v5, v6, v7, v8, v9, v10, v11, v12, v13, v14, v15, v16, v17, rfl⟩, hR5, T5, hr5, R5, s, ds, W5, C5, hl5, D5⟩
        obtain ⟨cl, wl, dl, cas, das, hRR, W⟩ := W5
        have W5 : WAt H5 wa R5 r rs s ds := ⟨cl, wl, dl, cas, das, hRR, W⟩
        -- its deeds, told anew
        refine q_asgL (el_list (ev_dget (ev_var rfl) ev_c W.d (wg_deeds _ _ _ _ _)) (sq_of W.n)) fun dL H6 ndL e6 hdL => ?_
        refine ⟨_, rfl, (eu_tupL (K := K) (ev_var rfl) hdL) H6 (Ex.refl H6) _ fun t H7 nt e7 ht => ?_⟩
        have E7 := e6.trans e7
        refine ⟨r, .tup t, rs, ds.map Item.ok, das, rfl, hr5.ex fun b l q => E7 _ _ q, RO, st_of ht, vals_ok (W.ni.mono fun b x h => E7 _ _ h), ok2_ok C5.m, by rw [List.length_map]; omega, fun s2 hs p Rs H8 e8 np S8 nRs O8 => ?_, fun j hj => by rw [C5.d] at hj; cases hj⟩
        obtain rfl : s2 = s := by rw [C5.d] at hs; cases hs; rfl
        rw [deedsOf_ok] at S8
        have E8 := E7.trans e8
        have G8 : Good rs s2 ds := ⟨RO, C5.o, by omega⟩
        have W8 := W5.mono E8
        have hr8 : RulesAt H8 r rs := hr5.ex fun b l q => E8 _ _ q
        have hR8 := hR5.mono E8
        have T8 := tabs_ex T5 E8
        have hdL8 : H8 dL = some (.lst (das.map V.ref)) := e8 _ _ (e7 _ _ hdL)
        have hni8 : Pr (fun a x => H8 a = some (.tup (Deed.vals x))) das ds := W.ni.mono fun b x h => E8 _ _ h
        have nRs5 : ∀ b ∈ Rs, H5 b = none := fun b hb => fresh_back E7 (nRs b hb)
        have DRs : Dj Rs [a, c] := Dj.new nRs5 hR5.known
        have DRR : Dj R5 Rs := (Dj.new nRs5 W5.known).symm
        have DLs : Dj [dL] Rs := fun b hb hm => by
          obtain rfl : b = dL := by simpa using hb
          have := nRs b hm
          rw [e7 _ _ hdL] at this
          cases this
        have DLw : Dj [dL] R5 := Dj.new (H := H5) (fun b hb => by
          obtain rfl : b = dL := by simpa using hb
          exact ndL) W5.known
        have DLa : Dj [dL] [a, c] := Dj.new (H := H5) (fun b hb => by
          obtain rfl : b = dL := by simpa using hb
          exact ndL) hR5.known
        -- both stand
        have A1 : Ev (tCall (spStands C) [] E0 (tCons (tVar 7) (tCons (tVar 4) tNil))) [some (.ref sc), some (.ref a), some (.int (i : Int)), some (.ref r), some (.ref wa), v5, some (.ref dL), some (.ref p), v8, v9, v10, v11, v12, v13, v14, v15, v16, v17] H8 (.bl true) :=
          ev_call (vs := [.ref p, .ref wa]) (ea_cons (ev_var rfl) (ea_cons (ev_var rfl) ea_nil)) fun H9 e9 Q9 q9 E9 => ⟨p, wa, Rs, R5, r, rs, s2, ds, rfl, S8.mono e9, W8.mono e9, G8, C5.c, q9⟩
        have A2 : Ev (tCall (spStands C) [] E0 (tCons (tCall (spAgain xd C K) [] (fun _ _ _ => False) (tCons (tVar 3) (tCons (tMeth C "deeds" (spDeeds C) [] E0 (tVar 7) tNil) tNil))) (tCons (tVar 4) tNil))) [some (.ref sc), some (.ref a), some (.int (i : Int)), some (.ref r), some (.ref wa), v5, some (.ref dL), some (.ref p), v8, v9, v10, v11, v12, v13, v14, v15, v16, v17] H8 (.bl true) := fun H9 e9 Q9 q9 => by
          have S9 := S8.mono e9
          obtain ⟨dx, r0, c0, wl0, nl0, hRR0, hp0, hrest0⟩ := id S9
          refine ⟨_, rfl, _, rfl, p, dx, _, rfl, hp0, by rfl, p, Rs, rs, s2, ds, rfl, S9, fun q H10 nq e10 ⟨das2, hq, hq2⟩ => ?_⟩
          refine ⟨r, .lst q, rs, ds.map Item.ok, das2, rfl, hr8.ex fun b l z => e10 _ _ (e9 _ _ z), RO, sq_of hq, vals_ok hq2, ok2_ok C5.m, by rw [List.length_map]; omega, fun s3 hs3 p3 R3 H11 e11 np3 S11 nR3 O3 => ?_, fun j hj => by rw [C5.d] at hj; cases hj⟩
          obtain rfl : s3 = s2 := by rw [C5.d] at hs3; cases hs3; rfl
          rw [deedsOf_ok] at S11
          exact ⟨_, rfl, p3, wa, R3, R5, r, rs, s3, ds, rfl, S11, W8.mono ((e9.trans e10).trans e11), G8, C5.c, fun H12 e12 => q9 H12 ((e10.trans e11).trans e12)⟩
        refine q_when (b := false) (et_is (et_or (et_not (et_B A1)) fun _ => et_not (et_B A2)) rfl) (fun q => Bool.noConfusion q) (fun _ H9 e9 => ?_)
        -- wild deeds
        refine q_cut (M := fun σ' H' => (∃ v5 v8 v9 v10 v11 v12 v13 v14 v15 v16 v17, σ' = [some (.ref sc), some (.ref a), some (.int (i : Int)), some (.ref r), some (.ref wa), v5, some (.ref dL), some (.ref p), v8, v9, v10, v11, v12, v13, v14, v15, v16, v17]) ∧ HR H' a c ∧ Tabs T H' ∧ RulesAt H' r rs ∧ H' dL = some (.lst (das.map V.ref)) ∧ Pr (fun a x => H' a = some (.tup (Deed.vals x))) das ds ∧ ∃ (R : List Addr) (s : Sta) (ds2 : List Deed), WAt H' wa R r rs s ds2 ∧ Rch rs s ds2 ∧ ds2.length ≤ 65 ∧ Dj R [a, c] ∧ Dj [dL] R) ?_ ?_
        · refine s_forR1 (n := 5) (ea_cons ev_c ea_nil) ⟨by decide, by decide⟩ (fun k σ' H' => (∃ v5 v8 v9 v10 v11 v12 v13 v14 v15 v16 v17, σ' = [some (.ref sc), some (.ref a), some (.int (i : Int)), some (.ref r), some (.ref wa), v5, some (.ref dL), some (.ref p), v8, v9, v10, v11, v12, v13, v14, v15, v16, v17]) ∧ HR H' a c ∧ Tabs T H' ∧ RulesAt H' r rs ∧ H' dL = some (.lst (das.map V.ref)) ∧ Pr (fun a x => H' a = some (.tup (Deed.vals x))) das ds ∧ ∃ (R Rs : List Addr) (s : Sta) (ds2 : List Deed), WAt H' wa R r rs s ds2 ∧ ShelfAt C H' p Rs rs s ds2 ∧ Rch rs s ds2 ∧ ds2.length ≤ 60 + k ∧ Dj R [a, c] ∧ Dj Rs [a, c] ∧ Dj R Rs ∧ Dj [dL] R ∧ Dj [dL] Rs)
            (fun H10 e10 => ⟨⟨_, _, _, _, _, _, _, _, _, _, _, rfl⟩, hR8.mono (e9.trans e10), tabs_ex T8 (e9.trans e10), hr8.ex fun b l q => (e9.trans e10) _ _ q, (e9.trans e10) _ _ hdL8, hni8.mono fun b x h => (e9.trans e10) _ _ h, R5, Rs, s2, ds, W8.mono (e9.trans e10), S8.mono (e9.trans e10), C5, by omega, D5, DRs, DRR, DLw, DLs⟩) ?_ ?_
          · rintro k σ' H0 hk ⟨⟨v5, v8, v9, v10, v11, v12, v13, v14, v15, v16, v17, rfl⟩, hR0, T0, hr0, hL0, hP0, R, Rs, s, ds2, W0, S0, C0, hl0, Dw, Ds, Dws, Dlw, Dls⟩
            refine ⟨_, rfl, _, rfl, a, c, wa, true, R, r, rs, s, ds2, rfl, hR0, W0, C0.o, Dw, fun d q H1 hds hdl i1 hq => ?_⟩
            have hR1 := i1.2
            have W1 := W0.fr i1.1 Dw
            have S1 : ShelfAt C H1 p Rs rs s ds2 := S0.frN (FrN.of i1.1) Ds
            have T1' := tabs_fr T0 i1.1 hR0.ntc
            have hr1 := hr0.ex i1.1.2
            have hL1 : H1 dL = some (.lst (das.map V.ref)) := i1.1.1 _ _ (DLa dL (by simp)) hL0
            have hP1 : Pr (fun a x => H1 a = some (.tup (Deed.vals x))) das ds := hP0.mono fun b x h => i1.1.2 _ _ h
            have G1' : Good rs s ds2 := ⟨RO, C0.o, by omega⟩
            have kW := kn_of W1.known W1.ntc
            have kS := kn_of S1.known S1.ntc
            have ka := kn_of hR1.known hR1.ntc
            refine ⟨_, rfl, _, rfl, p, q, Rs, rs, s, ds2, d, rfl, hq, hds, S1, G1', T1', ?_⟩
            refine ⟨fun x s' hact p1 v1 Rs' H2 hp1 hw1 f2 S2 hRs2 T2' => ?_, fun j hj p1 H2 f2 T2' hp1 => ?_, fun hj p1 H2 f2 T2' hp1 => ?_, fun hj p1 H2 f2 T2' hp1 => ?_⟩
            · have W2 := W1.frN f2 Dws
              refine ⟨_, rfl, _, rfl, wa, q, R, r, rs, s, ds2, d, rfl, f2.2 _ _ hq, hds, W2, RO, C0.o, by omega, ⟨fun x2 s2' h2 p2 v2 R' H3 hp2 hv2 f3 W3 hR' => ?_, fun _ h => (by rw [hact] at h; cases h), fun h => (by rw [hact] at h; cases h), fun h => (by rw [hact] at h; cases h)⟩⟩
              obtain ⟨rfl, rfl⟩ : x2 = x ∧ s2' = s' := by rw [hact] at h2; cases h2; exact ⟨rfl, rfl⟩
              have kW2 := kn_of W2.known W2.ntc
              have kS2 := kn_of S2.known S2.ntc
              have DwsN : Dj R Rs' := (Dj.growN Dws.symm hRs2 kW).symm
              have S3 : ShelfAt C H3 p Rs' rs s2' (ds2 ++ [d]) := S2.frN (FrN.of f3) DwsN.symm
              have hR2 : HR H2 a c := hR1.frN f2 Ds.symm
              have hLk : Like H3 4 (.ref p1) (.ref p2) := .tup (f3.2 _ _ hp1) hp2 rfl (by show 2 ≤ 1000; decide) fun m x y hx hy => by
                match m, hx, hy with
                | 0, hx, hy =>
                  cases hx; cases hy
                  exact .str _
                | 1, hx, hy =>
                  cases hx; cases hy
                  exact like_res hact C0.o.z hw1 hv2 f3 fun u hu => nw_not kW hu
                | _ + 2, hx, _ => cases hx
              refine ⟨.ref p1, .ref p2, rfl, hLk, fun H4 e4 => ⟨true, rfl, ?_⟩⟩
              refine ⟨⟨_, _, _, _, _, _, _, _, _, _, _, rfl⟩, (hR2.frN (FrN.of f3) Dw.symm).mono e4, tabs_ex (tabs_fr T2' f3 W2.ntc) e4, hr1.ex fun b l z => e4 _ _ (f3.2 _ _ (f2.2 _ _ z)), e4 _ _ (f3.1 _ _ (Dlw dL (by simp)) (f2.1 _ _ (Dls dL (by simp)) hL1 (fun ps z => by cases z))), hP1.mono fun b x z => e4 _ _ (f3.2 _ _ (f2.2 _ _ z)), R', Rs', s2', ds2 ++ [d], W3.mono e4, S3.mono e4, C0.snoc hact hds, by rw [List.length_append]; show ds2.length + 1 ≤ 60 + (k + 1); omega, Dj.grow Dw hR' hR2.known, Dj.growN Ds hRs2 ka, Dj.grow DwsN hR' S2.known, (Dj.grow Dlw.symm hR' fun b hb => ?_).symm, (Dj.growN Dls.symm hRs2 fun b hb => ?_).symm⟩
              · obtain rfl : b = dL := by simpa using hb
                rw [f2.1 _ _ (Dls b (by simp)) hL1 (fun ps z => by cases z)]
                exact fun z => by cases z
              · obtain rfl : b = dL := by simpa using hb
                rw [hL1]
                exact ⟨fun z => (by cases z), fun ps z => (by cases z)⟩
            · refine ⟨_, rfl, _, rfl, wa, q, R, r, rs, s, ds2, d, rfl, f2.2 _ _ hq, hds, W1.frN f2 (fun b _ h => nomatch h), RO, C0.o, by omega, ⟨fun _ _ h => (by rw [hj] at h; cases h), fun j' hj' p2 H3 e3 hp2 => ?_, fun h => (by rw [hj] at h; cases h), fun h => (by rw [hj] at h; cases h)⟩⟩
              obtain rfl : j' = j := by rw [hj] at hj'; cases hj'; rfl
              refine ⟨.ref p1, .ref p2, rfl, like_pair (e3 _ _ hp1) hp2, fun H4 e4 => ⟨true, rfl, ?_⟩⟩
              exact ⟨⟨_, _, _, _, _, _, _, _, _, _, _, rfl⟩, (hR1.frN f2 fun b _ h => nomatch h).mono (e3.trans e4), tabs_ex T2' (e3.trans e4), hr1.ex fun b l z => (e3.trans e4) _ _ (f2.2 _ _ z), (e3.trans e4) _ _ (f2.1 _ _ (fun h => nomatch h) hL1 (fun ps z => by cases z)), hP1.mono fun b x z => (e3.trans e4) _ _ (f2.2 _ _ z), R, Rs, s, ds2, (W1.frN f2 fun b _ h => nomatch h).mono (e3.trans e4), (S1.frN f2 fun b _ h => nomatch h).mono (e3.trans e4), C0, by omega, Dw, Ds, Dws, Dlw, Dls⟩
            · refine ⟨_, rfl, _, rfl, wa, q, R, r, rs, s, ds2, d, rfl, f2.2 _ _ hq, hds, W1.frN f2 (fun b _ h => nomatch h), RO, C0.o, by omega, ⟨fun _ _ h => (by rw [hj] at h; cases h), fun _ h => (by rw [hj] at h; cases h), fun _ p2 H3 e3 hp2 => ?_, fun h => (by rw [hj] at h; cases h)⟩⟩
              refine ⟨.ref p1, .ref p2, rfl, like_pair (e3 _ _ hp1) hp2, fun H4 e4 => ⟨true, rfl, ?_⟩⟩
              exact ⟨⟨_, _, _, _, _, _, _, _, _, _, _, rfl⟩, (hR1.frN f2 fun b _ h => nomatch h).mono (e3.trans e4), tabs_ex T2' (e3.trans e4), hr1.ex fun b l z => (e3.trans e4) _ _ (f2.2 _ _ z), (e3.trans e4) _ _ (f2.1 _ _ (fun h => nomatch h) hL1 (fun ps z => by cases z)), hP1.mono fun b x z => (e3.trans e4) _ _ (f2.2 _ _ z), R, Rs, s, ds2, (W1.frN f2 fun b _ h => nomatch h).mono (e3.trans e4), (S1.frN f2 fun b _ h => nomatch h).mono (e3.trans e4), C0, by omega, Dw, Ds, Dws, Dlw, Dls⟩
            · refine ⟨_, rfl, _, rfl, wa, q, R, r, rs, s, ds2, d, rfl, f2.2 _ _ hq, hds, W1.frN f2 (fun b _ h => nomatch h), RO, C0.o, by omega, ⟨fun _ _ h => (by rw [hj] at h; cases h), fun _ h => (by rw [hj] at h; cases h), fun h => (by rw [hj] at h; cases h), fun _ p2 H3 e3 hp2 => ?_⟩⟩
              refine ⟨.ref p1, .ref p2, rfl, like_pair (e3 _ _ hp1) hp2, fun H4 e4 => ⟨true, rfl, ?_⟩⟩
              exact ⟨⟨_, _, _, _, _, _, _, _, _, _, _, rfl⟩, (hR1.frN f2 fun b _ h => nomatch h).mono (e3.trans e4), tabs_ex T2' (e3.trans e4), hr1.ex fun b l z => (e3.trans e4) _ _ (f2.2 _ _ z), (e3.trans e4) _ _ (f2.1 _ _ (fun h => nomatch h) hL1 (fun ps z => by cases z)), hP1.mono fun b x z => (e3.trans e4) _ _ (f2.2 _ _ z), R, Rs, s, ds2, (W1.frN f2 fun b _ h => nomatch h).mono (e3.trans e4), (S1.frN f2 fun b _ h => nomatch h).mono (e3.trans e4), C0, by omega, Dw, Ds, Dws, Dlw, Dls⟩
          · rintro σ' H0 ⟨⟨v5, v8, v9, v10, v11, v12, v13, v14, v15, v16, v17, rfl⟩, hR0, T0, hr0, hL0, hP0, R, Rs, s, ds2, W0, S0, C0, hl0, Dw, Ds, Dws, Dlw, Dls⟩
            exact ⟨⟨_, _, _, _, _, _, _, _, _, _, _, rfl⟩, hR0, T0, hr0, hL0, hP0, R, s, ds2, W0, C0, hl0, Dw, Dlw⟩
        · rintro σ' H0 ⟨⟨v5, v8, v9, v10, v11, v12, v13, v14, v15, v16, v17, rfl⟩, hR0, T0, hr0, hL0, hP0, R, s, ds2, W0, C0, hl0, Dw, Dlw⟩
          refine s_forR1 (n := 3) (ea_cons ev_c ea_nil) ⟨by decide, by decide⟩ (fun k σ' H' => (∃ v5 v8 v9 v10 v11 v12 v13 v14 v15 v16 v17, σ' = [some (.ref sc), some (.ref a), some (.int (i : Int)), some (.ref r), some (.ref wa), v5, some (.ref dL), some (.ref p), v8, v9, v10, v11, v12, v13, v14, v15, v16, v17]) ∧ HR H' a c ∧ Tabs T H' ∧ RulesAt H' r rs ∧ H' dL = some (.lst (das.map V.ref)) ∧ Pr (fun a x => H' a = some (.tup (Deed.vals x))) das ds ∧ ∃ (R : List Addr) (s : Sta) (ds2 : List Deed), WAt H' wa R r rs s ds2 ∧ Rch rs s ds2 ∧ ds2.length ≤ 65 ∧ Dj R [a, c] ∧ Dj [dL] R)
            (fun H10 e10 => ⟨⟨_, _, _, _, _, _, _, _, _, _, _, rfl⟩, hR0.mono e10, tabs_ex T0 e10, hr0.ex fun b l q => e10 _ _ q, e10 _ _ hL0, hP0.mono fun b x h => e10 _ _ h, R, s, ds2, W0.mono e10, C0, hl0, Dw, Dlw⟩) ?_ ?_
          · clear hR0 T0 hr0 hL0 hP0 W0 C0 hl0 Dw Dlw
            rintro k σ' H0 hk ⟨⟨v5, v8, v9, v10, v11, v12, v13, v14, v15, v16, v17, rfl⟩, hR0, T0, hr0, hL0, hP0, R, s, ds2, W0, C0, hl0, Dw, Dlw⟩
            have hdl : das.length = ds.length := hP0.length
            -- at, fresh
            refine (er_next (a := a) (c := c) (H0 := H0) (Pm := fun m => m = (ds.length : Int) + 1) rfl (er_mono (er_ev hi_stb fun H' i' => ev_I0 (g := fun i j => .int (i + j)) (ev_len (ev_var rfl) (sq_of (i'.1.1 _ _ (DLa dL (by simp)) hL0))) ev_c) fun v h => ⟨_, h, by rw [List.length_map, hdl]⟩) (fun m h => by rw [h]; omega)) H0 (HI.refl hR0) _ fun _ H1 i1 ⟨at_, m, e, em, hat⟩ => ?_
            subst e
            subst em
            have hr1 := hr0.ex i1.1.2
            refine ⟨_, rfl, r, rs, rfl, hr1, fun fa R2 H2 e2 W2f n2 => ⟨_, _, rfl, go_nx ?_⟩⟩
            have hR2 := i1.2.mono e2
            have W1w := W0.fr i1.1 Dw
            have hL1 : H1 dL = some (.lst (das.map V.ref)) := i1.1.1 _ _ (DLa dL (by simp)) hL0
            have DF : Dj R2 [a, c] := Dj.new n2 i1.2.known
            have DFL : Dj [dL] R2 := fun b hb hm => by
              obtain rfl : b = dL := by simpa using hb
              have := n2 b hm
              rw [hL1] at this
              cases this
            have DFw : Dj R R2 := (Dj.new n2 W1w.known).symm
            -- the odd ones, the list with one of them, the sizes
            refine q_lst8 ?_
            refine odds_go (a := a) (c := c) (wa := wa) rfl rfl hR2 (W1w.mono e2) C0.o Dw fun oL xs H3 i3 oA hO hPk => ?_
            refine q_lst8 ?_
            refine some_go (K := K) (c := c) (m := at_) rfl rfl rfl rfl i3.2 (i3.1.1 _ _ (DLa dL (by simp)) (e2 _ _ hL1)) (DLa dL (by simp)) oA hO hPk (by omega) (by omega) fun so b it H4 H5 i4 e5 nso hso hit git => ?_
            refine q_par (tc_go (sizes_go fun dz H6 ndz e6 hdz => ⟨_, _, rfl, ?_⟩))
            have i24 := i3.trans i4
            have i26 := (i24.ext e5).ext e6
            have W4f : WAt H4 fa R2 r rs sta0 [] := W2f.fr i24.1 DF
            have W6f : WAt H6 fa R2 r rs sta0 [] := W2f.fr i26.1 DF
            have nsR : so ∉ R2 := fun h => W4f.known so h nso
            have nzR : dz ∉ R2 := fun h => (W4f.mono e5).known dz h ndz
            have hL6 : H6 dL = some (.lst (das.map V.ref)) := i26.1.1 _ _ (DLa dL (by simp)) (e2 _ _ hL1)
            have hP6 : Pr (fun a x => H6 a = some (.tup (Deed.vals x))) das ds := hP0.mono fun b x h => i26.1.2 _ _ (e2 _ _ (i1.1.2 _ _ h))
            have hr6 : RulesAt H6 r rs := hr1.ex fun b l h => i26.1.2 _ _ (e2 _ _ h)
            have W6w : WAt H6 wa R r rs s ds2 := (W1w.mono e2).fr i26.1 Dw
            have T6 : Tabs T H6 := tabs_fr (tabs_ex (tabs_fr T0 i1.1 hR0.ntc) e2) i26.1 hR2.ntc
            have hso6 := e6 _ _ hso
            have hS6 := somes_at (m := at_) hP6 (e6 _ _ hit)
            have gS := somes_itg (m := at_) git C5.m fun d hd => Deed.lay (C5.c d hd)
            have lS : (somes ds at_ it).length ≤ 1000 := by rw [somes_len]; omega
            refine q_cut (M := fun σ' H' => ∃ v, LV σ' [some (.ref sc), some (.ref a), some (.int (i : Int)), some (.ref r), some (.ref wa), some (.int (k : Int)), some (.ref dL), some (.ref p), v8, some (iv at_), some (.ref oL), v17] fa so dz v ∧ Fr R2 H6 H' ∧ ((v = .non ∧ ∃ s', doAll rs sta0 0 (somes ds at_ it) = .inr s') ∨ ∃ i : Nat, v = .int i ∧ doAll rs sta0 0 (somes ds at_ it) = .inl i))
              (loopK (K := K) ⟨_, _, _, _, _, _, _, _, _, _, _, _, _, _, rfl, rfl⟩ RO gS lS hso6 hS6 hdz nsR nzR W6f fun σ' H' v hv f h => ⟨v, hv, f, h⟩) ?_
            rintro σ' H7 ⟨v, ⟨x0, x1, x2, x3, x4, x5, x6, x7, x8, x9, x11, w15, w16, x17, ey, rfl⟩, f7, hres⟩
            cases ey
            refine q_asgX (due_go rfl hres) fun x H8 e8 ⟨du, ex, hdu⟩ => ?_
            subst ex
            have hR8 : HR H8 a c := (i26.2.frN (FrN.of f7) DF.symm).mono e8
            have T8 := tabs_ex (tabs_fr T6 f7 W6f.ntc) e8
            have hr8 : RulesAt H8 r rs := hr6.ex fun b l h => e8 _ _ (f7.2 _ _ h)
            have hL8 := e8 _ _ (f7.1 _ _ (DFL dL (by simp)) hL6)
            have hP8 : Pr (fun a x => H8 a = some (.tup (Deed.vals x))) das ds := hP6.mono fun b x h => e8 _ _ (f7.2 _ _ h)
            have W8w : WAt H8 wa R r rs s ds2 := (W6w.fr f7 DFw).mono e8
            refine cmpK (K := K) (T := T) (xa := xa) (xd := xd) (C := C) rfl rfl rfl T8 hr8 RO gS lS (e8 _ _ (f7.1 _ _ nsR hso6)) (hS6.mono fun b x h => e8 _ _ (f7.2 _ _ h)) hdu fun H9 f9 T9 => ?_
            exact ⟨⟨_, _, _, _, _, _, _, _, _, _, _, rfl⟩, hR8.frN f9 (fun b _ h => nomatch h), T9, hr8.ex f9.2, f9.1 _ _ (fun h => nomatch h) hL8 (fun ps z => by cases z), hP8.mono fun b x h => f9.2 _ _ h, R, s, ds2, W8w.frN f9 (fun b _ h => nomatch h), C0, hl0, Dw, Dlw⟩
          · rintro σ' H0 ⟨⟨v5, v8, v9, v10, v11, v12, v13, v14, v15, v16, v17, rfl⟩, hR0, T0, _⟩
            exact ⟨⟨_, _, _, _, _, _, _, _, _, _, _, _, _, _, _, _, rfl⟩, hR0, T0⟩
    · exact s_ret (D := { nx := fun _ H' => Q .non H', rt := Q }) ev_c fun H3 e3 => kQ H3
end
end S8
set_option Elab.async false
set_option linter.all false
set_option maxRecDepth 100000
set_option maxHeartbeats 400000
set_option pp.maxSteps 2000
namespace S8
open PySem PySem.Spec PyProof.Rows L2 L2H HotX Evl LamX
/-! ### what the top has left -/
section
variable {K : PySem.W.Frag} {h : Heap} {mg : Str → Option Value} {x qual m : Str} {st : Stmt} {f C c : Addr} {oc : Value} {od an : Option Addr} {osl : Array (Option Value)} {kV doc pm cdv ct : Value}
theorem glb_mk {v : V} {u : Value} (X : K.In h) (G : h.Ns mainGlobals mg) (e : PySem.W.nsIn K mainGlobals x = some (some u)) (r : RelV v u) : Glb mg x v := ⟨u, PySem.W.mg_of X G e, r⟩
structure DefAt (K : PySem.W.Frag) (mg : Str → Option Value) (x : Str) (st : Stmt) : Prop where
  ex : ∃ f fd, mg x = some (.ref f) ∧ PySem.W.keepIn K (.ref f) = true ∧ Fun K x x st f fd
theorem DefAt.mk' (X : K.In h) (G : h.Ns mainGlobals mg) (a : PySem.W.nsIn K mainGlobals x = some (some (.ref f))) (l : K.lookup f = some ⟨oc, od, .func (PySem.W.fnOf x x (defArgs st) (defBody st) (defScope st) .none kV doc pm an cdv ct), osl⟩) (c : PySem.W.codeIn K cdv x = true) (k : PySem.W.keepIn K (.ref f) = true) : DefAt K mg x st := ⟨f, _, PySem.W.mg_of X G a, k, fun_mk l c k⟩
structure MethAt (K : PySem.W.Frag) (C : Addr) (m qual : Str) (st : Stmt) : Prop where
  ex : ∃ f fd, Meth K C m f ∧ Fun K m qual st f fd
theorem MethAt.mk' (a : PySem.W.findIn K (.ref C) m = some (some (.ref f))) (i : PySem.W.isFn K (.ref f) = true) (l : K.lookup f = some ⟨oc, od, .func (PySem.W.fnOf m qual (defArgs st) (defBody st) (defScope st) .none kV doc pm an cdv ct), osl⟩) (c : PySem.W.codeIn K cdv qual = true) (k : PySem.W.keepIn K (.ref f) = true) : MethAt K C m qual st := ⟨f, _, ⟨a, i, k⟩, fun_mk l c k⟩
structure InitAt (K : PySem.W.Frag) (C : Addr) (qual : Str) (st : Stmt) : Prop where
  ex : ∃ f fd, PySem.W.findIn K (.ref C) "__init__" = some (some (.ref f)) ∧ PySem.W.typeIn K (.ref f) = some (.type "function") ∧ Fun K "__init__" qual st f fd
theorem InitAt.mk' (a : PySem.W.findIn K (.ref C) "__init__" = some (some (.ref f))) (i : PySem.W.typeIn K (.ref f) = some (.type "function")) (l : K.lookup f = some ⟨oc, od, .func (PySem.W.fnOf "__init__" qual (defArgs st) (defBody st) (defScope st) .none kV doc pm an cdv ct), osl⟩) (c : PySem.W.codeIn K cdv qual = true) (k : PySem.W.keepIn K (.ref f) = true) : InitAt K C qual st := ⟨f, _, a, i, fun_mk l c k⟩
structure DefCAt (K : PySem.W.Frag) (mg : Str → Option Value) (x : Str) (st : Stmt) (c : Addr) : Prop where
  ex : ∃ f fd, mg x = some (.ref f) ∧ PySem.W.keepIn K (.ref f) = true ∧ FunC K x x st f fd c ∧ Fun K x x st f fd
theorem DefCAt.mk' (X : K.In h) (G : h.Ns mainGlobals mg) (a : PySem.W.nsIn K mainGlobals x = some (some (.ref f))) (l : K.lookup f = some ⟨oc, od, .func (PySem.W.fnOf x x (defArgs st) (defBody st) (defScope st) .none kV doc pm an (.ref c) ct), osl⟩) (cc : PySem.W.codeIn K (.ref c) x = true) (k : PySem.W.keepIn K (.ref f) = true) : DefCAt K mg x st c :=
  ⟨f, _, PySem.W.mg_of X G a, k, ⟨oc, od, kV, doc, pm, an, ct, osl, rfl, l, cc⟩, fun_mk l cc k⟩
theorem oexC_mk {nm q : Str} {N : Addr} {bs bm : List Value} {sn : List Str} {sub : List Value} {ab : Bool} {col : Option Bool} {dd : Option Addr} {k0 k1 k2 k3 k5 : Option Value} (l : K.lookup C = some (excClassObj nm q C N bs bm true sn sub ab col dd k0 k1 k2 k3 k5 "ValueError.__new__")) (r : PySem.HandSPX.refsVE bm = true)
    (sa : PySem.W.findIn K (.ref C) "__setattr__" = some (some (.builtin "object.__setattr__"))) (ex : PySem.W.subIn K (.ref C) (.type "BaseException") = some true) (ty : PySem.W.typeIn K (.ref C) = some (.type "type")) (kp : PySem.W.keepIn K (.ref C) = true) : OexC K C :=
  ⟨⟨nm, q, N, bs, bm, sn, sub, ab, col, dd, k0, k1, k2, k3, k5, l, r⟩, sa, ex, ty, kp⟩
theorem szD_mk {w : World} {d : Addr} {es : Array DictEntry} {n : Nat} {u1 u2 u3 u4 u5 : Value} (X : K.In h) (G : h.Ns mainGlobals mg) (a : PySem.W.nsIn K mainGlobals "SIZES" = some (some (.ref d))) (l : K.lookup d = some ⟨.type "dict", none, .dict es n, #[]⟩) (z : PySem.W.KeysLit w.params es.toList) (y : (d == sysModules) = false)
    (n1 : PySem.W.nsIn K d "put" = some (some u1)) (r1 : RelV (.int 3) u1) (n2 : PySem.W.nsIn K d "take" = some (some u2)) (r2 : RelV (.int 2) u2) (n3 : PySem.W.nsIn K d "bar" = some (some u3)) (r3 : RelV (.int 2) u3) (n4 : PySem.W.nsIn K d "unbar" = some (some u4)) (r4 : RelV (.int 2) u4)
    (n5 : PySem.W.nsIn K d "tick" = some (some u5)) (r5 : RelV (.int 1) u5) (n6 : PySem.W.nsIn K d "go" = some none) : SzD K w mg := ⟨d, es, n, glb_mk X G a rfl, ⟨l, z, y⟩, fun k hk => by
  simp only [words, List.mem_cons, List.not_mem_nil, or_false] at hk
  rcases hk with rfl | rfl | rfl | rfl | rfl | rfl
  · exact .inl ⟨u1, n1, r1⟩
  · exact .inl ⟨u2, n2, r2⟩
  · exact .inl ⟨u3, n3, r3⟩
  · exact .inl ⟨u4, n4, r4⟩
  · exact .inl ⟨u5, n5, r5⟩
  · exact .inr ⟨n6, by rfl⟩⟩
end
section
variable {K : PySem.W.Frag} {f : Addr} {fd : FuncData}
theorem bi_IsKind (F : Fun K "is_kind" "is_kind" sIsKind f fd) : Binds K fd pIsKind [] := F.binds (ps := pIsKind) fun _ _ _ _ _ _ us hl => match us, hl with | [_], _ => rfl
theorem bi_IsRule (F : Fun K "is_rule" "is_rule" sIsRule f fd) : Binds K fd pIsRule [] := F.binds (ps := pIsRule) fun _ _ _ _ _ _ us hl => match us, hl with | [_], _ => rfl
theorem bi_Need (F : Fun K "need_rules" "need_rules" sNeed f fd) : Binds K fd pNeed [] := F.binds (ps := pNeed) fun _ _ _ _ _ _ us hl => match us, hl with | [_], _ => rfl
theorem bi_Beside (F : Fun K "beside" "beside" sBeside f fd) : Binds K fd pBeside [] := F.binds (ps := pBeside) fun _ _ _ _ _ _ us hl => match us, hl with | [_, _, _], _ => rfl
theorem bi_Counted (F : Fun K "counted" "counted" sCounted f fd) : Binds K fd pCounted [] := F.binds (ps := pCounted) fun _ _ _ _ _ _ us hl => match us, hl with | [_, _, _, _], _ => rfl
theorem bi_Turned (F : Fun K "turned" "turned" sTurned f fd) : Binds K fd pTurned [] := F.binds (ps := pTurned) fun _ _ _ _ _ _ us hl => match us, hl with | [_, _, _], _ => rfl
theorem bi_BeatOf (F : Fun K "beat_of" "beat_of" sBeatOf f fd) : Binds K fd pBeatOf [] := F.binds (ps := pBeatOf) fun _ _ _ _ _ _ us hl => match us, hl with | [_, _, _], _ => rfl
theorem bi_Do (F : Fun K "do" "do" sDo f fd) : Binds K fd pDo [] := F.binds (ps := pDo) fun _ _ _ _ _ _ us hl => match us, hl with | [_, _], _ => rfl
theorem bi_Again (F : Fun K "again" "again" sAgain f fd) : Binds K fd pAgain [] := F.binds (ps := pAgain) fun _ _ _ _ _ _ us hl => match us, hl with | [_, _], _ => rfl
theorem bi_Mix (F : Fun K "_law_mix" "_law_mix" sMix f fd) : Binds K fd pMix [] := F.binds (ps := pMix) fun _ _ _ _ _ _ us hl => match us, hl with | [_, _], _ => rfl
theorem bi_Next (F : Fun K "_law_next" "_law_next" sNext f fd) : Binds K fd pNext [] := F.binds (ps := pNext) fun _ _ _ _ _ _ us hl => match us, hl with | [_, _], _ => rfl
theorem bi_Alike (F : Fun K "_law_alike" "_law_alike" sAlike f fd) : Binds K fd pAlike [] := F.binds (ps := pAlike) fun _ _ _ _ _ _ us hl => match us, hl with | [_, _], _ => rfl
theorem bi_Rules (F : Fun K "_law_rules" "_law_rules" sRules f fd) : Binds K fd pRules [] := F.binds (ps := pRules) fun _ _ _ _ _ _ us hl => match us, hl with | [_, _, _], _ => rfl
theorem bi_LBeside (F : Fun K "_law_beside" "_law_beside" sLBeside f fd) : Binds K fd pLBeside [] := F.binds (ps := pLBeside) fun _ _ _ _ _ _ us hl => match us, hl with | [_, _, _], _ => rfl
theorem bi_LBeat (F : Fun K "_law_beat" "_law_beat" sLBeat f fd) : Binds K fd pLBeat [] := F.binds (ps := pLBeat) fun _ _ _ _ _ _ us hl => match us, hl with | [_, _, _], _ => rfl
theorem bi_Kind (F : Fun K "_law_kind" "_law_kind" sKind f fd) : Binds K fd pKind [] := F.binds (ps := pKind) fun _ _ _ _ _ _ us hl => match us, hl with | [_], _ => rfl
theorem bi_LShelf (F : Fun K "_law_shelf" "_law_shelf" sLShelf f fd) : Binds K fd pLShelf [] := F.binds (ps := pLShelf) fun _ _ _ _ _ _ us hl => match us, hl with | [_], _ => rfl
theorem bi_LBars (F : Fun K "_law_bars" "_law_bars" sLBars f fd) : Binds K fd pLBars [] := F.binds (ps := pLBars) fun _ _ _ _ _ _ us hl => match us, hl with | [_], _ => rfl
theorem bi_Done (F : Fun K "_law_done" "_law_done" sDone f fd) : Binds K fd pDone [] := F.binds (ps := pDone) fun _ _ _ _ _ _ us hl => match us, hl with | [_, _], _ => rfl
theorem bi_LDeed (F : Fun K "_law_deed" "_law_deed" sLDeed f fd) : Binds K fd pLDeed [] := F.binds (ps := pLDeed) fun _ _ _ _ _ _ us hl => match us, hl with | [_, _, _], _ => rfl
theorem bi_Real (F : Fun K "_law_real" "_law_real" sReal f fd) : Binds K fd pReal [] := F.binds (ps := pReal) fun _ _ _ _ _ _ us hl => match us, hl with | [_, _], _ => rfl
theorem bi_Stands (F : Fun K "_law_stands" "_law_stands" sStands f fd) : Binds K fd pStands [] := F.binds (ps := pStands) fun _ _ _ _ _ _ us hl => match us, hl with | [_, _], _ => rfl
theorem bi_Told (F : Fun K "_law_told" "_law_told" sTold f fd) : Binds K fd pTold [] := F.binds (ps := pTold) fun _ _ _ _ _ _ us hl => match us, hl with | [_, _], _ => rfl
theorem bi_Init (F : Fun K "__init__" "Shelf.__init__" sInit f fd) : Binds K fd pInit [] := F.binds (ps := pInit) fun _ _ _ _ _ _ us hl => match us, hl with | [_, _], _ => rfl
theorem bi_Put (F : Fun K "put" "Shelf.put" sPut f fd) : Binds K fd pPut [] := F.binds (ps := pPut) fun _ _ _ _ _ _ us hl => match us, hl with | [_, _, _], _ => rfl
theorem bi_NeedP (F : Fun K "need_place" "Shelf.need_place" sNeedP f fd) : Binds K fd pNeedP [] := F.binds (ps := pNeedP) fun _ _ _ _ _ _ us hl => match us, hl with | [_, _, _], _ => rfl
theorem bi_Take (F : Fun K "take" "Shelf.take" sTake f fd) : Binds K fd pTake [] := F.binds (ps := pTake) fun _ _ _ _ _ _ us hl => match us, hl with | [_, _], _ => rfl
theorem bi_Bar (F : Fun K "bar" "Shelf.bar" sBar f fd) : Binds K fd pBar [] := F.binds (ps := pBar) fun _ _ _ _ _ _ us hl => match us, hl with | [_, _], _ => rfl
theorem bi_Unbar (F : Fun K "unbar" "Shelf.unbar" sUnbar f fd) : Binds K fd pUnbar [] := F.binds (ps := pUnbar) fun _ _ _ _ _ _ us hl => match us, hl with | [_, _], _ => rfl
theorem bi_Bars (F : Fun K "bars" "Shelf.bars" sBars f fd) : Binds K fd pBars [] := F.binds (ps := pBars) fun _ _ _ _ _ _ us hl => match us, hl with | [_], _ => rfl
theorem bi_Tick (F : Fun K "tick" "Shelf.tick" sTick f fd) : Binds K fd pTick [] := F.binds (ps := pTick) fun _ _ _ _ _ _ us hl => match us, hl with | [_], _ => rfl
theorem bi_Look (F : Fun K "look" "Shelf.look" sLook f fd) : Binds K fd pLook [] := F.binds (ps := pLook) fun _ _ _ _ _ _ us hl => match us, hl with | [_], _ => rfl
theorem bi_World (F : Fun K "world" "Shelf.world" sWorld f fd) : Binds K fd pWorld [] := F.binds (ps := pWorld) fun _ _ _ _ _ _ us hl => match us, hl with | [_], _ => rfl
theorem bi_Deeds (F : Fun K "deeds" "Shelf.deeds" sDeeds f fd) : Binds K fd pDeeds [] := F.binds (ps := pDeeds) fun _ _ _ _ _ _ us hl => match us, hl with | [_], _ => rfl
end
abbrev kaOf (c0 c1 c2 c3 c4 c5 c6 c7 c8 : Addr) : KA := ⟨c0, c1, c2, c3, c4, c5, c6, c7, c8⟩
structure Tops (K : PySem.W.Frag) (w : World) (mg : Str → Option Value) (bmB : List Value) (C RE c0 c1 c2 c3 c4 c5 c6 c7 c8 t1 t2 : Addr) : Prop where
  gC : mg "Shelf" = some (.ref C)
  gRE : mg "RowError" = some (.ref RE)
  gc0 : mg "BadRow" = some (.ref c0)
  gc1 : mg "NoJar" = some (.ref c1)
  gc2 : mg "BadBars" = some (.ref c2)
  gc3 : mg "BadRules" = some (.ref c3)
  gc4 : mg "BadKept" = some (.ref c4)
  gc5 : mg "BadDeed" = some (.ref c5)
  gc6 : mg "BadText" = some (.ref c6)
  gc7 : mg "BadCount" = some (.ref c7)
  gc8 : mg "TooMany" = some (.ref c8)
  B : Bt mg
  SZ : SzD K w mg
  SC : ShC K C
  mkC : PySem.W.makesIn K C = true
  kC : PySem.W.keepIn K (.ref C) = true
  TR : RowErr K RE
  oRow : OexC K c0
  nRow : PySem.W.findIn K (.ref c0) "place" = some none
  iRow : InitAt K c0 "BadRow.__init__" sXRow
  xRow : XfC K c0
  oJar : OexC K c1
  nJar : PySem.W.findIn K (.ref c1) "place" = some none
  iJar : InitAt K c1 "NoJar.__init__" sXJar
  xJar : XfC K c1
  oDeed : OexC K c5
  nDeed : PySem.W.findIn K (.ref c5) "number" = some none
  iDeed : InitAt K c5 "BadDeed.__init__" sXDeed
  xDeed : XfC K c5
  xc : OwX K mg "BadCount" c7 bmB
  tJar : IsT K c1 (kaOf c0 c1 c2 c3 c4 c5 c6 c7 c8) 1
  tRow : IsT K c0 (kaOf c0 c1 c2 c3 c4 c5 c6 c7 c8) 0
  tDeed : IsT K c5 (kaOf c0 c1 c2 c3 c4 c5 c6 c7 c8) 5
  tCount : IsT K c7 (kaOf c0 c1 c2 c3 c4 c5 c6 c7 c8) 7
  eJar : PySem.W.exmOne K (.ref c1) (.ref RE) = some true
  eRow : PySem.W.exmOne K (.ref c0) (.ref RE) = some true
  eDeed : PySem.W.exmOne K (.ref c5) (.ref RE) = some true
  eCount : PySem.W.exmOne K (.ref c7) (.ref RE) = some true
  sJar : PySem.W.subIn K (.ref c1) (.type "BaseException") = some true
  sRow : PySem.W.subIn K (.ref c0) (.type "BaseException") = some true
  sCount : PySem.W.subIn K (.ref c7) (.type "BaseException") = some true
  dIsKind : DefAt K mg "is_kind" sIsKind
  dIsRule : DefAt K mg "is_rule" sIsRule
  dNeed : DefAt K mg "need_rules" sNeed
  dBeside : DefAt K mg "beside" sBeside
  dCounted : DefAt K mg "counted" sCounted
  dTurned : DefAt K mg "turned" sTurned
  dBeatOf : DefAt K mg "beat_of" sBeatOf
  dDo : DefAt K mg "do" sDo
  dAgain : DefAt K mg "again" sAgain
  dMix : DefAt K mg "_law_mix" sMix
  dNext : DefAt K mg "_law_next" sNext
  dAlike : DefAt K mg "_law_alike" sAlike
  dRules : DefAt K mg "_law_rules" sRules
  dLBeside : DefAt K mg "_law_beside" sLBeside
  dLBeat : DefAt K mg "_law_beat" sLBeat
  dKind : DefAt K mg "_law_kind" sKind
  dLShelf : DefAt K mg "_law_shelf" sLShelf
  dLBars : DefAt K mg "_law_bars" sLBars
  dDone : DefAt K mg "_law_done" sDone
  dLDeed : DefAt K mg "_law_deed" sLDeed
  dReal : DefAt K mg "_law_real" sReal
  dStands : DefAt K mg "_law_stands" sStands
  mInit : MethAt K C "__init__" "Shelf.__init__" sInit
  mPut : MethAt K C "put" "Shelf.put" sPut
  mNeedP : MethAt K C "need_place" "Shelf.need_place" sNeedP
  mTake : MethAt K C "take" "Shelf.take" sTake
  mBar : MethAt K C "bar" "Shelf.bar" sBar
  mUnbar : MethAt K C "unbar" "Shelf.unbar" sUnbar
  mBars : MethAt K C "bars" "Shelf.bars" sBars
  mTick : MethAt K C "tick" "Shelf.tick" sTick
  mLook : MethAt K C "look" "Shelf.look" sLook
  mWorld : MethAt K C "world" "Shelf.world" sWorld
  mDeeds : MethAt K C "deeds" "Shelf.deeds" sDeeds
  dTold : DefCAt K mg "_law_told" sTold t1
  dLaw : DefCAt K mg "law" sLaw t2
section
variable {P : Program} {w : World} {K : PySem.W.Frag} {mg : Str → Option Value} {base : Heap} {bmB : List Value} {C RE c0 c1 c2 c3 c4 c5 c6 c7 c8 t1 t2 : Addr}
theorem ok_all (t : Tops K w mg bmB C RE c0 c1 c2 c3 c4 c5 c6 c7 c8 t1 t2) (hbm : ExcBaseFacts "ValueError" "ValueError.__new__" "ValueError.__init__" bmB) {T : List (Addr × Str)} {P1 P2 fa : Addr} (hfa : mg "law" = some (.ref fa)) (TB1 : TabB base mg t1 P1) (TB2 : TabB base mg t2 P2)
    (m1 : (P1, ("_law_told.<locals>.<lambda>" : Str)) ∈ T) (u1 : ∀ p ∈ T, p.1 = P1 → p.2 = ("_law_told.<locals>.<lambda>" : Str)) (m2 : (P2, ("law.<locals>.<lambda>" : Str)) ∈ T) (u2 : ∀ p ∈ T, p.1 = P2 → p.2 = ("law.<locals>.<lambda>" : Str)) {fd : FuncData} (FL : FunC K "law" "law" sLaw fa fd t2) :
    FnOk P w K mg base CX0 9 fa fd pLaw (spLaw T K) := by
  obtain ⟨fIsKind, eIsKind, gIsKind, kIsKind, FIsKind⟩ := t.dIsKind.ex
  obtain ⟨fIsRule, eIsRule, gIsRule, kIsRule, FIsRule⟩ := t.dIsRule.ex
  obtain ⟨fNeed, eNeed, gNeed, kNeed, FNeed⟩ := t.dNeed.ex
  obtain ⟨fBeside, eBeside, gBeside, kBeside, FBeside⟩ := t.dBeside.ex
  obtain ⟨fCounted, eCounted, gCounted, kCounted, FCounted⟩ := t.dCounted.ex
  obtain ⟨fTurned, eTurned, gTurned, kTurned, FTurned⟩ := t.dTurned.ex
  obtain ⟨fBeatOf, eBeatOf, gBeatOf, kBeatOf, FBeatOf⟩ := t.dBeatOf.ex
  obtain ⟨fDo, eDo, gDo, kDo, FDo⟩ := t.dDo.ex
  obtain ⟨fAgain, eAgain, gAgain, kAgain, FAgain⟩ := t.dAgain.ex
  obtain ⟨fMix, eMix, gMix, kMix, FMix⟩ := t.dMix.ex
  obtain ⟨fNext, eNext, gNext, kNext, FNext⟩ := t.dNext.ex
  obtain ⟨fAlike, eAlike, gAlike, kAlike, FAlike⟩ := t.dAlike.ex
  obtain ⟨fRules, eRules, gRules, kRules, FRules⟩ := t.dRules.ex
  obtain ⟨fLBeside, eLBeside, gLBeside, kLBeside, FLBeside⟩ := t.dLBeside.ex
  obtain ⟨fLBeat, eLBeat, gLBeat, kLBeat, FLBeat⟩ := t.dLBeat.ex
  obtain ⟨fKind, eKind, gKind, kKind, FKind⟩ := t.dKind.ex
  obtain ⟨fLShelf, eLShelf, gLShelf, kLShelf, FLShelf⟩ := t.dLShelf.ex
  obtain ⟨fLBars, eLBars, gLBars, kLBars, FLBars⟩ := t.dLBars.ex
  obtain ⟨fDone, eDone, gDone, kDone, FDone⟩ := t.dDone.ex
  obtain ⟨fLDeed, eLDeed, gLDeed, kLDeed, FLDeed⟩ := t.dLDeed.ex
  obtain ⟨fReal, eReal, gReal, kReal, FReal⟩ := t.dReal.ex
  obtain ⟨fStands, eStands, gStands, kStands, FStands⟩ := t.dStands.ex
  obtain ⟨fInit, eInit, MInit, FInit⟩ := t.mInit.ex
  obtain ⟨fPut, ePut, MPut, FPut⟩ := t.mPut.ex
  obtain ⟨fNeedP, eNeedP, MNeedP, FNeedP⟩ := t.mNeedP.ex
  obtain ⟨fTake, eTake, MTake, FTake⟩ := t.mTake.ex
  obtain ⟨fBar, eBar, MBar, FBar⟩ := t.mBar.ex
  obtain ⟨fUnbar, eUnbar, MUnbar, FUnbar⟩ := t.mUnbar.ex
  obtain ⟨fBars, eBars, MBars, FBars⟩ := t.mBars.ex
  obtain ⟨fTick, eTick, MTick, FTick⟩ := t.mTick.ex
  obtain ⟨fLook, eLook, MLook, FLook⟩ := t.mLook.ex
  obtain ⟨fWorld, eWorld, MWorld, FWorld⟩ := t.mWorld.ex
  obtain ⟨fDeeds, eDeeds, MDeeds, FDeeds⟩ := t.mDeeds.ex
  obtain ⟨fTold, eTold, gTold, kTold, CTold, FTold⟩ := t.dTold.ex
  obtain ⟨fXRow, eXRow, aXRow, tXRow, FXRow⟩ := t.iRow.ex
  obtain ⟨fXJar, eXJar, aXJar, tXJar, FXJar⟩ := t.iJar.ex
  obtain ⟨fXDeed, eXDeed, aXDeed, tXDeed, FXDeed⟩ := t.iDeed.ex
  have B := t.B
  have SC := t.SC
  have KRow : KwX P w K mg base "BadRow" "place" c0 := ⟨t.gc0, t.oRow, t.nRow, fXRow, eXRow, aXRow, tXRow, ok_xRow FXRow t.gRE t.TR, bi_xRow FXRow⟩
  have KJar : KwX P w K mg base "NoJar" "place" c1 := ⟨t.gc1, t.oJar, t.nJar, fXJar, eXJar, aXJar, tXJar, ok_xJar FXJar t.gRE t.TR, bi_xJar FXJar⟩
  have KDeed : KwX P w K mg base "BadDeed" "number" c5 := ⟨t.gc5, t.oDeed, t.nDeed, fXDeed, eXDeed, aXDeed, tXDeed, ok_xDeed FXDeed t.gRE t.TR, bi_xDeed FXDeed⟩
  have KDeedH : KwH P w K mg base "number" c5 := ⟨fXDeed, eXDeed, aXDeed, tXDeed, ok_xDeedH FXDeed t.gRE t.TR, bi_xDeed FXDeed⟩
  have GIsKind := ok_isKind (P := P) (w := w) (base := base) FIsKind B
  have GIsRule := ok_isRule (P := P) (w := w) (base := base) FIsRule B gIsKind kIsKind (bi_IsKind FIsKind) GIsKind
  have GNeed := ok_need (P := P) (w := w) (base := base) FNeed B gIsRule kIsRule (bi_IsRule FIsRule) GIsRule
  have GBeside := ok_beside (P := P) (w := w) (base := base) FBeside B
  have GCounted := ok_counted (P := P) (w := w) (base := base) FCounted B gBeside kBeside (bi_Beside FBeside) GBeside
  have GTurned := ok_turned (P := P) (w := w) (base := base) FTurned B
  have GBeatOf := ok_beatOf (P := P) (w := w) (base := base) FBeatOf B gCounted kCounted (bi_Counted FCounted) GCounted gTurned kTurned (bi_Turned FTurned) GTurned
  have GInit := ok_init (P := P) (w := w) (base := base) FInit B SC gNeed kNeed (bi_Need FNeed) GNeed
  have GPut := ok_put (P := P) (w := w) (base := base) (xa := ⟨c1, c0, c7⟩) FPut B SC KJar KRow t.xc hbm gIsKind kIsKind (bi_IsKind FIsKind) GIsKind
  have GNeedP := ok_needP (P := P) (w := w) (base := base) (xa := ⟨c1, c0, c7⟩) FNeedP B KJar
  have GTake := ok_take (P := P) (w := w) (base := base) (xa := ⟨c1, c0, c7⟩) FTake B SC MNeedP (bi_NeedP FNeedP) GNeedP
  have GBar := ok_bar (P := P) (w := w) (base := base) (xa := ⟨c1, c0, c7⟩) FBar B SC KJar MNeedP (bi_NeedP FNeedP) GNeedP
  have GUnbar := ok_unbar (P := P) (w := w) (base := base) (xa := ⟨c1, c0, c7⟩) FUnbar B SC KJar MNeedP (bi_NeedP FNeedP) GNeedP
  have GBars := ok_bars (P := P) (w := w) (base := base) FBars B SC
  have GTick := ok_tick (P := P) (w := w) (base := base) (xa := ⟨c1, c0, c7⟩) FTick B SC MBars (bi_Bars FBars) GBars gBeatOf kBeatOf (bi_BeatOf FBeatOf) GBeatOf
  have GDeeds := ok_deeds (P := P) (w := w) (base := base) FDeeds B SC
  have GWorld := ok_world (P := P) (w := w) (base := base) FWorld B SC MBars (bi_Bars FBars) GBars
  have GLook := ok_look (P := P) (w := w) (base := base) FLook B SC
  have GDo := ok_do (P := P) (w := w) (base := base) (xa := ⟨c1, c0, c7⟩) FDo B SC MPut (bi_Put FPut) GPut MTake (bi_Take FTake) GTake MBar (bi_Bar FBar) GBar MUnbar (bi_Unbar FUnbar) GUnbar MTick (bi_Tick FTick) GTick
  have GAgain := ok_again (P := P) (w := w) (base := base) (xa := ⟨c1, c0, c7⟩) (xd := c5) (C := C) FAgain B t.SZ KDeed KDeedH t.gRE ⟨t.mkC, MInit.at_, MInit.fn, t.kC⟩ t.gC (bi_Init FInit) GInit gDo kDo (bi_Do FDo) GDo t.sJar t.sRow t.sCount t.eJar t.eRow t.eCount (bmB := bmB)
  have GMix := ok_mix (P := P) (w := w) (base := base) FMix B
  have GNext := ok_next (P := P) (w := w) (base := base) FNext B
  have A0 := ok_alike0 (P := P) (w := w) (K := K) (mg := mg) (base := base) (f := fAlike) (fd := eAlike)
  have A1 := ok_alikeS FAlike B gAlike kAlike (bi_Alike FAlike) A0
  have A2 := ok_alikeS FAlike B gAlike kAlike (bi_Alike FAlike) A1
  have A3 := ok_alikeS FAlike B gAlike kAlike (bi_Alike FAlike) A2
  have A4 := ok_alikeS FAlike B gAlike kAlike (bi_Alike FAlike) A3
  have GAlike := A4
  have GRules := ok_rules (P := P) (w := w) (base := base) FRules B gNext kNext (bi_Next FNext) GNext
  have GLBeside := ok_lbeside (P := P) (w := w) (base := base) FLBeside B
  have GLBeat := ok_lbeat (P := P) (w := w) (base := base) FLBeat B gLBeside kLBeside (bi_LBeside FLBeside) GLBeside
  have GLShelf := ok_lshelf (P := P) (w := w) (base := base) (mg := mg) FLShelf
  have GLBars := ok_lbars (P := P) (w := w) (base := base) FLBars B
  have GDone := ok_done (P := P) (w := w) (base := base) FDone B gLBeat kLBeat (bi_LBeat FLBeat) GLBeat gLBars kLBars (bi_LBars FLBars) GLBars
  have GLDeed := ok_ldeed (P := P) (w := w) (base := base) FLDeed B gNext kNext (bi_Next FNext) GNext
  have GReal := ok_real (P := P) (w := w) (base := base) (mg := mg) (xa := ⟨c1, c0, c7⟩) FReal SC MPut (bi_Put FPut) GPut MTake (bi_Take FTake) GTake MBar (bi_Bar FBar) GBar MUnbar (bi_Unbar FUnbar) GUnbar MTick (bi_Tick FTick) GTick
  have GStands := ok_stands (P := P) (w := w) (base := base) FStands B SC gAlike kAlike (bi_Alike FAlike) GAlike MLook (bi_Look FLook) GLook MBars (bi_Bars FBars) GBars MWorld (bi_World FWorld) GWorld MDeeds (bi_Deeds FDeeds) GDeeds gLBars kLBars (bi_LBars FLBars) GLBars
  have KG' : KG mg (kaOf c0 c1 c2 c3 c4 c5 c6 c7 c8) := ⟨⟨_, t.gc0, rfl⟩, ⟨_, t.gc1, rfl⟩, ⟨_, t.gc2, rfl⟩, ⟨_, t.gc3, rfl⟩, ⟨_, t.gc4, rfl⟩, ⟨_, t.gc5, rfl⟩, ⟨_, t.gc6, rfl⟩, ⟨_, t.gc7, rfl⟩, ⟨_, t.gc8, rfl⟩⟩
  have KF : KindF K mg ⟨c1, c0, c7⟩ c5 RE (kaOf c0 c1 c2 c3 c4 c5 c6 c7 c8) := ⟨KG', t.gRE, t.tJar, t.tRow, t.tDeed, t.tCount, t.xJar, t.xRow, t.xDeed, t.nJar, t.nRow, t.nDeed, t.eJar, t.eRow, t.eDeed, t.eCount⟩
  have KD : KindD K mg fKind := ⟨gKind, kKind, eKind, FKind, bi_Kind FKind⟩
  have GTold := ok_told (P := P) (w := w) (base := base) (T := T) (P1 := P1) (c1 := t1) (C := C) CTold B KF KD gReal kReal (bi_Real FReal) GReal TB1 m1 u1
  have LF : LawF P w K mg base T ⟨c1, c0, c7⟩ c5 C := ⟨⟨fMix, eMix, gMix, kMix, bi_Mix FMix, GMix⟩, ⟨fNext, eNext, gNext, kNext, bi_Next FNext, GNext⟩, ⟨fAlike, eAlike, gAlike, kAlike, bi_Alike FAlike, GAlike⟩, ⟨fRules, eRules, gRules, kRules, bi_Rules FRules, GRules⟩, ⟨fLShelf, eLShelf, gLShelf, kLShelf, bi_LShelf FLShelf, GLShelf⟩, ⟨fDone, eDone, gDone, kDone, bi_Done FDone, GDone⟩, ⟨fLDeed, eLDeed, gLDeed, kLDeed, bi_LDeed FLDeed, GLDeed⟩, ⟨fTold, eTold, gTold, kTold, bi_Told FTold, GTold⟩, ⟨fStands, eStands, gStands, kStands, bi_Stands FStands, GStands⟩, ⟨fAgain, eAgain, gAgain, kAgain, bi_Again FAgain, GAgain⟩, ⟨fDeeds, eDeeds, MDeeds, bi_Deeds FDeeds, GDeeds⟩⟩
  exact ok_law FL B SC KF KD LF TB2 m2 u2
/-- the law at the head's heap -/
theorem law_at {l : PySem.W.OpenLaw} {h : Heap} {P1 P2 fa : Addr} {CX : CXT} (eC : CX = CX0) (KX : K.In h) (hfa : mg "law" = some (.ref fa)) (t : Tops K w mg bmB C RE c0 c1 c2 c3 c4 c5 c6 c7 c8 t1 t2) (hbm : ExcBaseFacts "ValueError" "ValueError.__new__" "ValueError.__init__" bmB) (hP : P1 ≠ P2)
    (tb1 : h.get? P1 = some { cls := .none, data := .fields #[] }) (tb2 : h.get? P2 = some { cls := .none, data := .fields #[] }) (n1 : K.lookup P1 = none) (n2 : K.lookup P2 = none) (h1 : PySem.W.codeHdIn K t1 P1 = true) (h2 : PySem.W.codeHdIn K t2 P2 = true) : LawAtS l w K CX 9 63 "_law_script" mg fa h := by
  subst eC
  obtain ⟨f, fd, g, k, FC, FF⟩ := t.dLaw.ex
  have e := hfa.symm.trans g
  cases e
  have two : ∀ p ∈ [(t1, P1), (t2, P2)], p = (t1, P1) ∨ p = (t2, P2) := fun p hp => by simpa using hp
  refine ⟨fd, [(t1, P1), (t2, P2)], spLaw [(P1, "_law_told.<locals>.<lambda>"), (P2, "law.<locals>.<lambda>")] K, fun p hp => ?_, fun p hp => ?_, fun p hp => ?_, fun s u => ?_, fun H a ns hn _ hT hS => ?_, fun base hK hN hB => ?_⟩
  · rcases two p hp with rfl | rfl
    · exact tb1
    · exact tb2
  · rcases two p hp with rfl | rfl
    · exact n1
    · exact n2
  · rcases two p hp with rfl | rfl
    · exact PySem.W.codeHd_of_K KX h1
    · exact PySem.W.codeHd_of_K KX h2
  · obtain ⟨oc, od, kV, doc, pm, an, cdv, ct, osl, rfl, lk, hcd⟩ := FF.ex
    exact .of_eq rfl
  · refine ⟨a, ns, rfl, hS, hn, fun p hp => ?_, fun _ => rfl⟩
    have hp' : p = (P1, ("_law_told.<locals>.<lambda>" : Str)) ∨ p = (P2, ("law.<locals>.<lambda>" : Str)) := by simpa using hp
    rcases hp' with rfl | rfl
    · exact TabS.nil (hT (t1, P1) (by simp))
    · exact TabS.nil (hT (t2, P2) (by simp))
  · refine ok_all t hbm hfa (hB (t1, P1) (by simp)) (hB (t2, P2) (by simp)) (by simp) (fun p hp e => ?_) (by simp) (fun p hp e => ?_) FC
    · have hp' : p = (P1, ("_law_told.<locals>.<lambda>" : Str)) ∨ p = (P2, ("law.<locals>.<lambda>" : Str)) := by simpa using hp
      rcases hp' with rfl | rfl
      · rfl
      · exact absurd e.symm hP
    · have hp' : p = (P1, ("_law_told.<locals>.<lambda>" : Str)) ∨ p = (P2, ("law.<locals>.<lambda>" : Str)) := by simpa using hp
      rcases hp' with rfl | rfl
      · exact absurd e hP
      · rfl
end
end S8
open PySem PySem.W PyProof.Rows
set_option Elab.async false
set_option maxRecDepth 100000
set_option maxHeartbeats 0
open_top headTop for PySem.Challenge.rw_sourrow_k08_whole_shelves_done_again
theorem PySem.Challenge.cw_sourrow_k08_whole_shelves_done_again_holds : PySem.Challenge.rw_sourrow_k08_whole_shelves_done_again.Holds :=
  headTop (by
    k_fill
    refine LamX.walk_ofTs (n := 63) (k := 9) (CX := fun _ => L2.CX0) (x := "_law_script") rfl (by decide) rfl ⟨rfl, by decide, by decide⟩ (fun w h Y => PySem.W.km_in_of Y) ?F (fun _ _ _ _ _ z => z)
    case F =>
      intro w mg fa h Y KX G hmg
      have tb := PySem.W.km_tabs_of Y
      refine' S8.law_at (P1 := 409) (P2 := 421) rfl KX hmg ?zT PySem.F.excBase_ValueError (by decide) (tb 409 (by simp)) (tb 421 (by simp)) ?z1 ?z2 ?z3 ?z4
      (case zT =>
        refine' S8.Tops.mk ?gC ?gRE ?gc0 ?gc1 ?gc2 ?gc3 ?gc4 ?gc5 ?gc6 ?gc7 ?gc8 ?B ?SZ ?SC ?mkC ?kC ?TR ?oRow ?nRow ?iRow ?xRow ?oJar ?nJar ?iJar ?xJar ?oDeed ?nDeed ?iDeed ?xDeed ?xc ?tJar ?tRow ?tDeed ?tCount ?eJar ?eRow ?eDeed ?eCount ?sJar ?sRow ?sCount ?dIsKind ?dIsRule ?dNeed ?dBeside ?dCounted ?dTurned ?dBeatOf ?dDo ?dAgain ?dMix ?dNext ?dAlike ?dRules ?dLBeside ?dLBeat ?dKind ?dLShelf ?dLBars ?dDone ?dLDeed ?dReal ?dStands ?mInit ?mPut ?mNeedP ?mTake ?mBar ?mUnbar ?mBars ?mTick ?mLook ?mWorld ?mDeeds ?dTold ?dLaw
        (case gC => (refine' PySem.W.mg_of KX G ?_; k_is))
        (case gRE => (refine' PySem.W.mg_of KX G ?_; k_is))
        (case gc0 => (refine' PySem.W.mg_of KX G ?_; k_is))
        (case gc1 => (refine' PySem.W.mg_of KX G ?_; k_is))
        (case gc2 => (refine' PySem.W.mg_of KX G ?_; k_is))
        (case gc3 => (refine' PySem.W.mg_of KX G ?_; k_is))
        (case gc4 => (refine' PySem.W.mg_of KX G ?_; k_is))
        (case gc5 => (refine' PySem.W.mg_of KX G ?_; k_is))
        (case gc6 => (refine' PySem.W.mg_of KX G ?_; k_is))
        (case gc7 => (refine' PySem.W.mg_of KX G ?_; k_is))
        (case gc8 => (refine' PySem.W.mg_of KX G ?_; k_is))
        (case B => (refine' S8.Bt.mk ?n_len ?n_min ?n_max ?n_enu ?n_zip ?n_tup ?n_lst ?n_rng ?n_isi ?n_str ?n_int ?n_bool ?n_ve ?b_kinds ?b_mJ ?b_mR ?b_mB ?b_gPut ?b_gTake ?b_gBar ?b_gOpen ?b_gBeat; (case n_len => (refine' PySem.W.mg_none_of KX G ?_; k_is)); (case n_min => (refine' PySem.W.mg_none_of KX G ?_; k_is)); (case n_max => (refine' PySem.W.mg_none_of KX G ?_; k_is)); (case n_enu => (refine' PySem.W.mg_none_of KX G ?_; k_is)); (case n_zip => (refine' PySem.W.mg_none_of KX G ?_; k_is)); (case n_tup => (refine' PySem.W.mg_none_of KX G ?_; k_is)); (case n_lst => (refine' PySem.W.mg_none_of KX G ?_; k_is)); (case n_rng => (refine' PySem.W.mg_none_of KX G ?_; k_is)); (case n_isi => (refine' PySem.W.mg_none_of KX G ?_; k_is)); (case n_str => (refine' PySem.W.mg_none_of KX G ?_; k_is)); (case n_int => (refine' PySem.W.mg_none_of KX G ?_; k_is)); (case n_bool => (refine' PySem.W.mg_none_of KX G ?_; k_is)); (case n_ve => (refine' PySem.W.mg_none_of KX G ?_; k_is)); (case b_kinds => (refine' S8.glb_mk KX G ?e ?r; (case e => k_is); (case r => exact ⟨_, rfl⟩))); (case b_mJ => (refine' S8.glb_mk KX G ?e ?r; (case e => k_is); (case r => exact ⟨_, rfl⟩))); (case b_mR => (refine' S8.glb_mk KX G ?e ?r; (case e => k_is); (case r => exact ⟨_, rfl⟩))); (case b_mB => (refine' S8.glb_mk KX G ?e ?r; (case e => k_is); (case r => exact ⟨_, rfl⟩))); (case b_gPut => (refine' S8.glb_mk KX G ?e ?r; (case e => k_is); (case r => exact ⟨_, rfl⟩))); (case b_gTake => (refine' S8.glb_mk KX G ?e ?r; (case e => k_is); (case r => exact ⟨_, rfl⟩))); (case b_gBar => (refine' S8.glb_mk KX G ?e ?r; (case e => k_is); (case r => exact ⟨_, rfl⟩))); (case b_gOpen => (refine' S8.glb_mk KX G ?e ?r; (case e => k_is); (case r => exact ⟨_, rfl⟩))); (case b_gBeat => (refine' S8.glb_mk KX G ?e ?r; (case e => k_is); (case r => exact ⟨_, rfl⟩)))))
        (case SZ => (refine' S8.szD_mk KX G ?a ?l ?z ?y ?n1 ?r1 ?n2 ?r2 ?n3 ?r3 ?n4 ?r4 ?n5 ?r5 ?n6; (case a => k_is); (case l => k_is); (case z => exact ⟨⟨_, _, rfl, rfl⟩, ⟨_, _, rfl, rfl⟩, ⟨_, _, rfl, rfl⟩, ⟨_, _, rfl, rfl⟩, ⟨_, _, rfl, rfl⟩, True.intro⟩); (case y => rfl); (case n1 => k_is); (case r1 => exact ⟨_, rfl⟩); (case n2 => k_is); (case r2 => exact ⟨_, rfl⟩); (case n3 => k_is); (case r3 => exact ⟨_, rfl⟩); (case n4 => k_is); (case r4 => exact ⟨_, rfl⟩); (case n5 => k_is); (case r5 => exact ⟨_, rfl⟩); (case n6 => k_is)))
        (case SC => (refine' S8.ShC.mk ⟨?pg, ?hd, ?po, ?sa⟩ ?a1 ?a2 ?a3 ?a4 ?a5; (case pg => k_is); (case hd => k_is); (case po => k_is); (case sa => k_is); (case a1 => (unfold L2.NoAttr; k_is)); (case a2 => (unfold L2.NoAttr; k_is)); (case a3 => (unfold L2.NoAttr; k_is)); (case a4 => (unfold L2.NoAttr; k_is)); (case a5 => (unfold L2.NoAttr; k_is))))
        (case mkC => k_is)
        (case kC => k_is)
        (case TR => (refine' S8.RowErr.mk ?a ?b ?c; (case a => k_is); (case b => k_is); (case c => k_is)))
        (case oRow => (refine' S8.oexC_mk ?l ?r ?sa ?ex ?ty ?kp; (case l => k_is); (case r => decide +kernel); (case sa => k_is); (case ex => k_is); (case ty => k_is); (case kp => k_is)))
        (case nRow => k_is)
        (case iRow => (refine' S8.InitAt.mk' ?a ?i ?l ?c ?k; (case a => k_is); (case i => k_is); (case l => k_is); (case c => k_is); (case k => k_is)))
        (case xRow => (refine' L2.XfC.mk ?a ?b ?c ?d; (case a => k_is); (case b => k_is); (case c => k_is); (case d => k_is)))
        (case oJar => (refine' S8.oexC_mk ?l ?r ?sa ?ex ?ty ?kp; (case l => k_is); (case r => decide +kernel); (case sa => k_is); (case ex => k_is); (case ty => k_is); (case kp => k_is)))
        (case nJar => k_is)
        (case iJar => (refine' S8.InitAt.mk' ?a ?i ?l ?c ?k; (case a => k_is); (case i => k_is); (case l => k_is); (case c => k_is); (case k => k_is)))
        (case xJar => (refine' L2.XfC.mk ?a ?b ?c ?d; (case a => k_is); (case b => k_is); (case c => k_is); (case d => k_is)))
        (case oDeed => (refine' S8.oexC_mk ?l ?r ?sa ?ex ?ty ?kp; (case l => k_is); (case r => decide +kernel); (case sa => k_is); (case ex => k_is); (case ty => k_is); (case kp => k_is)))
        (case nDeed => k_is)
        (case iDeed => (refine' S8.InitAt.mk' ?a ?i ?l ?c ?k; (case a => k_is); (case i => k_is); (case l => k_is); (case c => k_is); (case k => k_is)))
        (case xDeed => (refine' L2.XfC.mk ?a ?b ?c ?d; (case a => k_is); (case b => k_is); (case c => k_is); (case d => k_is)))
        (case xc => (refine' S8.OwX.mk ?a ?q ?k ?b ?t; (case a => (refine' PySem.W.mg_of KX G ?_; k_is)); (case q => k_exc); (case k => k_is); (case b => k_is); (case t => k_is)))
        (case tJar => (refine' S8.IsT.mk ?b0 ?b1 ?b2 ?b3 ?b4 ?b5 ?b6 ?b7 ?b8 ?v ⟨?e1, ?e2, ?e3, ?e4, ?e5, ?e6, ?e7, ?e8⟩; (case b0 => kit_is); (case b1 => kit_is); (case b2 => kit_is); (case b3 => kit_is); (case b4 => kit_is); (case b5 => kit_is); (case b6 => kit_is); (case b7 => kit_is); (case b8 => kit_is); (case v => kit_is); (case e1 => k_is); (case e2 => k_is); (case e3 => k_is); (case e4 => k_is); (case e5 => k_is); (case e6 => k_is); (case e7 => k_is); (case e8 => k_is)))
        (case tRow => (refine' S8.IsT.mk ?b0 ?b1 ?b2 ?b3 ?b4 ?b5 ?b6 ?b7 ?b8 ?v ⟨?e1, ?e2, ?e3, ?e4, ?e5, ?e6, ?e7, ?e8⟩; (case b0 => kit_is); (case b1 => kit_is); (case b2 => kit_is); (case b3 => kit_is); (case b4 => kit_is); (case b5 => kit_is); (case b6 => kit_is); (case b7 => kit_is); (case b8 => kit_is); (case v => kit_is); (case e1 => k_is); (case e2 => k_is); (case e3 => k_is); (case e4 => k_is); (case e5 => k_is); (case e6 => k_is); (case e7 => k_is); (case e8 => k_is)))
        (case tDeed => (refine' S8.IsT.mk ?b0 ?b1 ?b2 ?b3 ?b4 ?b5 ?b6 ?b7 ?b8 ?v ⟨?e1, ?e2, ?e3, ?e4, ?e5, ?e6, ?e7, ?e8⟩; (case b0 => kit_is); (case b1 => kit_is); (case b2 => kit_is); (case b3 => kit_is); (case b4 => kit_is); (case b5 => kit_is); (case b6 => kit_is); (case b7 => kit_is); (case b8 => kit_is); (case v => kit_is); (case e1 => k_is); (case e2 => k_is); (case e3 => k_is); (case e4 => k_is); (case e5 => k_is); (case e6 => k_is); (case e7 => k_is); (case e8 => k_is)))
        (case tCount => (refine' S8.IsT.mk ?b0 ?b1 ?b2 ?b3 ?b4 ?b5 ?b6 ?b7 ?b8 ?v ⟨?e1, ?e2, ?e3, ?e4, ?e5, ?e6, ?e7, ?e8⟩; (case b0 => kit_is); (case b1 => kit_is); (case b2 => kit_is); (case b3 => kit_is); (case b4 => kit_is); (case b5 => kit_is); (case b6 => kit_is); (case b7 => kit_is); (case b8 => kit_is); (case v => kit_is); (case e1 => k_is); (case e2 => k_is); (case e3 => k_is); (case e4 => k_is); (case e5 => k_is); (case e6 => k_is); (case e7 => k_is); (case e8 => k_is)))
        (case eJar => kernel_rfl)
        (case eRow => kernel_rfl)
        (case eDeed => kernel_rfl)
        (case eCount => kernel_rfl)
        (case sJar => k_is)
        (case sRow => k_is)
        (case sCount => k_is)
        (case dIsKind => (refine' S8.DefAt.mk' KX G ?a ?l ?c ?k; (case a => k_is); (case l => k_is); (case c => k_is); (case k => k_is)))
        (case dIsRule => (refine' S8.DefAt.mk' KX G ?a ?l ?c ?k; (case a => k_is); (case l => k_is); (case c => k_is); (case k => k_is)))
        (case dNeed => (refine' S8.DefAt.mk' KX G ?a ?l ?c ?k; (case a => k_is); (case l => k_is); (case c => k_is); (case k => k_is)))
        (case dBeside => (refine' S8.DefAt.mk' KX G ?a ?l ?c ?k; (case a => k_is); (case l => k_is); (case c => k_is); (case k => k_is)))
        (case dCounted => (refine' S8.DefAt.mk' KX G ?a ?l ?c ?k; (case a => k_is); (case l => k_is); (case c => k_is); (case k => k_is)))
        (case dTurned => (refine' S8.DefAt.mk' KX G ?a ?l ?c ?k; (case a => k_is); (case l => k_is); (case c => k_is); (case k => k_is)))
        (case dBeatOf => (refine' S8.DefAt.mk' KX G ?a ?l ?c ?k; (case a => k_is); (case l => k_is); (case c => k_is); (case k => k_is)))
        (case dDo => (refine' S8.DefAt.mk' KX G ?a ?l ?c ?k; (case a => k_is); (case l => k_is); (case c => k_is); (case k => k_is)))
        (case dAgain => (refine' S8.DefAt.mk' KX G ?a ?l ?c ?k; (case a => k_is); (case l => k_is); (case c => k_is); (case k => k_is)))
        (case dMix => (refine' S8.DefAt.mk' KX G ?a ?l ?c ?k; (case a => k_is); (case l => k_is); (case c => k_is); (case k => k_is)))
        (case dNext => (refine' S8.DefAt.mk' KX G ?a ?l ?c ?k; (case a => k_is); (case l => k_is); (case c => k_is); (case k => k_is)))
        (case dAlike => (refine' S8.DefAt.mk' KX G ?a ?l ?c ?k; (case a => k_is); (case l => k_is); (case c => k_is); (case k => k_is)))
        (case dRules => (refine' S8.DefAt.mk' KX G ?a ?l ?c ?k; (case a => k_is); (case l => k_is); (case c => k_is); (case k => k_is)))
        (case dLBeside => (refine' S8.DefAt.mk' KX G ?a ?l ?c ?k; (case a => k_is); (case l => k_is); (case c => k_is); (case k => k_is)))
        (case dLBeat => (refine' S8.DefAt.mk' KX G ?a ?l ?c ?k; (case a => k_is); (case l => k_is); (case c => k_is); (case k => k_is)))
        (case dKind => (refine' S8.DefAt.mk' KX G ?a ?l ?c ?k; (case a => k_is); (case l => k_is); (case c => k_is); (case k => k_is)))
        (case dLShelf => (refine' S8.DefAt.mk' KX G ?a ?l ?c ?k; (case a => k_is); (case l => k_is); (case c => k_is); (case k => k_is)))
        (case dLBars => (refine' S8.DefAt.mk' KX G ?a ?l ?c ?k; (case a => k_is); (case l => k_is); (case c => k_is); (case k => k_is)))
        (case dDone => (refine' S8.DefAt.mk' KX G ?a ?l ?c ?k; (case a => k_is); (case l => k_is); (case c => k_is); (case k => k_is)))
        (case dLDeed => (refine' S8.DefAt.mk' KX G ?a ?l ?c ?k; (case a => k_is); (case l => k_is); (case c => k_is); (case k => k_is)))
        (case dReal => (refine' S8.DefAt.mk' KX G ?a ?l ?c ?k; (case a => k_is); (case l => k_is); (case c => k_is); (case k => k_is)))
        (case dStands => (refine' S8.DefAt.mk' KX G ?a ?l ?c ?k; (case a => k_is); (case l => k_is); (case c => k_is); (case k => k_is)))
        (case mInit => (refine' S8.MethAt.mk' ?a ?i ?l ?c ?k; (case a => k_is); (case i => k_is); (case l => k_is); (case c => k_is); (case k => k_is)))
        (case mPut => (refine' S8.MethAt.mk' ?a ?i ?l ?c ?k; (case a => k_is); (case i => k_is); (case l => k_is); (case c => k_is); (case k => k_is)))
        (case mNeedP => (refine' S8.MethAt.mk' ?a ?i ?l ?c ?k; (case a => k_is); (case i => k_is); (case l => k_is); (case c => k_is); (case k => k_is)))
        (case mTake => (refine' S8.MethAt.mk' ?a ?i ?l ?c ?k; (case a => k_is); (case i => k_is); (case l => k_is); (case c => k_is); (case k => k_is)))
        (case mBar => (refine' S8.MethAt.mk' ?a ?i ?l ?c ?k; (case a => k_is); (case i => k_is); (case l => k_is); (case c => k_is); (case k => k_is)))
        (case mUnbar => (refine' S8.MethAt.mk' ?a ?i ?l ?c ?k; (case a => k_is); (case i => k_is); (case l => k_is); (case c => k_is); (case k => k_is)))
        (case mBars => (refine' S8.MethAt.mk' ?a ?i ?l ?c ?k; (case a => k_is); (case i => k_is); (case l => k_is); (case c => k_is); (case k => k_is)))
        (case mTick => (refine' S8.MethAt.mk' ?a ?i ?l ?c ?k; (case a => k_is); (case i => k_is); (case l => k_is); (case c => k_is); (case k => k_is)))
        (case mLook => (refine' S8.MethAt.mk' ?a ?i ?l ?c ?k; (case a => k_is); (case i => k_is); (case l => k_is); (case c => k_is); (case k => k_is)))
        (case mWorld => (refine' S8.MethAt.mk' ?a ?i ?l ?c ?k; (case a => k_is); (case i => k_is); (case l => k_is); (case c => k_is); (case k => k_is)))
        (case mDeeds => (refine' S8.MethAt.mk' ?a ?i ?l ?c ?k; (case a => k_is); (case i => k_is); (case l => k_is); (case c => k_is); (case k => k_is)))
        (case dTold => (refine' S8.DefCAt.mk' KX G ?a ?l ?c ?k; (case a => k_is); (case l => k_is); (case c => k_is); (case k => k_is)))
        (case dLaw => (refine' S8.DefCAt.mk' KX G ?a ?l ?c ?k; (case a => k_is); (case l => k_is); (case c => k_is); (case k => k_is))))
      (case z1 => kernel_rfl)
      (case z2 => kernel_rfl)
      (case z3 => kernel_rfl)
      (case z4 => kernel_rfl))
