import PyProof.Rows.All
import Wide.All
import OpenK.AllK
import Wide.FinOn
import KE.KUnpackStar
import HandS.ForMost
import HandS.TupMul
import HandS.IsInst
import HandS.Zip
import HandS.Conv
import HandS.Strs
import HandS.TupAny
import HandS.SetFor
import PyProof.ListStr
import HandS.NoneIn
import HandS.Dict
import KE.KDictKeyed
import HandS.Exc
import HandS.ExcInit
import HandS.CallSlots
import HandS.WordsExc
import HandS.Replace
import HandS.ExcField
import HandS.ExcIs
import HandS.TupLe
import KE.KIsAll
import HandS.More
import HandS.SortInts
import HandS.SetKeys
import HandS.DictComp
import KE.GoesEnum
import PySem.Challenge.RW_cutscribe_k03_matches_by_splitting
set_option Elab.async false
set_option linter.all false
set_option maxRecDepth 100000
set_option maxHeartbeats 1000000
/-! A star at the end of a target: a, b, *rest = e (a tuple or a list) -/
namespace L2
open PySem PySem.Spec PyProof.Rows
section
variable {X : Cx} {pos : Pos}
/-- (a, .., *r) = a tuple or a list with at least so many items -/
def gStar (K : PySem.W.Frag) (k : Nat) (t : TGs) : TG := fun v σ H Q => ∃ (a : Addr) (ys xs : List V), v = .ref a ∧ (SqT K H a (ys ++ xs) ∨ SqL K H a (ys ++ xs)) ∧ ys.length = k ∧ (ys ++ xs).length ≤ 16000 ∧
  ∀ D, H D = none → t (ys ++ [.ref D]) σ (upd H D (.lst xs)) Q
theorem pgs_star {e : Expr} {p : Pos} {t : TG} (h1 : PG X e t) : PGs X [.Starred e p] (gCons t gNil) := by
  refine ⟨fun pins s σ H vs us Q I r h => ?_⟩
  obtain ⟨v, vr, e1, h⟩ := h
  subst e1
  cases r with
  | cons r rr =>
    show wpAny _ _ (assignInOrder (assign e X.env :: []) _) _ _ _
    refine assignInOrder_cons (thn (h1.run pins s σ H _ _ _ I r h) fun _ s1 ⟨σ1, H1, I1, q1⟩ => ?_)
    obtain ⟨e2, q1⟩ := q1
    subst e2
    cases rr
    exact assignInOrder_nil ⟨σ1, H1, I1, q1⟩
theorem pg_star {es : List Expr} {k i : Nat} {t : TGs} (hc : X.calm = true) (h : PGs X es t)
    (hn : (assignEach es X.env).length = i + 1 := by rfl) (hst : (assignEach es X.env).findIdx? (·.1) = some i := by rfl) : PG X (.Tuple es k pos) (gStar X.K i t) := by
  refine ⟨fun pins s σ H v u Q I r hw => ?_⟩
  obtain ⟨a, ys, xs, e1, hq, hl, hz, hw⟩ := hw
  subst e1
  cases r
  rw [assign_Tuple]
  refine wpAny_bind (wpAny_standAt ?_)
  unfold unpack
  rw [hn, hst]
  refine wpAny_bind (wpAny_holding ?_)
  -- behind the drawing: the new list
  have fin : ∀ (its : List Value) (h₂ : Heap) (tk : Nat), Vals (ys ++ xs) its → Inv X pins σ H { s with heap := h₂, toks := tk } →
      wpAny (model X.prog X.w) X.A (newList ((its.drop i).take ((its.drop i).length - (i + 1 - 1 - i))) >>= fun d => pure (its.take i ++ [d] ++ (its.drop i).drop ((its.drop i).length - (i + 1 - 1 - i))))
        (fun x s1 => wpAny (model X.prog X.w) X.A (assignInOrder ((assignEach es X.env).map (·.2)) x) (fun _ s' => ∃ σ' H', Inv X pins σ' H' s' ∧ Q σ' H') X.xe s1) X.xe { s with heap := h₂, toks := tk } := by
    intro its h₂ tk rv I2
    have e0 : i + 1 - 1 - i = 0 := by omega
    rw [e0, Nat.sub_zero, List.take_length, List.drop_length]
    simp only [List.append_nil]
    have hrx : Vals xs (its.drop i) := by
      have := Vals.drop i rv
      rw [List.drop_append_of_le_length (by omega), List.drop_of_length_le (by omega), List.nil_append] at this
      exact this
    have hry : Vals ys (its.take i) := by
      have := Vals.take i rv
      rw [List.take_append_of_le_length (by omega), List.take_of_length_le (by omega)] at this
      exact this
    have hzx : xs.length ≤ sizeLine := by
      rw [List.length_append] at hz
      exact Nat.le_trans (by omega : xs.length ≤ 16000) (by decide)
    refine wpAny_bind (wpAny_newList ?_ (by rw [← hrx.length]; exact hzx))
    refine wpAny_pure ?_
    have I3 := I2.lnew (t' := tk) hrx hzx
    exact h.run pins _ σ _ (ys ++ [.ref h₂.objs.size]) _ Q I3 (Vals.append hry (.cons (show RelV (.ref h₂.objs.size) (Value.ref h₂.objs.size) from rfl) .nil)) (hw _ I2.fresh)
  rcases hq with hq | hq
  · obtain ⟨its, rv, hl', hz'⟩ := I.tuple hq
    have hsz : its.toArray.size = (ys ++ xs).length := by rw [List.size_toArray, rv.length]
    have hlt : a ≠ s.heap.objs.size := by obtain ⟨o, ho, _⟩ := hl'; exact Nat.ne_of_lt (Heap.lt_size ho)
    unfold unpackItems
    refine wpAny_bind ?_
    unfold notIterableAtAll
    refine wpAny_bind (wpAny_specialOf hl'.typeIs slot_tuple_iter.lookup ?_)
    refine wpAny_pure ?_
    simp only [Bool.false_eq_true, if_false]
    refine wpAny_bind (wpAny_holding (iter_tuple hl' ?_))
    refine wpAny_bind (wpAny_holding (draw_tuple hlt i 0 _ _ ⟨_, Heap.get?_push_size _ rfl, rfl, rfl⟩ (hl'.push _) (by rw [hsz, List.length_append]; omega) fun h₁ hit₁ hs₁ => ?_))
    have hl₁ : IsTup h₁ a its.toArray := (hl'.push _).extBut hs₁.extBut hlt
    rw [Nat.zero_add] at hit₁
    have hit₁' := hit₁
    obtain ⟨oi, hoi, _⟩ := hit₁'
    have hl₁' := hl₁
    obtain ⟨ol, hol, _⟩ := hl₁'
    rw [List.drop_zero]
    have hil : its.length = (ys ++ xs).length := rv.length.symm
    have hfl : (its.toArray.toList.take i).length = i := by rw [List.length_take, Array.length_toList, hsz, List.length_append]; omega
    rw [if_neg (show ¬ ((its.toArray.toList.take i).length < i) by rw [hfl]; omega)]
    refine wpAny_bind (wpAny_holding (PySem.W.kun_collect (s := { s with heap := h₁ }) (T := "tuple_iterator") (.inr (.inr (.inr rfl))) (Walks.tuple (A := X.A.in1) (I.ok.hd hc) s.heap.objs.size a hlt its.toArray) (fun j u st => st.1.typeIs) (k := i) (by rw [hsz, List.length_append]; omega) ⟨hit₁, hl₁⟩ (Heap.lt_size hoi) (Heap.lt_size hol) (fun h₂ tk hk => ?_) (by rw [hsz]; exact hz')))
    show wpAny _ _ (if (its.drop i).length < i + 1 - 1 - i then _ else _) _ _ _
    rw [if_neg (by omega)]
    have he : Heap.ExtBut s.heap.objs.size s.heap h₂ := fun b o hb e => hk b o hb (hs₁.extBut b o hb (Heap.get?_push_of_some _ e))
    exact fin its h₂ tk rv (I.kept fun b o e => he b o (Nat.ne_of_lt (Heap.lt_size e)) e)
  · obtain ⟨its, rv, hl', hz'⟩ := I.list hq
    have hsz : its.toArray.size = (ys ++ xs).length := by rw [List.size_toArray, rv.length]
    have hlI : s.heap.IsList a its.toArray := hl'.isList
    have hlt : a ≠ s.heap.objs.size := by obtain ⟨o, ho, _⟩ := hlI; exact Nat.ne_of_lt (Heap.lt_size ho)
    unfold unpackItems
    refine wpAny_bind ?_
    unfold notIterableAtAll
    refine wpAny_bind (wpAny_specialOf hlI.typeIs slot_list_iter.lookup ?_)
    refine wpAny_pure ?_
    simp only [Bool.false_eq_true, if_false]
    refine wpAny_bind (wpAny_holding (wpAny_pyIter_list hlI ?_))
    refine wpAny_bind (wpAny_holding (PySem.W.kun_draw hlt i 0 _ _ ⟨_, Heap.get?_push_size _ rfl, rfl, rfl⟩ (hlI.push _) (by rw [hsz, List.length_append]; omega) fun h₁ hit₁ hs₁ => ?_))
    have hl₁ : h₁.IsList a its.toArray := (hlI.push _).extBut hs₁.extBut hlt
    rw [Nat.zero_add] at hit₁
    have hit₁' := hit₁
    obtain ⟨oi, hoi, _⟩ := hit₁'
    have hl₁' := hl₁
    obtain ⟨ol, hol, _⟩ := hl₁'
    rw [List.drop_zero]
    have hfl : (its.toArray.toList.take i).length = i := by rw [List.length_take, Array.length_toList, hsz, List.length_append]; omega
    rw [if_neg (show ¬ ((its.toArray.toList.take i).length < i) by rw [hfl]; omega)]
    refine wpAny_bind (wpAny_holding (PySem.W.kun_collect (s := { s with heap := h₁ }) (T := "list_iterator") (.inr (.inr (.inl rfl))) (Walks.list (A := X.A.in1) (I.ok.hd hc) s.heap.objs.size a hlt its.toArray) (fun j u st => st.1.typeIs) (k := i) (by rw [hsz, List.length_append]; omega) ⟨hit₁, hl₁⟩ (Heap.lt_size hoi) (Heap.lt_size hol) (fun h₂ tk hk => ?_) (by rw [hsz]; exact Nat.le_trans hz (by decide))))
    show wpAny _ _ (if (its.drop i).length < i + 1 - 1 - i then _ else _) _ _ _
    rw [if_neg (by omega)]
    have he : Heap.ExtBut s.heap.objs.size s.heap h₂ := fun b o hb e => hk b o hb (hs₁.extBut b o hb (Heap.get?_push_of_some _ e))
    exact fin its h₂ tk rv (I.kept fun b o e => he b o (Nat.ne_of_lt (Heap.lt_size e)) e)
end
end L2
namespace L2
open PySem PySem.Spec PyProof.Rows
theorem tuple_mul_one (l : Addr) (items : Array Value) (n : Nat) (dd : Option Addr) (sl : Array (Option Value)) (x : Int) (u : Tok) (c0 : (decide (x < -(2 ^ 63)) || decide (x ≥ 2 ^ 63)) = false) (c1 : (items.isEmpty || x == 1) = true) :
    Meets (Builtin.«tuple.__mul__» ⟨[.ref l, .int x u], []⟩) (fun _ R s => s.heap.get? l = some { cls := .type "tuple", dict := dd, data := .seq items n, slots := sl } ∧
      R (.ok (.ret (Value.ref l))) s) :=
  .of_wp fun prog w A R s h => by
    obtain ⟨hp, g, d, tk, os⟩ := s
    obtain ⟨hl, h⟩ := h
    have f1 := AutoSeq1.idx_int
    wp_walk using wpAny_loadPart' hl
    repeat (first
      | (refine wpAny_ite_false (decide_eq_false (by rw [c0]; exact Bool.false_ne_true)) ?_; wp_walk using wpAny_loadPart' hl)
      | (refine wpAny_ite_true (decide_eq_true (by rw [c1])) ?_; wp_walk using wpAny_loadPart' hl))
    exact ⟨_, rfl, h⟩
theorem tuple_mul_none (l : Addr) (items : Array Value) (n : Nat) (dd : Option Addr) (sl : Array (Option Value)) (x : Int) (u : Tok) (c0 : (decide (x < -(2 ^ 63)) || decide (x ≥ 2 ^ 63)) = false) (c1 : (items.isEmpty || x == 1) = false) (c2 : (decide (x ≤ 0) || items.isEmpty) = true) :
    Meets (Builtin.«tuple.__mul__» ⟨[.ref l, .int x u], []⟩) (fun _ R s => s.heap.get? l = some { cls := .type "tuple", dict := dd, data := .seq items n, slots := sl } ∧
      R (.ok (.ret (Value.ref s.heap.objs.size))) { s with heap := s.heap.push { cls := Value.type "tuple", data := Data.seq #[] }, toks := s.toks }) :=
  .of_wp fun prog w A R s h => by
    obtain ⟨hp, g, d, tk, os⟩ := s
    obtain ⟨hl, h⟩ := h
    have f1 := AutoSeq1.idx_int
    wp_walk using wpAny_loadPart' hl
    repeat (first
      | (refine wpAny_ite_false (decide_eq_false (by rw [c0]; exact Bool.false_ne_true)) ?_; wp_walk using wpAny_loadPart' hl)
      | (refine wpAny_ite_false (decide_eq_false (by rw [c1]; exact Bool.false_ne_true)) ?_; wp_walk using wpAny_loadPart' hl)
      | (refine wpAny_ite_true (decide_eq_true (by rw [c2])) ?_; wp_walk using wpAny_loadPart' hl))
    exact ⟨_, rfl, h⟩
/-- t * k, t not empty -/
def rRepA (K : PySem.W.Frag) : R2 := fun x y H Q => ∃ l k xs, x = .ref l ∧ y = .int k ∧ SqT K H l xs ∧ xs ≠ [] ∧ 0 ≤ k ∧ k ≤ 1000 ∧ xs.length ≤ 1000 ∧
  (k = 1 → Q (.ref l) H) ∧ (k ≠ 1 → ∀ p, H p = none → Q (.ref p) (upd H p (.tup (List.replicate k.toNat xs).flatten)))
section
variable {X : Cx}
theorem op_repA : OpR X (binaryOp .Mult) (rRepA X.K) := by
  intro pins s σ H x y v u Q I rx ry h
  obtain ⟨l, k, xs, rfl, rfl, hT, hne, h0, h2, hz, q1, q2⟩ := h
  by_cases hk : 2 ≤ k
  · exact op_repT pins s σ H _ _ v u Q I rx ry ⟨l, k, xs, rfl, rfl, hT, hne, hk, h2, hz, q2 (by omega)⟩
  cases rx
  obtain ⟨t, rfl⟩ := ry
  obtain ⟨its, r, ⟨⟨cls, dd, data, sl⟩, ho, hc, n, hd⟩, hs⟩ := I.tuple hT
  simp only at hc hd
  subst hc hd
  have hle : its.length = xs.length := r.length.symm
  have hn : its ≠ [] := fun e => hne (by
    rw [e] at hle
    exact List.eq_nil_of_length_eq_zero hle.symm)
  have hi : its.toArray.isEmpty = false := by
    cases its with
    | nil => exact absurd rfl hn
    | cons a b => rfl
  have c0 : (decide (k < -(2 ^ 63)) || decide (k ≥ 2 ^ 63)) = false := by
    rw [decide_eq_false (by omega), decide_eq_false (by omega)] <;> rfl
  by_cases e1 : k = 1
  · have c1 : (its.toArray.isEmpty || k == 1) = true := by
      rw [hi, Bool.false_or]
      exact beq_iff_eq.mpr e1
    refine wpAny_binaryOp_repeat_ref (T := "tuple") (U := "int") (by decide) ⟨_, ho, rfl⟩ (fun s' => typeIs_int s' k t) noFill_tuple_mul F.fills_int_mul F.slot_int_rmul repeat_tuple F.slot_int_index.lookup
      (call_meets F.slot_int_rmul (typeIs_int s k t) F.entry_int_rmul (F.args_int_rmul_2 _ _) (int_rmul_tuple k t l its.toArray n dd sl)
        ⟨ho, rfl, ⟨_, ho, rfl⟩, call_meets F.slot_tuple_mul ⟨_, ho, rfl⟩ F.entry_tuple_mul (F.args_tuple_mul_2 _ _) (tuple_mul_one l its.toArray n dd sl k t c0 c1) ⟨ho, ?_⟩⟩)
    exact ⟨.ref l, H, I, rfl, q1 e1⟩
  · have e0 : k = 0 := by omega
    have c1 : (its.toArray.isEmpty || k == 1) = false := by
      rw [hi, Bool.false_or]
      exact beq_eq_false_iff_ne.mpr e1
    have c2 : (decide (k ≤ 0) || its.toArray.isEmpty) = true := by
      rw [hi, Bool.or_false]
      exact decide_eq_true (by omega)
    refine wpAny_binaryOp_repeat_ref (T := "tuple") (U := "int") (by decide) ⟨_, ho, rfl⟩ (fun s' => typeIs_int s' k t) noFill_tuple_mul F.fills_int_mul F.slot_int_rmul repeat_tuple F.slot_int_index.lookup
      (call_meets F.slot_int_rmul (typeIs_int s k t) F.entry_int_rmul (F.args_int_rmul_2 _ _) (int_rmul_tuple k t l its.toArray n dd sl)
        ⟨ho, rfl, ⟨_, ho, rfl⟩, call_meets F.slot_tuple_mul ⟨_, ho, rfl⟩ F.entry_tuple_mul (F.args_tuple_mul_2 _ _) (tuple_mul_none l its.toArray n dd sl k t c0 c1 c2) ⟨ho, ?_⟩⟩)
    have en : (List.replicate k.toNat xs).flatten = [] := by rw [e0]; rfl
    have q3 := q2 e1 s.heap.objs.size (I.hok.fresh (Nat.le_refl _))
    rw [en] at q3
    refine ⟨.ref s.heap.objs.size, _, I.laid (t' := s.toks) (o := .tup []) (fun b ob q => Heap.get?_push_of_some _ q) (Nat.le_refl _) ?_, rfl, q3⟩
    exact ⟨Nat.zero_le _, [], .nil, IsTup.new _ _⟩
end
end L2
/-! The data layer, 1: data, what they stand for, environments of data, movements. -/
namespace DL
open PySem L2
/-- data -/
inductive D where
  | non | bl (b : Bool) | int (i : Int) | str (x : Str) | tup (xs : List D) | lst (xs : List D) | obj (C : Addr) (fs : List (Str × D)) | ty (n : String) | raw (v : V) | scr (ns : List Int)
  deriving Inhabited
abbrev Fg := PySem.W.Frag
mutual
inductive Rep (K : Fg) (H : Hp) : V → D → Prop
  | non : Rep K H .non .non
  | bl (b : Bool) : Rep K H (.bl b) (.bl b)
  | int (i : Int) : Rep K H (.int i) (.int i)
  | str (x : Str) : Rep K H (.str x) (.str x)
  | ty (n : String) : Rep K H (.ty n) (.ty n)
  | raw (v : V) : Rep K H v (.raw v)
  | scr {a : Addr} {ns : List Int} : SqL K H a (ns.map V.int) → Rep K H (.ref a) (.scr ns)
  | tup {a : Addr} {xs : List V} {ds : List D} : SqT K H a xs → RepL K H xs ds → Rep K H (.ref a) (.tup ds)
  | lst {a : Addr} {xs : List V} {ds : List D} : H a = some (.lst xs) → RepL K H xs ds → Rep K H (.ref a) (.lst ds)
  | obj {a C dx : Addr} {fs : List (Str × V)} {gs : List (Str × D)} : H a = some (.ins C dx fs) → RepF K H fs gs → Rep K H (.ref a) (.obj C gs)
inductive RepL (K : Fg) (H : Hp) : List V → List D → Prop
  | nil : RepL K H [] []
  | cons {v : V} {vs : List V} {d : D} {ds : List D} : Rep K H v d → RepL K H vs ds → RepL K H (v :: vs) (d :: ds)
inductive RepF (K : Fg) (H : Hp) : List (Str × V) → List (Str × D) → Prop
  | nil : RepF K H [] []
  | cons {f : Str} {v : V} {vs : List (Str × V)} {d : D} {ds : List (Str × D)} : Rep K H v d → RepF K H vs ds → RepF K H ((f, v) :: vs) ((f, d) :: ds)
end
section
variable {K : Fg} {H H' : Hp}
theorem rd_same (e : ∀ b o, H b = some o → H' b = some o) {a : Addr} {u : HO} (h : Rd H a u) : Rd H' a u := by
  rcases h with h | ⟨o, h⟩
  · exact .inl (e _ _ h)
  · exact .inr ⟨o, e _ _ h⟩
theorem sqL_same (e : ∀ b o, H b = some o → H' b = some o) {a : Addr} {xs : List V} (h : SqL K H a xs) : SqL K H' a xs := by
  rcases h with h | h
  · exact .inl (rd_same e h)
  · exact .inr h
theorem sqT_same (e : ∀ b o, H b = some o → H' b = some o) {a : Addr} {xs : List V} (h : SqT K H a xs) : SqT K H' a xs := by
  rcases h with h | h
  · exact .inl (rd_same e h)
  · exact .inr h
mutual
theorem Rep.mono (e : ∀ b o, H b = some o → H' b = some o) : ∀ {d : D} {v : V}, Rep K H v d → Rep K H' v d
  | _, _, .non => .non
  | _, _, .bl b => .bl b
  | _, _, .int i => .int i
  | _, _, .str x => .str x
  | _, _, .ty n => .ty n
  | _, _, .raw v => .raw v
  | _, _, .scr h => .scr (sqL_same e h)
  | _, _, .tup h r => .tup (sqT_same e h) (RepL.mono e r)
  | _, _, .lst h r => .lst (e _ _ h) (RepL.mono e r)
  | _, _, .obj h r => .obj (e _ _ h) (RepF.mono e r)
theorem RepL.mono (e : ∀ b o, H b = some o → H' b = some o) : ∀ {ds : List D} {vs : List V}, RepL K H vs ds → RepL K H' vs ds
  | _, _, .nil => .nil
  | _, _, .cons h r => .cons (Rep.mono e h) (RepL.mono e r)
theorem RepF.mono (e : ∀ b o, H b = some o → H' b = some o) : ∀ {ds : List (Str × D)} {vs : List (Str × V)}, RepF K H vs ds → RepF K H' vs ds
  | _, _, .nil => .nil
  | _, _, .cons h r => .cons (Rep.mono e h) (RepF.mono e r)
end
theorem RepL.length : ∀ {vs : List V} {ds : List D}, RepL K H vs ds → vs.length = ds.length
  | _, _, .nil => rfl
  | _, _, .cons _ r => congrArg (· + 1) r.length
theorem RepL.append : ∀ {vs ws : List V} {ds es : List D}, RepL K H vs ds → RepL K H ws es → RepL K H (vs ++ ws) (ds ++ es)
  | _, _, _, _, .nil, s => s
  | _, _, _, _, .cons h r, s => .cons h (RepL.append r s)
theorem RepL.get : ∀ {vs : List V} {ds : List D} {i : Nat} {d : D}, RepL K H vs ds → ds[i]? = some d → ∃ v, vs[i]? = some v ∧ Rep K H v d
  | _, _, _, _, .nil, e => by simp at e
  | _, _, 0, _, .cons h _, e => by simp at e; subst e; exact ⟨_, rfl, h⟩
  | _, _, i + 1, d, .cons _ r, e => by
    obtain ⟨v, h1, h2⟩ := RepL.get (i := i) (d := d) r (by simpa using e)
    exact ⟨v, by simpa using h1, h2⟩
theorem RepL.getV : ∀ {vs : List V} {ds : List D} {i : Nat} {v : V}, RepL K H vs ds → vs[i]? = some v → ∃ d, ds[i]? = some d ∧ Rep K H v d
  | _, _, _, _, .nil, e => by simp at e
  | _, _, 0, _, .cons h _, e => by simp at e; subst e; exact ⟨_, rfl, h⟩
  | _, _, i + 1, d, .cons _ r, e => by
    obtain ⟨v, h1, h2⟩ := RepL.getV (i := i) (v := d) r (by simpa using e)
    exact ⟨v, by simpa using h1, h2⟩
theorem RepL.take : ∀ {vs : List V} {ds : List D} (n : Nat), RepL K H vs ds → RepL K H (vs.take n) (ds.take n)
  | _, _, 0, _ => .nil
  | _, _, _ + 1, .nil => .nil
  | _, _, n + 1, .cons h r => .cons h (RepL.take n r)
theorem RepL.drop : ∀ {vs : List V} {ds : List D} (n : Nat), RepL K H vs ds → RepL K H (vs.drop n) (ds.drop n)
  | _, _, 0, r => r
  | _, _, _ + 1, .nil => .nil
  | _, _, n + 1, .cons _ r => RepL.drop n r
theorem RepL.set {v : V} {d : D} (h : Rep K H v d) : ∀ {vs : List V} {ds : List D} (i : Nat), RepL K H vs ds → RepL K H (vs.set i v) (ds.set i d)
  | _, _, _, .nil => .nil
  | _, _, 0, .cons _ r => .cons h r
  | _, _, i + 1, .cons q r => .cons q (RepL.set h i r)
theorem RepL.eraseIdx : ∀ {vs : List V} {ds : List D} (i : Nat), RepL K H vs ds → RepL K H (vs.eraseIdx i) (ds.eraseIdx i)
  | _, _, _, .nil => .nil
  | _, _, 0, .cons _ r => r
  | _, _, i + 1, .cons q r => .cons q (RepL.eraseIdx i r)
theorem RepL.dropLast : ∀ {vs : List V} {ds : List D}, RepL K H vs ds → RepL K H vs.dropLast ds.dropLast
  | _, _, .nil => .nil
  | _, _, .cons _ .nil => .nil
  | _, _, .cons h (.cons h2 r) => .cons h (RepL.dropLast (.cons h2 r))
theorem RepL.split : ∀ {ds es : List D} {vs : List V}, RepL K H vs (ds ++ es) → ∃ us ws, vs = us ++ ws ∧ RepL K H us ds ∧ RepL K H ws es
  | [], _, vs, r => ⟨[], vs, rfl, .nil, r⟩
  | _ :: _, _, _, .cons h r => by
    obtain ⟨us, ws, e, r1, r2⟩ := RepL.split r
    exact ⟨_ :: us, ws, by rw [e]; rfl, .cons h r1, r2⟩
theorem RepL.replicate {v : V} {d : D} (h : Rep K H v d) : ∀ n, RepL K H (List.replicate n v) (List.replicate n d)
  | 0 => .nil
  | n + 1 => .cons h (RepL.replicate h n)
end
/-- a slot of an environment: data that stay, or a list of one's own (pinned: a parameter's) -/
inductive Sl where
  | fz (d : D) | ow (pin : Bool) (xs : List D)
abbrev Ev := List (Option Sl)
/-- a result: data that stay, or a new list -/
inductive Res where
  | fz (d : D) | fr (xs : List D)
def Res.dat : Res → D
  | .fz d => d
  | .fr xs => .lst xs
@[simp] theorem dat_fz (d : D) : (Res.fz d).dat = d := rfl
@[simp] theorem dat_fr (xs : List D) : (Res.fr xs).dat = .lst xs := rfl
def SlOk (K : Fg) (H Hf : Hp) (ov : Option (Option V)) : Sl → Prop
  | .fz d => ∃ v, ov = some (some v) ∧ Rep K Hf v d
  | .ow _ xs => ∃ a ys, ov = some (some (.ref a)) ∧ H a = some (.lst ys) ∧ Hf a = none ∧ RepL K Hf ys xs
def Own (σ : St) (ρ : Ev) (a : Addr) : Prop := ∃ (i : Nat) (p : Bool) (xs : List D), ρ[i]? = some (some (.ow p xs)) ∧ σ[i]? = some (some (.ref a))
structure DEnv (K : Fg) (H Hf : Hp) (σ : St) (ρ : Ev) : Prop where
  sub : ∀ b o, Hf b = some o → H b = some o
  sl : ∀ (i : Nat) (s : Sl), ρ[i]? = some (some s) → SlOk K H Hf σ[i]? s
  sep : ∀ (i j : Nat) (a : Addr) (p : Bool) (xs : List D) (q : Bool) (ys : List D), ρ[i]? = some (some (.ow p xs)) → ρ[j]? = some (some (.ow q ys)) → σ[i]? = some (some (.ref a)) → σ[j]? = some (some (.ref a)) → i = j
  len : σ.length = ρ.length
structure Mv (σ : St) (ρ ρ' : Ev) (H H' Hf Hf' : Hp) : Prop where
  keep : ∀ b o, H b = some o → ¬ Own σ ρ b → H' b = some o
  live : ∀ b, H' b = none → H b = none
  grow : ∀ b o, Hf b = some o → Hf' b = some o
  new : ∀ b o, Hf' b = some o → Hf b = some o ∨ H b = none ∨ Own σ ρ b
  own : ∀ (i : Nat) (p : Bool) (xs : List D), ρ'[i]? = some (some (.ow p xs)) → ∃ ys, ρ[i]? = some (some (.ow p ys))
  pin : ∀ (i : Nat) (xs : List D), ρ[i]? = some (some (.ow true xs)) → ∃ ys, ρ'[i]? = some (some (.ow true ys))
def ResOk (K : Fg) (H H' Hf' : Hp) (v : V) : Res → Prop
  | .fz d => Rep K Hf' v d
  | .fr xs => ∃ a ys, v = .ref a ∧ H' a = some (.lst ys) ∧ Hf' a = none ∧ H a = none ∧ RepL K Hf' ys xs
section
variable {K : Fg} {σ : St} {ρ ρ1 ρ2 : Ev} {H H1 H2 Hf Hf1 Hf2 : Hp}
theorem Mv.refl (σ : St) (ρ : Ev) (H Hf : Hp) : Mv σ ρ ρ H H Hf Hf := ⟨fun _ _ h _ => h, fun _ h => h, fun _ _ h => h, fun _ _ h => .inl h, fun _ _ xs h => ⟨xs, h⟩, fun _ xs h => ⟨xs, h⟩⟩
theorem Mv.ow (m : Mv σ ρ ρ1 H H1 Hf Hf1) {a : Addr} (h : Own σ ρ1 a) : Own σ ρ a := by
  obtain ⟨i, p, xs, h1, h2⟩ := h
  obtain ⟨ys, h3⟩ := m.own i p xs h1
  exact ⟨i, p, ys, h3, h2⟩
theorem Mv.trans (m : Mv σ ρ ρ1 H H1 Hf Hf1) (n : Mv σ ρ1 ρ2 H1 H2 Hf1 Hf2) : Mv σ ρ ρ2 H H2 Hf Hf2 where
  keep := fun b o h ho => n.keep b o (m.keep b o h ho) fun z => ho (m.ow z)
  live := fun b h => m.live b (n.live b h)
  grow := fun b o h => n.grow b o (m.grow b o h)
  new := fun b o h => by
    rcases n.new b o h with h | h | h
    · exact m.new b o h
    · exact .inr (.inl (m.live b h))
    · exact .inr (.inr (m.ow h))
  own := fun i p xs h => by
    obtain ⟨ys, h1⟩ := n.own i p xs h
    exact m.own i p ys h1
  pin := fun i xs h => by
    obtain ⟨ys, h1⟩ := m.pin i xs h
    exact n.pin i ys h1
theorem Own.at (e : DEnv K H Hf σ ρ) {a : Addr} (h : Own σ ρ a) : (∃ ys, H a = some (.lst ys)) ∧ Hf a = none := by
  obtain ⟨i, p, xs, h1, h2⟩ := h
  obtain ⟨b, ys, e1, e2, e3, _⟩ := e.sl i _ h1
  rw [h2] at e1
  cases e1
  exact ⟨⟨ys, e2⟩, e3⟩
/-- what was not known ahead of a movement is not owned -/
theorem not_own (e : DEnv K H Hf σ ρ) {a : Addr} (h : H a = none) : ¬ Own σ ρ a := fun z => by
  obtain ⟨⟨ys, q⟩, _⟩ := z.at e
  rw [h] at q
  cases q
/-- the heap grows, nothing of one's own is touched -/
structure Ext (H H' Hf Hf' : Hp) : Prop where
  same : ∀ b o, H b = some o → H' b = some o
  sub : ∀ b o, Hf' b = some o → H' b = some o
  grow : ∀ b o, Hf b = some o → Hf' b = some o
  new : ∀ b o, Hf' b = some o → Hf b = some o ∨ H b = none
theorem Ext.refl (h : ∀ b o, Hf b = some o → H b = some o) : Ext H H Hf Hf := ⟨fun _ _ h => h, h, fun _ _ h => h, fun _ _ h => .inl h⟩
theorem Ext.live (x : Ext H H1 Hf Hf1) (b : Addr) (h : H1 b = none) : H b = none := by
  cases q : H b with
  | none => rfl
  | some o =>
    rw [x.same b o q] at h
    cases h
theorem Ext.mv (x : Ext H H1 Hf Hf1) : Mv σ ρ ρ H H1 Hf Hf1 :=
  ⟨fun b o h _ => x.same b o h, x.live, x.grow, fun b o h => (x.new b o h).imp id .inl, fun _ _ xs h => ⟨xs, h⟩, fun _ xs h => ⟨xs, h⟩⟩
theorem Ext.env (x : Ext H H1 Hf Hf1) (e : DEnv K H Hf σ ρ) : DEnv K H1 Hf1 σ ρ where
  sub := x.sub
  sl := fun i s h => by
    have q := e.sl i s h
    cases s with
    | fz d =>
      obtain ⟨v, q1, q2⟩ := q
      exact ⟨v, q1, q2.mono x.grow⟩
    | ow p xs =>
      obtain ⟨a, ys, q1, q2, q3, q4⟩ := q
      refine ⟨a, ys, q1, x.same _ _ q2, ?_, q4.mono x.grow⟩
      cases z : Hf1 a with
      | none => rfl
      | some o =>
        rcases x.new a o z with z | z
        · rw [q3] at z; cases z
        · rw [q2] at z; cases z
  sep := e.sep
  len := e.len
theorem Ext.trans (x : Ext H H1 Hf Hf1) (y : Ext H1 H2 Hf1 Hf2) : Ext H H2 Hf Hf2 :=
  ⟨fun b o h => y.same b o (x.same b o h), y.sub, fun b o h => y.grow b o (x.grow b o h), fun b o h => by
    rcases y.new b o h with h | h
    · exact x.new b o h
    · exact .inr (x.live b h)⟩
/-- a new object that stays -/
theorem Ext.add (h : ∀ b o, Hf b = some o → H b = some o) {a : Addr} (o : HO) (n : H a = none) : Ext H (upd H a o) Hf (upd Hf a o) where
  same := fun b u e => by rw [upd_ne (ne_of_none e n)]; exact e
  sub := fun b u e => by
    by_cases hb : b = a
    · subst hb
      rw [upd_same] at e ⊢
      exact e
    · rw [upd_ne hb] at e ⊢
      exact h b u e
  grow := fun b u e => by rw [upd_ne (ne_of_none (h _ _ e) n)]; exact e
  new := fun b u e => by
    by_cases hb : b = a
    · subst hb
      exact .inr n
    · rw [upd_ne hb] at e
      exact .inl e
/-- a new object that is not told of -/
theorem Ext.add' (h : ∀ b o, Hf b = some o → H b = some o) {a : Addr} (o : HO) (n : H a = none) : Ext H (upd H a o) Hf Hf where
  same := fun b u e => by rw [upd_ne (ne_of_none e n)]; exact e
  sub := fun b u e => by rw [upd_ne (ne_of_none (h _ _ e) n)]; exact h _ _ e
  grow := fun b u e => e
  new := fun b u e => .inl e
/-- a new list is frozen -/
theorem ResOk.freeze {v : V} {r : Res} (e : DEnv K H Hf σ ρ) (e1 : DEnv K H1 Hf1 σ ρ1) (m : Mv σ ρ ρ1 H H1 Hf Hf1) (h : ResOk K H H1 Hf1 v r) :
    ∃ Hf2, DEnv K H1 Hf2 σ ρ1 ∧ Mv σ ρ ρ1 H H1 Hf Hf2 ∧ Rep K Hf2 v r.dat := by
  cases r with
  | fz d => exact ⟨Hf1, e1, m, h⟩
  | fr xs =>
    obtain ⟨a, ys, rfl, h1, h2, h3, h4⟩ := h
    have g : ∀ b o, Hf1 b = some o → upd Hf1 a (.lst ys) b = some o := fun b o q => by rw [upd_ne (ne_of_none q h2)]; exact q
    refine ⟨upd Hf1 a (.lst ys), ⟨fun b o q => ?_, fun i s q => ?_, e1.sep, e1.len⟩, ⟨m.keep, m.live, fun b o q => g b o (m.grow b o q), fun b o q => ?_, m.own, m.pin⟩, .lst upd_same (h4.mono g)⟩
    · by_cases hb : b = a
      · subst hb
        rw [upd_same] at q
        rw [h1]
        exact q
      · rw [upd_ne hb] at q
        exact e1.sub b o q
    · have z := e1.sl i s q
      cases s with
      | fz d =>
        obtain ⟨v, q1, q2⟩ := z
        exact ⟨v, q1, q2.mono g⟩
      | ow p us =>
        obtain ⟨b, zs, q1, q2, q3, q4⟩ := z
        have hb : b ≠ a := fun w => by
          have o1 : Own σ ρ b := m.ow ⟨i, p, us, q, q1⟩
          obtain ⟨⟨_, o2⟩, _⟩ := o1.at e
          rw [w, h3] at o2
          cases o2
        exact ⟨b, zs, q1, q2, by rw [upd_ne hb]; exact q3, q4.mono g⟩
    · by_cases hb : b = a
      · subst hb
        exact .inr (.inl h3)
      · rw [upd_ne hb] at q
        exact m.new b o q
end
/-! ### expressions -/
abbrev TD := Ev → (Res → Ev → Prop) → Prop
/-- the reading of an expression by its data -/
def canE (K : Fg) (τ : TD) : TE := fun σ H Q => ∃ (Hf : Hp) (ρ : Ev) (P : Res → Ev → Prop), DEnv K H Hf σ ρ ∧ τ ρ P ∧
    (∀ v H' Hf' r ρ', DEnv K H' Hf' σ ρ' → Mv σ ρ ρ' H H' Hf Hf' → ResOk K H H' Hf' v r → P r ρ' → Q v H')
structure DE (X : Cx) (e : Expr) (τ : TD) : Prop where
  pe : PE X e (canE X.K τ)
theorem DE.of {X : Cx} {e : Expr} {τ : TD} {t : TE} (h : PE X e t) (k : ∀ (σ : St) (H Hf : Hp) (ρ : Ev) (P : Res → Ev → Prop) (Q : VK), DEnv X.K H Hf σ ρ → τ ρ P →
    (∀ v H' Hf' r ρ', DEnv X.K H' Hf' σ ρ' → Mv σ ρ ρ' H H' Hf Hf' → ResOk X.K H H' Hf' v r → P r ρ' → Q v H') → t σ H Q) : DE X e τ :=
  ⟨⟨fun pins s σ H Q I ⟨Hf, ρ, P, e, q, kk⟩ => h.run pins s σ H Q I (k σ H Hf ρ P Q e q kk)⟩⟩
theorem DE.ex {X : Cx} {e : Expr} {τ : TD} (h : DE X e τ) : ∃ t, PE X e t ∧ ∀ (σ : St) (H Hf : Hp) (ρ : Ev) (P : Res → Ev → Prop) (Q : VK), DEnv X.K H Hf σ ρ → τ ρ P →
    (∀ v H' Hf' r ρ', DEnv X.K H' Hf' σ ρ' → Mv σ ρ ρ' H H' Hf Hf' → ResOk X.K H H' Hf' v r → P r ρ' → Q v H') → t σ H Q :=
  ⟨_, h.pe, fun _ _ Hf ρ P _ e q k => ⟨Hf, ρ, P, e, q, k⟩⟩
/-- with its result frozen -/
theorem DE.fz {X : Cx} {e : Expr} {τ : TD} (h : DE X e τ) : ∃ t, PE X e t ∧ ∀ (σ : St) (H Hf : Hp) (ρ : Ev) (P : D → Ev → Prop) (Q : VK), DEnv X.K H Hf σ ρ → τ ρ (fun r ρ' => P r.dat ρ') →
    (∀ v H' Hf' d ρ', DEnv X.K H' Hf' σ ρ' → Mv σ ρ ρ' H H' Hf Hf' → Rep X.K Hf' v d → P d ρ' → Q v H') → t σ H Q := by
  obtain ⟨t, ht, hs⟩ := h.ex
  refine ⟨t, ht, fun σ H Hf ρ P Q e q k => hs σ H Hf ρ _ Q e q fun v H' Hf' r ρ' e1 m1 r1 p1 => ?_⟩
  obtain ⟨Hf2, e2, m2, r2⟩ := r1.freeze e e1 m1
  exact k v H' Hf2 r.dat ρ' e2 m2 r2 p1
end DL
/-! The data layer, 2: operators, comparisons, constants, names. -/
namespace DL
open PySem L2
/-! ### data as the library's data (for ==) -/
mutual
def D.py : D → PyData
  | .non => .none
  | .bl b => .bool b
  | .int i => .int i
  | .str x => .str x
  | .tup xs => .tuple (pyL xs)
  | .lst xs => .list (pyL xs)
  | .obj _ _ => .dict []
  | .ty _ => .dict []
  | .raw _ => .dict []
  | .scr _ => .dict []
def pyL : List D → List PyData
  | [] => []
  | d :: ds => d.py :: pyL ds
end
mutual
def D.okP : D → Bool
  | .non => true
  | .bl _ => true
  | .int _ => true
  | .str _ => true
  | .tup xs => okL xs
  | .lst xs => okL xs
  | .obj _ _ => false
  | .ty _ => false
  | .raw _ => false
  | .scr _ => false
def okL : List D → Bool
  | [] => true
  | d :: ds => d.okP && okL ds
end
mutual
theorem Rep.dp {K : Fg} {H : Hp} : ∀ {d : D} {v : V}, d.okP = true → Rep K H v d → Dp K H v d.py
  | _, _, _, .non => .non
  | _, _, _, .bl b => .bl b
  | _, _, _, .int i => .int i
  | _, _, _, .str x => .str x
  | _, _, h, .ty _ => by simp [D.okP] at h
  | _, _, h, .raw _ => by simp [D.okP] at h
  | _, _, h, .scr _ => by simp [D.okP] at h
  | _, _, h, .obj _ _ => by simp [D.okP] at h
  | .tup ds, _, h, .tup s r => by
    rw [D.okP] at h
    exact .tup s (RepL.dp h r)
  | .lst ds, _, h, .lst s r => by
    rw [D.okP] at h
    exact .lst (.inl (.inl s)) (RepL.dp h r)
theorem RepL.dp {K : Fg} {H : Hp} : ∀ {ds : List D} {vs : List V}, okL ds = true → RepL K H vs ds → DpAll K H vs (pyL ds)
  | _, _, _, .nil => .nil
  | _, _, h, .cons a r => by
    rw [okL, Bool.and_eq_true] at h
    exact .cons (Rep.dp h.1 a) (RepL.dp h.2 r)
end
def eqvD (a b : D) : Bool := PyData.eqv a.py b.py
def shapedD (a : D) : Bool := a.okP && SeqAt.shaped a.py
/-- no place to look into -/
def D.flat : D → Bool
  | .non | .bl _ | .int _ | .str _ => true
  | _ => false
theorem Rep.flat {K : Fg} {H : Hp} {v : V} {d : D} (h : Rep K H v d) (f : d.flat = true) : flatV v = true := by
  cases h <;> first | rfl | (simp [D.flat] at f)
theorem Rep.eqV {K : Fg} {H : Hp} {v u : V} {d e : D} (h : Rep K H v d) (k : Rep K H u e) (f : d.flat = true) (g : e.flat = true) : L2.eqV v u = eqvD d e := by
  cases h <;> first | (simp [D.flat] at f; done) | skip
  all_goals cases k <;> first | (simp [D.flat] at g; done) | (simp [L2.eqV, eqvD, D.py, PyData.eqv])
/-! ### two-place operations -/
def OpS (K : Fg) (r : R2) (g : D → D → Option Res) : Prop := ∀ (H Hf : Hp) (x y : V) (a b : D) (c : Res) (Q : VK), (∀ b o, Hf b = some o → H b = some o) → Rep K Hf x a → Rep K Hf y b → g a b = some c →
  (∀ v H' Hf', Ext H H' Hf Hf' → ResOk K H H' Hf' v c → Q v H') → r x y H Q
theorem opR_or {X : Cx} {f : Value → Value → Sem Value} {r r' : R2} (h : OpR X f r) (h' : OpR X f r') : OpR X f (fun x y H Q => r x y H Q ∨ r' x y H Q) := by
  intro pins s σ H x y v u Q I rx ry q
  rcases q with q | q
  · exact h pins s σ H x y v u Q I rx ry q
  · exact h' pins s σ H x y v u Q I rx ry q
theorem ResOk.back {K : Fg} {H H1 H2 Hf2 : Hp} {v : V} {c : Res} (l : ∀ b, H1 b = none → H b = none) (h : ResOk K H1 H2 Hf2 v c) : ResOk K H H2 Hf2 v c := by
  cases c with
  | fz d => exact h
  | fr xs =>
    obtain ⟨a, ys, h1, h2, h3, h4, h5⟩ := h
    exact ⟨a, ys, h1, h2, h3, l _ h4, h5⟩
def tBin (g : D → D → Option Res) (a b : TD) : TD := fun ρ P => a ρ fun x ρ1 => b ρ1 fun y ρ2 => ∃ c, g x.dat y.dat = some c ∧ P c ρ2
section
variable {X : Cx} {a b e : Expr} {τa τb : TD} {pos : Pos} {r : R2} {g : D → D → Option Res}
theorem run2 {ta tb : TE} (hs : OpS X.K r g)
    (sa : ∀ (σ : St) (H Hf : Hp) (ρ : Ev) (P : D → Ev → Prop) (Q : VK), DEnv X.K H Hf σ ρ → τa ρ (fun r ρ' => P r.dat ρ') → (∀ v H' Hf' d ρ', DEnv X.K H' Hf' σ ρ' → Mv σ ρ ρ' H H' Hf Hf' → Rep X.K Hf' v d → P d ρ' → Q v H') → ta σ H Q)
    (sb : ∀ (σ : St) (H Hf : Hp) (ρ : Ev) (P : D → Ev → Prop) (Q : VK), DEnv X.K H Hf σ ρ → τb ρ (fun r ρ' => P r.dat ρ') → (∀ v H' Hf' d ρ', DEnv X.K H' Hf' σ ρ' → Mv σ ρ ρ' H H' Hf Hf' → Rep X.K Hf' v d → P d ρ' → Q v H') → tb σ H Q)
    (σ : St) (H Hf : Hp) (ρ : Ev) (P : Res → Ev → Prop) (Q : VK) (e : DEnv X.K H Hf σ ρ) (q : tBin g τa τb ρ P)
    (k : ∀ v H' Hf' r ρ', DEnv X.K H' Hf' σ ρ' → Mv σ ρ ρ' H H' Hf Hf' → ResOk X.K H H' Hf' v r → P r ρ' → Q v H') : tOp r ta tb σ H Q := by
  refine sa σ H Hf ρ (fun x ρ1 => τb ρ1 fun y ρ2 => ∃ c, g x y.dat = some c ∧ P c ρ2) _ e q fun x H1 Hf1 dx ρ1 e1 m1 r1 q1 => ?_
  refine sb σ H1 Hf1 ρ1 (fun y ρ2 => ∃ c, g dx y = some c ∧ P c ρ2) _ e1 q1 fun y H2 Hf2 dy ρ2 e2 m2 r2 q2 => ?_
  obtain ⟨c, hc, p⟩ := q2
  refine hs H2 Hf2 x y dx dy c Q e2.sub (r1.mono m2.grow) r2 hc fun v H3 Hf3 x3 ok => ?_
  exact k v H3 Hf3 c ρ2 (x3.env e2) ((m1.trans m2).trans x3.mv) (ok.back (m1.trans m2).live) p
theorem de_bin {op : Operator} (ho : OpR X (binaryOp op) r) (hs : OpS X.K r g) (ha : DE X a τa) (hb : DE X b τb) : DE X (.BinOp a op b pos) (tBin g τa τb) := by
  obtain ⟨ta, pa, sa⟩ := ha.fz
  obtain ⟨tb, pb, sb⟩ := hb.fz
  exact DE.of (pe_op ho pa pb) (run2 hs sa sb)
theorem de_cmp {op : CmpOp} (ho : OpR X (compareOp op) r) (hs : OpS X.K r g) (ha : DE X a τa) (hb : DE X b τb) (hm : behindInMarks op b = false) : DE X (.Compare a [op] [b] pos) (tBin g τa τb) := by
  obtain ⟨ta, pa, sa⟩ := ha.fz
  obtain ⟨tb, pb, sb⟩ := hb.fz
  exact DE.of (pe_cmpR ho pa pb hm) (run2 hs sa sb)
end
/-! ### the operators on data -/
def addD : D → D → Option Res
  | .int i, .int j => some (.fz (.int (i + j)))
  | .str a, .str b => if a.length + b.length ≤ 100000 then some (.fz (.str (a ++ b))) else none
  | .tup a, .tup b => if a.length + b.length ≤ 16000 then some (.fz (.tup (a ++ b))) else none
  | .lst a, .lst b => if a.length + b.length ≤ 16000 then some (.fr (a ++ b)) else none
  | _, _ => none
def addR (K : Fg) : R2 := fun x y H Q => (rI0 (fun i j => .int (i + j)) x y H Q ∨ (∃ i j, x = .str i ∧ y = .str j ∧ i.length + j.length ≤ sizeLine ∧ Q (.str (i ++ j)) H)) ∨ (rCatA K x y H Q ∨ rCat x y H Q)
theorem op_addD {X : Cx} : OpR X (binaryOp .Add) (addR X.K) := opR_or (opR_or op_add op_add_str) (opR_or op_catA op_cat)
theorem lim {n m : Nat} (h : n ≤ m) (hm : m ≤ 100000 := by decide) : n ≤ sizeLine := Nat.le_trans h (Nat.le_trans hm (by decide))
theorem opS_add {K : Fg} : OpS K (addR K) addD := by
  intro H Hf x y a b c Q hf ra rb hg k
  cases ra <;> first | (simp [addD] at hg; done) | skip
  all_goals cases rb <;> first | (simp [addD] at hg; done) | skip
  · rename_i i j
    simp only [addD, Option.some.injEq] at hg
    subst hg
    exact .inl (.inl ⟨i, j, rfl, rfl, k _ _ _ (Ext.refl hf) (.int _)⟩)
  · rename_i i j
    simp only [addD] at hg
    split at hg
    · rename_i hz
      simp only [Option.some.injEq] at hg
      subst hg
      exact .inl (.inr ⟨i, j, rfl, rfl, lim hz, k _ _ _ (Ext.refl hf) (.str _)⟩)
    · cases hg
  · rename_i p xs ds hp rp q ys es hq rq
    simp only [addD] at hg
    split at hg
    · rename_i hz
      simp only [Option.some.injEq] at hg
      subst hg
      have l1 := rp.length
      have l2 := rq.length
      refine .inr (.inl ⟨p, q, xs, ys, rfl, rfl, sqT_same hf hp, sqT_same hf hq, by rw [l1, l2]; exact lim hz, fun z => ?_, fun _ z => ?_, fun _ _ n hn => ?_⟩)
      · subst z
        cases rp
        exact k _ _ _ (Ext.refl hf) (.tup hq rq)
      · subst z
        cases rq
        exact k _ _ _ (Ext.refl hf) (.tup hp (by rw [List.append_nil]; exact rp))
      · have x := Ext.add hf (.tup (xs ++ ys)) hn
        exact k _ _ _ x (.tup (.inl (.inl upd_same)) ((rp.append rq).mono x.grow))
    · cases hg
  · rename_i p xs ds hp rp q ys es hq rq
    simp only [addD] at hg
    split at hg
    · rename_i hz
      simp only [Option.some.injEq] at hg
      subst hg
      have l1 := rp.length
      have l2 := rq.length
      refine .inr (.inr ⟨p, q, xs, ys, rfl, rfl, hf _ _ hp, hf _ _ hq, by rw [l1, l2]; exact lim hz, fun n hn => ?_⟩)
      have x := Ext.add' hf (.lst (xs ++ ys)) hn
      have nn : Hf n = none := by
        cases z : Hf n with
        | none => rfl
        | some o => rw [hf _ _ z] at hn; cases hn
      exact k _ _ _ x ⟨n, xs ++ ys, rfl, upd_same, nn, hn, rp.append rq⟩
    · cases hg
/-- ints -/
def intD (C : Int → Int → Bool) (f : Int → Int → D) : D → D → Option Res
  | .int i, .int j => if C i j = true then some (.fz (f i j)) else none
  | _, _ => none
theorem opS_int {K : Fg} {C : Int → Int → Prop} {B : Int → Int → Bool} {f : Int → Int → Int} (h : ∀ i j, B i j = true → C i j) : OpS K (rI C fun i j => .int (f i j)) (intD B fun i j => .int (f i j)) := by
  intro H Hf x y a b c Q hf ra rb hg k
  cases ra <;> first | (simp [intD] at hg; done) | skip
  cases rb <;> first | (simp [intD] at hg; done) | skip
  rename_i i j
  simp only [intD] at hg
  split at hg
  · rename_i hz
    simp only [Option.some.injEq] at hg
    subst hg
    exact ⟨i, j, rfl, rfl, h i j hz, k _ _ _ (Ext.refl hf) (.int _)⟩
  · cases hg
theorem opS_intB {K : Fg} {f : Int → Int → Bool} : OpS K (rI0 fun i j => .bl (f i j)) (intD (fun _ _ => true) fun i j => .bl (f i j)) := by
  intro H Hf x y a b c Q hf ra rb hg k
  cases ra <;> first | (simp [intD] at hg; done) | skip
  cases rb <;> first | (simp [intD] at hg; done) | skip
  rename_i i j
  simp only [intD, if_true, Option.some.injEq] at hg
  subst hg
  exact ⟨i, j, rfl, rfl, k _ _ _ (Ext.refl hf) (.bl _)⟩
theorem opS_intI {K : Fg} {f : Int → Int → Int} : OpS K (rI0 fun i j => .int (f i j)) (intD (fun _ _ => true) fun i j => .int (f i j)) := by
  intro H Hf x y a b c Q hf ra rb hg k
  cases ra <;> first | (simp [intD] at hg; done) | skip
  cases rb <;> first | (simp [intD] at hg; done) | skip
  rename_i i j
  simp only [intD, if_true, Option.some.injEq] at hg
  subst hg
  exact ⟨i, j, rfl, rfl, k _ _ _ (Ext.refl hf) (.int _)⟩
def subD := intD (fun _ _ => true) fun i j => .int (i - j)
def fdivD := intD (fun _ j => decide (0 < j ∧ j < 1073741824)) fun i j => .int (i / j)
def modD := intD (fun _ j => decide (0 < j)) fun i j => .int (i % j)
def powD := intD (fun i j => decide (0 ≤ j ∧ j ≤ 1000000 ∧ i.natAbs < 2 ^ 64)) fun i j => .int (i ^ j.toNat)
def ltD := intD (fun _ _ => true) fun i j => .bl (decide (i < j))
def leD := intD (fun _ _ => true) fun i j => .bl (decide (i ≤ j))
def gtD := intD (fun _ _ => true) fun i j => .bl (decide (j < i))
def geD := intD (fun _ _ => true) fun i j => .bl (decide (j ≤ i))
def mulD : D → D → Option Res
  | .int i, .int j => if decide ((-(2 ^ 64) < i ∧ i < 2 ^ 64) ∨ (-(2 ^ 64) < j ∧ j < 2 ^ 64)) = true then some (.fz (.int (i * j))) else none
  | .tup a, .int k => if decide (a ≠ [] ∧ 0 ≤ k ∧ k ≤ 1000 ∧ a.length ≤ 1000) = true then some (.fz (.tup (List.replicate k.toNat a).flatten)) else none
  | .lst a, .int k => if decide (0 ≤ k ∧ k ≤ 1000 ∧ a.length ≤ 10) = true then some (.fr (List.replicate k.toNat a).flatten) else none
  | _, _ => none
end DL
/-! The data layer, 3: more operators; expressions. -/
namespace DL
open PySem L2
section
variable {K : Fg} {H Hf : Hp}
theorem free_of (hf : ∀ b o, Hf b = some o → H b = some o) {n : Addr} (hn : H n = none) : Hf n = none := by
  cases z : Hf n with
  | none => rfl
  | some o => rw [hf _ _ z] at hn; cases hn
/-- a new list, a new tuple -/
theorem new_lst (hf : ∀ b o, Hf b = some o → H b = some o) {n : Addr} (hn : H n = none) {xs : List V} {ds : List D} (r : RepL K Hf xs ds) : Ext H (upd H n (.lst xs)) Hf Hf ∧ ResOk K H (upd H n (.lst xs)) Hf (.ref n) (.fr ds) :=
  ⟨Ext.add' hf _ hn, n, xs, rfl, upd_same, free_of hf hn, hn, r⟩
theorem new_tup (hf : ∀ b o, Hf b = some o → H b = some o) {n : Addr} (hn : H n = none) {xs : List V} {ds : List D} (r : RepL K Hf xs ds) :
    Ext H (upd H n (.tup xs)) Hf (upd Hf n (.tup xs)) ∧ ResOk K H (upd H n (.tup xs)) (upd Hf n (.tup xs)) (.ref n) (.fz (.tup ds)) :=
  ⟨Ext.add hf _ hn, .tup (.inl (.inl upd_same)) (r.mono (Ext.add hf _ hn).grow)⟩
end
def mulR (K : Fg) : R2 := fun x y H Q => rI CMul (fun i j => .int (i * j)) x y H Q ∨ (rRepA K x y H Q ∨ rRep x y H Q)
theorem op_mulD {X : Cx} : OpR X (binaryOp .Mult) (mulR X.K) := opR_or op_mul (opR_or op_repA op_rep)
theorem RepL.rep {K : Fg} {H : Hp} {vs : List V} {ds : List D} (r : RepL K H vs ds) : ∀ n, RepL K H (List.replicate n vs).flatten (List.replicate n ds).flatten
  | 0 => .nil
  | n + 1 => by
    rw [List.replicate_succ, List.replicate_succ, List.flatten_cons, List.flatten_cons]
    exact r.append (RepL.rep r n)
theorem opS_mul {K : Fg} : OpS K (mulR K) mulD := by
  intro H Hf x y a b c Q hf ra rb hg k
  cases ra <;> first | (simp [mulD] at hg; done) | skip
  all_goals cases rb <;> first | (simp [mulD] at hg; done) | skip
  · rename_i i j
    simp only [mulD] at hg
    split at hg
    · rename_i hz
      simp only [Option.some.injEq] at hg
      subst hg
      have hz' := of_decide_eq_true hz
      exact .inl ⟨i, j, rfl, rfl, hz', k _ _ _ (Ext.refl hf) (.int _)⟩
    · cases hg
  · rename_i p xs ds hp rp j
    simp only [mulD] at hg
    split at hg
    · rename_i hz
      simp only [Option.some.injEq] at hg
      subst hg
      obtain ⟨h1, h2, h3, h4⟩ := of_decide_eq_true hz
      have l1 := rp.length
      refine .inr (.inl ⟨p, j, xs, rfl, rfl, sqT_same hf hp, fun z => ?_, h2, h3, by omega, fun z => ?_, fun _ n hn => ?_⟩)
      · subst z
        cases rp
        exact h1 rfl
      · subst z
        exact k _ _ _ (Ext.refl hf) (.tup hp (by simpa using rp))
      · obtain ⟨x1, x2⟩ := new_tup hf hn (rp.rep j.toNat)
        exact k _ _ _ x1 x2
    · cases hg
  · rename_i p xs ds hp rp j
    simp only [mulD] at hg
    split at hg
    · rename_i hz
      simp only [Option.some.injEq] at hg
      subst hg
      obtain ⟨h2, h3, h4⟩ := of_decide_eq_true hz
      have l1 := rp.length
      refine .inr (.inr ⟨p, j, xs, rfl, rfl, hf _ _ hp, by omega, by omega, ?_, fun n hn => ?_⟩)
      · have : xs.length * j.toNat ≤ 10 * 1000 := Nat.mul_le_mul (by omega) (by omega)
        exact lim this
      · obtain ⟨x1, x2⟩ := new_lst hf hn (rp.rep j.toNat)
        exact k _ _ _ x1 x2
    · cases hg
/-! ### == and its like -/
def scalD : D → D → Bool
  | .non, .non | .non, .int _ | .int _, .non | .non, .bl _ | .bl _, .non | .non, .str _ | .str _, .non | .int _, .int _ | .bl _, .bl _ | .str _, .str _ | .int _, .str _ | .str _, .int _ | .bl _, .str _ | .str _, .bl _ => true
  | _, _ => false
/-- two texts compared (not to be run) -/
@[irreducible] def eqS (a b : Str) : Bool := decide (a = b)
theorem eqS_eq (a b : Str) : eqS a b = decide (a = b) := by unfold eqS; rfl
def eqB : D → D → Bool
  | .str a, .str b => eqS a b
  | .int a, .int b => decide (a = b)
  | a, b => eqvD a b
theorem eqB_eq (a b : D) : eqB a b = eqvD a b := by
  unfold eqB
  split
  · rename_i a b
    rw [eqS_eq]
    show decide (a = b) = (a == b)
    by_cases h : a = b
    · simp [h]
    · rw [decide_eq_false h]
      exact (beq_eq_false_iff_ne.mpr h).symm
  · rename_i a b
    show decide (a = b) = (a == b)
    by_cases h : a = b
    · simp [h]
    · rw [decide_eq_false h]
      exact (beq_eq_false_iff_ne.mpr h).symm
  · rfl
def eqD (a b : D) : Option Res := if (scalD a b || (shapedD a && shapedD b)) = true then some (.fz (.bl (eqB a b))) else none
def neD (a b : D) : Option Res := if (scalD a b || (shapedD a && shapedD b)) = true then some (.fz (.bl (!eqB a b))) else none
def eqR (K : Fg) : R2 := fun x y H Q => rEq x y H Q ∨ rEqD K x y H Q
def neR (K : Fg) : R2 := fun x y H Q => rNe x y H Q ∨ rNeD K x y H Q
theorem op_eqD' {X : Cx} (hu : X.A.units + 64 < cLine) : OpR X (compareOp .Eq) (eqR X.K) := opR_or op_eq (op_eqD hu)
theorem op_neD' {X : Cx} (hu : X.A.units + 64 < cLine) : OpR X (compareOp .NotEq) (neR X.K) := opR_or op_ne (op_neD hu)
theorem scal_eqv {K : Fg} {H : Hp} {x y : V} {a b : D} (ra : Rep K H x a) (rb : Rep K H y b) (h : scalD a b = true) : scal x y = true ∧ decide (x = y) = eqvD a b := by
  cases ra <;> cases rb <;> first | (simp [scalD] at h; done) | skip
  all_goals refine ⟨rfl, ?_⟩
  all_goals first
    | (rw [dec_int]; rfl)
    | (rw [dec_bl]; rfl)
    | (rw [dec_str]; rfl)
    | (simp [eqvD, D.py, PyData.eqv]; done)
theorem opS_eq {K : Fg} : OpS K (eqR K) eqD := by
  intro H Hf x y a b c Q hf ra rb hg k
  unfold eqD at hg
  rw [eqB_eq] at hg
  split at hg
  · rename_i hz
    simp only [Option.some.injEq] at hg
    subst hg
    rcases Bool.or_eq_true_iff.mp hz with h | h
    · obtain ⟨h1, h2⟩ := scal_eqv ra rb h
      refine .inl ⟨h1, ?_⟩
      rw [h2]
      exact k _ _ _ (Ext.refl hf) (.bl _)
    · obtain ⟨h1, h2⟩ := Bool.and_eq_true_iff.mp h
      obtain ⟨o1, s1⟩ := Bool.and_eq_true_iff.mp h1
      obtain ⟨o2, s2⟩ := Bool.and_eq_true_iff.mp h2
      exact .inr ⟨_, _, (ra.mono hf).dp o1, (rb.mono hf).dp o2, s1, s2, k _ _ _ (Ext.refl hf) (.bl _)⟩
  · cases hg
theorem opS_ne {K : Fg} : OpS K (neR K) neD := by
  intro H Hf x y a b c Q hf ra rb hg k
  unfold neD at hg
  rw [eqB_eq] at hg
  split at hg
  · rename_i hz
    simp only [Option.some.injEq] at hg
    subst hg
    rcases Bool.or_eq_true_iff.mp hz with h | h
    · obtain ⟨h1, h2⟩ := scal_eqv ra rb h
      refine .inl ⟨h1, ?_⟩
      rw [h2]
      exact k _ _ _ (Ext.refl hf) (.bl _)
    · obtain ⟨h1, h2⟩ := Bool.and_eq_true_iff.mp h
      obtain ⟨o1, s1⟩ := Bool.and_eq_true_iff.mp h1
      obtain ⟨o2, s2⟩ := Bool.and_eq_true_iff.mp h2
      exact .inr ⟨_, _, (ra.mono hf).dp o1, (rb.mono hf).dp o2, s1, s2, k _ _ _ (Ext.refl hf) (.bl _)⟩
  · cases hg
/-! ### is None -/
def D.isNon : D → Bool
  | .non => true
  | _ => false
def D.noRaw : D → Bool
  | .raw _ => false
  | _ => true
def isD (a b : D) : Option Res := if (b.isNon && a.noRaw) = true then some (.fz (.bl a.isNon)) else none
def isntD (a b : D) : Option Res := if (b.isNon && a.noRaw) = true then some (.fz (.bl (!a.isNon))) else none
theorem Rep.isNon {K : Fg} {H : Hp} {x : V} {a : D} (r : Rep K H x a) (n : a.noRaw = true) : decide (x = .non) = a.isNon := by
  cases r <;> first | (simp [D.noRaw] at n; done) | (simp [D.isNon])
theorem opS_is {K : Fg} : OpS K (fun x y H Q => y = .non ∧ Q (.bl (decide (x = .non))) H) isD := by
  intro H Hf x y a b c Q hf ra rb hg k
  unfold isD at hg
  split at hg
  · rename_i hz
    simp only [Option.some.injEq] at hg
    subst hg
    obtain ⟨h1, h2⟩ := Bool.and_eq_true_iff.mp hz
    cases rb <;> first | (simp [D.isNon] at h1; done) | skip
    refine ⟨rfl, ?_⟩
    rw [ra.isNon h2]
    exact k _ _ _ (Ext.refl hf) (.bl _)
  · cases hg
theorem opS_isnt {K : Fg} : OpS K (fun x y H Q => y = .non ∧ Q (.bl (!decide (x = .non))) H) isntD := by
  intro H Hf x y a b c Q hf ra rb hg k
  unfold isntD at hg
  split at hg
  · rename_i hz
    simp only [Option.some.injEq] at hg
    subst hg
    obtain ⟨h1, h2⟩ := Bool.and_eq_true_iff.mp hz
    cases rb <;> first | (simp [D.isNon] at h1; done) | skip
    refine ⟨rfl, ?_⟩
    rw [ra.isNon h2]
    exact k _ _ _ (Ext.refl hf) (.bl _)
  · cases hg
/-! ### in -/
/-- x in xs: a sign in a text; a flat thing in a list or a tuple of flat things -/
def inB : D → D → Option Bool
  | .str x, .str z => if x.cps.size = 1 then some (decide ((x.cps.getD 0 0) ∈ z.cps.toList)) else none
  | a, .tup bs => if (a.flat && bs.all D.flat) = true then some (bs.any fun b => eqB b a) else none
  | a, .lst bs => if (a.flat && bs.all D.flat) = true then some (bs.any fun b => eqB b a) else none
  | _, _ => none
def inD (a b : D) : Option Res := (inB a b).map fun k => .fz (.bl k)
def notinD (a b : D) : Option Res := (inB a b).map fun k => .fz (.bl (!k))
def inR (K : Fg) (neg : Bool) : R2 := fun x y H Q => (∃ (c : Nat) (z : Str), x = .str ⟨#[c]⟩ ∧ y = .str z ∧ Q (.bl (if neg then !decide (c ∈ z.cps.toList) else decide (c ∈ z.cps.toList))) H) ∨ rIn K neg x y H Q
theorem op_inD {X : Cx} : OpR X (compareOp .In) (inR X.K false) := opR_or op_in_sign op_in_seq
theorem op_notinD {X : Cx} : OpR X (compareOp .NotIn) (inR X.K true) := opR_or op_notIn_sign op_notIn_seq
theorem RepL.flat {K : Fg} {H : Hp} : ∀ {vs : List V} {ds : List D}, RepL K H vs ds → ds.all D.flat = true → vs.all flatV = true
  | _, _, .nil, _ => rfl
  | _, _, .cons h r, f => by
    rw [List.all_cons, Bool.and_eq_true] at f ⊢
    exact ⟨h.flat f.1, r.flat f.2⟩
theorem RepL.inV {K : Fg} {H : Hp} {x : V} {a : D} (hx : Rep K H x a) (fa : a.flat = true) : ∀ {vs : List V} {ds : List D}, RepL K H vs ds → ds.all D.flat = true → L2.inV x vs = ds.any fun b => eqB b a
  | _, _, .nil, _ => rfl
  | _, _, .cons (v := v) (vs := vs) (d := d) (ds := ds) h r, f => by
    rw [List.all_cons, Bool.and_eq_true] at f
    show (L2.eqV v x || L2.inV x vs) = (eqB d a || ds.any fun b => eqB b a)
    rw [h.eqV hx f.1 fa, r.inV hx fa f.2, eqB_eq]
theorem inB_ok {K : Fg} {neg : Bool} {H Hf : Hp} {x y : V} {a b : D} {k : Bool} {Q : VK} (hf : ∀ b o, Hf b = some o → H b = some o) (ra : Rep K Hf x a) (rb : Rep K Hf y b) (hg : inB a b = some k) (q : Q (.bl (if neg then !k else k)) H) : inR K neg x y H Q := by
  cases rb <;> first | (cases a <;> simp [inB] at hg; done) | skip
  · rename_i z
    cases ra <;> first | (simp [inB] at hg; done) | skip
    rename_i w
    simp only [inB] at hg
    split at hg
    · rename_i hz
      simp only [Option.some.injEq] at hg
      subst hg
      obtain ⟨⟨cs⟩⟩ := w
      match cs, hz with
      | [c], _ => exact .inl ⟨c, z, rfl, rfl, q⟩
    · cases hg
  all_goals
    rename_i p xs ds hp rp
    have hg' : (if (a.flat && ds.all D.flat) = true then some (ds.any fun b => eqB b a) else none) = some k := by
      cases a <;> exact hg
    split at hg'
    · rename_i hz
      simp only [Option.some.injEq] at hg'
      subst hg'
      obtain ⟨h1, h2⟩ := Bool.and_eq_true_iff.mp hz
      refine .inr ⟨p, xs, rfl, ?_, ra.flat h1, rp.flat h2, ?_⟩
      · first | exact .inr (sqT_same hf hp) | exact .inl (.inl (.inl (hf _ _ hp)))
      · rw [rp.inV ra h1 h2]
        exact q
    · cases hg'
theorem opS_in {K : Fg} : OpS K (inR K false) inD := by
  intro H Hf x y a b c Q hf ra rb hg k
  unfold inD at hg
  cases e : inB a b with
  | none => rw [e] at hg; cases hg
  | some z =>
    rw [e] at hg
    cases hg
    exact inB_ok hf ra rb e (k _ _ _ (Ext.refl hf) (.bl _))
theorem opS_notin {K : Fg} : OpS K (inR K true) notinD := by
  intro H Hf x y a b c Q hf ra rb hg k
  unfold notinD at hg
  cases e : inB a b with
  | none => rw [e] at hg; cases hg
  | some z =>
    rw [e] at hg
    cases hg
    exact inB_ok hf ra rb e (k _ _ _ (Ext.refl hf) (.bl _))
end DL
/-! The data layer, 4: constants, names, tests, displays, subscripts, calls of built-ins. -/
namespace DL
open PySem L2
section
variable {X : Cx} {pos : Pos}
def tK (d : D) : TD := fun ρ P => P (.fz d) ρ
theorem de_tC {e : Expr} {v : V} {d : D} (h : PE X e (tC v)) (r : ∀ H, Rep X.K H v d) : DE X e (tK d) :=
  DE.of h fun σ H Hf ρ P Q e q k => k v H Hf (.fz d) ρ e (Mv.refl ..) (r _) q
theorem de_int {i : Int} {j : Nat} : DE X (.Constant (.int i) j pos) (tK (.int i)) := de_tC pe_int fun _ => .int i
theorem de_bl {b : Bool} {j : Nat} : DE X (.Constant (.bool b) j pos) (tK (.bl b)) := de_tC pe_bl fun _ => .bl b
theorem de_non {j : Nat} : DE X (.Constant .none j pos) (tK .non) := de_tC pe_non fun _ => .non
theorem de_str {x : Str} {j : Nat} : DE X (.Constant (.str x) j pos) (tK (.str x)) := de_tC pe_str fun _ => .str x
theorem de_glob {x : Str} {v : V} {u : Value} {d : D} (hg : Gl X x) (hm : X.mg x = some u) (r : RelV v u) (rp : ∀ H, Rep X.K H v d) (hd : (x == ("__debug__" : Str)) = false := by decide) : DE X (.Name x pos) (tK d) := de_tC (pe_glob hg hm r hd) rp
theorem de_ty {x : Str} {n : String} (hg : Gl X x) (hm : X.mg x = none) (hv : bootBuiltins x = some (.type n)) (hn : x ≠ "__name__" := by decide) (hd : (x == ("__debug__" : Str)) = false := by decide) : DE X (.Name x pos) (tK (.ty n)) :=
  de_tC (pe_bltn hg hm hv (v := .ty n) rfl hn hd) fun _ => .ty n
/-- a name that holds data -/
def tV (i : Nat) : TD := fun ρ P => ∃ d, ρ[i]? = some (some (.fz d)) ∧ P (.fz d) ρ
theorem de_v (i : Nat) {x : Str} (hN : X.N[i]? = some x := by rfl) (hv : Vis X.env.scope x := by first | exact Or.inl rfl | exact Or.inr (Or.inl rfl) | exact Or.inr (Or.inr rfl)) (hd : (x == ("__debug__" : Str)) = false := by decide) (hcd : (x == ("__classdict__" : Str)) = false := by decide) :
    DE X (.Name x pos) (tV i) := DE.of (pe_var hN hv hd hcd) fun σ H Hf ρ P Q e ⟨d, h, q⟩ k => by
  obtain ⟨v, h1, h2⟩ := e.sl i _ h
  exact ⟨v, h1, k v H Hf (.fz d) ρ e (Mv.refl ..) h2 q⟩
/-- a name that holds a list of one's own: it is frozen -/
def tVF (i : Nat) : TD := fun ρ P => ∃ xs, ρ[i]? = some (some (.ow false xs)) ∧ P (.fz (.lst xs)) (ρ.set i (some (.fz (.lst xs))))
theorem set_get {ρ : Ev} {i j : Nat} {s : Option Sl} : (ρ.set i s)[j]? = if i = j then (if i < ρ.length then some s else none) else ρ[j]? := by
  rw [List.getElem?_set]
theorem lt_of {ρ : Ev} {i : Nat} {s : Option Sl} (h : ρ[i]? = some s) : i < ρ.length := by
  rw [List.getElem?_eq_some_iff] at h
  exact h.1
theorem freeze_slot {K : Fg} {H Hf : Hp} {σ : St} {ρ : Ev} {i : Nat} {xs : List D} (e : DEnv K H Hf σ ρ) (h : ρ[i]? = some (some (.ow false xs))) :
    ∃ a ys, σ[i]? = some (some (.ref a)) ∧ DEnv K H (upd Hf a (.lst ys)) σ (ρ.set i (some (.fz (.lst xs)))) ∧ Mv σ ρ (ρ.set i (some (.fz (.lst xs)))) H H Hf (upd Hf a (.lst ys)) ∧ Rep K (upd Hf a (.lst ys)) (.ref a) (.lst xs) := by
  obtain ⟨a, ys, h1, h2, h3, h4⟩ := e.sl i _ h
  have hlt := lt_of h
  have g : ∀ b o, Hf b = some o → upd Hf a (.lst ys) b = some o := fun b o q => by rw [upd_ne (ne_of_none q h3)]; exact q
  have rp : Rep K (upd Hf a (.lst ys)) (.ref a) (.lst xs) := .lst upd_same (h4.mono g)
  refine ⟨a, ys, h1, ⟨fun b o q => ?_, fun j s q => ?_, fun j k b p us p' zs q1 q2 q3 q4 => ?_, by rw [List.length_set]; exact e.len⟩, ⟨fun _ _ q _ => q, fun _ q => q, g, fun b o q => ?_, fun j p us q => ?_, fun j us q => ?_⟩, rp⟩
  · by_cases hb : b = a
    · subst hb
      rw [upd_same] at q
      rw [h2]
      exact q
    · rw [upd_ne hb] at q
      exact e.sub b o q
  · rw [set_get] at q
    by_cases hj : i = j
    · subst hj
      rw [if_pos rfl, if_pos hlt] at q
      cases q
      exact ⟨.ref a, h1, rp⟩
    · rw [if_neg hj] at q
      have z := e.sl j s q
      cases s with
      | fz d =>
        obtain ⟨v, z1, z2⟩ := z
        exact ⟨v, z1, z2.mono g⟩
      | ow p us =>
        obtain ⟨b, zs, z1, z2, z3, z4⟩ := z
        have hb : b ≠ a := fun w => by
          subst w
          exact hj (e.sep i j b _ _ _ _ h q h1 z1)
        exact ⟨b, zs, z1, z2, by rw [upd_ne hb]; exact z3, z4.mono g⟩
  · rw [set_get] at q1 q2
    by_cases hj : i = j
    · rw [if_pos hj, if_pos hlt] at q1
      cases q1
    by_cases hk : i = k
    · rw [if_pos hk, if_pos hlt] at q2
      cases q2
    rw [if_neg hj] at q1
    rw [if_neg hk] at q2
    exact e.sep j k b _ _ _ _ q1 q2 q3 q4
  · by_cases hb : b = a
    · subst hb
      exact .inr (.inr ⟨i, false, xs, h, h1⟩)
    · rw [upd_ne hb] at q
      exact .inl q
  · rw [set_get] at q
    by_cases hj : i = j
    · rw [if_pos hj, if_pos hlt] at q
      cases q
    · rw [if_neg hj] at q
      exact ⟨us, q⟩
  · by_cases hj : i = j
    · subst hj
      rw [h] at q
      cases q
    · exact ⟨us, by rw [set_get, if_neg hj]; exact q⟩
theorem de_vf (i : Nat) {x : Str} (hN : X.N[i]? = some x := by rfl) (hv : Vis X.env.scope x := by first | exact Or.inl rfl | exact Or.inr (Or.inl rfl) | exact Or.inr (Or.inr rfl)) (hd : (x == ("__debug__" : Str)) = false := by decide) (hcd : (x == ("__classdict__" : Str)) = false := by decide) :
    DE X (.Name x pos) (tVF i) := DE.of (pe_var hN hv hd hcd) fun σ H Hf ρ P Q e ⟨xs, h, q⟩ k => by
  obtain ⟨a, ys, h1, h2, h3, h4⟩ := freeze_slot e h
  exact ⟨.ref a, h1, k _ H _ (.fz (.lst xs)) _ h2 h3 h4 q⟩
end
/-! ### tests -/
abbrev TDT := Ev → (Bool → Ev → Prop) → Prop
def canT (K : Fg) (τ : TDT) : TT := fun σ H Q => ∃ (Hf : Hp) (ρ : Ev) (P : Bool → Ev → Prop), DEnv K H Hf σ ρ ∧ τ ρ P ∧ (∀ b H' Hf' ρ', DEnv K H' Hf' σ ρ' → Mv σ ρ ρ' H H' Hf Hf' → P b ρ' → Q b H')
structure DT (X : Cx) (e : Expr) (τ : TDT) : Prop where
  pt : PT X e (canT X.K τ)
structure DW (X : Cx) (e : Expr) (τ : TDT) : Prop where
  pw : PW X e (canT X.K τ)
section
variable {X : Cx} {pos : Pos} {a b c e : Expr} {rest : List Expr} {τa τb τc : TD} {tA tB : TDT} {op : Operator}
theorem DT.of {τ : TDT} {t : TT} (h : PT X e t) (k : ∀ (σ : St) (H Hf : Hp) (ρ : Ev) (P : Bool → Ev → Prop) (Q : Bool → Hp → Prop), DEnv X.K H Hf σ ρ → τ ρ P → (∀ b H' Hf' ρ', DEnv X.K H' Hf' σ ρ' → Mv σ ρ ρ' H H' Hf Hf' → P b ρ' → Q b H') → t σ H Q) : DT X e τ :=
  ⟨⟨fun pins s σ H Q I ⟨Hf, ρ, P, e, q, kk⟩ => h.run pins s σ H Q I (k σ H Hf ρ P Q e q kk)⟩⟩
theorem DW.of {τ : TDT} {t : TT} (h : PW X e t) (k : ∀ (σ : St) (H Hf : Hp) (ρ : Ev) (P : Bool → Ev → Prop) (Q : Bool → Hp → Prop), DEnv X.K H Hf σ ρ → τ ρ P → (∀ b H' Hf' ρ', DEnv X.K H' Hf' σ ρ' → Mv σ ρ ρ' H H' Hf Hf' → P b ρ' → Q b H') → t σ H Q) : DW X e τ :=
  ⟨⟨fun wh pins s σ H Q I ⟨Hf, ρ, P, e, q, kk⟩ => h.run wh pins s σ H Q I (k σ H Hf ρ P Q e q kk)⟩⟩
theorem DW.dt {τ : TDT} (h : DW X e τ) : DT X e τ := ⟨h.pw.pt⟩
def tT (τ : TD) : TDT := fun ρ P => τ ρ fun r ρ' => ∃ b, r.dat = .bl b ∧ P b ρ'
theorem Rep.bl_inv {K : Fg} {H : Hp} {v : V} {b : Bool} (h : Rep K H v (.bl b)) : v = .bl b := by cases h; rfl
theorem Rep.int_inv {K : Fg} {H : Hp} {v : V} {b : Int} (h : Rep K H v (.int b)) : v = .int b := by cases h; rfl
theorem Rep.str_inv {K : Fg} {H : Hp} {v : V} {b : Str} (h : Rep K H v (.str b)) : v = .str b := by cases h; rfl
theorem dt_val (h : DE X e τa) (he : ∀ whole, isTrue e X.env whole = (do let v ← whole; standAt e.pos; holding [v] (truthy v)) := by intro _; rfl) : DT X e (tT τa) := by
  obtain ⟨t, p, s⟩ := h.fz
  refine DT.of (pt_val p he) fun σ H Hf ρ P Q e q k => s σ H Hf ρ (fun d ρ' => ∃ b, d = .bl b ∧ P b ρ') _ e q fun v H' Hf' d ρ' e1 m1 r1 ⟨b, hb, p1⟩ => ?_
  subst hb
  exact ⟨b, r1.bl_inv, k b H' Hf' ρ' e1 m1 p1⟩
/-- a comparison of two as a test -/
theorem dt_cmp {cop : CmpOp} {r : R2} {g : D → D → Option Res} (ho : OpR X (compareOp cop) r) (hs : OpS X.K r g) (ha : DE X a τa) (hb : DE X b τb) (hm : behindInMarks cop b = false) : DT X (.Compare a [cop] [b] pos) (tT (tBin g τa τb)) := by
  obtain ⟨ta, pa, sa⟩ := ha.fz
  obtain ⟨tb, pb, sb⟩ := hb.fz
  refine DT.of (pt_cmpR ho pa pb hm) fun σ H Hf ρ P Q e q k => ?_
  refine run2 hs sa sb σ H Hf ρ _ _ e q fun v H' Hf' r ρ' e1 m1 r1 ⟨b, hb, p1⟩ => ?_
  obtain ⟨Hf2, e2, m2, r2⟩ := r1.freeze e e1 m1
  rw [hb] at r2
  exact ⟨b, r2.bl_inv, k b H' Hf2 ρ' e2 m2 p1⟩
def tAndT (a b : TDT) : TDT := fun ρ P => a ρ fun c ρ1 => if c = true then b ρ1 P else P false ρ1
def tOrT (a b : TDT) : TDT := fun ρ P => a ρ fun c ρ1 => if c = true then P true ρ1 else b ρ1 P
def tNotT (a : TDT) : TDT := fun ρ P => a ρ fun c ρ1 => P (!c) ρ1
theorem dw_and1 (ha : DT X a tA) : DW X (.BoolOp .And [a] pos) tA := ⟨pw_and1 ha.pt⟩
theorem dw_or1 (ha : DT X a tA) : DW X (.BoolOp .Or [a] pos) tA := ⟨pw_or1 ha.pt⟩
theorem dw_and (ha : DT X a tA) (hb : DW X (.BoolOp .And (b :: rest) pos) tB) : DW X (.BoolOp .And (a :: b :: rest) pos) (tAndT tA tB) := by
  refine DW.of (pw_and ha.pt hb.pw) fun σ H Hf ρ P Q e q k => ⟨Hf, ρ, _, e, q, fun c H' Hf' ρ' e1 m1 p1 => ?_⟩
  cases c with
  | true => exact ⟨Hf', ρ', P, e1, p1, fun b H2 Hf2 ρ2 e2 m2 p2 => k b H2 Hf2 ρ2 e2 (m1.trans m2) p2⟩
  | false => exact k false H' Hf' ρ' e1 m1 p1
theorem dw_or (ha : DT X a tA) (hb : DW X (.BoolOp .Or (b :: rest) pos) tB) : DW X (.BoolOp .Or (a :: b :: rest) pos) (tOrT tA tB) := by
  refine DW.of (pw_or ha.pt hb.pw) fun σ H Hf ρ P Q e q k => ⟨Hf, ρ, _, e, q, fun c H' Hf' ρ' e1 m1 p1 => ?_⟩
  cases c with
  | false => exact ⟨Hf', ρ', P, e1, p1, fun b H2 Hf2 ρ2 e2 m2 p2 => k b H2 Hf2 ρ2 e2 (m1.trans m2) p2⟩
  | true => exact k true H' Hf' ρ' e1 m1 p1
theorem dt_not (ha : DT X a tA) : DT X (.UnaryOp .Not a pos) (tNotT tA) := by
  refine DT.of (pt_not ha.pt) fun σ H Hf ρ P Q e q k => ⟨Hf, ρ, _, e, q, fun c H' Hf' ρ' e1 m1 p1 => k (!c) H' Hf' ρ' e1 m1 p1⟩
/-! ### and, or, not, if as values -/
def tAndE (a b : TD) : TD := fun ρ P => a ρ fun x ρ1 => ∃ c, x.dat = .bl c ∧ if c = true then b ρ1 P else P (.fz (.bl false)) ρ1
def tOrE (a b : TD) : TD := fun ρ P => a ρ fun x ρ1 => ∃ c, x.dat = .bl c ∧ if c = true then P (.fz (.bl true)) ρ1 else b ρ1 P
def tNotE (a : TD) : TD := fun ρ P => a ρ fun x ρ1 => ∃ c, x.dat = .bl c ∧ P (.fz (.bl (!c))) ρ1
def tIfE (c : TDT) (a b : TD) : TD := fun ρ P => c ρ fun k ρ1 => if k = true then a ρ1 P else b ρ1 P
theorem de_one {bop : BoolOp} (h : DE X a τa) : DE X (.BoolOp bop [a] pos) τa := ⟨pe_one h.pe⟩
theorem de_and (ha : DE X a τa) (hb : DE X (.BoolOp .And (b :: rest) pos) τb) : DE X (.BoolOp .And (a :: b :: rest) pos) (tAndE τa τb) := by
  obtain ⟨ta, pa, sa⟩ := ha.fz
  obtain ⟨tb, pb, sb⟩ := hb.ex
  refine DE.of (pe_and pa pb) fun σ H Hf ρ P Q e q k => sa σ H Hf ρ (fun d ρ1 => ∃ c, d = .bl c ∧ if c = true then τb ρ1 P else P (.fz (.bl false)) ρ1) _ e q fun v H1 Hf1 d ρ1 e1 m1 r1 ⟨c, hc, p1⟩ => ?_
  subst hc
  refine ⟨c, r1.bl_inv, ?_⟩
  cases c with
  | true => exact sb σ H1 Hf1 ρ1 P Q e1 p1 fun v H2 Hf2 r ρ2 e2 m2 r2 p2 => k v H2 Hf2 r ρ2 e2 (m1.trans m2) (r2.back m1.live) p2
  | false => exact k _ H1 Hf1 (.fz (.bl false)) ρ1 e1 m1 (.bl false) p1
theorem de_or (ha : DE X a τa) (hb : DE X (.BoolOp .Or (b :: rest) pos) τb) : DE X (.BoolOp .Or (a :: b :: rest) pos) (tOrE τa τb) := by
  obtain ⟨ta, pa, sa⟩ := ha.fz
  obtain ⟨tb, pb, sb⟩ := hb.ex
  refine DE.of (pe_or pa pb) fun σ H Hf ρ P Q e q k => sa σ H Hf ρ (fun d ρ1 => ∃ c, d = .bl c ∧ if c = true then P (.fz (.bl true)) ρ1 else τb ρ1 P) _ e q fun v H1 Hf1 d ρ1 e1 m1 r1 ⟨c, hc, p1⟩ => ?_
  subst hc
  refine ⟨c, r1.bl_inv, ?_⟩
  cases c with
  | false => exact sb σ H1 Hf1 ρ1 P Q e1 p1 fun v H2 Hf2 r ρ2 e2 m2 r2 p2 => k v H2 Hf2 r ρ2 e2 (m1.trans m2) (r2.back m1.live) p2
  | true => exact k _ H1 Hf1 (.fz (.bl true)) ρ1 e1 m1 (.bl true) p1
theorem de_not (ha : DE X a τa) : DE X (.UnaryOp .Not a pos) (tNotE τa) := by
  obtain ⟨ta, pa, sa⟩ := ha.fz
  refine DE.of (pe_not pa) fun σ H Hf ρ P Q e q k => sa σ H Hf ρ (fun d ρ1 => ∃ c, d = .bl c ∧ P (.fz (.bl (!c))) ρ1) _ e q fun v H1 Hf1 d ρ1 e1 m1 r1 ⟨c, hc, p1⟩ => ?_
  subst hc
  exact ⟨c, r1.bl_inv, k _ H1 Hf1 (.fz (.bl (!c))) ρ1 e1 m1 (.bl _) p1⟩
theorem de_if (hc : DT X c tA) (ha : DE X a τa) (hb : DE X b τb) : DE X (.IfExp c a b pos) (tIfE tA τa τb) := by
  refine DE.of (pe_ifExp hc.pt ha.pe hb.pe) fun σ H Hf ρ P Q e q k => ⟨Hf, ρ, _, e, q, fun c H1 Hf1 ρ1 e1 m1 p1 => ?_⟩
  cases c with
  | true => exact ⟨Hf1, ρ1, P, e1, p1, fun v H2 Hf2 r ρ2 e2 m2 r2 p2 => k v H2 Hf2 r ρ2 e2 (m1.trans m2) (r2.back m1.live) p2⟩
  | false => exact ⟨Hf1, ρ1, P, e1, p1, fun v H2 Hf2 r ρ2 e2 m2 r2 p2 => k v H2 Hf2 r ρ2 e2 (m1.trans m2) (r2.back m1.live) p2⟩
/-- a < b < c -/
def tChn (g g' : D → D → Option Res) (a b c : TD) : TD := fun ρ P => a ρ fun x ρ1 => b ρ1 fun y ρ2 => ∃ z k, g x.dat y.dat = some z ∧ z.dat = .bl k ∧ if k = true then c ρ2 (fun w ρ3 => ∃ z', g' y.dat w.dat = some z' ∧ P z' ρ3) else P (.fz (.bl false)) ρ2
theorem run3 {cop cop' : CmpOp} {r r' : R2} {g g' : D → D → Option Res} {ta tb tc : TE} (hs : OpS X.K r g) (hs' : OpS X.K r' g')
    (sa : ∀ (σ : St) (H Hf : Hp) (ρ : Ev) (P : D → Ev → Prop) (Q : VK), DEnv X.K H Hf σ ρ → τa ρ (fun r ρ' => P r.dat ρ') → (∀ v H' Hf' d ρ', DEnv X.K H' Hf' σ ρ' → Mv σ ρ ρ' H H' Hf Hf' → Rep X.K Hf' v d → P d ρ' → Q v H') → ta σ H Q)
    (sb : ∀ (σ : St) (H Hf : Hp) (ρ : Ev) (P : D → Ev → Prop) (Q : VK), DEnv X.K H Hf σ ρ → τb ρ (fun r ρ' => P r.dat ρ') → (∀ v H' Hf' d ρ', DEnv X.K H' Hf' σ ρ' → Mv σ ρ ρ' H H' Hf Hf' → Rep X.K Hf' v d → P d ρ' → Q v H') → tb σ H Q)
    (sc : ∀ (σ : St) (H Hf : Hp) (ρ : Ev) (P : D → Ev → Prop) (Q : VK), DEnv X.K H Hf σ ρ → τc ρ (fun r ρ' => P r.dat ρ') → (∀ v H' Hf' d ρ', DEnv X.K H' Hf' σ ρ' → Mv σ ρ ρ' H H' Hf Hf' → Rep X.K Hf' v d → P d ρ' → Q v H') → tc σ H Q)
    (σ : St) (H Hf : Hp) (ρ : Ev) (P : Res → Ev → Prop) (Q : VK) (e : DEnv X.K H Hf σ ρ) (q : tChn g g' τa τb τc ρ P)
    (k : ∀ v H' Hf' r ρ', DEnv X.K H' Hf' σ ρ' → Mv σ ρ ρ' H H' Hf Hf' → ResOk X.K H H' Hf' v r → P r ρ' → Q v H') : tChain r r' ta tb tc σ H Q := by
  refine sa σ H Hf ρ (fun x ρ1 => τb ρ1 fun y ρ2 => ∃ z k, g x y.dat = some z ∧ z.dat = .bl k ∧ if k = true then τc ρ2 (fun w ρ3 => ∃ z', g' y.dat w.dat = some z' ∧ P z' ρ3) else P (.fz (.bl false)) ρ2) _ e q fun x H1 Hf1 dx ρ1 e1 m1 r1 q1 => ?_
  refine sb σ H1 Hf1 ρ1 (fun y ρ2 => ∃ z k, g dx y = some z ∧ z.dat = .bl k ∧ if k = true then τc ρ2 (fun w ρ3 => ∃ z', g' y w.dat = some z' ∧ P z' ρ3) else P (.fz (.bl false)) ρ2) _ e1 q1 fun y H2 Hf2 dy ρ2 e2 m2 r2 q2 => ?_
  obtain ⟨c, kk, hc, hd, p⟩ := q2
  refine hs H2 Hf2 x y dx dy c _ e2.sub (r1.mono m2.grow) r2 hc fun v H3 Hf3 x3 ok => ?_
  obtain ⟨Hf4, e4, m4, r4⟩ := ok.freeze e2 (x3.env e2) x3.mv
  rw [hd] at r4
  refine ⟨kk, r4.bl_inv, ?_⟩
  have m5 := (m1.trans m2).trans m4
  cases kk with
  | false => exact k _ H3 Hf4 (.fz (.bl false)) ρ2 e4 m5 (.bl false) p
  | true =>
    refine sc σ H3 Hf4 ρ2 (fun w ρ3 => ∃ z', g' dy w = some z' ∧ P z' ρ3) _ e4 p fun w H5 Hf5 dw ρ5 e5 m6 r6 q6 => ?_
    obtain ⟨z', hz, p6⟩ := q6
    refine hs' H5 Hf5 y w dy dw z' Q e5.sub ((r2.mono m4.grow).mono m6.grow) r6 hz fun v H7 Hf7 x7 ok7 => ?_
    exact k v H7 Hf7 z' ρ5 (x7.env e5) ((m5.trans m6).trans x7.mv) (ok7.back (m5.trans m6).live) p6
theorem de_chn {cop cop' : CmpOp} {r r' : R2} {g g' : D → D → Option Res} (ho : OpR X (compareOp cop) r) (hs : OpS X.K r g) (ho' : OpR X (compareOp cop') r') (hs' : OpS X.K r' g') (ha : DE X a τa) (hb : DE X b τb) (hc : DE X c τc)
    (hm : lastMarks [cop, cop'] [b, c] = false := by with_unfolding_all rfl) : DE X (.Compare a [cop, cop'] [b, c] pos) (tChn g g' τa τb τc) := by
  obtain ⟨ta, pa, sa⟩ := ha.fz
  obtain ⟨tb, pb, sb⟩ := hb.fz
  obtain ⟨tc, pc, sc⟩ := hc.fz
  exact DE.of (pe_chain ho ho' pa pb pc hm) (run3 (cop := cop) (cop' := cop') hs hs' sa sb sc)
theorem dt_chn {cop cop' : CmpOp} {r r' : R2} {g g' : D → D → Option Res} (ho : OpR X (compareOp cop) r) (hs : OpS X.K r g) (ho' : OpR X (compareOp cop') r') (hs' : OpS X.K r' g') (ha : DE X a τa) (hb : DE X b τb) (hc : DE X c τc)
    (hm : lastMarks [cop, cop'] [b, c] = false := by with_unfolding_all rfl) : DT X (.Compare a [cop, cop'] [b, c] pos) (tT (tChn g g' τa τb τc)) := by
  obtain ⟨ta, pa, sa⟩ := ha.fz
  obtain ⟨tb, pb, sb⟩ := hb.fz
  obtain ⟨tc, pc, sc⟩ := hc.fz
  refine DT.of (pt_chain ho ho' pa pb pc hm) fun σ H Hf ρ P Q e q k => ?_
  refine run3 (cop := cop) (cop' := cop') hs hs' sa sb sc σ H Hf ρ _ _ e q fun v H' Hf' r ρ' e1 m1 r1 ⟨b, hb, p1⟩ => ?_
  obtain ⟨Hf2, e2, m2, r2⟩ := r1.freeze e e1 m1
  rw [hb] at r2
  exact ⟨b, r2.bl_inv, k b H' Hf2 ρ' e2 m2 p1⟩
end
/-! ### argument lists, displays -/
abbrev TDA := Ev → (List D → Ev → Prop) → Prop
def canA (K : Fg) (n : Nat) (τ : TDA) : TA := fun σ H Q => ∃ (Hf : Hp) (ρ : Ev) (P : List D → Ev → Prop), DEnv K H Hf σ ρ ∧ τ ρ P ∧ (∀ vs H' Hf' ds ρ', DEnv K H' Hf' σ ρ' → Mv σ ρ ρ' H H' Hf Hf' → RepL K Hf' vs ds → ds.length = n → P ds ρ' → Q vs H')
structure DA (X : Cx) (es : List Expr) (τ : TDA) : Prop where
  pa : PA X es (canA X.K es.length τ)
section
variable {X : Cx} {pos : Pos} {e : Expr} {es : List Expr} {τ : TD} {τs : TDA}
theorem DA.of {t : TA} (h : PA X es t) (k : ∀ (σ : St) (H Hf : Hp) (ρ : Ev) (P : List D → Ev → Prop) (Q : List V → Hp → Prop), DEnv X.K H Hf σ ρ → τs ρ P → (∀ vs H' Hf' ds ρ', DEnv X.K H' Hf' σ ρ' → Mv σ ρ ρ' H H' Hf Hf' → RepL X.K Hf' vs ds → ds.length = es.length → P ds ρ' → Q vs H') → t σ H Q) : DA X es τs :=
  ⟨⟨fun pos pins s σ H Q I ⟨Hf, ρ, P, e, q, kk⟩ => h.run pos pins s σ H Q I (k σ H Hf ρ P Q e q kk)⟩⟩
def tANil : TDA := fun ρ P => P [] ρ
def tACons (a : TD) (r : TDA) : TDA := fun ρ P => a ρ fun x ρ1 => r ρ1 fun xs ρ2 => P (x.dat :: xs) ρ2
theorem da_nil : DA X [] tANil := DA.of pa_nil fun σ H Hf ρ P Q e q k => k [] H Hf [] ρ e (Mv.refl ..) .nil rfl q
theorem da_cons (ha : DE X e τ) (hr : DA X es τs) (hs : starEach (e :: es) X.env = (false, eval e X.env) :: starEach es X.env := by rfl) : DA X (e :: es) (tACons τ τs) := by
  obtain ⟨ta, pa, sa⟩ := ha.fz
  refine DA.of (pa_cons pa hr.pa hs) fun σ H Hf ρ P Q e q k => sa σ H Hf ρ (fun d ρ1 => τs ρ1 fun xs ρ2 => P (d :: xs) ρ2) _ e q fun v H1 Hf1 d ρ1 e1 m1 r1 p1 => ?_
  exact ⟨Hf1, ρ1, _, e1, p1, fun vs H2 Hf2 ds ρ2 e2 m2 r2 l2 p2 => k (v :: vs) H2 Hf2 (d :: ds) ρ2 e2 (m1.trans m2) (.cons (r1.mono m2.grow) r2) (by rw [List.length_cons, l2, List.length_cons]) p2⟩
def tTupD (τ : TDA) : TD := fun ρ P => τ ρ fun ds ρ1 => ds.length ≤ 16000 ∧ P (.fz (.tup ds)) ρ1
def tLstD (τ : TDA) : TD := fun ρ P => τ ρ fun ds ρ1 => ds.length ≤ 16000 ∧ P (.fr ds) ρ1
theorem de_tup {x1 : Nat} (h : DA X es τs) : DE X (.Tuple es x1 pos) (tTupD τs) := by
  refine DE.of (pe_tup h.pa) fun σ H Hf ρ P Q e q k => ⟨Hf, ρ, _, e, q, fun vs H1 Hf1 ds ρ1 e1 m1 r1 _ ⟨hz, p1⟩ => ⟨by rw [r1.length]; exact lim hz, fun n hn => ?_⟩⟩
  obtain ⟨x1, x2⟩ := new_tup e1.sub hn r1
  exact k _ _ _ _ ρ1 (x1.env e1) (m1.trans x1.mv) (x2.back m1.live) p1
theorem de_lst (h : DA X es τs) : DE X (.List es pos) (tLstD τs) := by
  refine DE.of (pe_lst h.pa) fun σ H Hf ρ P Q e q k => ⟨Hf, ρ, _, e, q, fun vs H1 Hf1 ds ρ1 e1 m1 r1 _ ⟨hz, p1⟩ => ⟨by rw [r1.length]; exact lim hz, fun n hn => ?_⟩⟩
  obtain ⟨x1, x2⟩ := new_lst e1.sub hn r1
  exact k _ _ _ _ ρ1 (x1.env e1) (m1.trans x1.mv) (x2.back m1.live) p1
end
/-! ### subscripts, slices -/
def ixD : D → D → Option Res
  | .tup xs, .int i => (atI xs i).map .fz
  | .lst xs, .int i => (atI xs i).map .fz
  | .scr ns, .int i => (atI ns i).map fun n => .fz (.int n)
  | .str z, .int i => if z.length ≤ 100000 then (atI z.cps.toList i).map fun c => .fz (.str ⟨#[c]⟩) else none
  | _, _ => none
theorem RepL.atI {K : Fg} {H : Hp} {vs : List V} {ds : List D} {i : Int} {d : D} (r : RepL K H vs ds) (h : L2.atI ds i = some d) : ∃ v, L2.atI vs i = some v ∧ Rep K H v d := by
  unfold L2.atI at h ⊢
  rw [r.length]
  cases e : ixN ds.length i with
  | none => rw [e] at h; cases h
  | some j =>
    rw [e] at h
    exact r.get h
theorem opS_ix {K : Fg} : OpS K (rIx K) ixD := by
  intro H Hf x y a b c Q hf ra rb hg k
  cases rb <;> first | (cases a <;> simp [ixD] at hg; done) | skip
  rename_i i
  cases ra <;> first | (simp [ixD] at hg; done) | skip
  · rename_i z
    simp only [ixD] at hg
    split at hg
    · rename_i hz
      cases e : atI z.cps.toList i with
      | none => rw [e] at hg; cases hg
      | some ch =>
        rw [e] at hg
        cases hg
        exact .inr (.inr ⟨z, i, ch, rfl, rfl, lim hz, e, k _ _ _ (Ext.refl hf) (.str _)⟩)
    · cases hg
  · rename_i p ns hp
    simp only [ixD] at hg
    cases e : atI ns i with
    | none => rw [e] at hg; cases hg
    | some n =>
      rw [e] at hg
      cases hg
      refine .inl ⟨p, _, i, .int n, rfl, rfl, sqL_same hf hp, ?_, k _ _ _ (Ext.refl hf) (.int n)⟩
      unfold atI at e ⊢
      rw [List.length_map]
      cases e2 : ixN ns.length i with
      | none => rw [e2] at e; cases e
      | some j =>
        rw [e2] at e
        show (ns.map V.int)[j]? = _
        rw [List.getElem?_map]
        have e3 : ns[j]? = some n := e
        rw [e3]
        rfl
  · rename_i p xs ds hp rp
    simp only [ixD] at hg
    cases e : atI ds i with
    | none => rw [e] at hg; cases hg
    | some d =>
      rw [e] at hg
      cases hg
      obtain ⟨v, h1, h2⟩ := rp.atI e
      exact .inr (.inl ⟨p, xs, i, v, rfl, rfl, sqT_same hf hp, h1, k _ _ _ (Ext.refl hf) h2⟩)
  · rename_i p xs ds hp rp
    simp only [ixD] at hg
    cases e : atI ds i with
    | none => rw [e] at hg; cases hg
    | some d =>
      rw [e] at hg
      cases hg
      obtain ⟨v, h1, h2⟩ := rp.atI e
      exact .inl ⟨p, xs, i, v, rfl, rfl, .inl (.inl (hf _ _ hp)), h1, k _ _ _ (Ext.refl hf) h2⟩
theorem de_ix {X : Cx} {a b : Expr} {τa τb : TD} {pos : Pos} (ha : DE X a τa) (hb : DE X b τb) (hs : PlainIx b) : DE X (.Subscript a b pos) (tBin ixD τa τb) := by
  obtain ⟨ta, pa, sa⟩ := ha.fz
  obtain ⟨tb, pb, sb⟩ := hb.fz
  exact DE.of (pe_ix ix_seq pa pb hs) (run2 opS_ix sa sb)
end DL
/-! The data layer, 5: slices, built-ins, contracts and calls, lists of one's own. -/
namespace L2
open PySem PySem.Spec PyProof.Rows
/-- list(text) -/
theorem call_list_txt {X : Cx} (hc : X.calm = true) : CallR X (.type "list") (fun xs H Q => ∃ z : Str, xs = [.str z] ∧ z.length ≤ sizeLine ∧ ∀ l, H l = none → Q (.ref l) (upd H l (.lst (z.cps.toList.map fun c => V.str ⟨#[c]⟩)))) := by
  intro pins s σ H xs us Q I r h
  obtain ⟨z, rfl, hz, q⟩ := h
  obtain ⟨u, rfl, t, rfl⟩ := vals1 r
  refine call_list_str (I.ok.hd hc) z t (hn := hz) fun h' tk acc' c' hk hS' hacc => ?_
  have hv : Vals (z.cps.toList.map fun c => V.str ⟨#[c]⟩) acc'.toList := by
    have key : ∀ (cs : List Nat) (as : List Value), as.length = cs.length → (∀ (j : Nat) (v : Value), as[j]? = some v → ∃ c u, cs[j]? = some c ∧ v = .str ⟨#[c]⟩ u) → Vals (cs.map fun c => V.str ⟨#[c]⟩) as := by
      intro cs
      induction cs with
      | nil =>
        intro as hl _
        cases as with
        | nil => exact .nil
        | cons _ _ => simp at hl
      | cons c cs ih =>
        intro as hl hj
        cases as with
        | nil => simp at hl
        | cons a as =>
          obtain ⟨c0, u0, e1, e2⟩ := hj 0 a rfl
          cases e1
          refine .cons ⟨u0, e2⟩ (ih as (by simpa using hl) fun j v hv => ?_)
          exact hj (j + 1) v (by simpa using hv)
    refine key _ _ (by rw [Array.length_toList, Array.length_toList, hacc.1]) fun j v hv => ?_
    obtain ⟨c, u, hc', rfl⟩ := hacc.2 j v (by simpa using hv)
    exact ⟨c, u, by simpa using hc', rfl⟩
  have hl : (z.cps.toList.map fun c => V.str ⟨#[c]⟩).length ≤ sizeLine := by rw [List.length_map, Array.length_toList]; exact hz
  refine ⟨.ref s.heap.objs.size, _, I.laid (t' := tk) (o := .lst (z.cps.toList.map fun c => V.str ⟨#[c]⟩)) hk (Nat.le_refl _) ⟨hl, acc'.toList, c', hv, by simpa using hS'⟩, rfl, q _ (I.hok.fresh (Nat.le_refl _))⟩
end L2
namespace DL
open PySem L2
/-! ### slices -/
abbrev TDO := Ev → (Option Int → Ev → Prop) → Prop
def canO (K : Fg) (τ : TDO) : TO := fun σ H Q => ∃ (Hf : Hp) (ρ : Ev) (P : Option Int → Ev → Prop), DEnv K H Hf σ ρ ∧ τ ρ P ∧ (∀ o H' Hf' ρ', DEnv K H' Hf' σ ρ' → Mv σ ρ ρ' H H' Hf Hf' → P o ρ' → Q o H')
structure DO (X : Cx) (e : Option Expr) (τ : TDO) : Prop where
  po : PO X e (canO X.K τ)
def tONone : TDO := fun ρ P => P none ρ
def tOSome (τ : TD) : TDO := fun ρ P => τ ρ fun r ρ1 => ∃ i, r.dat = .int i ∧ P (some i) ρ1
def cutD (xs : List D) (lo hi : Option Int) : List D := (xs.drop (HT.sIx xs.length 0 lo)).take (HT.sIx xs.length xs.length hi - HT.sIx xs.length 0 lo)
def slD : D → Option Int → Option Int → Option Res
  | .tup xs, lo, hi => some (.fz (.tup (cutD xs lo hi)))
  | .lst xs, lo, hi => some (.fr (cutD xs lo hi))
  | .str z, lo, hi => if z.length ≤ 100000 then some (.fz (.str (cutS z lo hi))) else none
  | _, _, _ => none
def tSlD (a : TD) (l h : TDO) : TD := fun ρ P => a ρ fun x ρ1 => l ρ1 fun lo ρ2 => h ρ2 fun hi ρ3 => ∃ c, slD x.dat lo hi = some c ∧ P c ρ3
def slR (K : Fg) : V → Option Int → Option Int → Hp → VK → Prop := fun x lo hi H Q => rSlA K x lo hi H Q ∨ (rSlL K x lo hi H Q ∨ rSlS x lo hi H Q)
theorem RepL.cut {K : Fg} {H : Hp} {vs : List V} {ds : List D} (r : RepL K H vs ds) (lo hi : Option Int) : RepL K H (cutV vs lo hi) (cutD ds lo hi) := by
  unfold cutV cutD
  rw [r.length]
  exact (r.drop _).take _
theorem slS {K : Fg} {H Hf : Hp} {x : V} {a : D} {lo hi : Option Int} {c : Res} {Q : VK} (hf : ∀ b o, Hf b = some o → H b = some o) (ra : Rep K Hf x a) (hg : slD a lo hi = some c)
    (k : ∀ v H' Hf', Ext H H' Hf Hf' → ResOk K H H' Hf' v c → Q v H') : slR K x lo hi H Q := by
  cases ra <;> first | (simp [slD] at hg; done) | skip
  · rename_i z
    simp only [slD] at hg
    split at hg
    · rename_i hz
      cases hg
      exact .inr (.inr ⟨z, rfl, lim hz, k _ _ _ (Ext.refl hf) (.str _)⟩)
    · cases hg
  · rename_i p xs ds hp rp
    simp only [slD] at hg
    cases hg
    refine .inl ⟨p, xs, rfl, sqT_same hf hp, fun z => ?_, fun _ n hn => ?_⟩
    · refine k _ _ _ (Ext.refl hf) (.tup hp ?_)
      have e : cutD ds lo hi = ds := by
        unfold cutD
        rw [← rp.length, z.1, z.2, List.drop_zero, Nat.sub_zero, rp.length]
        exact List.take_length
      rw [e]
      exact rp
    · obtain ⟨x1, x2⟩ := new_tup hf hn (rp.cut lo hi)
      exact k _ _ _ x1 x2
  · rename_i p xs ds hp rp
    simp only [slD] at hg
    cases hg
    refine .inr (.inl ⟨p, xs, rfl, .inl (.inl (hf _ _ hp)), fun n hn => ?_⟩)
    obtain ⟨x1, x2⟩ := new_lst hf hn (rp.cut lo hi)
    exact k _ _ _ x1 x2
section
variable {X : Cx} {pos p2 : Pos} {a e : Expr} {es : List Expr} {τa τ : TD} {τs : TDA}
theorem do_none : DO X none tONone := ⟨⟨fun pins s σ H Q I ⟨Hf, ρ, P, e, q, k⟩ => po_none.run pins s σ H Q I (k none H Hf ρ e (Mv.refl ..) q)⟩⟩
theorem do_some (h : DE X e τ) : DO X (some e) (tOSome τ) := by
  obtain ⟨t, p, sa⟩ := h.fz
  refine ⟨⟨fun pins s σ H Q I ⟨Hf, ρ, P, e, q, k⟩ => (po_some p).run pins s σ H Q I (sa σ H Hf ρ (fun d ρ1 => ∃ i, d = .int i ∧ P (some i) ρ1) _ e q fun v H1 Hf1 d ρ1 e1 m1 r1 ⟨i, hi, p1⟩ => ?_)⟩⟩
  subst hi
  exact ⟨i, r1.int_inv, k _ H1 Hf1 ρ1 e1 m1 p1⟩
theorem de_sl {lo hi : Option Expr} {τl τh : TDO} (ha : DE X a τa) (hl : DO X lo τl) (hh : DO X hi τh) : DE X (.Subscript a (.Slice lo hi none p2) pos) (tSlD τa τl τh) := by
  obtain ⟨ta, pa, sa⟩ := ha.fz
  refine DE.of (pe_slice (SlR.or sl_tupA (SlR.or sl_list sl_str)) pa hl.po hh.po) fun σ H Hf ρ P Q e q k => ?_
  refine sa σ H Hf ρ (fun d ρ1 => τl ρ1 fun lo ρ2 => τh ρ2 fun hi ρ3 => ∃ c, slD d lo hi = some c ∧ P c ρ3) _ e q fun v H1 Hf1 d ρ1 e1 m1 r1 p1 => ?_
  refine ⟨Hf1, ρ1, _, e1, p1, fun lo H2 Hf2 ρ2 e2 m2 p2 => ⟨Hf2, ρ2, _, e2, p2, fun hi H3 Hf3 ρ3 e3 m3 p3 => ?_⟩⟩
  obtain ⟨c, hc, p4⟩ := p3
  have m := (m1.trans m2).trans m3
  exact slS (Q := Q) e3.sub ((r1.mono m2.grow).mono m3.grow) hc fun v H4 Hf4 x4 ok => k v H4 Hf4 c ρ3 (x4.env e3) (m.trans x4.mv) (ok.back m.live) p4
/-! ### built-ins called -/
def CallS (K : Fg) (r : List V → Hp → VK → Prop) (g : List D → Option Res) : Prop := ∀ (H Hf : Hp) (xs : List V) (ds : List D) (c : Res) (Q : VK), (∀ b o, Hf b = some o → H b = some o) → RepL K Hf xs ds → g ds = some c →
  (∀ v H' Hf', Ext H H' Hf Hf' → ResOk K H H' Hf' v c → Q v H') → r xs H Q
def tCallG (g : List D → Option Res) (τ : TDA) : TD := fun ρ P => τ ρ fun ds ρ1 => ∃ c, g ds = some c ∧ P c ρ1
theorem runC {n : Nat} {r : List V → Hp → VK → Prop} {g : List D → Option Res} (hs : CallS X.K r g) (σ : St) (H Hf : Hp) (ρ : Ev) (P : Res → Ev → Prop) (Q : VK) (e : DEnv X.K H Hf σ ρ) (q : tCallG g τs ρ P)
    (k : ∀ v H' Hf' r ρ', DEnv X.K H' Hf' σ ρ' → Mv σ ρ ρ' H H' Hf Hf' → ResOk X.K H H' Hf' v r → P r ρ' → Q v H') : tCB r (canA X.K n τs) σ H Q := by
  refine ⟨Hf, ρ, _, e, q, fun vs H1 Hf1 ds ρ1 e1 m1 r1 _ ⟨c, hc, p1⟩ => ?_⟩
  exact hs H1 Hf1 vs ds c Q e1.sub r1 hc fun v H2 Hf2 x2 ok => k v H2 Hf2 c ρ1 (x2.env e1) (m1.trans x2.mv) (ok.back m1.live) p1
theorem de_callB {x : Str} {id : String} {p : Pos} {r : List V → Hp → VK → Prop} {g : List D → Option Res} (hc : CallR X (.builtin id) r) (hs : CallS X.K r g) (hg : Gl X x) (hm : X.mg x = none) (hv : bootBuiltins x = some (.builtin id)) (ha : DA X (e :: es) τs)
    (hn : x ≠ "__name__" := by decide) (hdb : (x == ("__debug__" : Str)) = false := by decide) (he : starEach (e :: es) X.env = (false, eval e X.env) :: starEach es X.env := by rfl) (hpl : (backTo pos (starEach es X.env)).any (·.1) = false := by rfl) :
    DE X (.Call (.Name x p) (e :: es) [] pos) (tCallG g τs) := DE.of (pe_callB hc hg hm hv ha.pa hn hdb he hpl) (runC hs)
theorem de_callTy {x : Str} {T : String} {p : Pos} {r : List V → Hp → VK → Prop} {g : List D → Option Res} (hc : CallR X (.type T) r) (hs : CallS X.K r g) (hg : Gl X x) (hm : X.mg x = none) (hv : bootBuiltins x = some (.type T)) (ha : DA X (e :: es) τs)
    (hn : x ≠ "__name__" := by decide) (hdb : (x == ("__debug__" : Str)) = false := by decide) (he : starEach (e :: es) X.env = (false, eval e X.env) :: starEach es X.env := by rfl) (hpl : (backTo pos (starEach es X.env)).any (·.1) = false := by rfl) :
    DE X (.Call (.Name x p) (e :: es) [] pos) (tCallG g τs) := DE.of (pe_callTy hc hg hm hv ha.pa hn hdb he hpl) (runC hs)
theorem callR_or {f : Value} {r r' : List V → Hp → VK → Prop} (h : CallR X f r) (h' : CallR X f r') : CallR X f (fun xs H Q => r xs H Q ∨ r' xs H Q) := by
  intro pins s σ H xs us Q I r q
  rcases q with q | q
  · exact h pins s σ H xs us Q I r q
  · exact h' pins s σ H xs us Q I r q
end
/-- len -/
def lenD : List D → Option Res
  | [.str z] => if z.length ≤ 100000 then some (.fz (.int z.length)) else none
  | [.tup xs] => some (.fz (.int xs.length))
  | [.lst xs] => some (.fz (.int xs.length))
  | [.scr ns] => some (.fz (.int ns.length))
  | _ => none
theorem callS_len {K : Fg} : CallS K (fun xs H Q => ∃ x n, xs = [x] ∧ LenV K x H n ∧ Q (.int n) H) lenD := by
  intro H Hf xs ds c Q hf r hg k
  cases r with
  | nil => simp [lenD] at hg
  | cons ra rs =>
    cases rs with
    | cons _ _ => cases ra <;> simp [lenD] at hg
    | nil =>
      cases ra <;> first | (simp [lenD] at hg; done) | skip
      · rename_i z
        simp only [lenD] at hg
        split at hg
        · rename_i hz
          cases hg
          exact ⟨_, z.length, rfl, ⟨lim hz, rfl⟩, k _ _ _ (Ext.refl hf) (.int _)⟩
        · cases hg
      · rename_i p ns hp
        simp only [lenD] at hg
        cases hg
        exact ⟨_, ns.length, rfl, .inl ⟨_, sqL_same hf hp, (List.length_map _).symm⟩, k _ _ _ (Ext.refl hf) (.int _)⟩
      · rename_i p xs ds hp rp
        simp only [lenD] at hg
        cases hg
        exact ⟨_, ds.length, rfl, .inr ⟨xs, sqT_same hf hp, rp.length.symm⟩, k _ _ _ (Ext.refl hf) (.int _)⟩
      · rename_i p xs ds hp rp
        simp only [lenD] at hg
        cases hg
        exact ⟨_, ds.length, rfl, .inl ⟨xs, .inl (.inl (hf _ _ hp)), rp.length.symm⟩, k _ _ _ (Ext.refl hf) (.int _)⟩
/-- isinstance with a built-in type -/
def D.tyN : D → Option String
  | .non => some "NoneType"
  | .bl _ => some "bool"
  | .int _ => some "int"
  | .str _ => some "str"
  | .tup _ => some "tuple"
  | .lst _ => some "list"
  | _ => none
def isiT : String → String → Option Bool
  | "NoneType", "int" => some false | "NoneType", "bool" => some false | "NoneType", "str" => some false | "NoneType", "tuple" => some false | "NoneType", "list" => some false
  | "bool", "int" => some true | "bool", "bool" => some true | "bool", "str" => some false | "bool", "tuple" => some false | "bool", "list" => some false
  | "int", "int" => some true | "int", "bool" => some false | "int", "str" => some false | "int", "tuple" => some false | "int", "list" => some false
  | "str", "int" => some false | "str", "bool" => some false | "str", "str" => some true | "str", "tuple" => some false | "str", "list" => some false
  | "tuple", "int" => some false | "tuple", "bool" => some false | "tuple", "str" => some false | "tuple", "tuple" => some true | "tuple", "list" => some false
  | "list", "int" => some false | "list", "bool" => some false | "list", "str" => some false | "list", "tuple" => some false | "list", "list" => some true
  | _, _ => none
def isTyD : D → String → Option Bool
  | .non, "int" => some false | .non, "bool" => some false | .non, "str" => some false | .non, "tuple" => some false | .non, "list" => some false
  | .bl _, "int" => some true | .bl _, "bool" => some true | .bl _, "str" => some false | .bl _, "tuple" => some false | .bl _, "list" => some false
  | .int _, "int" => some true | .int _, "bool" => some false | .int _, "str" => some false | .int _, "tuple" => some false | .int _, "list" => some false
  | .str _, "int" => some false | .str _, "bool" => some false | .str _, "str" => some true | .str _, "tuple" => some false | .str _, "list" => some false
  | .tup _, "int" => some false | .tup _, "bool" => some false | .tup _, "str" => some false | .tup _, "tuple" => some true | .tup _, "list" => some false
  | .lst _, "int" => some false | .lst _, "bool" => some false | .lst _, "str" => some false | .lst _, "tuple" => some false | .lst _, "list" => some true
  | _, _ => none
def isiD : List D → Option Res
  | [d, .ty T] => (isTyD d T).map fun b => .fz (.bl b)
  | _ => none
theorem sqT_ty {K : Fg} {H : Hp} {a : Addr} {xs : List V} (h : SqT K H a xs) : TyX K H (.ref a) (.type "tuple") := by
  rcases h with (h | ⟨o, h⟩) | ⟨o, its, n, h1, h2, _⟩
  · exact .base (.tup h)
  · exact .fTuple h
  · exact .kTuple h1 h2
theorem kitB_all : ∀ T ∈ ["int", "bool", "str", "tuple", "list"], ∀ t ∈ ["NoneType", "bool", "int", "str", "tuple", "list"], kitB t T = isiT t T := by decide +kernel
theorem isi_one {K : Fg} {H : Hp} {x : V} {d : D} {T : String} {b : Bool} (r : Rep K H x d) (h : isTyD d T = some b) : ∃ t, TyX K H x (.type t) ∧ kitB t T = some b := by
  have hT : T ∈ ["int", "bool", "str", "tuple", "list"] := by
    unfold isTyD at h
    split at h <;> first | (simp; done) | (cases h; done)
  have key : ∀ (t : String) (b' : Bool), t ∈ ["NoneType", "bool", "int", "str", "tuple", "list"] → isiT t T = some b' → kitB t T = some b' := fun t b' ht h' => (kitB_all T hT t ht).trans h'
  simp only [List.mem_cons, List.mem_nil_iff, or_false] at hT
  cases r
  · refine ⟨"NoneType", .base .non, key _ _ (by simp) ?_⟩
    rcases hT with rfl | rfl | rfl | rfl | rfl <;> (simp only [isTyD] at h; cases h; rfl)
  · refine ⟨"bool", .base (.bl _), key _ _ (by simp) ?_⟩
    rcases hT with rfl | rfl | rfl | rfl | rfl <;> (simp only [isTyD] at h; cases h; rfl)
  · refine ⟨"int", .base (.int _), key _ _ (by simp) ?_⟩
    rcases hT with rfl | rfl | rfl | rfl | rfl <;> (simp only [isTyD] at h; cases h; rfl)
  · refine ⟨"str", .base (.str _), key _ _ (by simp) ?_⟩
    rcases hT with rfl | rfl | rfl | rfl | rfl <;> (simp only [isTyD] at h; cases h; rfl)
  · rcases hT with rfl | rfl | rfl | rfl | rfl <;> (simp [isTyD] at h)
  · rcases hT with rfl | rfl | rfl | rfl | rfl <;> (simp [isTyD] at h)
  · rcases hT with rfl | rfl | rfl | rfl | rfl <;> (simp [isTyD] at h)
  · rename_i hp rp
    refine ⟨"tuple", sqT_ty hp, key _ _ (by simp) ?_⟩
    rcases hT with rfl | rfl | rfl | rfl | rfl <;> (simp only [isTyD] at h; cases h; rfl)
  · rename_i hp rp
    refine ⟨"list", .base (.lst hp), key _ _ (by simp) ?_⟩
    rcases hT with rfl | rfl | rfl | rfl | rfl <;> (simp only [isTyD] at h; cases h; rfl)
  · rcases hT with rfl | rfl | rfl | rfl | rfl <;> (simp [isTyD] at h)
theorem callS_isi {K : Fg} : CallS K (rIsi K) isiD := by
  intro H Hf xs ds c Q hf r hg k
  match ds, hg with
  | [d, .ty T], hg =>
    cases r with
    | cons ra rs =>
      cases rs with
      | cons rb rs =>
        cases rs
        cases rb
        simp only [isiD] at hg
        cases e : isTyD d T with
        | none => rw [e] at hg; cases hg
        | some b =>
          rw [e] at hg
          cases hg
          obtain ⟨t, h1, h2⟩ := isi_one (ra.mono hf) e
          exact ⟨_, _, _, _, b, rfl, .ty T, h1, kit_ty h2, k _ _ _ (Ext.refl hf) (.bl _)⟩
/-- max of two ints -/
def max2D : List D → Option Res
  | [.int i, .int j] => some (.fz (.int (if j > i then j else i)))
  | _ => none
theorem callS_max2 {K : Fg} : CallS K (fun xs H Q => ∃ i j, xs = [.int i, .int j] ∧ Q (.int (if j > i then j else i)) H) max2D := by
  intro H Hf xs ds c Q hf r hg k
  match ds, hg with
  | [.int i, .int j], hg =>
    cases r with
    | cons ra rs =>
      cases rs with
      | cons rb rs =>
        cases rs
        cases ra
        cases rb
        cases hg
        exact ⟨i, j, rfl, k _ _ _ (Ext.refl hf) (.int _)⟩
def min2D : List D → Option Res
  | [.int i, .int j] => some (.fz (.int (if j < i then j else i)))
  | _ => none
/-- a list of ints; of bools; of texts -/
def intsOf : List D → Option (List Int)
  | [] => some []
  | .int i :: r => (intsOf r).map (i :: ·)
  | _ => none
def blsOf : List D → Option (List Bool)
  | [] => some []
  | .bl i :: r => (blsOf r).map (i :: ·)
  | _ => none
def strsOf : List D → Option (List Str)
  | [] => some []
  | .str i :: r => (strsOf r).map (i :: ·)
  | _ => none
theorem RepL.ints {K : Fg} {H : Hp} : ∀ {vs : List V} {ds : List D} {ns : List Int}, RepL K H vs ds → intsOf ds = some ns → vs = ns.map V.int
  | _, _, ns, .nil, h => by
    simp only [intsOf, Option.some.injEq] at h
    subst h
    rfl
  | _, _, ns, .cons (d := d) (ds := ds) a r, h => by
    cases d <;> first | (simp [intsOf] at h; done) | skip
    simp only [intsOf] at h
    cases e : intsOf ds with
    | none => rw [e] at h; cases h
    | some ms =>
      rw [e] at h
      cases h
      cases a
      rw [r.ints e]
      rfl
theorem RepL.bls {K : Fg} {H : Hp} : ∀ {vs : List V} {ds : List D} {ns : List Bool}, RepL K H vs ds → blsOf ds = some ns → vs = ns.map V.bl
  | _, _, ns, .nil, h => by
    simp only [blsOf, Option.some.injEq] at h
    subst h
    rfl
  | _, _, ns, .cons (d := d) (ds := ds) a r, h => by
    cases d <;> first | (simp [blsOf] at h; done) | skip
    simp only [blsOf] at h
    cases e : blsOf ds with
    | none => rw [e] at h; cases h
    | some ms =>
      rw [e] at h
      cases h
      cases a
      rw [r.bls e]
      rfl
theorem RepL.strs {K : Fg} {H : Hp} : ∀ {vs : List V} {ds : List D} {ns : List Str}, RepL K H vs ds → strsOf ds = some ns → vs = ns.map V.str
  | _, _, ns, .nil, h => by
    simp only [strsOf, Option.some.injEq] at h
    subst h
    rfl
  | _, _, ns, .cons (d := d) (ds := ds) a r, h => by
    cases d <;> first | (simp [strsOf] at h; done) | skip
    simp only [strsOf] at h
    cases e : strsOf ds with
    | none => rw [e] at h; cases h
    | some ms =>
      rw [e] at h
      cases h
      cases a
      rw [r.strs e]
      rfl
def sumD : List D → Option Res
  | [.lst ds] => (intsOf ds).map fun ns => .fz (.int ns.sum)
  | _ => none
def allD : List D → Option Res
  | [.lst ds] => (blsOf ds).map fun ns => .fz (.bl (ns.all id))
  | _ => none
def anyD : List D → Option Res
  | [.lst ds] => (blsOf ds).map fun ns => .fz (.bl (ns.any id))
  | _ => none
theorem callS_sum {K : Fg} : CallS K (rSum K) sumD := by
  intro H Hf xs ds c Q hf r hg k
  match ds, hg with
  | [.lst es], hg =>
    cases r with
    | cons ra rs =>
      cases rs
      cases ra with
      | lst hp rp =>
        simp only [sumD] at hg
        cases e : intsOf es with
        | none => rw [e] at hg; cases hg
        | some ns =>
          rw [e] at hg
          cases hg
          have z := rp.ints e
          subst z
          exact ⟨_, ns, rfl, .inl (.inl (hf _ _ hp)), k _ _ _ (Ext.refl hf) (.int _)⟩
theorem callS_all {K : Fg} : CallS K (rAll K) allD := by
  intro H Hf xs ds c Q hf r hg k
  match ds, hg with
  | [.lst es], hg =>
    cases r with
    | cons ra rs =>
      cases rs
      cases ra with
      | lst hp rp =>
        simp only [allD] at hg
        cases e : blsOf es with
        | none => rw [e] at hg; cases hg
        | some ns =>
          rw [e] at hg
          cases hg
          have z := rp.bls e
          subst z
          exact ⟨_, ns, rfl, .inl (.inl (hf _ _ hp)), k _ _ _ (Ext.refl hf) (.bl _)⟩
theorem callS_any {K : Fg} : CallS K (rAny K) anyD := by
  intro H Hf xs ds c Q hf r hg k
  match ds, hg with
  | [.lst es], hg =>
    cases r with
    | cons ra rs =>
      cases rs
      cases ra with
      | lst hp rp =>
        simp only [anyD] at hg
        cases e : blsOf es with
        | none => rw [e] at hg; cases hg
        | some ns =>
          rw [e] at hg
          cases hg
          have z := rp.bls e
          subst z
          exact ⟨_, ns, rfl, .inl (.inl (hf _ _ hp)), k _ _ _ (Ext.refl hf) (.bl _)⟩
/-- list(x), tuple(x) -/
def signsD (z : Str) : List D := z.cps.toList.map fun c => .str ⟨#[c]⟩
def listD : List D → Option Res
  | [.lst ds] => some (.fr ds)
  | [.tup ds] => some (.fr ds)
  | [.str z] => if z.length ≤ 100000 then some (.fr (signsD z)) else none
  | _ => none
def tupleD : List D → Option Res
  | [.lst ds] => some (.fz (.tup ds))
  | [.tup ds] => some (.fz (.tup ds))
  | _ => none
theorem repL_signs {K : Fg} {H : Hp} : ∀ cs : List Nat, RepL K H (cs.map fun c => V.str ⟨#[c]⟩) (cs.map fun c => D.str ⟨#[c]⟩)
  | [] => .nil
  | c :: cs => .cons (.str _) (repL_signs cs)
def listR (K : Fg) : List V → Hp → VK → Prop := fun xs H Q => (∃ p ys, xs = [V.ref p] ∧ (SqL K H p ys ∨ SqT K H p ys) ∧ ∀ l, H l = none → Q (.ref l) (upd H l (.lst ys))) ∨
  (∃ z : Str, xs = [V.str z] ∧ z.length ≤ sizeLine ∧ ∀ l, H l = none → Q (.ref l) (upd H l (.lst (z.cps.toList.map fun c => V.str ⟨#[c]⟩))))
theorem callR_list {X : Cx} (hc : X.calm = true) : CallR X (.type "list") (listR X.K) := callR_or call_list_of (call_list_txt hc)
theorem callS_list {K : Fg} : CallS K (listR K) listD := by
  intro H Hf xs ds c Q hf r hg k
  match ds, hg with
  | [.lst es], hg =>
    cases r with
    | cons ra rs =>
      cases rs
      cases ra with
      | lst hp rp =>
        cases hg
        refine .inl ⟨_, _, rfl, .inl (.inl (.inl (hf _ _ hp))), fun n hn => ?_⟩
        obtain ⟨x1, x2⟩ := new_lst hf hn rp
        exact k _ _ _ x1 x2
  | [.tup es], hg =>
    cases r with
    | cons ra rs =>
      cases rs
      cases ra with
      | tup hp rp =>
        cases hg
        refine .inl ⟨_, _, rfl, .inr (sqT_same hf hp), fun n hn => ?_⟩
        obtain ⟨x1, x2⟩ := new_lst hf hn rp
        exact k _ _ _ x1 x2
  | [.str z], hg =>
    cases r with
    | cons ra rs =>
      cases rs
      cases ra
      simp only [listD] at hg
      split at hg
      · rename_i hz
        cases hg
        refine .inr ⟨z, rfl, lim hz, fun n hn => ?_⟩
        obtain ⟨x1, x2⟩ := new_lst (K := K) hf hn (repL_signs z.cps.toList)
        exact k _ _ _ x1 x2
      · cases hg
theorem callS_tuple {K : Fg} : CallS K (fun xs H Q => ∃ p ys, xs = [.ref p] ∧ ((SqL K H p ys ∧ ∀ l, H l = none → Q (.ref l) (upd H l (.tup ys))) ∨ (SqT K H p ys ∧ Q (.ref p) H))) tupleD := by
  intro H Hf xs ds c Q hf r hg k
  match ds, hg with
  | [.lst es], hg =>
    cases r with
    | cons ra rs =>
      cases rs
      cases ra with
      | lst hp rp =>
        cases hg
        refine ⟨_, _, rfl, .inl ⟨.inl (.inl (hf _ _ hp)), fun n hn => ?_⟩⟩
        obtain ⟨x1, x2⟩ := new_tup hf hn rp
        exact k _ _ _ x1 x2
  | [.tup es], hg =>
    cases r with
    | cons ra rs =>
      cases rs
      cases ra with
      | tup hp rp =>
        cases hg
        exact ⟨_, _, rfl, .inr ⟨sqT_same hf hp, k _ _ _ (Ext.refl hf) (.tup hp rp)⟩⟩
/-- int(x) of an int, of a bool -/
def intOfD : List D → Option Res
  | [.int i] => some (.fz (.int i))
  | [.bl b] => some (.fz (.int (if b then 1 else 0)))
  | _ => none
theorem callS_int {K : Fg} : CallS K (fun xs H Q => (∃ i, xs = [.int i] ∧ Q (.int i) H) ∨ ∃ k, xs = [.bl k] ∧ Q (.int (if k then 1 else 0)) H) intOfD := by
  intro H Hf xs ds c Q hf r hg k
  match ds, hg with
  | [.int i], hg =>
    cases r with
    | cons ra rs =>
      cases rs
      cases ra
      cases hg
      exact .inl ⟨i, rfl, k _ _ _ (Ext.refl hf) (.int _)⟩
  | [.bl b], hg =>
    cases r with
    | cons ra rs =>
      cases rs
      cases ra
      cases hg
      exact .inr ⟨b, rfl, k _ _ _ (Ext.refl hf) (.int _)⟩
/-- sep.join(xs) -/
def joinD : D → D → Option Res
  | .str s, .lst ds => match strsOf ds with
    | some ys => if (ys.map (·.length)).sum + ys.length * s.length ≤ 100000 then some (.fz (.str (Txt.join s ys))) else none
    | none => none
  | .str s, .tup ds => match strsOf ds with
    | some ys => if (ys.map (·.length)).sum + ys.length * s.length ≤ 100000 then some (.fz (.str (Txt.join s ys))) else none
    | none => none
  | _, _ => none
theorem de_join {X : Cx} {o e : Expr} {τo τe : TD} {apos pos : Pos} (ho : DE X o τo) (he : DE X e τe) (hs : starEach [e] X.env = [(false, eval e X.env)] := by rfl) (hbase : attributeBase o "join" X.env (eval o X.env) = eval o X.env := by rfl) (hline : (apos.endLine == pos.line) = true := by rfl) :
    DE X (.Call (.Attribute o "join" apos) [e] [] pos) (fun ρ P => τo ρ fun x ρ1 => (∃ z, x.dat = .str z) ∧ τe ρ1 fun y ρ2 => ∃ c, joinD x.dat y.dat = some c ∧ P c ρ2) := by
  obtain ⟨to, po, so⟩ := ho.fz
  obtain ⟨te, pe, se⟩ := he.fz
  refine DE.of (pe_join po pe hs hbase hline) fun σ H Hf ρ P Q e q k => ?_
  refine so σ H Hf ρ (fun x ρ1 => (∃ z, x = .str z) ∧ τe ρ1 fun y ρ2 => ∃ c, joinD x y.dat = some c ∧ P c ρ2) _ e q fun x H1 Hf1 dx ρ1 e1 m1 r1 q1 => ?_
  obtain ⟨⟨z, rfl⟩, q1⟩ := q1
  cases r1
  refine ⟨⟨_, rfl⟩, ?_⟩
  refine se σ H1 Hf1 ρ1 (fun y ρ2 => ∃ c, joinD (.str z) y = some c ∧ P c ρ2) _ e1 q1 fun y H2 Hf2 dy ρ2 e2 m2 r2 q2 => ?_
  obtain ⟨c, hc, p⟩ := q2
  have fin : ∀ ys : List Str, (if (ys.map (·.length)).sum + ys.length * z.length ≤ 100000 then some (Res.fz (.str (Txt.join z ys))) else none) = some c → (ys.map (·.length)).sum + ys.length * z.length ≤ 16777216 ∧ Q (.str (Txt.join z ys)) H2 := by
    intro ys h
    split at h
    · rename_i hz
      cases h
      exact ⟨Nat.le_trans hz (by decide), k _ H2 Hf2 (.fz (.str (Txt.join z ys))) ρ2 e2 (m1.trans m2) (Rep.str _) p⟩
    · cases h
  cases r2 <;> first | (simp [joinD] at hc; done) | skip
  · rename_i p xs ds hp rp
    simp only [joinD] at hc
    cases e : strsOf ds with
    | none => rw [e] at hc; cases hc
    | some ys =>
      rw [e] at hc
      have zz := rp.strs e
      subst zz
      exact ⟨z, p, ys, rfl, rfl, .inr (sqT_same e2.sub hp), fin ys hc⟩
  · rename_i p xs ds hp rp
    simp only [joinD] at hc
    cases e : strsOf ds with
    | none => rw [e] at hc; cases hc
    | some ys =>
      rw [e] at hc
      have zz := rp.strs e
      subst zz
      exact ⟨z, p, ys, rfl, rfl, .inl (.inl (.inl (e2.sub _ _ hp))), fin ys hc⟩
end DL
/-! The data layer, 6: contracts, calls, lists of one's own, statements, defs. -/
namespace DL
open PySem L2
/-! ### what a def promises, by data -/
abbrev FS0 := List D → (Res → Prop) → Prop
abbrev FS1 := List D → List D → (Res → List D → Prop) → Prop
def sp0 (K : Fg) (n : Nat) (f : FS0) : Sp := fun vs H Q _ => ∃ (Hf : Hp) (ds : List D) (P : Res → Prop), (∀ b o, Hf b = some o → H b = some o) ∧ RepL K Hf vs ds ∧ ds.length = n ∧ f ds P ∧
  ∀ v H' Hf' r, Ext H H' Hf Hf' → ResOk K H H' Hf' v r → P r → Q v H'
/-- the first parameter is a list that is changed -/
structure ExtB (a : Addr) (H H' Hf Hf' : Hp) : Prop where
  same : ∀ b o, H b = some o → b ≠ a → H' b = some o
  live : ∀ b, H' b = none → H b = none
  sub : ∀ b o, Hf' b = some o → H' b = some o
  grow : ∀ b o, Hf b = some o → Hf' b = some o
  new : ∀ b o, Hf' b = some o → Hf b = some o ∨ H b = none
def sp1 (K : Fg) (n : Nat) (f : FS1) : Sp := fun vs H Q _ => ∃ (Hf : Hp) (a : Addr) (us ys : List V) (xs ds : List D) (P : Res → List D → Prop), vs = .ref a :: us ∧ (∀ b o, Hf b = some o → H b = some o) ∧ H a = some (.lst ys) ∧ Hf a = none ∧ RepL K Hf ys xs ∧
  RepL K Hf us ds ∧ ds.length + 1 = n ∧ f xs ds P ∧ ∀ v H' Hf' r ys' xs', ExtB a H H' Hf Hf' → H' a = some (.lst ys') → Hf' a = none → RepL K Hf' ys' xs' → ResOk K H H' Hf' v r → P r xs' → Q v H'
section
variable {X : Cx} {pos p : Pos} {e : Expr} {es : List Expr} {τ : TD} {τs : TDA} {x : Str} {f : Addr} {fd : FuncData} {ps : List Str} {k n : Nat}
def tCall0 (g : FS0) (τ : TDA) : TD := fun ρ P => τ ρ fun ds ρ1 => g ds fun r => P r ρ1
theorem de_call0 {g : FS0} (F : FnOk X.prog X.w X.K X.mg X.base CX0 k f fd ps (sp0 X.K n g)) (hr : Room k X.A) (hg : Gl X x) (hm : X.mg x = some (.ref f)) (hk : PySem.W.keepIn X.K (.ref f) = true) (hb : Binds X.K fd ps [])
    (ha : DA X (e :: es) τs) (hl : (e :: es).length = n := by rfl) (hdb : (x == ("__debug__" : Str)) = false := by decide) (he : starEach (e :: es) X.env = (false, eval e X.env) :: starEach es X.env := by rfl) (hpl : (backTo pos (starEach es X.env)).any (·.1) = false := by rfl) :
    DE X (.Call (.Name x p) (e :: es) [] pos) (tCall0 g τs) := by
  refine DE.of (pe_call F hr hg hm hk hb .nil pass0 ha.pa hdb he hpl) fun σ H Hf ρ P Q e q k => ⟨Hf, ρ, _, e, q, fun vs H1 Hf1 ds ρ1 e1 m1 r1 hds p1 => ?_⟩
  show sp0 X.K n g (vs ++ []) H1 Q _
  rw [List.append_nil]
  exact ⟨Hf1, ds, _, e1.sub, r1, hds.trans hl, p1, fun v H2 Hf2 r x2 ok p2 => k v H2 Hf2 r ρ1 (x2.env e1) (m1.trans x2.mv) (ok.back m1.live) p2⟩
end
/-! ### lists of one's own -/
theorem own_upd {K : Fg} {H Hf : Hp} {σ : St} {ρ : Ev} {i : Nat} {p : Bool} {xs xs' : List D} {a : Addr} {ys' : List V} (e : DEnv K H Hf σ ρ) (h : ρ[i]? = some (some (.ow p xs))) (ha : σ[i]? = some (some (.ref a))) (r : RepL K Hf ys' xs') :
    DEnv K (upd H a (.lst ys')) Hf σ (ρ.set i (some (.ow p xs'))) ∧ Mv σ ρ (ρ.set i (some (.ow p xs'))) H (upd H a (.lst ys')) Hf Hf := by
  obtain ⟨b, ys, h1, h2, h3, h4⟩ := e.sl i _ h
  rw [ha] at h1
  cases h1
  have hlt := lt_of h
  refine ⟨⟨fun b o q => ?_, fun j s q => ?_, fun j k b pj us pk zs q1 q2 q3 q4 => ?_, by rw [List.length_set]; exact e.len⟩, ⟨fun b o q hn => ?_, fun b q => ?_, fun _ _ q => q, fun b o q => .inl q, fun j p' us q => ?_, fun j us q => ?_⟩⟩
  · rw [upd_ne (ne_of_none q h3)]
    exact e.sub b o q
  · rw [set_get] at q
    by_cases hj : i = j
    · subst hj
      rw [if_pos rfl, if_pos hlt] at q
      cases q
      exact ⟨a, ys', ha, upd_same, h3, r⟩
    · rw [if_neg hj] at q
      have z := e.sl j s q
      cases s with
      | fz d => exact z
      | ow pp us =>
        obtain ⟨b, zs, z1, z2, z3, z4⟩ := z
        have hb : b ≠ a := fun w => by
          subst w
          exact hj (e.sep i j b _ _ _ _ h q ha z1)
        exact ⟨b, zs, z1, by rw [upd_ne hb]; exact z2, z3, z4⟩
  · have back : ∀ {m : Nat} {pp : Bool} {vs : List D}, (ρ.set i (some (.ow p xs')))[m]? = some (some (.ow pp vs)) → ∃ p2 vs2, ρ[m]? = some (some (.ow p2 vs2)) := by
      intro m pp vs q
      rw [set_get] at q
      by_cases hm : i = m
      · subst hm
        exact ⟨_, _, h⟩
      · rw [if_neg hm] at q
        exact ⟨_, _, q⟩
    obtain ⟨_, _, w1⟩ := back q1
    obtain ⟨_, _, w2⟩ := back q2
    exact e.sep j k b _ _ _ _ w1 w2 q3 q4
  · rw [upd_ne (fun z => hn ⟨i, p, xs, h, by rw [z]; exact ha⟩)]
    exact q
  · by_cases hb : b = a
    · subst hb
      rw [upd_same] at q
      cases q
    · rw [upd_ne hb] at q
      exact q
  · rw [set_get] at q
    by_cases hj : i = j
    · subst hj
      rw [if_pos rfl, if_pos hlt] at q
      cases q
      exact ⟨xs, h⟩
    · rw [if_neg hj] at q
      exact ⟨us, q⟩
  · by_cases hj : i = j
    · subst hj
      rw [h] at q
      cases q
      exact ⟨xs', by rw [set_get, if_pos rfl, if_pos hlt]⟩
    · exact ⟨us, by rw [set_get, if_neg hj]; exact q⟩
section
variable {X : Cx} {pos p apos : Pos} {b e : Expr} {es : List Expr} {τ τb : TD} {τs : TDA} {x : Str}
/-- x[e] -/
def tIxO (i : Nat) (τb : TD) : TD := fun ρ P => (∃ p xs, ρ[i]? = some (some (.ow p xs))) ∧ τb ρ fun y ρ1 => ∃ p xs k d, ρ1[i]? = some (some (.ow p xs)) ∧ y.dat = .int k ∧ atI xs k = some d ∧ P (.fz d) ρ1
theorem de_ixO (i : Nat) (hb : DE X b τb) (hs : PlainIx b) (hN : X.N[i]? = some x := by rfl) (hv : Vis X.env.scope x := by first | exact Or.inl rfl | exact Or.inr (Or.inl rfl) | exact Or.inr (Or.inr rfl)) (hd : (x == ("__debug__" : Str)) = false := by decide) (hcd : (x == ("__classdict__" : Str)) = false := by decide) :
    DE X (.Subscript (.Name x p) b pos) (tIxO i τb) := by
  obtain ⟨tb, pb, sb⟩ := hb.fz
  refine DE.of (pe_ix ix_seq (pe_var hN hv hd hcd) pb hs) fun σ H Hf ρ P Q e ⟨⟨p0, xs0, h0⟩, q⟩ k => ?_
  obtain ⟨a, ys, h1, _⟩ := e.sl i _ h0
  refine ⟨.ref a, h1, sb σ H Hf ρ (fun y ρ1 => ∃ p xs k d, ρ1[i]? = some (some (.ow p xs)) ∧ y = .int k ∧ atI xs k = some d ∧ P (.fz d) ρ1) _ e q fun y H1 Hf1 dy ρ1 e1 m1 r1 ⟨p1, xs, kk, d, g1, g2, g3, g4⟩ => ?_⟩
  subst g2
  obtain ⟨a', ys1, z1, z2, z3, z4⟩ := e1.sl i _ g1
  rw [h1] at z1
  cases z1
  obtain ⟨v, w1, w2⟩ := z4.atI g3
  cases r1
  exact .inl ⟨a, ys1, kk, v, rfl, rfl, .inl (.inl z2), w1, k v H1 Hf1 (.fz d) ρ1 e1 m1 w2 g4⟩
/-- len(x) -/
def tLenO (i : Nat) : TD := fun ρ P => ∃ p xs, ρ[i]? = some (some (.ow p xs)) ∧ P (.fz (.int (List.length xs : Int))) ρ
theorem de_lenO (i : Nat) (hg : Gl X "len") (hm : X.mg "len" = none) (hN : X.N[i]? = some x := by rfl) (hv : Vis X.env.scope x := by first | exact Or.inl rfl | exact Or.inr (Or.inl rfl) | exact Or.inr (Or.inr rfl)) (hd : (x == ("__debug__" : Str)) = false := by decide) (hcd : (x == ("__classdict__" : Str)) = false := by decide) :
    DE X (.Call (.Name "len" p) [.Name x apos] [] pos) (tLenO i) := by
  refine DE.of (pe_callB call_len hg hm PySem.boot_len (pa_cons (pe_var hN hv hd hcd) pa_nil)) fun σ H Hf ρ P Q e ⟨p0, xs, h0, q⟩ k => ?_
  obtain ⟨a, ys, h1, h2, h3, h4⟩ := e.sl i _ h0
  refine ⟨.ref a, h1, .ref a, xs.length, rfl, .inl ⟨ys, .inl (.inl h2), h4.length.symm⟩, ?_⟩
  exact k _ H Hf (.fz (.int xs.length)) ρ e (Mv.refl ..) (Rep.int _) q
/-- x.pop(e) -/
def tPopO (i : Nat) (τ : TDA) : TD := fun ρ P => (∃ p xs, ρ[i]? = some (some (.ow p xs))) ∧ τ ρ fun ds ρ1 => ∃ p xs k j d, ρ1[i]? = some (some (.ow p xs)) ∧ ds = [.int k] ∧ (-(2 ^ 63) ≤ k ∧ k < 2 ^ 63) ∧ seqIndex? k xs.length = some j ∧ xs[j]? = some d ∧ P (.fz d) (ρ1.set i (some (.ow p (xs.eraseIdx j))))
theorem de_popO (i : Nat) (ha : DA X [e] τs) (hN : X.N[i]? = some x := by rfl) (hv : Vis X.env.scope x := by first | exact Or.inl rfl | exact Or.inr (Or.inl rfl) | exact Or.inr (Or.inr rfl)) (hd : (x == ("__debug__" : Str)) = false := by decide) (hcd : (x == ("__classdict__" : Str)) = false := by decide)
    (he : starEach [e] X.env = (false, eval e X.env) :: starEach [] X.env := by rfl) (hbase : attributeBase (.Name x p) "pop" X.env (eval (.Name x p) X.env) = eval (.Name x p) X.env := by rfl) (hfew : ((backTo pos (starEach [e] X.env)).all (fun x => !x.1) && (backToKw pos (keywordEach [] X.env)).all (fun x => x.1.isSome) && decide ([e].length + ([] : List Keyword).length + (if ([] : List Keyword).isEmpty then 0 else 1) < 30)) = true := by rfl) (hline : (apos.endLine == pos.line) = true := by rfl) :
    DE X (.Call (.Attribute (.Name x p) "pop" apos) [e] [] pos) (tPopO i τs) := by
  refine DE.of (pe_bm PySem.F.plainAttrs_list PySem.F.slot_list_pop PySem.F.type_list_pop mt_popAt (pe_var hN hv hd hcd) ha.pa hbase hfew hline he rfl) fun σ H Hf ρ P Q e ⟨⟨p0, xs0, h0⟩, q⟩ k => ?_
  obtain ⟨a, ys, h1, h2, h3, h4⟩ := e.sl i _ h0
  refine ⟨.ref a, h1, .inl ⟨rfl, ys, .inl (.inl h2)⟩, ⟨Hf, ρ, _, e, q, fun vs H1 Hf1 ds ρ1 e1 m1 r1 _ ⟨p1, xs, kk, j, d, g1, g2, g3, g4, g5, g6⟩ => ?_⟩⟩
  subst g2
  cases r1 with
  | cons ra rr =>
    cases rr
    cases ra
    obtain ⟨a', ys1, z1, z2, z3, z4⟩ := e1.sl i _ g1
    rw [h1] at z1
    cases z1
    obtain ⟨v, w1, w2⟩ := z4.get g5
    obtain ⟨e2, m2⟩ := own_upd e1 g1 h1 (z4.eraseIdx j)
    refine ⟨a, ys1, kk, j, v, rfl, rfl, z2, g3.1, g3.2, by rw [z4.length]; exact g4, w1, ?_⟩
    exact k v _ Hf1 (.fz d) _ e2 (m1.trans m2) w2 g6
/-- x.append(e) -/
def tAppO (i : Nat) (τ : TDA) : TD := fun ρ P => (∃ p xs, ρ[i]? = some (some (.ow p xs))) ∧ τ ρ fun ds ρ1 => ∃ p xs d, ρ1[i]? = some (some (.ow p xs)) ∧ ds = [d] ∧ List.length xs < 16000 ∧ P (.fz .non) (ρ1.set i (some (.ow p (xs ++ [d]))))
theorem de_appO (i : Nat) (ha : DA X [e] τs) (hN : X.N[i]? = some x := by rfl) (hv : Vis X.env.scope x := by first | exact Or.inl rfl | exact Or.inr (Or.inl rfl) | exact Or.inr (Or.inr rfl)) (hd : (x == ("__debug__" : Str)) = false := by decide) (hcd : (x == ("__classdict__" : Str)) = false := by decide)
    (he : starEach [e] X.env = (false, eval e X.env) :: starEach [] X.env := by rfl) (hbase : attributeBase (.Name x p) "append" X.env (eval (.Name x p) X.env) = eval (.Name x p) X.env := by rfl) (hfew : ((backTo pos (starEach [e] X.env)).all (fun x => !x.1) && (backToKw pos (keywordEach [] X.env)).all (fun x => x.1.isSome) && decide ([e].length + ([] : List Keyword).length + (if ([] : List Keyword).isEmpty then 0 else 1) < 30)) = true := by rfl) (hline : (apos.endLine == pos.line) = true := by rfl) :
    DE X (.Call (.Attribute (.Name x p) "append" apos) [e] [] pos) (tAppO i τs) := by
  refine DE.of (pe_bm PySem.F.plainAttrs_list PySem.F.slot_list_append PySem.F.type_list_append mt_append (pe_var hN hv hd hcd) ha.pa hbase hfew hline he rfl) fun σ H Hf ρ P Q e ⟨⟨p0, xs0, h0⟩, q⟩ k => ?_
  obtain ⟨a, ys, h1, h2, h3, h4⟩ := e.sl i _ h0
  refine ⟨.ref a, h1, .inl ⟨rfl, ys, .inl (.inl h2)⟩, ⟨Hf, ρ, _, e, q, fun vs H1 Hf1 ds ρ1 e1 m1 r1 _ ⟨p1, xs, d, g1, g2, g3, g6⟩ => ?_⟩⟩
  subst g2
  cases r1 with
  | cons ra rr =>
    cases rr
    obtain ⟨a', ys1, z1, z2, z3, z4⟩ := e1.sl i _ g1
    rw [h1] at z1
    cases z1
    obtain ⟨e2, m2⟩ := own_upd e1 g1 h1 (z4.append (.cons ra .nil))
    have hz : ys1.length < sizeLine := by rw [z4.length]; exact Nat.lt_of_lt_of_le g3 (by decide)
    refine ⟨a, ys1, _, rfl, rfl, z2, hz, ?_⟩
    exact k .non _ Hf1 (.fz .non) _ e2 (m1.trans m2) Rep.non g6
end
end DL
/-! The data layer, 7: targets, statements, defs. -/
namespace DL
open PySem L2
/-! ### targets -/
abbrev TDG := D → Ev → (Ev → Prop) → Prop
abbrev TDGs := List D → Ev → (Ev → Prop) → Prop
def pinB (ρ : Ev) (i : Nat) : Bool := match ρ[i]? with
  | some (some (.ow true _)) => true
  | _ => false
/-- slots are set to data that stay, the others are as they were -/
structure SetTo (is : List Nat) (σ σ' : St) (ρ ρ' : Ev) : Prop where
  each : ∀ i : Nat, (σ'[i]? = σ[i]? ∧ ρ'[i]? = ρ[i]?) ∨ ((∃ d, ρ'[i]? = some (some (.fz d))) ∧ pinB ρ i = false ∧ i ∈ is)
  len : σ'.length = σ.length
theorem SetTo.refl (is : List Nat) (σ : St) (ρ : Ev) : SetTo is σ σ ρ ρ := ⟨fun _ => .inl ⟨rfl, rfl⟩, rfl⟩
theorem SetTo.trans {is js : List Nat} {σ σ1 σ2 : St} {ρ ρ1 ρ2 : Ev} (a : SetTo is σ σ1 ρ ρ1) (b : SetTo js σ1 σ2 ρ1 ρ2) : SetTo (is ++ js) σ σ2 ρ ρ2 := ⟨fun i => by
  rcases b.each i with ⟨h1, h2⟩ | ⟨h1, h2, h2'⟩
  · rcases a.each i with ⟨h3, h4⟩ | ⟨⟨d, h3⟩, h4, h5⟩
    · exact .inl ⟨h1.trans h3, h2.trans h4⟩
    · exact .inr ⟨⟨d, h2.trans h3⟩, h4, List.mem_append_left _ h5⟩
  · rcases a.each i with ⟨h3, h4⟩ | ⟨h3, h4, h5⟩
    · exact .inr ⟨h1, by unfold pinB at h2 ⊢; rw [h4] at h2; exact h2, List.mem_append_right _ h2'⟩
    · exact .inr ⟨h1, h4, List.mem_append_left _ h5⟩, b.len.trans a.len⟩
def canG (K : Fg) (is : List Nat) (γ : TDG) : TG := fun v σ H Q => ∃ (Hf : Hp) (ρ : Ev) (d : D) (P : Ev → Prop), DEnv K H Hf σ ρ ∧ Rep K Hf v d ∧ γ d ρ P ∧ ∀ σ' H' Hf' ρ', DEnv K H' Hf' σ' ρ' → Ext H H' Hf Hf' → SetTo is σ σ' ρ ρ' → P ρ' → Q σ' H'
def canGs (K : Fg) (is : List Nat) (γ : TDGs) : TGs := fun vs σ H Q => ∃ (Hf : Hp) (ρ : Ev) (ds : List D) (P : Ev → Prop), DEnv K H Hf σ ρ ∧ RepL K Hf vs ds ∧ γ ds ρ P ∧ ∀ σ' H' Hf' ρ', DEnv K H' Hf' σ' ρ' → Ext H H' Hf Hf' → SetTo is σ σ' ρ ρ' → P ρ' → Q σ' H'
structure DG (X : Cx) (tg : Expr) (is : List Nat) (γ : TDG) : Prop where
  pg : PG X tg (canG X.K is γ)
structure DGs (X : Cx) (tgs : List Expr) (is : List Nat) (γ : TDGs) : Prop where
  pgs : PGs X tgs (canGs X.K is γ)
/-- a slot is set -/
theorem set_slot {K : Fg} {H Hf : Hp} {σ : St} {ρ : Ev} {i : Nat} {v : V} {d : D} (e : DEnv K H Hf σ ρ) (r : Rep K Hf v d) : DEnv K H Hf (σ.set i (some v)) (ρ.set i (some (.fz d))) where
  sub := e.sub
  sl := fun j s h => by
    rw [set_get] at h
    by_cases hj : i = j
    · subst hj
      rw [if_pos rfl] at h
      split at h
      · rename_i hlt
        cases h
        exact ⟨v, by rw [List.getElem?_set, if_pos rfl, if_pos (by rw [e.len]; exact hlt)], r⟩
      · cases h
    · rw [if_neg hj] at h
      have z := e.sl j s h
      have es : (σ.set i (some v))[j]? = σ[j]? := by rw [List.getElem?_set, if_neg hj]
      cases s with
      | fz d => rw [es]; exact z
      | ow p us => rw [es]; exact z
  sep := fun j k a p xs q ys h1 h2 h3 h4 => by
    rw [set_get] at h1 h2
    by_cases hj : i = j
    · rw [if_pos hj] at h1
      split at h1 <;> cases h1
    by_cases hk : i = k
    · rw [if_pos hk] at h2
      split at h2 <;> cases h2
    rw [if_neg hj] at h1
    rw [if_neg hk] at h2
    rw [List.getElem?_set, if_neg hj] at h3
    rw [List.getElem?_set, if_neg hk] at h4
    exact e.sep j k a p xs q ys h1 h2 h3 h4
  len := by rw [List.length_set, List.length_set]; exact e.len
theorem setTo_slot {σ : St} {ρ : Ev} {i : Nat} {v : V} {d : D} (hl : σ.length = ρ.length) (hp : pinB ρ i = false) : SetTo [i] σ (σ.set i (some v)) ρ (ρ.set i (some (.fz d))) := ⟨fun j => by
  by_cases hj : i = j
  · subst hj
    by_cases hlt : i < ρ.length
    · exact .inr ⟨⟨d, by rw [set_get, if_pos rfl, if_pos hlt]⟩, hp, List.mem_singleton.mpr rfl⟩
    · exact .inl ⟨by rw [List.set_eq_of_length_le (by omega)], by rw [List.set_eq_of_length_le (by omega)]⟩
  · exact .inl ⟨by rw [List.getElem?_set, if_neg hj], by rw [set_get, if_neg hj]⟩, by rw [List.length_set]⟩
section
variable {X : Cx} {pos : Pos} {e : Expr} {es : List Expr} {γ : TDG} {γs : TDGs} {is js : List Nat}
def gN (i : Nat) : TDG := fun d ρ P => pinB ρ i = false ∧ P (ρ.set i (some (.fz d)))
theorem DG.of {t : TG} (h : PG X e t) (k : ∀ (v : V) (σ : St) (H Hf : Hp) (ρ : Ev) (d : D) (P : Ev → Prop) (Q : St → Hp → Prop), DEnv X.K H Hf σ ρ → Rep X.K Hf v d → γ d ρ P → (∀ σ' H' Hf' ρ', DEnv X.K H' Hf' σ' ρ' → Ext H H' Hf Hf' → SetTo is σ σ' ρ ρ' → P ρ' → Q σ' H') → t v σ H Q) : DG X e is γ :=
  ⟨⟨fun pins s σ H v u Q I r ⟨Hf, ρ, d, P, e1, r1, q, kk⟩ => h.run pins s σ H v u Q I r (k v σ H Hf ρ d P Q e1 r1 q kk)⟩⟩
theorem DGs.of {t : TGs} (h : PGs X es t) (k : ∀ (vs : List V) (σ : St) (H Hf : Hp) (ρ : Ev) (ds : List D) (P : Ev → Prop) (Q : St → Hp → Prop), DEnv X.K H Hf σ ρ → RepL X.K Hf vs ds → γs ds ρ P → (∀ σ' H' Hf' ρ', DEnv X.K H' Hf' σ' ρ' → Ext H H' Hf Hf' → SetTo is σ σ' ρ ρ' → P ρ' → Q σ' H') → t vs σ H Q) : DGs X es is γs :=
  ⟨⟨fun pins s σ H v u Q I r ⟨Hf, ρ, d, P, e1, r1, q, kk⟩ => h.run pins s σ H v u Q I r (k v σ H Hf ρ d P Q e1 r1 q kk)⟩⟩
theorem dg_n {x : Str} (i : Nat) (hN : X.N.Nodup) (hi : X.N[i]? = some x) (hx : Loc X.env.scope x) (hf : X.fn x = true ∨ X.env.scope.names.lookup x = some .local := by first | exact .inl rfl | exact .inr rfl | assumption) : DG X (.Name x pos) [i] (gN i) :=
  DG.of (pg_name hN hi hx hf) fun v σ H Hf ρ d P Q e r ⟨h1, h2⟩ k => k _ H Hf _ (set_slot e r) (Ext.refl e.sub) (setTo_slot e.len h1) h2
def gNilD : TDGs := fun ds ρ P => ds = [] ∧ P ρ
def gConsD (a : TDG) (r : TDGs) : TDGs := fun ds ρ P => ∃ d es, ds = d :: es ∧ a d ρ fun ρ1 => r es ρ1 P
theorem dgs_nil : DGs X [] [] gNilD := DGs.of pgs_nil fun vs σ H Hf ρ ds P Q e r ⟨h1, h2⟩ k => by
  subst h1
  cases r
  exact ⟨rfl, k σ H Hf ρ e (Ext.refl e.sub) (SetTo.refl ..) h2⟩
theorem dgs_cons (h1 : DG X e is γ) (h2 : DGs X es js γs) (hs : (assignEach (e :: es) X.env).map (·.2) = assign e X.env :: (assignEach es X.env).map (·.2) := by rfl) : DGs X (e :: es) (is ++ js) (gConsD γ γs) :=
  DGs.of (pgs_cons h1.pg h2.pgs hs) fun vs σ H Hf ρ ds P Q e r ⟨d, es, hd, q⟩ k => by
  subst hd
  cases r with
  | cons ra rr =>
    refine ⟨_, _, rfl, Hf, ρ, d, _, e, ra, q, fun σ1 H1 Hf1 ρ1 e1 x1 s1 p1 => ⟨Hf1, ρ1, es, P, e1, rr.mono x1.grow, p1, fun σ2 H2 Hf2 ρ2 e2 x2 s2 p2 => k σ2 H2 Hf2 ρ2 e2 (x1.trans x2) (s1.trans s2) p2⟩⟩
/-- (a, b, ..) = a tuple; a list -/
def gTupD (n : Nat) (γ : TDGs) : TDG := fun d ρ P => ∃ ds, d = .tup ds ∧ ds.length = n ∧ γ ds ρ P
def gUnlD (n : Nat) (γ : TDGs) : TDG := fun d ρ P => ∃ ds, d = .lst ds ∧ ds.length = n ∧ γ ds ρ P
theorem dg_tup {k n : Nat} (hc : X.calm = true) (h : DGs X es is γs) (hn : (assignEach es X.env).length = n := by rfl) (hst : (assignEach es X.env).findIdx? (·.1) = none := by rfl) : DG X (.Tuple es k pos) is (gTupD n γs) :=
  DG.of (pg_tup hc h.pgs hn hst) fun v σ H Hf ρ d P Q e r ⟨ds, hd, hl, q⟩ k => by
    subst hd
    cases r with
    | tup hp rp => exact ⟨_, _, rfl, sqT_same e.sub hp, rp.length.trans hl, Hf, ρ, ds, P, e, rp, q, k⟩
theorem dg_unl {k n : Nat} (hc : X.calm = true) (h : DGs X es is γs) (hn : (assignEach es X.env).length = n := by rfl) (hst : (assignEach es X.env).findIdx? (·.1) = none := by rfl) : DG X (.Tuple es k pos) is (gUnlD n γs) :=
  DG.of (pg_unl hc h.pgs hn hst) fun v σ H Hf ρ d P Q e r ⟨ds, hd, hl, q⟩ k => by
    subst hd
    cases r with
    | lst hp rp => exact ⟨_, _, rfl, .inl (.inl (e.sub _ _ hp)), rp.length.trans hl, Hf, ρ, ds, P, e, rp, q, k⟩
/-- (a, .., *r) = a tuple or a list -/
def gStarD (n : Nat) (γ : TDGs) : TDG := fun d ρ P => ∃ ds es, (d = .tup (ds ++ es) ∨ d = .lst (ds ++ es)) ∧ ds.length = n ∧ (ds ++ es).length ≤ 16000 ∧ γ (ds ++ [.lst es]) ρ P
theorem dgs_star {p : Pos} (h1 : DG X e is γ) : DGs X [.Starred e p] is (gConsD γ gNilD) :=
  DGs.of (pgs_star h1.pg) fun vs σ H Hf ρ ds P Q e r ⟨d, es, hd, q⟩ k => by
    subst hd
    cases r with
    | cons ra rr =>
      refine ⟨_, _, rfl, Hf, ρ, d, _, e, ra, q, fun σ1 H1 Hf1 ρ1 e1 x1 s1 ⟨p0, p1⟩ => ?_⟩
      subst p0
      cases rr
      exact ⟨rfl, k σ1 H1 Hf1 ρ1 e1 x1 s1 p1⟩
theorem dg_star {k i : Nat} (hc : X.calm = true) (h : DGs X es is γs) (hn : (assignEach es X.env).length = i + 1 := by rfl) (hst : (assignEach es X.env).findIdx? (·.1) = some i := by rfl) : DG X (.Tuple es k pos) is (gStarD i γs) :=
  DG.of (pg_star hc h.pgs hn hst) fun v σ H Hf ρ d P Q e r ⟨ds, es, hd, hl, hz, q⟩ k => by
    have fin : ∀ {a : Addr} {vs : List V}, v = .ref a → (SqT X.K H a vs ∨ SqL X.K H a vs) → RepL X.K Hf vs (ds ++ es) → gStar X.K i (canGs X.K is γs) v σ H Q := by
      intro a vs hv hs rp
      obtain ⟨us, ws, e1, r1, r2⟩ := rp.split
      subst e1
      refine ⟨a, us, ws, hv, hs, r1.length.trans hl, by rw [rp.length]; exact hz, fun n hn => ?_⟩
      have x1 := Ext.add e.sub (.lst ws) hn
      refine ⟨upd Hf n (.lst ws), ρ, ds ++ [.lst es], P, x1.env e, (r1.mono x1.grow).append (.cons (.lst upd_same (r2.mono x1.grow)) .nil), q, fun σ2 H2 Hf2 ρ2 e2 x2 s2 p2 => k σ2 H2 Hf2 ρ2 e2 (x1.trans x2) s2 p2⟩
    rcases hd with hd | hd
    · subst hd
      cases r with
      | tup hp rp => exact fin rfl (.inl (sqT_same e.sub hp)) rp
    · subst hd
      cases r with
      | lst hp rp => exact fin rfl (.inr (.inl (.inl (e.sub _ _ hp)))) rp
end
/-! ### statements -/
structure DEnds where
  nx : Ev → Prop
  rt : Res → Ev → Prop
  bk : Ev → Prop := fun _ => False
  ct : Ev → Prop := fun _ => False
abbrev TDS := DEnds → Ev → Prop
/-- where a def began: the heap, what was frozen, the lists that it may change (slot, address) -/
structure Bs where
  H0 : Hp
  Hf0 : Hp
  S : List (Nat × Addr)
structure SEnv (K : Fg) (B : Bs) (H Hf : Hp) (σ : St) (ρ : Ev) : Prop where
  env : DEnv K H Hf σ ρ
  keep : ∀ b o, B.H0 b = some o → (∀ p ∈ B.S, p.2 ≠ b) → H b = some o
  grow : ∀ b o, B.Hf0 b = some o → Hf b = some o
  live : ∀ b, H b = none → B.H0 b = none
  new : ∀ b o, Hf b = some o → B.Hf0 b = some o ∨ B.H0 b = none
  own : ∀ (i : Nat) (a : Addr) (xs : List D), ρ[i]? = some (some (.ow false xs)) → σ[i]? = some (some (.ref a)) → B.H0 a = none
  pin : ∀ (i : Nat) (a : Addr) (xs : List D), ρ[i]? = some (some (.ow true xs)) → σ[i]? = some (some (.ref a)) → (i, a) ∈ B.S
  pins : ∀ p ∈ B.S, σ[p.1]? = some (some (.ref p.2)) ∧ ∃ xs, ρ[p.1]? = some (some (.ow true xs))
section
variable {K : Fg} {B : Bs} {H H1 Hf Hf1 : Hp} {σ σ1 : St} {ρ ρ1 : Ev}
theorem SEnv.mv (s : SEnv K B H Hf σ ρ) (e1 : DEnv K H1 Hf1 σ ρ1) (m : Mv σ ρ ρ1 H H1 Hf Hf1) : SEnv K B H1 Hf1 σ ρ1 where
  env := e1
  keep := fun b o h hn => m.keep b o (s.keep b o h hn) fun ⟨i, p, xs, h1, h2⟩ => by
    cases p with
    | false =>
      have z := s.own i b xs h1 h2
      rw [h] at z
      cases z
    | true => exact hn _ (s.pin i b xs h1 h2) rfl
  grow := fun b o h => m.grow b o (s.grow b o h)
  live := fun b h => s.live b (m.live b h)
  new := fun b o h => by
    rcases m.new b o h with h1 | h1 | ⟨i, p, xs, h1, h2⟩
    · exact s.new b o h1
    · exact .inr (s.live b h1)
    · cases p with
      | false => exact .inr (s.own i b xs h1 h2)
      | true =>
        obtain ⟨ys, h3⟩ := m.pin i xs h1
        obtain ⟨a, zs, z1, _, z3, _⟩ := e1.sl i _ h3
        rw [h2] at z1
        cases z1
        rw [z3] at h
        cases h
  own := fun i a xs h1 h2 => by
    obtain ⟨ys, h3⟩ := m.own i false xs h1
    exact s.own i a ys h3 h2
  pin := fun i a xs h1 h2 => by
    obtain ⟨ys, h3⟩ := m.own i true xs h1
    exact s.pin i a ys h3 h2
  pins := fun p hp => by
    obtain ⟨h1, xs, h2⟩ := s.pins p hp
    exact ⟨h1, m.pin p.1 xs h2⟩
theorem SEnv.setTo (s : SEnv K B H Hf σ ρ) (e1 : DEnv K H1 Hf1 σ1 ρ1) (x : Ext H H1 Hf Hf1) {is : List Nat} (t : SetTo is σ σ1 ρ ρ1) : SEnv K B H1 Hf1 σ1 ρ1 where
  env := e1
  keep := fun b o h hn => x.same b o (s.keep b o h hn)
  grow := fun b o h => x.grow b o (s.grow b o h)
  live := fun b h => s.live b (x.live b h)
  new := fun b o h => by
    rcases x.new b o h with h1 | h1
    · exact s.new b o h1
    · exact .inr (s.live b h1)
  own := fun i a xs h1 h2 => by
    rcases t.each i with ⟨t1, t2⟩ | ⟨⟨d, t1⟩, _⟩
    · rw [t1] at h2
      rw [t2] at h1
      exact s.own i a xs h1 h2
    · rw [t1] at h1
      cases h1
  pin := fun i a xs h1 h2 => by
    rcases t.each i with ⟨t1, t2⟩ | ⟨⟨d, t1⟩, _⟩
    · rw [t1] at h2
      rw [t2] at h1
      exact s.pin i a xs h1 h2
    · rw [t1] at h1
      cases h1
  pins := fun p hp => by
    obtain ⟨h1, xs, h2⟩ := s.pins p hp
    rcases t.each p.1 with ⟨t1, t2⟩ | ⟨_, t2, _⟩
    · rw [t1, t2]
      exact ⟨h1, xs, h2⟩
    · unfold pinB at t2
      rw [h2] at t2
      cases t2
theorem ResOk.base {v : V} {r : Res} {H0 H2 Hf2 : Hp} (s : SEnv K B H Hf σ ρ) (h : ResOk K H H2 Hf2 v r) : ResOk K B.H0 H2 Hf2 v r := h.back s.live
end
structure Links (K : Fg) (B : Bs) (PD : DEnds) (D : Ends) : Prop where
  nx : ∀ σ H Hf ρ, SEnv K B H Hf σ ρ → PD.nx ρ → D.nx σ H
  rt : ∀ v σ H Hf ρ r, SEnv K B H Hf σ ρ → ResOk K B.H0 H Hf v r → PD.rt r ρ → D.rt v H
  bk : ∀ σ H Hf ρ, SEnv K B H Hf σ ρ → PD.bk ρ → D.bk σ H
  ct : ∀ σ H Hf ρ, SEnv K B H Hf σ ρ → PD.ct ρ → D.ct σ H
def canS (K : Fg) (τ : TDS) : TS := fun D σ H => ∃ (B : Bs) (Hf : Hp) (ρ : Ev) (PD : DEnds), SEnv K B H Hf σ ρ ∧ τ PD ρ ∧ Links K B PD D
structure DS (X : Cx) (st : Stmt) (τ : TDS) : Prop where
  ps : PS X st (canS X.K τ)
structure DSs (X : Cx) (sts : List Stmt) (τ : TDS) : Prop where
  pss : PSs X sts (canS X.K τ)
section
variable {X : Cx} {pos pos' : Pos} {st : Stmt} {rest sts sts2 : List Stmt} {e c tg : Expr} {τ τ1 : TDS} {τe : TD} {τc : TDT} {γ : TDG} {x : Str}
theorem DS.of {t : TS} (h : PS X st t) (k : ∀ (D : Ends) (σ : St) (H Hf : Hp) (B : Bs) (ρ : Ev) (PD : DEnds), SEnv X.K B H Hf σ ρ → τ PD ρ → Links X.K B PD D → t D σ H) : DS X st τ :=
  ⟨⟨fun pins s σ H D I ⟨B, Hf, ρ, PD, e, q, l⟩ => h.run pins s σ H D I (k D σ H Hf B ρ PD e q l)⟩⟩
def tNextD : TDS := fun PD ρ => PD.nx ρ
def tSeqD (t u : TDS) : TDS := fun PD ρ => t { PD with nx := u PD } ρ
theorem dss_nil : DSs X [] tNextD := ⟨⟨fun pins s σ H D I ⟨B, Hf, ρ, PD, e, q, l⟩ => pss_nil.run pins s σ H D I (l.nx σ H Hf ρ e q)⟩⟩
theorem dss_one (h : DS X st τ) : DSs X [st] τ := ⟨pss_one h.ps⟩
theorem dss_cons (h : DS X st τ) (h2 : DSs X rest τ1) : DSs X (st :: rest) (tSeqD τ τ1) :=
  ⟨⟨fun pins s σ H D I ⟨B, Hf, ρ, PD, e, q, l⟩ => (pss_cons h.ps h2.pss).run pins s σ H D I ⟨B, Hf, ρ, { PD with nx := τ1 PD }, e, q, ⟨fun σ1 H1 Hf1 ρ1 e1 q1 => ⟨B, Hf1, ρ1, PD, e1, q1, l⟩, l.rt, l.bk, l.ct⟩⟩⟩⟩
/-- an expression within a statement -/
theorem DE.inS {t : TE} (h : PE X e t) (hc : ∀ σ H Q, canE X.K τe σ H Q → t σ H Q) {B : Bs} {σ : St} {H Hf : Hp} {ρ : Ev} {P : Res → Ev → Prop} {Q : VK} (s : SEnv X.K B H Hf σ ρ) (q : τe ρ P)
    (k : ∀ v H' Hf' r ρ', SEnv X.K B H' Hf' σ ρ' → ResOk X.K B.H0 H' Hf' v r → P r ρ' → Q v H') : t σ H Q :=
  hc σ H Q ⟨Hf, ρ, P, s.env, q, fun v H' Hf' r ρ' e1 m1 r1 p1 => k v H' Hf' r ρ' (s.mv e1 m1) (r1.back s.live) p1⟩
/-- its result frozen -/
theorem inS_fz (B : Bs) {σ : St} {H Hf : Hp} {ρ : Ev} {P : D → Ev → Prop} {Q : VK} (s : SEnv X.K B H Hf σ ρ) (q : τe ρ (fun r ρ' => P r.dat ρ'))
    (k : ∀ v H' Hf' d ρ', SEnv X.K B H' Hf' σ ρ' → Rep X.K Hf' v d → P d ρ' → Q v H') : canE X.K τe σ H Q :=
  ⟨Hf, ρ, _, s.env, q, fun v H' Hf' r ρ' e1 m1 r1 p1 => by
    obtain ⟨Hf2, e2, m2, r2⟩ := r1.freeze s.env e1 m1
    exact k v H' Hf2 r.dat ρ' (s.mv e2 m2) r2 p1⟩
def tSetD (i : Nat) (τe : TD) : TDS := fun PD ρ => τe ρ fun r ρ1 => pinB ρ1 i = false ∧ PD.nx (ρ1.set i (some (.fz r.dat)))
theorem ds_set (i : Nat) (hN : X.N.Nodup) (hi : X.N[i]? = some x) (hx : Loc X.env.scope x) (he : DE X e τe) (hs : swapsWith e (some (.Name x pos')) pos.line X.env = pure false := by rfl) (hf : X.fn x = true ∨ X.env.scope.names.lookup x = some .local := by first | exact .inl rfl | exact .inr rfl | assumption) :
    DS X (.Assign [.Name x pos'] e pos) (tSetD i τe) :=
  DS.of (ps_set hN hi hx he.pe hs hf) fun D σ H Hf B ρ PD s q l => inS_fz B s (P := fun d ρ1 => pinB ρ1 i = false ∧ PD.nx (ρ1.set i (some (.fz d)))) q fun v H1 Hf1 d ρ1 s1 r1 ⟨p1, p2⟩ =>
    l.nx _ H1 Hf1 _ (s1.setTo (set_slot s1.env r1) (Ext.refl s1.env.sub) (setTo_slot s1.env.len p1)) p2
/-- x = e, a new list of one's own -/
def tSetO (i : Nat) (τe : TD) : TDS := fun PD ρ => τe ρ fun r ρ1 => ∃ xs, r = .fr xs ∧ pinB ρ1 i = false ∧ PD.nx (ρ1.set i (some (.ow false xs)))
theorem SEnv.setOwn {K : Fg} {B : Bs} {H Hf : Hp} {σ : St} {ρ : Ev} {i : Nat} {a : Addr} {ys : List V} {xs : List D} (s : SEnv K B H Hf σ ρ) (hp : pinB ρ i = false) (h0 : B.H0 a = none) (h1 : H a = some (.lst ys)) (h2 : Hf a = none) (h3 : RepL K Hf ys xs) (hn : ¬ Own σ ρ a) :
    SEnv K B H Hf (σ.set i (some (.ref a))) (ρ.set i (some (.ow false xs))) where
  env := {
    sub := s.env.sub
    sl := fun j t h => by
      rw [set_get] at h
      by_cases hj : i = j
      · subst hj
        rw [if_pos rfl] at h
        split at h
        · rename_i hlt
          cases h
          exact ⟨a, ys, by rw [List.getElem?_set, if_pos rfl, if_pos (by rw [s.env.len]; exact hlt)], h1, h2, h3⟩
        · cases h
      · rw [if_neg hj] at h
        have z := s.env.sl j t h
        have es : (σ.set i (some (.ref a)))[j]? = σ[j]? := by rw [List.getElem?_set, if_neg hj]
        cases t with
        | fz d => rw [es]; exact z
        | ow p us => rw [es]; exact z
    sep := fun j k b p us q zs q1 q2 q3 q4 => by
      have key : ∀ {m m' : Nat} {pp : Bool} {vs : List D} {pp' : Bool} {vs' : List D}, i = m → ¬ i = m' → (σ.set i (some (.ref a)))[m]? = some (some (.ref b)) → (ρ.set i (some (.ow false xs)))[m']? = some (some (.ow pp' vs')) → (σ.set i (some (.ref a)))[m']? = some (some (.ref b)) → False := by
        intro m m' pp vs pp' vs' hm hm' w1 w2 w3
        subst hm
        rw [set_get, if_neg hm'] at w2
        rw [List.getElem?_set, if_neg hm'] at w3
        rw [List.getElem?_set, if_pos rfl] at w1
        split at w1
        · cases w1
          exact hn ⟨m', _, _, w2, w3⟩
        · cases w1
      by_cases hj : i = j
      · by_cases hk : i = k
        · exact hj.symm.trans hk
        · exact (key (pp := p) (vs := us) hj hk q3 q2 q4).elim
      · by_cases hk : i = k
        · exact (key (pp := p) (vs := us) hk hj q4 q1 q3).elim
        · rw [set_get, if_neg hj] at q1
          rw [set_get, if_neg hk] at q2
          rw [List.getElem?_set, if_neg hj] at q3
          rw [List.getElem?_set, if_neg hk] at q4
          exact s.env.sep j k b p us q zs q1 q2 q3 q4
    len := by rw [List.length_set, List.length_set]; exact s.env.len }
  keep := s.keep
  grow := s.grow
  live := s.live
  new := s.new
  own := fun j b us q1 q2 => by
    by_cases hj : i = j
    · subst hj
      rw [List.getElem?_set, if_pos rfl] at q2
      split at q2
      · cases q2
        exact h0
      · cases q2
    · rw [set_get, if_neg hj] at q1
      rw [List.getElem?_set, if_neg hj] at q2
      exact s.own j b us q1 q2
  pin := fun j b us q1 q2 => by
    by_cases hj : i = j
    · subst hj
      rw [set_get, if_pos rfl] at q1
      split at q1 <;> cases q1
    · rw [set_get, if_neg hj] at q1
      rw [List.getElem?_set, if_neg hj] at q2
      exact s.pin j b us q1 q2
  pins := fun p hp' => by
    obtain ⟨w1, us, w2⟩ := s.pins p hp'
    have hj : ¬ i = p.1 := fun z => by
      unfold pinB at hp
      rw [z, w2] at hp
      cases hp
    exact ⟨by rw [List.getElem?_set, if_neg hj]; exact w1, us, by rw [set_get, if_neg hj]; exact w2⟩
theorem own_fresh {K : Fg} {B : Bs} {H H1 Hf Hf1 : Hp} {σ : St} {ρ ρ1 : Ev} {a : Addr} (s : SEnv K B H Hf σ ρ) (m : Mv σ ρ ρ1 H H1 Hf Hf1) (h : H a = none) : ¬ Own σ ρ1 a := fun z => not_own s.env h (m.ow z)
theorem setO_reading {t : TE} (i : Nat) {D : Ends} {σ : St} {H Hf : Hp} {B : Bs} {ρ : Ev} {PD : DEnds} (s : SEnv X.K B H Hf σ ρ) (q : tSetO i τe PD ρ) (l : Links X.K B PD D) : tAsg (canE X.K τe) (gName i) D σ H := by
  refine ⟨Hf, ρ, _, s.env, q, fun v H1 Hf1 r ρ1 e1 m1 r1 ⟨xs, hr, p1, p2⟩ => ?_⟩
  subst hr
  obtain ⟨a, ys, rfl, h1, h2, h3, h4⟩ := r1
  have s1 := s.mv e1 m1
  exact l.nx _ H1 Hf1 _ (s1.setOwn p1 (s.live a h3) h1 h2 h4 (own_fresh s m1 h3)) p2
theorem ds_setO (i : Nat) (hN : X.N.Nodup) (hi : X.N[i]? = some x) (hx : Loc X.env.scope x) (he : DE X e τe) (hs : swapsWith e (some (.Name x pos')) pos.line X.env = pure false := by rfl) (hf : X.fn x = true ∨ X.env.scope.names.lookup x = some .local := by first | exact .inl rfl | exact .inr rfl | assumption) :
    DS X (.Assign [.Name x pos'] e pos) (tSetO i τe) :=
  DS.of (ps_set hN hi hx he.pe hs hf) fun D σ H Hf B ρ PD s q l => setO_reading (t := canE X.K τe) i s q l
/-- target = e -/
def tAsgD (τe : TD) (γ : TDG) : TDS := fun PD ρ => τe ρ fun r ρ1 => γ r.dat ρ1 PD.nx
theorem ds_asg (he : DE X e τe) {is : List Nat} (hg : DG X tg is γ) (hs : swapsWithSole [tg] e pos.line X.env = pure false := by rfl) (hw : swappedStores [tg] e X.env = pure none := by rfl) (h1 : (assignEach [tg] X.env).map (·.2) = [assign tg X.env] := by rfl) : DS X (.Assign [tg] e pos) (tAsgD τe γ) :=
  DS.of (ps_asg he.pe hg.pg hs hw h1) fun D σ H Hf B ρ PD s q l => inS_fz B s (P := fun d ρ1 => γ d ρ1 PD.nx) q fun v H1 Hf1 d ρ1 s1 r1 p1 =>
    ⟨Hf1, ρ1, d, PD.nx, s1.env, r1, p1, fun σ2 H2 Hf2 ρ2 e2 x2 t2 p2 => l.nx σ2 H2 Hf2 ρ2 (s1.setTo e2 x2 t2) p2⟩
/-- if -/
def tIfD (c : TDT) (t u : TDS) : TDS := fun PD ρ => c ρ fun b ρ1 => if b = true then t PD ρ1 else u PD ρ1
theorem ds_if (hc : DT X c τc) (ha : DSs X sts τ) (hb : DSs X sts2 τ1) : DS X (.If c sts sts2 pos) (tIfD τc τ τ1) :=
  DS.of (ps_if hc.pt ha.pss hb.pss) fun D σ H Hf B ρ PD s q l => ⟨Hf, ρ, _, s.env, q, fun b H1 Hf1 ρ1 e1 m1 p1 => by
    cases b with
    | true => exact ⟨B, Hf1, ρ1, PD, s.mv e1 m1, p1, l⟩
    | false => exact ⟨B, Hf1, ρ1, PD, s.mv e1 m1, p1, l⟩⟩
/-- return e -/
def tRetD (τe : TD) : TDS := fun PD ρ => τe ρ PD.rt
theorem ds_ret (he : DE X e τe) : DS X (.Return (some e) pos) (tRetD τe) :=
  DS.of (ps_ret he.pe) fun D σ H Hf B ρ PD s q l => ⟨Hf, ρ, _, s.env, q, fun v H1 Hf1 r ρ1 e1 m1 r1 p1 => l.rt v σ H1 Hf1 ρ1 r (s.mv e1 m1) (r1.back s.live) p1⟩
/-- return x, a list of one's own -/
def tRetO (i : Nat) : TDS := fun PD ρ => ∃ xs, ρ[i]? = some (some (.ow false xs)) ∧ PD.rt (.fr xs) (ρ.set i none)
theorem DEnv.drop {K : Fg} {H Hf : Hp} {σ : St} {ρ : Ev} (i : Nat) (e : DEnv K H Hf σ ρ) : DEnv K H Hf σ (ρ.set i none) where
  sub := e.sub
  sl := fun j s h => by
    rw [set_get] at h
    by_cases hj : i = j
    · rw [if_pos hj] at h
      split at h <;> cases h
    · rw [if_neg hj] at h
      exact e.sl j s h
  sep := fun j k a p xs q ys h1 h2 h3 h4 => by
    rw [set_get] at h1 h2
    by_cases hj : i = j
    · rw [if_pos hj] at h1
      split at h1 <;> cases h1
    by_cases hk : i = k
    · rw [if_pos hk] at h2
      split at h2 <;> cases h2
    rw [if_neg hj] at h1
    rw [if_neg hk] at h2
    exact e.sep j k a p xs q ys h1 h2 h3 h4
  len := by rw [List.length_set]; exact e.len
theorem ds_retO (i : Nat) {p : Pos} (hN : X.N[i]? = some x := by rfl) (hv : Vis X.env.scope x := by first | exact Or.inl rfl | exact Or.inr (Or.inl rfl) | exact Or.inr (Or.inr rfl)) (hd : (x == ("__debug__" : Str)) = false := by decide) (hcd : (x == ("__classdict__" : Str)) = false := by decide) :
    DS X (.Return (some (.Name x p)) pos) (tRetO i) :=
  DS.of (ps_ret (pe_var hN hv hd hcd)) fun D σ H Hf B ρ PD s ⟨xs, h, q⟩ l => by
    obtain ⟨a, ys, h1, h2, h3, h4⟩ := s.env.sl i _ h
    have m : Mv σ ρ (ρ.set i none) H H Hf Hf := ⟨fun _ _ q _ => q, fun _ q => q, fun _ _ q => q, fun _ _ q => .inl q, fun j p us q => by
      rw [set_get] at q
      by_cases hj : i = j
      · rw [if_pos hj] at q
        split at q <;> cases q
      · rw [if_neg hj] at q
        exact ⟨us, q⟩, fun j us q => by
      by_cases hj : i = j
      · subst hj
        rw [h] at q
        cases q
      · exact ⟨us, by rw [set_get, if_neg hj]; exact q⟩⟩
    exact ⟨.ref a, h1, l.rt _ σ H Hf _ (.fr xs) (s.mv (s.env.drop i) m) ⟨a, ys, rfl, h2, h3, s.own i a xs h h1, h4⟩ q⟩
/-- e; its value is dropped -/
def tDropD (τe : TD) : TDS := fun PD ρ => τe ρ fun _ ρ1 => PD.nx ρ1
theorem ds_expr (he : DE X e τe) (hs : swapsWith e none pos.line X.env = pure false := by rfl) : DS X (.Expr e pos) (tDropD τe) :=
  DS.of (ps_expr he.pe hs) fun D σ H Hf B ρ PD s q l => ⟨Hf, ρ, _, s.env, q, fun v H1 Hf1 r ρ1 e1 m1 r1 p1 => l.nx σ H1 Hf1 ρ1 (s.mv e1 m1) p1⟩
/-- x[k] = e, x a list of one's own -/
def tSubO (i : Nat) (τe τk : TD) : TDS := fun PD ρ => τe ρ fun r ρ1 => (∃ p xs, ρ1[i]? = some (some (.ow p xs))) ∧ τk ρ1 fun y ρ2 => ∃ p xs k j, ρ2[i]? = some (some (.ow p xs)) ∧ y.dat = .int k ∧ ixN (List.length xs) k = some j ∧ PD.nx (ρ2.set i (some (.ow p (xs.set j r.dat))))
theorem ds_subO (i : Nat) {k : Expr} {τk : TD} {p p2 : Pos} (he : DE X e τe) (hk : DE X k τk) (hN : X.N[i]? = some x := by rfl) (hv : Vis X.env.scope x := by first | exact Or.inl rfl | exact Or.inr (Or.inl rfl) | exact Or.inr (Or.inr rfl)) (hd : (x == ("__debug__" : Str)) = false := by decide) (hcd : (x == ("__classdict__" : Str)) = false := by decide)
    (ha : ∀ v, assign (.Subscript (.Name x p) k p2) X.env v = (do
      let ov ← holding [v] (eval (.Name x p) X.env)
      let iv ← holding [v, ov] (eval k X.env)
      standAt p2
      holding [v, ov, iv] (setItem ov iv v)
      release [v, ov, iv] []) := by intro _; rfl)
    (hs : swapsWithSole [.Subscript (.Name x p) k p2] e pos.line X.env = pure false := by rfl) (hw : swappedStores [.Subscript (.Name x p) k p2] e X.env = pure none := by rfl) :
    DS X (.Assign [.Subscript (.Name x p) k p2] e pos) (tSubO i τe τk) := by
  refine DS.of (ps_asg he.pe (pg_sub (pe_var hN hv hd hcd) hk.pe set_list ha) hs hw) fun D σ H Hf B ρ PD s q l => ?_
  refine inS_fz B s (P := fun d ρ1 => (∃ p xs, ρ1[i]? = some (some (.ow p xs))) ∧ τk ρ1 fun y ρ2 => ∃ p xs k j, ρ2[i]? = some (some (.ow p xs)) ∧ y.dat = .int k ∧ ixN (List.length xs) k = some j ∧ PD.nx (ρ2.set i (some (.ow p (xs.set j d))))) q fun v H1 Hf1 d ρ1 s1 r1 ⟨⟨p0, xs0, h0⟩, q1⟩ => ?_
  obtain ⟨a, ys, h1, h2, h3, h4⟩ := s1.env.sl i _ h0
  refine ⟨.ref a, h1, ⟨Hf1, ρ1, _, s1.env, q1, fun y H2 Hf2 ry ρ2 e2 m2 r2 ⟨p3, xs, kk, j, g1, g2, g3, g4⟩ => ?_⟩⟩
  obtain ⟨Hf3, e3, m3, r3⟩ := r2.freeze s1.env e2 m2
  rw [g2] at r3
  obtain ⟨a', ys1, z1, z2, z3, z4⟩ := e3.sl i _ g1
  rw [h1] at z1
  cases z1
  obtain ⟨e4, m4⟩ := own_upd e3 g1 h1 (z4.set (r1.mono m3.grow) j)
  have s3 := s1.mv e3 m3
  refine ⟨a, ys1, kk, j, rfl, r3.int_inv, z2, by rw [z4.length]; exact g3, ?_⟩
  exact l.nx σ _ _ _ (s3.mv e4 m4) g4
/-- x, y = a, b -/
def tParD (i j : Nat) (τ : TDA) : TDS := fun PD ρ => τ ρ fun ds ρ1 => ∃ d d', ds = [d, d'] ∧ pinB ρ1 i = false ∧ pinB ρ1 j = false ∧ PD.nx ((ρ1.set i (some (.fz d))).set j (some (.fz d')))
theorem ds_par {i j : Nat} {x y : Str} {a b : Expr} {τs : TDA} {px py pt : Pos} {kt k2 : Nat} {pt2 : Pos} (hc : X.calm = true) (hN : X.N.Nodup) (hi : X.N[i]? = some x) (hj : X.N[j]? = some y) (hij : i ≠ j)
    (hx : X.env.scope.names.lookup x = some .local) (hy : X.env.scope.names.lookup y = some .local) (ha : DA X [a, b] τs)
    (hw : swappedStores [.Tuple [.Name x px, .Name y py] kt pt] (.Tuple [a, b] k2 pt2) X.env = pure (some [x, y]))
    (hs : swapsWithSole [.Tuple [.Name x px, .Name y py] kt pt] (.Tuple [a, b] k2 pt2) pos.line X.env = pure false := by rfl) :
    DS X (.Assign [.Tuple [.Name x px, .Name y py] kt pt] (.Tuple [a, b] k2 pt2) pos) (tParD i j τs) :=
  DS.of (ps_par hc hN hi hj hij hx hy ha.pa hw hs) fun D σ H Hf B ρ PD s q l => ⟨Hf, ρ, _, s.env, q, fun vs H1 Hf1 ds ρ1 e1 m1 r1 _ ⟨d, d', hd, p1, p2, p3⟩ => by
    subst hd
    cases r1 with
    | cons ra rr =>
      cases rr with
      | cons rb rr =>
        cases rr
        have s1 := s.mv e1 m1
        have s2 := s1.setTo (set_slot (i := i) s1.env ra) (Ext.refl s1.env.sub) (setTo_slot s1.env.len p1)
        have p2' : pinB (ρ1.set i (some (.fz d))) j = false := by
          unfold pinB at p2 ⊢
          rw [set_get, if_neg hij]
          exact p2
        have s3 := s2.setTo (set_slot (i := j) s2.env rb) (Ext.refl s2.env.sub) (setTo_slot s2.env.len p2')
        exact ⟨_, _, rfl, l.nx _ H1 Hf1 _ s3 p3⟩⟩
end
/-! ### defs -/
def startD (n : Nat) (ds : List D) : Ev := ds.map (fun d => some (.fz d)) ++ List.replicate (n - ds.length) none
def startD1 (n : Nat) (xs ds : List D) : Ev := some (.ow true xs) :: (ds.map (fun d => some (.fz d)) ++ List.replicate (n - (ds.length + 1)) none)
theorem start_len (N : List Str) (vs : List V) (h : vs.length ≤ N.length) : (L2.start N vs).length = N.length := by
  unfold L2.start
  rw [List.length_append, List.length_map, List.length_replicate]
  omega
theorem startD_get {n : Nat} {ds : List D} {i : Nat} {s : Sl} (h : (startD n ds)[i]? = some (some s)) : ∃ d, ds[i]? = some d ∧ s = .fz d := by
  unfold startD at h
  by_cases hi : i < ds.length
  · rw [List.getElem?_append_left (by rw [List.length_map]; exact hi), List.getElem?_map] at h
    cases e : ds[i]? with
    | none => rw [e] at h; cases h
    | some d =>
      rw [e] at h
      cases h
      exact ⟨d, rfl, rfl⟩
  · rw [List.getElem?_append_right (by rw [List.length_map]; omega)] at h
    rw [List.getElem?_replicate] at h
    split at h <;> cases h
theorem start_get {N : List Str} {vs : List V} {i : Nat} {v : V} (h : vs[i]? = some v) : (L2.start N vs)[i]? = some (some v) := by
  unfold L2.start
  have hi : i < vs.length := (List.getElem?_eq_some_iff.mp h).1
  rw [List.getElem?_append_left (by rw [List.length_map]; exact hi), List.getElem?_map, h]
  rfl
section
variable {P : Program} {w : World} {K : Fg} {mg : Str → Option Value} {base : Heap} {x qual : Str} {st : Stmt} {f : Addr} {fd : FuncData} {N ps : List Str} {k : Nat}
/-- THE RULE for a def without a list that it changes -/
theorem okD0 {g : FS0} {τ : TDS} (F : Fun K x qual st f fd) (S : FnScope N ps (defScope st)) (hps : ps.length ≤ N.length)
    (hb : ∀ (cdv : Value) (A : Around) (outer : List Env) (s : Shared) (H : Hp) (E : XK), Room k (A.deeper (PyProof.Rows.envOfC qual (defScope st) s.heap.objs.size f cdv)) → DSs (cxOf CX0 P w K mg base N qual (defScope st) f cdv A outer s H E).nox (defBody st) τ)
    (hq : ∀ ds Q, ds.length = ps.length → g ds Q → τ { nx := fun _ => Q (.fz .non), rt := fun r _ => Q r } (startD N.length ds)) : FnOk P w K mg base CX0 (k + 1) f fd ps (sp0 K ps.length g) := by
  refine F.ok S (fun vs H Q E h => ?_) (fun cdv A outer s H vs Q E hr h => ?_)
  · obtain ⟨Hf, ds, P, _, r, hl, _⟩ := h
    exact r.length.trans hl
  obtain ⟨Hf, ds, PQ, hf, r, hl, hg, kk⟩ := h
  have hvl := r.length
  refine ⟨_, (hb cdv A outer s H E hr).pss, ⟨⟨H, Hf, []⟩, Hf, startD N.length ds, _, ?_, hq ds PQ hl hg, ?_⟩⟩
  · refine ⟨⟨hf, fun i t h => ?_, fun i j a p us q zs h1 => ?_, ?_⟩, fun b o h _ => h, fun b o h => h, fun b h => h, fun b o h => .inl h, fun i a us h => ?_, fun i a us h => ?_, fun p hp => nomatch hp⟩
    · obtain ⟨d, h1, rfl⟩ := startD_get h
      obtain ⟨v, h2, h3⟩ := r.get h1
      exact ⟨v, start_get h2, h3⟩
    · obtain ⟨d, _, h2⟩ := startD_get h1
      cases h2
    · rw [start_len N vs (by omega)]
      unfold startD
      rw [List.length_append, List.length_map, List.length_replicate]
      omega
    · obtain ⟨d, _, h2⟩ := startD_get h
      cases h2
    · obtain ⟨d, _, h2⟩ := startD_get h
      cases h2
  · refine ⟨fun σ H1 Hf1 ρ e q => ?_, fun v σ H1 Hf1 ρ r1 e ok q => ?_, fun _ _ _ _ _ z => z.elim, fun _ _ _ _ _ z => z.elim⟩
    · exact kk .non H1 Hf1 (.fz .non) ⟨fun b o h => e.keep b o h (fun _ z => nomatch z), e.env.sub, e.grow, e.new⟩ Rep.non q
    · exact kk v H1 Hf1 r1 ⟨fun b o h => e.keep b o h (fun _ z => nomatch z), e.env.sub, e.grow, e.new⟩ ok q
/-- THE RULE for a def that changes its first argument, a list -/
theorem okD1 {g : FS1} {τ : TDS} (F : Fun K x qual st f fd) (S : FnScope N ps (defScope st)) (hps : ps.length ≤ N.length)
    (hb : ∀ (cdv : Value) (A : Around) (outer : List Env) (s : Shared) (H : Hp) (E : XK), Room k (A.deeper (PyProof.Rows.envOfC qual (defScope st) s.heap.objs.size f cdv)) → DSs (cxOf CX0 P w K mg base N qual (defScope st) f cdv A outer s H E).nox (defBody st) τ)
    (hq : ∀ xs ds Q, ds.length + 1 = ps.length → g xs ds Q → τ { nx := fun ρ => ∃ xs', ρ[0]? = some (some (.ow true xs')) ∧ Q (.fz .non) xs', rt := fun r ρ => ∃ xs', ρ[0]? = some (some (.ow true xs')) ∧ Q r xs' } (startD1 N.length xs ds)) : FnOk P w K mg base CX0 (k + 1) f fd ps (sp1 K ps.length g) := by
  refine F.ok S (fun vs H Q E h => ?_) (fun cdv A outer s H vs Q E hr h => ?_)
  · obtain ⟨Hf, a, us, ys, xs, ds, P, rfl, _, _, _, _, r, hl, _⟩ := h
    rw [List.length_cons, r.length]
    exact hl
  obtain ⟨Hf, a, us, ys, xs, ds, PQ, rfl, hf, ha, hfa, rx, r, hl, hg, kk⟩ := h
  have hvl := r.length
  have e0 : startD1 N.length xs ds = some (.ow true xs) :: startD (N.length - 1) ds := by
    unfold startD1 startD
    rw [show N.length - (ds.length + 1) = N.length - 1 - ds.length by omega]
  have es : L2.start N (.ref a :: us) = some (.ref a) :: (us.map some ++ List.replicate (N.length - (us.length + 1)) none) := rfl
  have gs : ∀ (i : Nat) (s : Sl), (startD1 N.length xs ds)[i + 1]? = some (some s) → ∃ d v, s = .fz d ∧ (L2.start N (.ref a :: us))[i + 1]? = some (some v) ∧ Rep K Hf v d := by
    intro i s h
    rw [e0, List.getElem?_cons_succ] at h
    obtain ⟨d, h1, rfl⟩ := startD_get h
    obtain ⟨v, h2, h3⟩ := r.get h1
    exact ⟨d, v, rfl, start_get (by rw [List.getElem?_cons_succ]; exact h2), h3⟩
  refine ⟨_, (hb cdv A outer s H E hr).pss, ⟨⟨H, Hf, [(0, a)]⟩, Hf, startD1 N.length xs ds, _, ?_, hq xs ds PQ hl hg, ?_⟩⟩
  · refine ⟨⟨hf, fun i t h => ?_, fun i j b p us' q zs h1 h2 h3 h4 => ?_, ?_⟩, fun b o h _ => h, fun b o h => h, fun b h => h, fun b o h => .inl h, fun i b us' h h2 => ?_, fun i b us' h h2 => ?_, fun p hp => ?_⟩
    · cases i with
      | zero =>
        cases h
        exact ⟨a, ys, rfl, ha, hfa, rx⟩
      | succ i =>
        obtain ⟨d, v, rfl, h1, h2⟩ := gs i t h
        exact ⟨v, h1, h2⟩
    · cases i with
      | zero =>
        cases j with
        | zero => rfl
        | succ j =>
          obtain ⟨d, v, z, _⟩ := gs j _ h2
          cases z
      | succ i =>
        obtain ⟨d, v, z, _⟩ := gs i _ h1
        cases z
    · rw [start_len N _ (by rw [List.length_cons]; omega), e0, List.length_cons]
      unfold startD
      rw [List.length_append, List.length_map, List.length_replicate]
      omega
    · cases i with
      | zero => cases h
      | succ i =>
        obtain ⟨d, v, z, _⟩ := gs i _ h
        cases z
    · cases i with
      | zero =>
        cases h2
        exact List.mem_cons_self ..
      | succ i =>
        obtain ⟨d, v, z, _⟩ := gs i _ h
        cases z
    · rw [List.mem_singleton.mp hp]
      exact ⟨rfl, xs, rfl⟩
  · have fin : ∀ v σ H1 Hf1 ρ r1, SEnv K ⟨H, Hf, [(0, a)]⟩ H1 Hf1 σ ρ → ResOk K H H1 Hf1 v r1 → (∃ xs', ρ[0]? = some (some (.ow true xs')) ∧ PQ r1 xs') → Q v H1 := by
      intro v σ H1 Hf1 ρ r1 e ok ⟨xs', h1, q⟩
      obtain ⟨w1, _⟩ := e.pins (0, a) (List.mem_cons_self ..)
      obtain ⟨b, ys', z1, z2, z3, z4⟩ := e.env.sl 0 _ h1
      have w1' : σ[0]? = some (some (.ref a)) := w1
      rw [w1'] at z1
      cases z1
      exact kk v H1 Hf1 r1 ys' xs' ⟨fun b o h hb => e.keep b o h (fun p hp => by rw [List.mem_singleton.mp hp]; exact fun z => hb z.symm), e.live, e.env.sub, e.grow, e.new⟩ z2 z3 z4 ok q
    exact ⟨fun σ H1 Hf1 ρ e q => fin .non σ H1 Hf1 ρ (.fz .non) e Rep.non q, fun v σ H1 Hf1 ρ r1 e ok q => fin v σ H1 Hf1 ρ r1 e ok q, fun _ _ _ _ _ z => z.elim, fun _ _ _ _ _ z => z.elim⟩
end
end DL
/-! The data layer, 8: what is walked; for; comprehensions; calls that change their first argument. -/
namespace L2
open PySem PySem.Spec PyProof.Rows
/-- a list, a tuple or a text that is walked -/
def iSeq (K : PySem.W.Frag) (te : TE) : TI := fun σ H R => te σ H fun x H1 => (∃ a, x = .ref a ∧ (∃ xs, SqL K H1 a xs) ∧ R (Itl K a) H1) ∨ (∃ a, x = .ref a ∧ (∃ xs, SqT K H1 a xs) ∧ R (Itt K a) H1) ∨ (∃ z, x = .str z ∧ R (Its z) H1)
theorem pi_seq {X : Cx} {tg l : Expr} {tl : TE} (hl : PE X l tl) : PI X tg l (iSeq X.K tl) := by
  refine ⟨fun pins s σ H R I h => ?_⟩
  refine thn (hl.run pins s σ H _ I h) fun v s1 ⟨x, H1, I1, r1, q1⟩ => ?_
  rcases q1 with ⟨a, e, ⟨xs, hq⟩, q⟩ | ⟨a, e, ⟨xs, hq⟩, q⟩ | ⟨z, e, q⟩
  · subst e
    cases r1
    obtain ⟨its, rv, p, hz⟩ := I1.list hq
    refine wpAny_pyIter_list p.isList ?_
    refine ⟨s1.heap.objs.size, [s1.heap.objs.size], _, _, H1, rfl, I1.kept (t' := s1.toks) fun b o e => Heap.get?_push_of_some _ e, turn_list a _, ⟨_, Heap.get?_push_size _ rfl, rfl, rfl⟩, fun b hb => ?_, q⟩
    have e : b = s1.heap.objs.size := by simpa using hb
    subst e
    exact I1.fpOk (Nat.le_refl _) (I1.hok.fresh (Nat.le_refl _))
  · subst e
    cases r1
    obtain ⟨its, rv, p, hz⟩ := I1.tuple hq
    refine wpAny_pyIter_tuple (show s1.heap.IsTuple a its.toArray from p) ?_
    refine ⟨s1.heap.objs.size, [s1.heap.objs.size], _, _, H1, rfl, I1.kept (t' := s1.toks) fun b o e => Heap.get?_push_of_some _ e, turn_tuple a _, ⟨_, Heap.get?_push_size _ rfl, rfl, rfl⟩, fun b hb => ?_, q⟩
    have e : b = s1.heap.objs.size := by simpa using hb
    subst e
    exact I1.fpOk (Nat.le_refl _) (I1.hok.fresh (Nat.le_refl _))
  · subst e
    obtain ⟨t, rfl⟩ := r1
    cases ha : z.cps.all (· < 128)
    · exact wpAny_pyIter_wide ha (pi_one (tk := s1.toks) I1 _ (turn_str _ z t "str_iterator" (.inr rfl)) ⟨_, Heap.get?_push_size _ rfl, rfl, rfl⟩ q)
    · exact wpAny_pyIter_ascii ha (pi_one (tk := s1.toks) I1 _ (turn_str _ z t "str_ascii_iterator" (.inl rfl)) ⟨_, Heap.get?_push_size _ rfl, rfl, rfl⟩ q)
end L2
namespace DL
open PySem L2
/-! ### what is walked -/
structure DIt (K : Fg) (J : It) (Hf : Hp) (ds : List D) : Prop where
  item : ∀ (i : Nat) (d : D) (H' Hf' : Hp), (∀ b o, Hf' b = some o → H' b = some o) → (∀ b o, Hf b = some o → Hf' b = some o) → ds[i]? = some d → J.go i H' ∧ ∀ x H'', J.yld i H' x H'' → ∃ Hf'', Ext H' H'' Hf' Hf'' ∧ Rep K Hf'' x d
  stop : ∀ (i : Nat) (H' Hf' : Hp), (∀ b o, Hf' b = some o → H' b = some o) → (∀ b o, Hf b = some o → Hf' b = some o) → ds.length ≤ i → i ≤ ds.length → J.stop i H'
abbrev TDI := Ev → (List D → Ev → Prop) → Prop
def canI (K : Fg) (τ : TDI) : TI := fun σ H R => ∃ (Hf : Hp) (ρ : Ev) (P : List D → Ev → Prop), DEnv K H Hf σ ρ ∧ τ ρ P ∧ ∀ J H' Hf' ds ρ', DEnv K H' Hf' σ ρ' → Mv σ ρ ρ' H H' Hf Hf' → DIt K J Hf' ds → P ds ρ' → R J H'
structure DI (X : Cx) (tg iter : Expr) (τ : TDI) : Prop where
  pi : PI X tg iter (canI X.K τ)
/-- the items of what is walked -/
def itemsD : D → Option (List D)
  | .lst ds => some ds
  | .tup ds => some ds
  | .str z => some (signsD z)
  | .scr ns => some (ns.map .int)
  | _ => none
section
variable {X : Cx} {tg e : Expr} {τe : TD} {τs : TDA} {p pos : Pos}
theorem DI.of {iter : Expr} {τ : TDI} {t : TI} (h : PI X tg iter t) (k : ∀ (σ : St) (H Hf : Hp) (ρ : Ev) (P : List D → Ev → Prop) (R : It → Hp → Prop), DEnv X.K H Hf σ ρ → τ ρ P → (∀ J H' Hf' ds ρ', DEnv X.K H' Hf' σ ρ' → Mv σ ρ ρ' H H' Hf Hf' → DIt X.K J Hf' ds → P ds ρ' → R J H') → t σ H R) : DI X tg iter τ :=
  ⟨⟨fun pins s σ H R I ⟨Hf, ρ, P, e, q, kk⟩ => h.run pins s σ H R I (k σ H Hf ρ P R e q kk)⟩⟩
def tSeqI (τe : TD) : TDI := fun ρ P => τe ρ fun r ρ1 => ∃ ds, itemsD r.dat = some ds ∧ P ds ρ1
theorem itl_it {K : Fg} {Hf : Hp} {a : Addr} {vs : List V} {ds : List D} (hs : SqL K Hf a vs) (r : RepL K Hf vs ds) : DIt K (Itl K a) Hf ds where
  item := fun i d H' Hf' sub grow hd => by
    obtain ⟨v, h1, h2⟩ := r.get hd
    have q : SqL K H' a vs := sqL_same (fun b o h => sub b o (grow b o h)) hs
    refine ⟨⟨vs, v, q, h1⟩, fun x H'' y => ?_⟩
    obtain ⟨rfl, y⟩ := y
    have e := y vs q
    rw [h1] at e
    cases e
    exact ⟨Hf', Ext.refl sub, h2.mono grow⟩
  stop := fun i H' Hf' sub grow hl _ => ⟨vs, sqL_same (fun b o h => sub b o (grow b o h)) hs, by rw [r.length]; exact hl⟩
theorem itt_it {K : Fg} {Hf : Hp} {a : Addr} {vs : List V} {ds : List D} (hs : SqT K Hf a vs) (r : RepL K Hf vs ds) : DIt K (Itt K a) Hf ds where
  item := fun i d H' Hf' sub grow hd => by
    obtain ⟨v, h1, h2⟩ := r.get hd
    have q : SqT K H' a vs := sqT_same (fun b o h => sub b o (grow b o h)) hs
    refine ⟨⟨vs, v, q, h1⟩, fun x H'' y => ?_⟩
    obtain ⟨rfl, y⟩ := y
    have e := y vs q
    rw [h1] at e
    cases e
    exact ⟨Hf', Ext.refl sub, h2.mono grow⟩
  stop := fun i H' Hf' sub grow hl _ => ⟨vs, sqT_same (fun b o h => sub b o (grow b o h)) hs, by rw [r.length]; exact hl⟩
theorem its_it {K : Fg} {Hf : Hp} {z : Str} : DIt K (Its z) Hf (signsD z) where
  item := fun i d H' Hf' sub grow hd => by
    unfold signsD at hd
    rw [List.getElem?_map] at hd
    cases e : z.cps.toList[i]? with
    | none => rw [e] at hd; cases hd
    | some c =>
      rw [e] at hd
      cases hd
      have hlt : i < z.cps.toList.length := (List.getElem?_eq_some_iff.mp e).1
      rw [Array.length_toList] at hlt
      refine ⟨hlt, fun x H'' y => ?_⟩
      obtain ⟨rfl, c', h1, rfl⟩ := y
      rw [Array.getElem?_toList, h1] at e
      cases e
      exact ⟨Hf', Ext.refl sub, .str _⟩
  stop := fun i H' Hf' sub grow hl _ => by
    unfold signsD at hl
    rw [List.length_map, Array.length_toList] at hl
    exact hl
theorem repL_ints {K : Fg} {H : Hp} : ∀ ns : List Int, RepL K H (ns.map V.int) (ns.map D.int)
  | [] => .nil
  | n :: ns => .cons (.int n) (repL_ints ns)
/-- over a list, a tuple, a text -/
theorem di_seq (he : DE X e τe) : DI X tg e (tSeqI τe) := by
  obtain ⟨t, pe, se⟩ := he.fz
  refine DI.of (pi_seq pe) fun σ H Hf ρ P R e q k => se σ H Hf ρ (fun d ρ1 => ∃ ds, itemsD d = some ds ∧ P ds ρ1) _ e q fun v H1 Hf1 d ρ1 e1 m1 r1 zz => ?_
  obtain ⟨ds, hd, p1⟩ := zz
  cases r1 <;> first | (simp [itemsD] at hd; done) | skip
  · rename_i z
    simp only [itemsD, Option.some.injEq] at hd
    subst hd
    exact .inr (.inr ⟨z, rfl, k _ H1 Hf1 _ ρ1 e1 m1 its_it p1⟩)
  · rename_i a ns hp
    simp only [itemsD, Option.some.injEq] at hd
    subst hd
    exact .inl ⟨a, rfl, ⟨_, sqL_same e1.sub hp⟩, k _ H1 Hf1 _ ρ1 e1 m1 (itl_it hp (repL_ints ns)) p1⟩
  · rename_i a vs es hp rp
    simp only [itemsD, Option.some.injEq] at hd
    subst hd
    exact .inr (.inl ⟨a, rfl, ⟨_, sqT_same e1.sub hp⟩, k _ H1 Hf1 _ ρ1 e1 m1 (itt_it hp rp) p1⟩)
  · rename_i a vs es hp rp
    simp only [itemsD, Option.some.injEq] at hd
    subst hd
    exact .inl ⟨a, rfl, ⟨_, .inl (.inl (e1.sub _ _ hp))⟩, k _ H1 Hf1 _ ρ1 e1 m1 (itl_it (.inl (.inl hp)) rp) p1⟩
/-- range -/
def rangeD (lo : Int) (n : Nat) : List D := (List.range n).map fun (i : Nat) => D.int (lo + i)
theorem itr_it {K : Fg} {Hf : Hp} {lo : Int} {n : Nat} : DIt K (Itr lo n) Hf (rangeD lo n) where
  item := fun i d H' Hf' sub grow hd => by
    unfold rangeD at hd
    rw [List.getElem?_map] at hd
    by_cases hi : i < n
    · rw [List.getElem?_range hi] at hd
      cases hd
      refine ⟨hi, fun x H'' y => ?_⟩
      obtain ⟨rfl, rfl⟩ := y
      exact ⟨Hf', Ext.refl sub, .int _⟩
    · rw [List.getElem?_eq_none (by rw [List.length_range]; omega)] at hd
      cases hd
  stop := fun i H' Hf' sub grow hl _ => by
    unfold rangeD at hl
    rw [List.length_map, List.length_range] at hl
    exact hl
def tRng1 (τ : TDA) : TDI := fun ρ P => τ ρ fun ds ρ1 => ∃ j : Int, ds = [.int j] ∧ (-(2 ^ 62) ≤ j ∧ j < 2 ^ 62) ∧ P (rangeD 0 j.toNat) ρ1
def tRng2 (τ : TDA) : TDI := fun ρ P => τ ρ fun ds ρ1 => ∃ i j : Int, ds = [.int i, .int j] ∧ (-(2 ^ 62) ≤ i ∧ i < 2 ^ 62 ∧ -(2 ^ 62) ≤ j ∧ j < 2 ^ 62) ∧ P (rangeD i (j - i).toNat) ρ1
theorem di_range1 {a : Expr} (hg : Gl X "range") (hm : X.mg "range" = none) (ha : DA X [a] τs) (hs : starEach [a] X.env = [(false, eval a X.env)] := by rfl) : DI X tg (.Call (.Name "range" p) [a] [] pos) (tRng1 τs) :=
  DI.of (pi_range1 hg hm ha.pa hs) fun σ H Hf ρ P R e q k => ⟨Hf, ρ, _, e, q, fun vs H1 Hf1 ds ρ1 e1 m1 r1 _ ⟨j, hd, hj, p1⟩ => by
    subst hd
    cases r1 with
    | cons ra rr =>
      cases rr
      cases ra
      exact ⟨j, rfl, hj.1, hj.2, k _ H1 Hf1 _ ρ1 e1 m1 itr_it p1⟩⟩
theorem di_range2 {a b : Expr} (hg : Gl X "range") (hm : X.mg "range" = none) (ha : DA X [a, b] τs) (hs : starEach [a, b] X.env = [(false, eval a X.env), (false, eval b X.env)] := by rfl) (hs2 : starEach [b] X.env = [(false, eval b X.env)] := by rfl) : DI X tg (.Call (.Name "range" p) [a, b] [] pos) (tRng2 τs) :=
  DI.of (pi_range2 hg hm ha.pa hs hs2) fun σ H Hf ρ P R e q k => ⟨Hf, ρ, _, e, q, fun vs H1 Hf1 ds ρ1 e1 m1 r1 _ ⟨i, j, hd, hj, p1⟩ => by
    subst hd
    cases r1 with
    | cons ra rr =>
      cases rr with
      | cons rb rr =>
        cases rr
        cases ra
        cases rb
        exact ⟨i, j, rfl, hj, k _ H1 Hf1 _ ρ1 e1 m1 itr_it p1⟩⟩
end
/-! ### for -/
def loopD (γ : TDG) (τb : TDS) (PD : DEnds) : List D → Ev → Prop
  | [], ρ => PD.nx ρ
  | d :: ds, ρ => γ d ρ fun ρ1 => τb { PD with nx := loopD γ τb PD ds, ct := loopD γ τb PD ds, bk := PD.nx } ρ1
def tForD (τi : TDI) (γ : TDG) (τb : TDS) : TDS := fun PD ρ => τi ρ fun ds ρ1 => loopD γ τb PD ds ρ1
theorem SEnv.re {K : Fg} {B : Bs} {H Hf : Hp} {σ : St} {ρ : Ev} (s : SEnv K B H Hf σ ρ) : SEnv K { B with Hf0 := Hf } H Hf σ ρ := ⟨s.env, s.keep, fun _ _ h => h, s.live, fun _ _ h => .inl h, s.own, s.pin, s.pins⟩
theorem SEnv.un {K : Fg} {B : Bs} {H H1 Hf Hf1 : Hp} {σ σ1 : St} {ρ ρ1 : Ev} (s : SEnv K B H Hf σ ρ) (s1 : SEnv K { B with Hf0 := Hf } H1 Hf1 σ1 ρ1) : SEnv K B H1 Hf1 σ1 ρ1 := ⟨s1.env, s1.keep, fun b o h => s1.grow b o (s.grow b o h), s1.live, fun b o h => by
  rcases s1.new b o h with h | h
  · exact s.new b o h
  · exact .inr h, s1.own, s1.pin, s1.pins⟩
theorem ds_for {X : Cx} {tg iter : Expr} {body : List Stmt} {is : List Nat} {τi : TDI} {γ : TDG} {τb : TDS} {pos : Pos} (hp : PassesOwn (model X.prog X.w) X.A X.env X.xe) (hc : X.calm = true) (hi : DI X tg iter τi) (hg : DG X tg is γ) (hb : DSs X body τb)
    (hs : ∀ x, foldedSetIterable iter X.env x = pure x := by intro _; rfl) : DS X (.For tg iter body [] pos) (tForD τi γ τb) := by
  refine DS.of (ps_for hp hc hi.pi hg.pg hb.pss hs) fun D σ H Hf B ρ PD s q l => ⟨Hf, ρ, _, s.env, q, fun J H1 Hf1 ds ρ1 e1 m1 it p1 => ?_⟩
  have s1 := s.mv e1 m1
  refine ⟨fun i m σ' H' => ∃ Hf' ρ', SEnv X.K { B with Hf0 := Hf1 } H' Hf' σ' ρ' ∧ loopD γ τb PD (ds.drop i) ρ' ∧ m = ds.length - i ∧ i ≤ ds.length, ⟨ds.length, Hf1, ρ1, s1.re, by rw [List.drop_zero]; exact p1, by omega, Nat.zero_le _⟩, ?_⟩
  rintro i m σ2 H2 ⟨Hf2, ρ2, s2, q2, hm, hil⟩
  by_cases hlt : i < ds.length
  · have hd : ds[i]? = some ds[i] := List.getElem?_eq_getElem hlt
    obtain ⟨go, yl⟩ := it.item i ds[i] H2 Hf2 s2.env.sub s2.grow hd
    rw [List.drop_eq_getElem_cons hlt] at q2
    refine .inr ⟨go, fun σ' H' => ∃ Hf' ρ', SEnv X.K { B with Hf0 := Hf1 } H' Hf' σ' ρ' ∧ loopD γ τb PD (ds.drop (i + 1)) ρ', fun σ' H' ⟨Hf', ρ', a1, a2⟩ => ⟨ds.length - (i + 1), by omega, Hf', ρ', a1, a2, rfl, hlt⟩, fun x H3 y => ?_⟩
    obtain ⟨Hf3, x3, r3⟩ := yl x H3 y
    have e3 := x3.env s2.env
    refine ⟨Hf3, ρ2, ds[i], _, e3, r3, q2, fun σ4 H4 Hf4 ρ4 e4 x4 t4 p4 => ?_⟩
    have s4 : SEnv X.K { B with Hf0 := Hf1 } H4 Hf4 σ4 ρ4 := s2.setTo e4 (x3.trans x4) t4
    refine ⟨{ B with Hf0 := Hf1 }, Hf4, ρ4, _, s4, p4, ⟨fun σ5 H5 Hf5 ρ5 e5 q5 => ⟨Hf5, ρ5, e5, q5⟩, fun v σ5 H5 Hf5 ρ5 r e5 ok q5 => l.rt v σ5 H5 Hf5 ρ5 r (s1.un e5) ok q5, fun σ5 H5 Hf5 ρ5 e5 q5 => l.nx σ5 H5 Hf5 ρ5 (s1.un e5) q5, fun σ5 H5 Hf5 ρ5 e5 q5 => ⟨Hf5, ρ5, e5, q5⟩⟩⟩
  · have e : i = ds.length := by omega
    subst e
    rw [List.drop_length] at q2
    exact .inl ⟨it.stop _ H2 Hf2 s2.env.sub s2.grow (Nat.le_refl _) (Nat.le_refl _), l.nx σ2 H2 Hf2 ρ2 (s1.un s2) q2⟩
end DL
/-! The data layer, 9: comprehensions; calls that change their first argument. -/
namespace DL
open PySem L2
def wipeD (ρ : Ev) : List Nat → Ev
  | [] => ρ
  | v :: vs => (wipeD ρ vs).set v none
theorem wipeD_len (ρ : Ev) : ∀ vs, (wipeD ρ vs).length = ρ.length
  | [] => rfl
  | v :: vs => by unfold wipeD; rw [List.length_set, wipeD_len ρ vs]
theorem wipeD_out (ρ : Ev) {i : Nat} : ∀ {vs : List Nat}, i ∉ vs → (wipeD ρ vs)[i]? = ρ[i]?
  | [], _ => rfl
  | v :: vs, h => by
    unfold wipeD
    rw [set_get, if_neg (fun z => h (by rw [z]; exact List.mem_cons_self ..)), wipeD_out ρ (fun z => h (List.mem_cons_of_mem _ z))]
theorem wipeD_in (ρ : Ev) {i : Nat} {s : Sl} : ∀ {vs : List Nat}, i ∈ vs → (wipeD ρ vs)[i]? = some (some s) → False
  | v :: vs, h, q => by
    unfold wipeD at q
    rw [set_get] at q
    by_cases hv : v = i
    · rw [if_pos hv] at q
      split at q <;> cases q
    · rw [if_neg hv] at q
      rcases List.mem_cons.mp h with e | e
      · exact hv e.symm
      · exact wipeD_in ρ e q
theorem wipe_out (σ : St) {i : Nat} : ∀ {vs : List Nat}, i ∉ vs → (wipe σ vs)[i]? = σ[i]?
  | [], _ => rfl
  | v :: vs, h => by
    unfold wipe
    rw [List.getElem?_set, if_neg (fun z => h (by rw [z]; exact List.mem_cons_self ..)), wipe_out σ (fun z => h (List.mem_cons_of_mem _ z))]
theorem wipe_eq {σ σ2 : St} (hl : σ2.length = σ.length) : ∀ {vs : List Nat}, (∀ i, i ∉ vs → σ2[i]? = σ[i]?) → wipe σ2 vs = wipe σ vs := fun {vs} h => by
  apply List.ext_getElem?
  intro i
  by_cases hi : i ∈ vs
  · have key : ∀ (σ : St) (vs : List Nat), i ∈ vs → (wipe σ vs)[i]? = if i < σ.length then some none else none := by
      intro σ vs
      induction vs with
      | nil => intro h; cases h
      | cons v vs ih =>
        intro h
        unfold wipe
        rw [List.getElem?_set, wipe_length]
        by_cases hv : v = i
        · rw [if_pos hv, hv]
        · rw [if_neg hv]
          rcases List.mem_cons.mp h with e | e
          · exact absurd e.symm hv
          · exact ih e
    rw [key σ2 vs hi, key σ vs hi, hl]
  · rw [wipe_out _ hi, wipe_out _ hi]
    exact h i hi
/-- the slots of a block as they were ahead of it -/
def resto (ρ1 ρ2 : Ev) : List Nat → Ev
  | [] => ρ2
  | v :: vs => (resto ρ1 ρ2 vs).set v (ρ1.getD v none)
theorem resto_len (ρ1 ρ2 : Ev) : ∀ vs, (resto ρ1 ρ2 vs).length = ρ2.length
  | [] => rfl
  | v :: vs => by unfold resto; rw [List.length_set, resto_len ρ1 ρ2 vs]
theorem resto_out (ρ1 ρ2 : Ev) {i : Nat} : ∀ {vs : List Nat}, i ∉ vs → (resto ρ1 ρ2 vs)[i]? = ρ2[i]?
  | [], _ => rfl
  | v :: vs, h => by
    unfold resto
    rw [set_get, if_neg (fun z => h (by rw [z]; exact List.mem_cons_self ..)), resto_out ρ1 ρ2 (fun z => h (List.mem_cons_of_mem _ z))]
theorem resto_in (ρ1 ρ2 : Ev) {i : Nat} {s : Sl} (hl : ρ1.length = ρ2.length) : ∀ {vs : List Nat}, i ∈ vs → (resto ρ1 ρ2 vs)[i]? = some (some s) → ρ1[i]? = some (some s)
  | v :: vs, h, q => by
    unfold resto at q
    rw [set_get] at q
    by_cases hv : v = i
    · subst hv
      rw [if_pos rfl, resto_len] at q
      split at q
      · rename_i hlt
        rw [List.getElem?_eq_getElem (by omega)]
        rw [List.getD_eq_getElem?_getD, List.getElem?_eq_getElem (by omega)] at q
        simpa using q
      · cases q
    · rw [if_neg hv] at q
      rcases List.mem_cons.mp h with e | e
      · exact absurd e.symm hv
      · exact resto_in ρ1 ρ2 hl e q
def notOw (ρ : Ev) (i : Nat) : Bool := match ρ[i]? with
  | some (some (.ow _ _)) => false
  | _ => true
theorem notOw_no {ρ : Ev} {i : Nat} {p : Bool} {xs : List D} (h : notOw ρ i = true) : ρ[i]? ≠ some (some (.ow p xs)) := fun z => by
  unfold notOw at h
  rw [z] at h
  cases h
/-- a comprehension's turns -/
def lcD (vs : List Nat) (γ : TDG) (τt : TDT) (τe : TD) : List D → Ev → List D → (List D → Ev → Prop) → Prop
  | [], ρ, acc, P => P acc ρ
  | d :: ds, ρ, acc, P => γ d ρ fun ρ1 => τt ρ1 fun b ρ2 => if b = true then τe ρ2 fun r ρ3 => acc.length < 16000 ∧ lcD vs γ τt τe ds (wipeD ρ3 vs) (acc ++ [r.dat]) P else lcD vs γ τt τe ds (wipeD ρ2 vs) acc P
def tLcD (τi : TDI) (γ : TDG) (τt : TDT) (τe : TD) (vs : List Nat) : TD := fun ρ P => τi ρ fun ds ρ1 => vs.all (notOw ρ1) = true ∧ lcD vs γ τt τe ds (wipeD ρ1 vs) [] fun acc ρ2 => P (.fr acc) (resto ρ1 ρ2 vs)
/-- a movement by the owned addresses alone -/
structure MvO (O : Addr → Prop) (H H' Hf Hf' : Hp) : Prop where
  keep : ∀ b o, H b = some o → ¬ O b → H' b = some o
  live : ∀ b, H' b = none → H b = none
  grow : ∀ b o, Hf b = some o → Hf' b = some o
  new : ∀ b o, Hf' b = some o → Hf b = some o ∨ H b = none ∨ O b
theorem MvO.refl (O : Addr → Prop) (H Hf : Hp) : MvO O H H Hf Hf := ⟨fun _ _ h _ => h, fun _ h => h, fun _ _ h => h, fun _ _ h => .inl h⟩
theorem MvO.trans {O : Addr → Prop} {H H1 H2 Hf Hf1 Hf2 : Hp} (m : MvO O H H1 Hf Hf1) (n : MvO O H1 H2 Hf1 Hf2) : MvO O H H2 Hf Hf2 :=
  ⟨fun b o h ho => n.keep b o (m.keep b o h ho) ho, fun b h => m.live b (n.live b h), fun b o h => n.grow b o (m.grow b o h), fun b o h => by
    rcases n.new b o h with h | h | h
    · exact m.new b o h
    · exact .inr (.inl (m.live b h))
    · exact .inr (.inr h)⟩
theorem Ext.mvO {O : Addr → Prop} {H H1 Hf Hf1 : Hp} (x : Ext H H1 Hf Hf1) : MvO O H H1 Hf Hf1 := ⟨fun b o h _ => x.same b o h, x.live, x.grow, fun b o h => (x.new b o h).imp id .inl⟩
theorem Mv.mvO {O : Addr → Prop} {σ : St} {ρ ρ1 : Ev} {H H1 Hf Hf1 : Hp} (m : Mv σ ρ ρ1 H H1 Hf Hf1) (h : ∀ a, Own σ ρ a → O a) : MvO O H H1 Hf Hf1 :=
  ⟨fun b o q hn => m.keep b o q fun z => hn (h b z), m.live, m.grow, fun b o q => (m.new b o q).imp id fun z => z.imp id (h b)⟩
/-- owned slots: none comes, a pinned one stays -/
structure Ix (a b : Ev) : Prop where
  own : ∀ (i : Nat) (p : Bool) (xs : List D), b[i]? = some (some (.ow p xs)) → ∃ ys, a[i]? = some (some (.ow p ys))
  pin : ∀ (i : Nat) (xs : List D), a[i]? = some (some (.ow true xs)) → ∃ ys, b[i]? = some (some (.ow true ys))
theorem Ix.refl (a : Ev) : Ix a a := ⟨fun _ _ xs h => ⟨xs, h⟩, fun _ xs h => ⟨xs, h⟩⟩
theorem Ix.trans {a b c : Ev} (x : Ix a b) (y : Ix b c) : Ix a c := ⟨fun i p xs h => let ⟨ys, h1⟩ := y.own i p xs h; x.own i p ys h1, fun i xs h => let ⟨ys, h1⟩ := x.pin i xs h; y.pin i ys h1⟩
theorem Mv.ix {σ : St} {ρ ρ1 : Ev} {H H1 Hf Hf1 : Hp} (m : Mv σ ρ ρ1 H H1 Hf Hf1) : Ix ρ ρ1 := ⟨m.own, m.pin⟩
theorem SetTo.ix {is : List Nat} {σ σ1 : St} {ρ ρ1 : Ev} (t : SetTo is σ σ1 ρ ρ1) : Ix ρ ρ1 where
  own := fun i p xs h => by
    rcases t.each i with ⟨_, h2⟩ | ⟨⟨d, h2⟩, _⟩
    · exact ⟨xs, by rw [← h2]; exact h⟩
    · rw [h2] at h
      cases h
  pin := fun i xs h => by
    rcases t.each i with ⟨_, h2⟩ | ⟨_, h2, _⟩
    · exact ⟨xs, by rw [h2]; exact h⟩
    · unfold pinB at h2
      rw [h] at h2
      cases h2
/-- an object of no slot changes -/
theorem DEnv.updFree {K : Fg} {H Hf : Hp} {σ : St} {ρ : Ev} {a : Addr} {o : HO} (e : DEnv K H Hf σ ρ) (hf : Hf a = none) (hn : ¬ Own σ ρ a) : DEnv K (upd H a o) Hf σ ρ where
  sub := fun b u h => by rw [upd_ne (ne_of_none h hf)]; exact e.sub b u h
  sl := fun i s h => by
    have z := e.sl i s h
    cases s with
    | fz d => exact z
    | ow p xs =>
      obtain ⟨b, ys, z1, z2, z3, z4⟩ := z
      exact ⟨b, ys, z1, by rw [upd_ne (fun w => hn ⟨i, p, xs, h, by rw [← w]; exact z1⟩)]; exact z2, z3, z4⟩
  sep := e.sep
  len := e.len
/-- the slots of a block are forgotten -/
theorem DEnv.wipe {K : Fg} {H Hf : Hp} {σ σ' : St} {ρ : Ev} (vs : List Nat) (e : DEnv K H Hf σ ρ) (hs : ∀ i, i ∉ vs → σ'[i]? = σ[i]?) (hl : σ'.length = σ.length) : DEnv K H Hf σ' (wipeD ρ vs) where
  sub := e.sub
  sl := fun i s h => by
    have hi : i ∉ vs := fun z => wipeD_in ρ z h
    rw [wipeD_out ρ hi] at h
    rw [hs i hi]
    exact e.sl i s h
  sep := fun i j a p xs q ys h1 h2 h3 h4 => by
    have hi : i ∉ vs := fun z => wipeD_in ρ z h1
    have hj : j ∉ vs := fun z => wipeD_in ρ z h2
    rw [wipeD_out ρ hi] at h1
    rw [wipeD_out ρ hj] at h2
    rw [hs i hi] at h3
    rw [hs j hj] at h4
    exact e.sep i j a p xs q ys h1 h2 h3 h4
  len := by rw [wipeD_len, hl]; exact e.len
theorem ix_wipe {ρ : Ev} {vs : List Nat} (h : ∀ v ∈ vs, ∀ p xs, ρ[v]? ≠ some (some (.ow p xs))) : Ix ρ (wipeD ρ vs) := ⟨fun i p xs q => by
  have hi : i ∉ vs := fun z => wipeD_in ρ z q
  rw [wipeD_out ρ hi] at q
  exact ⟨xs, q⟩, fun i xs q => by
  have hi : i ∉ vs := fun z => h i z true xs q
  exact ⟨xs, by rw [wipeD_out ρ hi]; exact q⟩⟩
section
variable {X : Cx} {pos : Pos}
structure DTs (X : Cx) (ifs : List Expr) (τ : TDT) : Prop where
  pts : PTs X ifs (canT X.K τ)
def tYesD : TDT := fun ρ P => P true ρ
theorem dts_nil : DTs X [] tYesD := ⟨⟨fun pins s σ H Q I ⟨Hf, ρ, P, e, q, k⟩ => pts_nil.run pins s σ H Q I (k true H Hf ρ e (Mv.refl ..) q)⟩⟩
theorem dts_one {c : Expr} {τ : TDT} (h : DT X c τ) : DTs X [c] τ := ⟨pts_one h.pt⟩
theorem lc_reading {K : Fg} {is : List Nat} {τi : TDI} {γ : TDG} {τt : TDT} {τe : TD} {vs : List Nat} (hv : ∀ i ∈ is, i ∈ vs) {σ : St} {H Hf : Hp} {ρ : Ev} {P : Res → Ev → Prop} {Q : VK} (e : DEnv K H Hf σ ρ) (q : tLcD τi γ τt τe vs ρ P)
    (k : ∀ v H' Hf' r ρ', DEnv K H' Hf' σ ρ' → Mv σ ρ ρ' H H' Hf Hf' → ResOk K H H' Hf' v r → P r ρ' → Q v H') : tLc (canI K τi) (canG K is γ) (canT K τt) (canE K τe) vs σ H Q := by
  refine ⟨Hf, ρ, _, e, q, fun J H1 Hf1 ds ρ1 e1 m1 it ⟨hno, p1⟩ n hn => ?_⟩
  have hno' : ∀ v ∈ vs, ∀ p xs, ρ1[v]? ≠ some (some (.ow p xs)) := fun v hv' p xs => notOw_no (List.all_eq_true.mp hno v hv')
  have nfree : Hf1 n = none := free_of e1.sub hn
  have nown : ¬ Own σ ρ1 n := not_own e1 hn
  let O : Addr → Prop := Own σ ρ1
  let σw := wipe σ vs
  have hσw : ∀ i, i ∉ vs → σw[i]? = σ[i]? := fun i hi => wipe_out σ hi
  have hlw : σw.length = σ.length := wipe_length σ vs
  have x0 : Ext H1 (upd H1 n (.lst [])) Hf1 Hf1 := Ext.add' e1.sub _ hn
  -- owned in a wiped environment
  have ownO : ∀ {ρ' : Ev} {σ' : St}, Ix (wipeD ρ1 vs) ρ' → (∀ i, i ∉ vs → σ'[i]? = σ[i]?) → ∀ a, Own σ' ρ' a → O a := by
    intro ρ' σ' ix hs a ⟨i, p, xs, h1, h2⟩
    obtain ⟨ys, h3⟩ := ix.own i p xs h1
    have hi : i ∉ vs := fun z => wipeD_in ρ1 z h3
    rw [wipeD_out ρ1 hi] at h3
    exact ⟨i, p, ys, h3, by rw [← hs i hi]; exact h2⟩
  refine ⟨fun i m H' => ∃ Hf' ρ' accV acc, DEnv K H' Hf' σw ρ' ∧ Ix (wipeD ρ1 vs) ρ' ∧ MvO O H1 H' Hf1 Hf' ∧ H' n = some (.lst accV) ∧ Hf' n = none ∧ RepL K Hf' accV acc ∧ lcD vs γ τt τe (ds.drop i) ρ' acc (fun acc ρ2 => P (.fr acc) (resto ρ1 ρ2 vs)) ∧ m = ds.length - i ∧ i ≤ ds.length,
    ⟨ds.length, Hf1, wipeD ρ1 vs, [], [], (x0.env e1).wipe vs hσw hlw, Ix.refl _, x0.mvO, upd_same, nfree, .nil, by rw [List.drop_zero]; exact p1, by omega, Nat.zero_le _⟩, ?_⟩
  rintro i m H2 ⟨Hf2, ρ2, accV, acc, e2, ix2, mv2, hD, fD, rD, q2, hm, hil⟩
  have On : ¬ O n := nown
  by_cases hlt : i < ds.length
  · have hd : ds[i]? = some ds[i] := List.getElem?_eq_getElem hlt
    obtain ⟨go, yl⟩ := it.item i ds[i] H2 Hf2 e2.sub mv2.grow hd
    rw [List.drop_eq_getElem_cons hlt] at q2
    let Nx : Hp → Prop := fun H' => ∃ Hf' ρ' accV acc, DEnv K H' Hf' σw ρ' ∧ Ix (wipeD ρ1 vs) ρ' ∧ MvO O H1 H' Hf1 Hf' ∧ H' n = some (.lst accV) ∧ Hf' n = none ∧ RepL K Hf' accV acc ∧ lcD vs γ τt τe (ds.drop (i + 1)) ρ' acc (fun acc ρ2 => P (.fr acc) (resto ρ1 ρ2 vs))
    refine .inr ⟨go, Nx, fun H' ⟨a1, a2, a3, a4, b1, b2, b3, b4, b5, b6, b7⟩ => ⟨ds.length - (i + 1), by omega, a1, a2, a3, a4, b1, b2, b3, b4, b5, b6, b7, rfl, hlt⟩, fun x H3 y => ?_⟩
    obtain ⟨Hf3, x3, r3⟩ := yl x H3 y
    have e3 := x3.env e2
    refine ⟨Hf3, ρ2, ds[i], _, e3, r3, q2, fun σ4 H4 Hf4 ρ4 e4 x4 t4 p4 => ?_⟩
    have hs4 : ∀ j, j ∉ vs → σ4[j]? = σw[j]? := fun j hj => by
      rcases t4.each j with ⟨t, _⟩ | ⟨_, _, t⟩
      · exact t
      · exact absurd (hv j t) hj
    have hs4' : ∀ j, j ∉ vs → σ4[j]? = σ[j]? := fun j hj => (hs4 j hj).trans (hσw j hj)
    have hl4 : σ4.length = σw.length := t4.len
    refine ⟨wipe_eq (hl4.trans hlw) hs4', ?_⟩
    have ix4 : Ix (wipeD ρ1 vs) ρ4 := ix2.trans t4.ix
    have x34 := x3.trans x4
    have mv4 : MvO O H1 H4 Hf1 Hf4 := mv2.trans x34.mvO
    have keepD : ∀ {H5 Hf5 : Hp}, MvO O H4 H5 Hf4 Hf5 → H5 n = some (.lst accV) ∧ Hf5 n = none := fun {H5 Hf5} mm => by
      have d4 : H4 n = some (.lst accV) := x34.same n _ hD
      refine ⟨mm.keep n _ d4 On, ?_⟩
      cases z : Hf5 n with
      | none => rfl
      | some o =>
        rcases mm.new n o z with z | z | z
        · rcases x34.new n o z with z | z
          · rw [fD] at z; cases z
          · rw [hD] at z; cases z
        · rw [d4] at z; cases z
        · exact absurd z On
    have back : ∀ {ρ' : Ev}, Ix (wipeD ρ1 vs) ρ' → ∀ v ∈ vs, ∀ p xs, ρ'[v]? ≠ some (some (.ow p xs)) := fun {ρ'} ix v hv' p xs z => by
      obtain ⟨ys, h⟩ := ix.own v p xs z
      exact wipeD_in ρ1 hv' h
    refine ⟨Hf4, ρ4, _, e4, p4, fun b H5 Hf5 ρ5 e5 m5 p5 => ?_⟩
    have ix5 := ix4.trans m5.ix
    have mm5 : MvO O H4 H5 Hf4 Hf5 := m5.mvO (ownO ix4 hs4')
    cases b with
    | false =>
      have p5' : lcD vs γ τt τe (ds.drop (i + 1)) (wipeD ρ5 vs) acc (fun acc ρ2 => P (.fr acc) (resto ρ1 ρ2 vs)) := p5
      obtain ⟨d5, f5⟩ := keepD mm5
      exact ⟨Hf5, wipeD ρ5 vs, accV, acc, e5.wipe vs (fun j hj => (hs4 j hj).symm) hl4.symm, ix5.trans (ix_wipe (back ix5)), mv4.trans mm5, d5, f5, rD.mono fun b o h => mm5.grow b o (x34.grow b o h), p5'⟩
    | true =>
      refine ⟨Hf5, ρ5, _, e5, p5, fun y H6 Hf6 r ρ6 e6 m6 r6 ⟨hz, p6⟩ => ?_⟩
      obtain ⟨Hf7, e7, m7, r7⟩ := r6.freeze e5 e6 m6
      have ix7 := ix5.trans m7.ix
      have mm7 : MvO O H4 H6 Hf4 Hf7 := mm5.trans (m7.mvO (ownO ix5 hs4'))
      obtain ⟨d7, f7⟩ := keepD mm7
      have rD7 : RepL K Hf7 accV acc := rD.mono fun b o h => mm7.grow b o (x34.grow b o h)
      have nown7 : ¬ Own σ4 ρ6 n := fun z => On (ownO ix7 hs4' n z)
      refine ⟨accV, d7, by rw [rD7.length]; exact Nat.lt_of_lt_of_le hz (by decide), ?_⟩
      have mm8 : MvO O H1 H6 Hf1 Hf7 := mv4.trans mm7
      refine ⟨Hf7, wipeD ρ6 vs, accV ++ [y], acc ++ [r.dat], (e7.updFree f7 nown7).wipe vs (fun j hj => (hs4 j hj).symm) hl4.symm, ix7.trans (ix_wipe (back ix7)), ⟨fun b o h hb => ?_, fun b h => ?_, mm8.grow, mm8.new⟩, upd_same, f7, rD7.append (.cons r7 .nil), p6⟩
      · rw [upd_ne (ne_of_none h hn)]
        exact mm8.keep b o h hb
      · by_cases hb : b = n
        · subst hb
          exact hn
        · rw [upd_ne hb] at h
          exact mm8.live b h
  · have ei : i = ds.length := by omega
    subst ei
    rw [List.drop_length] at q2
    refine .inl ⟨it.stop _ H2 Hf2 e2.sub mv2.grow (Nat.le_refl _) (Nat.le_refl _), ?_⟩
    have hl12 : ρ1.length = ρ2.length := by rw [← e1.len, ← e2.len, hlw]
    have eo : DEnv K H2 Hf2 σ (resto ρ1 ρ2 vs) := {
      sub := e2.sub
      sl := fun j s h => by
        by_cases hj : j ∈ vs
        · have h1 := resto_in ρ1 ρ2 hl12 hj h
          cases s with
          | fz d =>
            obtain ⟨v, z1, z2⟩ := e1.sl j _ h1
            exact ⟨v, z1, z2.mono mv2.grow⟩
          | ow p xs => exact absurd h1 (hno' j hj p xs)
        · rw [resto_out ρ1 ρ2 hj] at h
          rw [← hσw j hj]
          exact e2.sl j s h
      sep := fun j k a p xs q ys h1 h2 h3 h4 => by
        have hj : j ∉ vs := fun z => hno' j z p xs (resto_in ρ1 ρ2 hl12 z h1)
        have hk : k ∉ vs := fun z => hno' k z q ys (resto_in ρ1 ρ2 hl12 z h2)
        rw [resto_out ρ1 ρ2 hj] at h1
        rw [resto_out ρ1 ρ2 hk] at h2
        rw [← hσw j hj] at h3
        rw [← hσw k hk] at h4
        exact e2.sep j k a p xs q ys h1 h2 h3 h4
      len := by rw [resto_len, ← e2.len, hlw] }
    have mo : Mv σ ρ1 (resto ρ1 ρ2 vs) H1 H2 Hf1 Hf2 := {
      keep := mv2.keep
      live := mv2.live
      grow := mv2.grow
      new := mv2.new
      own := fun j p xs h => by
        have hj : j ∉ vs := fun z => hno' j z p xs (resto_in ρ1 ρ2 hl12 z h)
        rw [resto_out ρ1 ρ2 hj] at h
        obtain ⟨ys, h1⟩ := ix2.own j p xs h
        rw [wipeD_out ρ1 hj] at h1
        exact ⟨ys, h1⟩
      pin := fun j xs h => by
        have hj : j ∉ vs := fun z => hno' j z true xs h
        obtain ⟨ys, h1⟩ := ix2.pin j xs (by rw [wipeD_out ρ1 hj]; exact h)
        exact ⟨ys, by rw [resto_out ρ1 ρ2 hj]; exact h1⟩ }
    exact k _ H2 Hf2 (.fr acc) _ eo (m1.trans mo) ⟨n, accV, rfl, hD, fD, m1.live n hn, rD⟩ q2
/-- [e for x in xs if c] -/
theorem de_lc {elt tg iter : Expr} {ifs : List Expr} {scope : Scope} {own : List (Str × Nat)} {is : List Nat} {τi : TDI} {γ : TDG} {τt : TDT} {τe : TD} (hc : X.calm = true) (hN : X.N.Nodup) (hi : DI X tg iter τi) (ok : BlkOk X.N X.env.scope scope own)
    (hg : ∀ (s : Shared) (H : Hp) (C : Addr) (cl : List (Str × Addr)) (fp : List Addr), DG (X.blk s H scope (compEnvC scope cl C X.env) fp) tg is γ) (ht : ∀ (s : Shared) (H : Hp) (C : Addr) (cl : List (Str × Addr)) (fp : List Addr), DTs (X.blk s H scope (compEnvC scope cl C X.env) fp) ifs τt)
    (he : ∀ (s : Shared) (H : Hp) (C : Addr) (cl : List (Str × Addr)) (fp : List Addr), DE (X.blk s H scope (compEnvC scope cl C X.env) fp) elt τe) (hv : ∀ i ∈ is, i ∈ own.map (·.2) := by decide) (hs : ∀ x, foldedSetIterable iter X.env x = pure x := by intro _; rfl) :
    DE X (.ListComp elt [⟨tg, iter, ifs, 0⟩] scope pos) (tLcD τi γ τt τe (own.map (·.2))) :=
  DE.of (pe_lc hc hN hi.pi ok (fun s H C cl fp => (hg s H C cl fp).pg) (fun s H C cl fp => (ht s H C cl fp).pts) (fun s H C cl fp => (he s H C cl fp).pe) hs) fun σ H Hf ρ P Q e q k => lc_reading hv e q k
/-- y = [e for x in xs if c], frozen -/
theorem ds_setLc {i : Nat} {y : Str} {py : Pos} {elt tg iter : Expr} {ifs : List Expr} {scope : Scope} {own : List (Str × Nat)} {is : List Nat} {spos : Pos} {τi : TDI} {γ : TDG} {τt : TDT} {τe : TD} (hc : X.calm = true) (hN : X.N.Nodup) (hy : X.N[i]? = some y) (hyl : X.env.scope.names.lookup y = some .local)
    (hsw : swapsWith (.ListComp elt [⟨tg, iter, ifs, 0⟩] scope pos) (some (.Name y py)) spos.line X.env = pure true) (hi : DI X tg iter τi) (ok : BlkOk X.N X.env.scope scope own)
    (hg : ∀ (s : Shared) (H : Hp) (C : Addr) (cl : List (Str × Addr)) (fp : List Addr), DG (X.blk s H scope (compEnvC scope cl C X.env) fp) tg is γ) (ht : ∀ (s : Shared) (H : Hp) (C : Addr) (cl : List (Str × Addr)) (fp : List Addr), DTs (X.blk s H scope (compEnvC scope cl C X.env) fp) ifs τt)
    (he : ∀ (s : Shared) (H : Hp) (C : Addr) (cl : List (Str × Addr)) (fp : List Addr), DE (X.blk s H scope (compEnvC scope cl C X.env) fp) elt τe) (hv : ∀ i ∈ is, i ∈ own.map (·.2) := by decide) (hs : ∀ x, foldedSetIterable iter X.env x = pure x := by intro _; rfl) :
    DS X (.Assign [.Name y py] (.ListComp elt [⟨tg, iter, ifs, 0⟩] scope pos) spos) (tSetD i (tLcD τi γ τt τe (own.map (·.2)))) :=
  DS.of (ps_setLc hc hN hy hyl hsw hi.pi ok (fun s H C cl fp => (hg s H C cl fp).pg) (fun s H C cl fp => (ht s H C cl fp).pts) (fun s H C cl fp => (he s H C cl fp).pe) hs) fun D σ H Hf B ρ PD s q l =>
    lc_reading hv s.env q fun v H1 Hf1 r ρ1 e1 m1 r1 ⟨p1, p2⟩ => by
      obtain ⟨Hf2, e2, m2, r2⟩ := r1.freeze s.env e1 m1
      have s1 := s.mv e2 m2
      exact l.nx _ H1 Hf2 _ (s1.setTo (set_slot s1.env r2) (Ext.refl s1.env.sub) (setTo_slot s1.env.len p1)) p2
/-- .. a list of one's own -/
theorem ds_setLcO {i : Nat} {y : Str} {py : Pos} {elt tg iter : Expr} {ifs : List Expr} {scope : Scope} {own : List (Str × Nat)} {is : List Nat} {spos : Pos} {τi : TDI} {γ : TDG} {τt : TDT} {τe : TD} (hc : X.calm = true) (hN : X.N.Nodup) (hy : X.N[i]? = some y) (hyl : X.env.scope.names.lookup y = some .local)
    (hsw : swapsWith (.ListComp elt [⟨tg, iter, ifs, 0⟩] scope pos) (some (.Name y py)) spos.line X.env = pure true) (hi : DI X tg iter τi) (ok : BlkOk X.N X.env.scope scope own)
    (hg : ∀ (s : Shared) (H : Hp) (C : Addr) (cl : List (Str × Addr)) (fp : List Addr), DG (X.blk s H scope (compEnvC scope cl C X.env) fp) tg is γ) (ht : ∀ (s : Shared) (H : Hp) (C : Addr) (cl : List (Str × Addr)) (fp : List Addr), DTs (X.blk s H scope (compEnvC scope cl C X.env) fp) ifs τt)
    (he : ∀ (s : Shared) (H : Hp) (C : Addr) (cl : List (Str × Addr)) (fp : List Addr), DE (X.blk s H scope (compEnvC scope cl C X.env) fp) elt τe) (hv : ∀ i ∈ is, i ∈ own.map (·.2) := by decide) (hs : ∀ x, foldedSetIterable iter X.env x = pure x := by intro _; rfl) :
    DS X (.Assign [.Name y py] (.ListComp elt [⟨tg, iter, ifs, 0⟩] scope pos) spos) (tSetO i (tLcD τi γ τt τe (own.map (·.2)))) :=
  DS.of (ps_setLc hc hN hy hyl hsw hi.pi ok (fun s H C cl fp => (hg s H C cl fp).pg) (fun s H C cl fp => (ht s H C cl fp).pts) (fun s H C cl fp => (he s H C cl fp).pe) hs) fun D σ H Hf B ρ PD s q l =>
    lc_reading hv s.env q fun v H1 Hf1 r ρ1 e1 m1 r1 ⟨xs, hr, p1, p2⟩ => by
      subst hr
      obtain ⟨a, ys, rfl, h1, h2, h3, h4⟩ := r1
      have s1 := s.mv e1 m1
      exact l.nx _ H1 Hf1 _ (s1.setOwn p1 (s.live a h3) h1 h2 h4 (own_fresh s m1 h3)) p2
end
/-! ### f(x, ..), x a list of one's own that f changes -/
section
variable {X : Cx} {pos p p0 : Pos} {es : List Expr} {τs : TDA} {x y : Str} {f : Addr} {fd : FuncData} {ps : List Str} {k n : Nat}
def tCall1 (g : FS1) (i : Nat) (τ : TDA) : TD := fun ρ P => (∃ p xs, ρ[i]? = some (some (.ow p xs))) ∧ τ ρ fun ds ρ1 => ∃ p xs, ρ1[i]? = some (some (.ow p xs)) ∧ g xs ds fun r xs' => P r (ρ1.set i (some (.ow p xs')))
theorem de_call1 (i : Nat) {g : FS1} (F : FnOk X.prog X.w X.K X.mg X.base CX0 k f fd ps (sp1 X.K n g)) (hr : Room k X.A) (hg : Gl X x) (hm : X.mg x = some (.ref f)) (hk : PySem.W.keepIn X.K (.ref f) = true) (hb : Binds X.K fd ps [])
    (ha : DA X es τs) (hl : es.length + 1 = n := by rfl) (hN : X.N[i]? = some y := by rfl) (hv : Vis X.env.scope y := by first | exact Or.inl rfl | exact Or.inr (Or.inl rfl) | exact Or.inr (Or.inr rfl)) (hd : (y == ("__debug__" : Str)) = false := by decide) (hcd : (y == ("__classdict__" : Str)) = false := by decide)
    (hdb : (x == ("__debug__" : Str)) = false := by decide) (he : starEach (.Name y p0 :: es) X.env = (false, eval (.Name y p0) X.env) :: starEach es X.env := by rfl) (hpl : (backTo pos (starEach es X.env)).any (·.1) = false := by rfl) :
    DE X (.Call (.Name x p) (.Name y p0 :: es) [] pos) (tCall1 g i τs) := by
  refine DE.of (pe_call F hr hg hm hk hb .nil pass0 (pa_cons (pe_var hN hv hd hcd) ha.pa he) hdb he hpl) fun σ H Hf ρ P Q e ⟨⟨p1, xs0, h0⟩, q⟩ kk => ?_
  obtain ⟨a, ys0, h1, _⟩ := e.sl i _ h0
  refine ⟨.ref a, h1, Hf, ρ, _, e, q, fun vs H1 Hf1 ds ρ1 e1 m1 r1 hds ⟨p2, xs, g1, q1⟩ => ?_⟩
  show sp1 X.K n g ((.ref a :: vs) ++ []) H1 Q _
  rw [List.append_nil]
  obtain ⟨a', ys, z1, z2, z3, z4⟩ := e1.sl i _ g1
  rw [h1] at z1
  cases z1
  refine ⟨Hf1, a, vs, ys, xs, ds, _, rfl, e1.sub, z2, z3, z4, r1, by rw [hds]; exact hl, q1, fun v H2 Hf2 r ys' xs' x2 hy' hf' ry ok p3 => ?_⟩
  have hlt := lt_of g1
  have hga : ∀ b, Own σ ρ1 b → Hf2 b = none := fun b ⟨j, pj, us, w1, w2⟩ => by
    obtain ⟨b', zs, w3, w4, w5, _⟩ := e1.sl j _ w1
    rw [w2] at w3
    cases w3
    cases z : Hf2 b with
    | none => rfl
    | some o =>
      rcases x2.new b o z with z | z
      · rw [w5] at z; cases z
      · rw [w4] at z; cases z
  have e2 : DEnv X.K H2 Hf2 σ (ρ1.set i (some (.ow p2 xs'))) := {
    sub := x2.sub
    sl := fun j s h => by
      rw [set_get] at h
      by_cases hj : i = j
      · subst hj
        rw [if_pos rfl, if_pos hlt] at h
        cases h
        exact ⟨a, ys', h1, hy', hf', ry⟩
      · rw [if_neg hj] at h
        have z := e1.sl j s h
        cases s with
        | fz d =>
          obtain ⟨v, w1, w2⟩ := z
          exact ⟨v, w1, w2.mono x2.grow⟩
        | ow pj us =>
          obtain ⟨b, zs, w1, w2, w3, w4⟩ := z
          have hb : b ≠ a := fun w => by
            subst w
            exact hj (e1.sep i j b _ _ _ _ g1 h h1 w1)
          exact ⟨b, zs, w1, x2.same b _ w2 hb, hga b ⟨j, pj, us, h, w1⟩, w4.mono x2.grow⟩
    sep := fun j k b pj us pk zs q1 q2 q3 q4 => by
      have bk : ∀ {m : Nat} {pp : Bool} {vs : List D}, (ρ1.set i (some (.ow p2 xs')))[m]? = some (some (.ow pp vs)) → ∃ p2 vs2, ρ1[m]? = some (some (.ow p2 vs2)) := by
        intro m pp vs q
        rw [set_get] at q
        by_cases hm : i = m
        · subst hm
          exact ⟨_, _, g1⟩
        · rw [if_neg hm] at q
          exact ⟨_, _, q⟩
      obtain ⟨_, _, w1⟩ := bk q1
      obtain ⟨_, _, w2⟩ := bk q2
      exact e1.sep j k b _ _ _ _ w1 w2 q3 q4
    len := by rw [List.length_set]; exact e1.len }
  have m2 : Mv σ ρ1 (ρ1.set i (some (.ow p2 xs'))) H1 H2 Hf1 Hf2 := {
    keep := fun b o q hn => x2.same b o q fun z => hn ⟨i, p2, xs, g1, by rw [z]; exact h1⟩
    live := x2.live
    grow := x2.grow
    new := fun b o q => (x2.new b o q).imp id .inl
    own := fun j pj us q => by
      rw [set_get] at q
      by_cases hj : i = j
      · subst hj
        rw [if_pos rfl, if_pos hlt] at q
        cases q
        exact ⟨xs, g1⟩
      · rw [if_neg hj] at q
        exact ⟨us, q⟩
    pin := fun j us q => by
      by_cases hj : i = j
      · subst hj
        rw [g1] at q
        cases q
        exact ⟨xs', by rw [set_get, if_pos rfl, if_pos hlt]⟩
      · exact ⟨us, by rw [set_get, if_neg hj]; exact q⟩ }
  exact kk v H2 Hf2 r _ e2 (m1.trans m2) (ok.back m1.live) p3
end
end DL
/-! The data layer, 10: short words. -/
namespace DL
open PySem L2
/-- the def of the name x stands, at level k, and keeps the promise -/
def Fn0 (P : Program) (w : World) (K : Fg) (mg : Str → Option Value) (base : Heap) (x : Str) (k n : Nat) (g : FS0) : Prop := ∃ f fd ps, FnOk P w K mg base CX0 k f fd ps (sp0 K n g) ∧ mg x = some (.ref f) ∧ PySem.W.keepIn K (.ref f) = true ∧ Binds K fd ps []
def Fn1 (P : Program) (w : World) (K : Fg) (mg : Str → Option Value) (base : Heap) (x : Str) (k n : Nat) (g : FS1) : Prop := ∃ f fd ps, FnOk P w K mg base CX0 k f fd ps (sp1 K n g) ∧ mg x = some (.ref f) ∧ PySem.W.keepIn K (.ref f) = true ∧ Binds K fd ps []
/-- a constant of the module -/
def Gc (K : Fg) (mg : Str → Option Value) (x : Str) (d : D) : Prop := ∃ v u, mg x = some u ∧ RelV v u ∧ ∀ H, Rep K H v d
section
variable {P : Program} {w : World} {K : Fg} {mg : Str → Option Value} {base : Heap} {x qual : Str} {st : Stmt} {f : Addr} {fd : FuncData} {N ps : List Str} {k j n : Nat}
theorem Fn0.mono {g : FS0} (h : Fn0 P w K mg base x j n g) (hj : j ≤ k) : Fn0 P w K mg base x k n g := let ⟨f, fd, ps, a, b⟩ := h; ⟨f, fd, ps, a.mono hj, b⟩
theorem Fn1.mono {g : FS1} (h : Fn1 P w K mg base x j n g) (hj : j ≤ k) : Fn1 P w K mg base x k n g := let ⟨f, fd, ps, a, b⟩ := h; ⟨f, fd, ps, a.mono hj, b⟩
theorem Fn0.imp {g g' : FS0} (h : Fn0 P w K mg base x k n g) (i : ∀ ds Q, g' ds Q → g ds Q) : Fn0 P w K mg base x k n g' := let ⟨f, fd, ps, a, b⟩ := h; ⟨f, fd, ps, a.imp fun vs H Q E ⟨Hf, ds, P, h1, h2, h3, h4, h5⟩ => ⟨Hf, ds, P, h1, h2, h3, i ds P h4, h5⟩, b⟩
theorem Fn1.imp {g g' : FS1} (h : Fn1 P w K mg base x k n g) (i : ∀ xs ds Q, g' xs ds Q → g xs ds Q) : Fn1 P w K mg base x k n g' := let ⟨f, fd, ps, a, b⟩ := h; ⟨f, fd, ps, a.imp fun vs H Q E ⟨Hf, a, us, ys, xs, ds, P, h1, h2, h3, h4, h5, h6, h7, h8, h9⟩ => ⟨Hf, a, us, ys, xs, ds, P, h1, h2, h3, h4, h5, h6, h7, i xs ds P h8, h9⟩, b⟩
/-- where a def stands in the text: its object, its name, how arguments bind -/
structure At (K : Fg) (mg : Str → Option Value) (x : Str) (ps : List Str) (st : Stmt) (f : Addr) (fd : FuncData) : Prop where
  fn : Fun K x x st f fd
  mg : mg x = some (.ref f)
  bd : Binds K fd ps []
theorem At.fn0 {g : FS0} (A : At K mg x ps st f fd) (h : FnOk P w K mg base CX0 k f fd ps (sp0 K n g)) : Fn0 P w K mg base x k n g := ⟨f, fd, ps, h, A.mg, A.fn.kp, A.bd⟩
theorem At.fn1 {g : FS1} (A : At K mg x ps st f fd) (h : FnOk P w K mg base CX0 k f fd ps (sp1 K n g)) : Fn1 P w K mg base x k n g := ⟨f, fd, ps, h, A.mg, A.fn.kp, A.bd⟩
end
section
variable {X : Cx} {pos p p0 apos : Pos} {a b c e : Expr} {es : List Expr} {τa τb τc : TD} {τs : TDA} {x y : Str} {k n : Nat}
theorem de_g {d : D} (h : Gc X.K X.mg x d) (hg : Gl X x) (hd : (x == ("__debug__" : Str)) = false := by decide) : DE X (.Name x pos) (tK d) := let ⟨_, _, h1, h2, h3⟩ := h; de_glob hg h1 h2 h3 hd
theorem de_c0 {g : FS0} (h : Fn0 X.prog X.w X.K X.mg X.base x k n g) (hr : Room k X.A) (hg : Gl X x) (ha : DA X (e :: es) τs) (hl : (e :: es).length = n := by rfl) (hdb : (x == ("__debug__" : Str)) = false := by decide) (he : starEach (e :: es) X.env = (false, eval e X.env) :: starEach es X.env := by rfl) (hpl : (backTo pos (starEach es X.env)).any (·.1) = false := by rfl) :
    DE X (.Call (.Name x p) (e :: es) [] pos) (tCall0 g τs) := let ⟨_, _, _, h1, h2, h3, h4⟩ := h; de_call0 h1 hr hg h2 h3 h4 ha hl hdb he hpl
theorem de_c1 (i : Nat) {g : FS1} (h : Fn1 X.prog X.w X.K X.mg X.base x k n g) (hr : Room k X.A) (hg : Gl X x) (ha : DA X es τs) (hl : es.length + 1 = n := by rfl) (hN : X.N[i]? = some y := by rfl) (hv : Vis X.env.scope y := by first | exact Or.inl rfl | exact Or.inr (Or.inl rfl) | exact Or.inr (Or.inr rfl)) (hd : (y == ("__debug__" : Str)) = false := by decide) (hcd : (y == ("__classdict__" : Str)) = false := by decide)
    (hdb : (x == ("__debug__" : Str)) = false := by decide) (he : starEach (.Name y p0 :: es) X.env = (false, eval (.Name y p0) X.env) :: starEach es X.env := by rfl) (hpl : (backTo pos (starEach es X.env)).any (·.1) = false := by rfl) :
    DE X (.Call (.Name x p) (.Name y p0 :: es) [] pos) (tCall1 g i τs) := let ⟨_, _, _, h1, h2, h3, h4⟩ := h; de_call1 i h1 hr hg h2 h3 h4 ha hl hN hv hd hcd hdb he hpl
theorem opS_sub {K : Fg} : OpS K (rI0 fun i j => .int (i - j)) subD := opS_intI
theorem opS_fdiv {K : Fg} : OpS K (rI CDiv fun i j => .int (i / j)) fdivD := opS_int fun i j h => (show 0 < j ∧ j < 1073741824 from of_decide_eq_true h)
theorem opS_mod {K : Fg} : OpS K (rI (fun _ j => 0 < j) fun i j => .int (i % j)) modD := opS_int fun _ _ h => of_decide_eq_true h
theorem opS_pow {K : Fg} : OpS K (rI CPow fun i j => .int (i ^ j.toNat)) powD := opS_int fun i j h => (show 0 ≤ j ∧ j ≤ 1000000 ∧ i.natAbs < 2 ^ 64 from of_decide_eq_true h)
theorem opS_lt {K : Fg} : OpS K (rI0 fun i j => .bl (decide (i < j))) ltD := opS_intB
theorem opS_le {K : Fg} : OpS K (rI0 fun i j => .bl (decide (i ≤ j))) leD := opS_intB
theorem opS_gt {K : Fg} : OpS K (rI0 fun i j => .bl (decide (j < i))) gtD := opS_intB
theorem opS_ge {K : Fg} : OpS K (rI0 fun i j => .bl (decide (j ≤ i))) geD := opS_intB
theorem de_add (ha : DE X a τa) (hb : DE X b τb) : DE X (.BinOp a .Add b pos) (tBin addD τa τb) := de_bin op_addD opS_add ha hb
theorem de_sub (ha : DE X a τa) (hb : DE X b τb) : DE X (.BinOp a .Sub b pos) (tBin subD τa τb) := de_bin op_sub opS_sub ha hb
theorem de_mul (ha : DE X a τa) (hb : DE X b τb) : DE X (.BinOp a .Mult b pos) (tBin mulD τa τb) := de_bin op_mulD opS_mul ha hb
theorem de_fdiv (ha : DE X a τa) (hb : DE X b τb) : DE X (.BinOp a .FloorDiv b pos) (tBin fdivD τa τb) := de_bin op_fdiv opS_fdiv ha hb
theorem de_mod (ha : DE X a τa) (hb : DE X b τb) : DE X (.BinOp a .Mod b pos) (tBin modD τa τb) := de_bin op_mod opS_mod ha hb
theorem de_pow (ha : DE X a τa) (hb : DE X b τb) : DE X (.BinOp a .Pow b pos) (tBin powD τa τb) := de_bin op_pow opS_pow ha hb
theorem de_eq (hr : Room k X.A) (ha : DE X a τa) (hb : DE X b τb) : DE X (.Compare a [.Eq] [b] pos) (tBin eqD τa τb) := de_cmp (op_eqD' hr.units) opS_eq ha hb (nomark _)
theorem de_ne (hr : Room k X.A) (ha : DE X a τa) (hb : DE X b τb) : DE X (.Compare a [.NotEq] [b] pos) (tBin neD τa τb) := de_cmp (op_neD' hr.units) opS_ne ha hb (nomark _)
theorem de_lt (ha : DE X a τa) (hb : DE X b τb) : DE X (.Compare a [.Lt] [b] pos) (tBin ltD τa τb) := de_cmp op_lt opS_lt ha hb (nomark _)
theorem de_le (ha : DE X a τa) (hb : DE X b τb) : DE X (.Compare a [.LtE] [b] pos) (tBin leD τa τb) := de_cmp op_le opS_le ha hb (nomark _)
theorem de_gt (ha : DE X a τa) (hb : DE X b τb) : DE X (.Compare a [.Gt] [b] pos) (tBin gtD τa τb) := de_cmp op_gt opS_gt ha hb (nomark _)
theorem de_ge (ha : DE X a τa) (hb : DE X b τb) : DE X (.Compare a [.GtE] [b] pos) (tBin geD τa τb) := de_cmp op_ge opS_ge ha hb (nomark _)
theorem de_is (ha : DE X a τa) (hb : DE X b τb) : DE X (.Compare a [.Is] [b] pos) (tBin isD τa τb) := de_cmp op_isN opS_is ha hb (nomark _)
theorem de_isnt (ha : DE X a τa) (hb : DE X b τb) : DE X (.Compare a [.IsNot] [b] pos) (tBin isntD τa τb) := de_cmp op_notN opS_isnt ha hb (nomark _)
theorem de_in (ha : DE X a τa) (hb : DE X b τb) (hm : behindInMarks .In b = false := by rfl) : DE X (.Compare a [.In] [b] pos) (tBin inD τa τb) := de_cmp op_inD opS_in ha hb hm
theorem de_notin (ha : DE X a τa) (hb : DE X b τb) (hm : behindInMarks .NotIn b = false := by rfl) : DE X (.Compare a [.NotIn] [b] pos) (tBin notinD τa τb) := de_cmp op_notinD opS_notin ha hb hm
theorem dt_eq (hr : Room k X.A) (ha : DE X a τa) (hb : DE X b τb) : DT X (.Compare a [.Eq] [b] pos) (tT (tBin eqD τa τb)) := dt_cmp (op_eqD' hr.units) opS_eq ha hb (nomark _)
theorem dt_ne (hr : Room k X.A) (ha : DE X a τa) (hb : DE X b τb) : DT X (.Compare a [.NotEq] [b] pos) (tT (tBin neD τa τb)) := dt_cmp (op_neD' hr.units) opS_ne ha hb (nomark _)
theorem dt_lt (ha : DE X a τa) (hb : DE X b τb) : DT X (.Compare a [.Lt] [b] pos) (tT (tBin ltD τa τb)) := dt_cmp op_lt opS_lt ha hb (nomark _)
theorem dt_le (ha : DE X a τa) (hb : DE X b τb) : DT X (.Compare a [.LtE] [b] pos) (tT (tBin leD τa τb)) := dt_cmp op_le opS_le ha hb (nomark _)
theorem dt_gt (ha : DE X a τa) (hb : DE X b τb) : DT X (.Compare a [.Gt] [b] pos) (tT (tBin gtD τa τb)) := dt_cmp op_gt opS_gt ha hb (nomark _)
theorem dt_ge (ha : DE X a τa) (hb : DE X b τb) : DT X (.Compare a [.GtE] [b] pos) (tT (tBin geD τa τb)) := dt_cmp op_ge opS_ge ha hb (nomark _)
theorem dt_is (ha : DE X a τa) (hb : DE X b τb) : DT X (.Compare a [.Is] [b] pos) (tT (tBin isD τa τb)) := dt_cmp op_isN opS_is ha hb (nomark _)
theorem dt_isnt (ha : DE X a τa) (hb : DE X b τb) : DT X (.Compare a [.IsNot] [b] pos) (tT (tBin isntD τa τb)) := dt_cmp op_notN opS_isnt ha hb (nomark _)
theorem dt_in (ha : DE X a τa) (hb : DE X b τb) (hm : behindInMarks .In b = false := by rfl) : DT X (.Compare a [.In] [b] pos) (tT (tBin inD τa τb)) := dt_cmp op_inD opS_in ha hb hm
theorem dt_notin (ha : DE X a τa) (hb : DE X b τb) (hm : behindInMarks .NotIn b = false := by rfl) : DT X (.Compare a [.NotIn] [b] pos) (tT (tBin notinD τa τb)) := dt_cmp op_notinD opS_notin ha hb hm
theorem de_lele (ha : DE X a τa) (hb : DE X b τb) (hc : DE X c τc) (hm : lastMarks [.LtE, .LtE] [b, c] = false := by with_unfolding_all rfl) : DE X (.Compare a [.LtE, .LtE] [b, c] pos) (tChn leD leD τa τb τc) := de_chn op_le opS_le op_le opS_le ha hb hc hm
theorem dt_lele (ha : DE X a τa) (hb : DE X b τb) (hc : DE X c τc) (hm : lastMarks [.LtE, .LtE] [b, c] = false := by with_unfolding_all rfl) : DT X (.Compare a [.LtE, .LtE] [b, c] pos) (tT (tChn leD leD τa τb τc)) := dt_chn op_le opS_le op_le opS_le ha hb hc hm
/-! built-ins by name -/
variable {he : starEach (e :: es) X.env = (false, eval e X.env) :: starEach es X.env}
theorem de_len (hg : Gl X "len") (hm : X.mg "len" = none) (ha : DA X (e :: es) τs) (he : starEach (e :: es) X.env = (false, eval e X.env) :: starEach es X.env := by rfl) (hpl : (backTo pos (starEach es X.env)).any (·.1) = false := by rfl) : DE X (.Call (.Name "len" p) (e :: es) [] pos) (tCallG lenD τs) := de_callB call_len callS_len hg hm PySem.boot_len ha (he := he) (hpl := hpl)
theorem de_isi (hg : Gl X "isinstance") (hm : X.mg "isinstance" = none) (ha : DA X (e :: es) τs) (he : starEach (e :: es) X.env = (false, eval e X.env) :: starEach es X.env := by rfl) (hpl : (backTo pos (starEach es X.env)).any (·.1) = false := by rfl) : DE X (.Call (.Name "isinstance" p) (e :: es) [] pos) (tCallG isiD τs) := de_callB call_isi callS_isi hg hm (by decide +kernel) ha (he := he) (hpl := hpl)
theorem de_max2 (hc : X.calm = true) (hg : Gl X "max") (hm : X.mg "max" = none) (ha : DA X (e :: es) τs) (he : starEach (e :: es) X.env = (false, eval e X.env) :: starEach es X.env := by rfl) (hpl : (backTo pos (starEach es X.env)).any (·.1) = false := by rfl) : DE X (.Call (.Name "max" p) (e :: es) [] pos) (tCallG max2D τs) := de_callB (call_max2 hc) callS_max2 hg hm (by decide +kernel) ha (he := he) (hpl := hpl)
theorem de_sum (hc : X.calm = true) (hg : Gl X "sum") (hm : X.mg "sum" = none) (ha : DA X (e :: es) τs) (he : starEach (e :: es) X.env = (false, eval e X.env) :: starEach es X.env := by rfl) (hpl : (backTo pos (starEach es X.env)).any (·.1) = false := by rfl) : DE X (.Call (.Name "sum" p) (e :: es) [] pos) (tCallG sumD τs) := de_callB (cr_sum hc) callS_sum hg hm (by decide +kernel) ha (he := he) (hpl := hpl)
theorem de_all (hc : X.calm = true) (hg : Gl X "all") (hm : X.mg "all" = none) (ha : DA X (e :: es) τs) (he : starEach (e :: es) X.env = (false, eval e X.env) :: starEach es X.env := by rfl) (hpl : (backTo pos (starEach es X.env)).any (·.1) = false := by rfl) : DE X (.Call (.Name "all" p) (e :: es) [] pos) (tCallG allD τs) := de_callB (cr_all hc) callS_all hg hm (by decide +kernel) ha (he := he) (hpl := hpl)
theorem de_any (hc : X.calm = true) (hg : Gl X "any") (hm : X.mg "any" = none) (ha : DA X (e :: es) τs) (he : starEach (e :: es) X.env = (false, eval e X.env) :: starEach es X.env := by rfl) (hpl : (backTo pos (starEach es X.env)).any (·.1) = false := by rfl) : DE X (.Call (.Name "any" p) (e :: es) [] pos) (tCallG anyD τs) := de_callB (cr_any hc) callS_any hg hm (by decide +kernel) ha (he := he) (hpl := hpl)
theorem de_list (hc : X.calm = true) (hg : Gl X "list") (hm : X.mg "list" = none) (ha : DA X (e :: es) τs) (he : starEach (e :: es) X.env = (false, eval e X.env) :: starEach es X.env := by rfl) (hpl : (backTo pos (starEach es X.env)).any (·.1) = false := by rfl) : DE X (.Call (.Name "list" p) (e :: es) [] pos) (tCallG listD τs) := de_callTy (callR_list hc) callS_list hg hm (by decide +kernel) ha (he := he) (hpl := hpl)
theorem de_tuple (hg : Gl X "tuple") (hm : X.mg "tuple" = none) (ha : DA X (e :: es) τs) (he : starEach (e :: es) X.env = (false, eval e X.env) :: starEach es X.env := by rfl) (hpl : (backTo pos (starEach es X.env)).any (·.1) = false := by rfl) : DE X (.Call (.Name "tuple" p) (e :: es) [] pos) (tCallG tupleD τs) := de_callTy call_tuple_of callS_tuple hg hm (by decide +kernel) ha (he := he) (hpl := hpl)
theorem de_intc (hg : Gl X "int") (hm : X.mg "int" = none) (ha : DA X (e :: es) τs) (he : starEach (e :: es) X.env = (false, eval e X.env) :: starEach es X.env := by rfl) (hpl : (backTo pos (starEach es X.env)).any (·.1) = false := by rfl) : DE X (.Call (.Name "int" p) (e :: es) [] pos) (tCallG intOfD τs) := de_callTy call_int1 callS_int hg hm (by decide +kernel) ha (he := he) (hpl := hpl)
end
end DL
/-! The data layer, 11: comprehensions and loops whose turns are plain. -/
namespace DL
open PySem L2
/-- a comprehension that changes nothing, over what a list gives -/
theorem lc_pure {α : Type} {φ : α → D} {v : Nat} {τt : TDT} {τe : TD} {b : α → Bool} {f : α → D} {ρ : Ev} {P : List D → Ev → Prop} (hv : ρ.set v none = ρ) (hp : pinB ρ v = false) : ∀ (l : List α) (acc : List D),
    (∀ a ∈ l, ∀ Q, Q (b a) (ρ.set v (some (.fz (φ a)))) → τt (ρ.set v (some (.fz (φ a)))) Q) → (∀ a ∈ l, b a = true → ∀ Q : Res → Ev → Prop, (∀ r, r.dat = f a → Q r (ρ.set v (some (.fz (φ a))))) → τe (ρ.set v (some (.fz (φ a)))) Q) →
    acc.length + l.length ≤ 16000 → P (acc ++ (l.filter b).map f) ρ → lcD [v] (gN v) τt τe (l.map φ) ρ acc P
  | [], acc, _, _, _, q => by simpa [lcD] using q
  | a :: l, acc, ht, he, hz, q => by
    have hw : wipeD (ρ.set v (some (.fz (φ a)))) [v] = ρ := by
      show (ρ.set v (some (.fz (φ a)))).set v none = ρ
      rw [List.set_set]
      exact hv
    rw [List.length_cons] at hz
    refine ⟨hp, ht a (List.mem_cons_self ..) _ ?_⟩
    cases hb : b a with
    | true =>
      rw [if_pos rfl]
      refine he a (List.mem_cons_self ..) hb _ fun r hr => ⟨by omega, ?_⟩
      rw [hw, hr]
      refine lc_pure hv hp l (acc ++ [f a]) (fun d' hd => ht d' (List.mem_cons_of_mem _ hd)) (fun d' hd => he d' (List.mem_cons_of_mem _ hd)) (by rw [List.length_append, List.length_singleton]; omega) ?_
      rw [List.append_assoc]
      simpa [List.filter_cons, hb] using q
    | false =>
      rw [if_neg (by decide), hw]
      refine lc_pure hv hp l acc (fun d' hd => ht d' (List.mem_cons_of_mem _ hd)) (fun d' hd => he d' (List.mem_cons_of_mem _ hd)) (by omega) ?_
      simpa [List.filter_cons, hb] using q
/-- .. without tests -/
theorem lc_map {α : Type} {φ : α → D} {v : Nat} {τe : TD} {f : α → D} {ρ : Ev} {P : List D → Ev → Prop} (l : List α) (hv : ρ.set v none = ρ) (hp : pinB ρ v = false)
    (he : ∀ a ∈ l, ∀ Q : Res → Ev → Prop, (∀ r, r.dat = f a → Q r (ρ.set v (some (.fz (φ a))))) → τe (ρ.set v (some (.fz (φ a)))) Q) (hz : l.length ≤ 16000) (q : P (l.map f) ρ) : lcD [v] (gN v) tYesD τe (l.map φ) ρ [] P :=
  lc_pure (b := fun _ => true) hv hp l [] (fun d _ Q h => h) (fun d hd _ Q h => he d hd Q h) (by simpa using hz) (by rw [List.filter_eq_self.mpr (fun _ _ => rfl)]; simpa using q)
theorem lc_mapD {v : Nat} {τe : TD} {f : D → D} {ρ : Ev} {P : List D → Ev → Prop} (l : List D) (hv : ρ.set v none = ρ) (hp : pinB ρ v = false)
    (he : ∀ a ∈ l, ∀ Q : Res → Ev → Prop, (∀ r, r.dat = f a → Q r (ρ.set v (some (.fz a)))) → τe (ρ.set v (some (.fz a))) Q) (hz : l.length ≤ 16000) (q : P (l.map f) ρ) : lcD [v] (gN v) tYesD τe l ρ [] P := by
  have := lc_map (φ := id) l hv hp he hz q
  rw [List.map_id] at this
  exact this
/-- a test whose answer is told by a fact -/
theorem ifd {p : Prop} [Decidable p] {c : Bool} {A B : Prop} (hc : c = decide p) (h1 : p → A) (h2 : ¬ p → B) : if c = true then A else B := by
  subst hc
  by_cases h : p
  · rw [if_pos (decide_eq_true h)]
    exact h1 h
  · rw [if_neg (by rw [decide_eq_false h]; decide)]
    exact h2 h
theorem ifT {c : Bool} {A B : Prop} (hc : c = true) (h : A) : if c = true then A else B := by rw [if_pos hc]; exact h
theorem ifF {c : Bool} {A B : Prop} (hc : c = false) (h : B) : if c = true then A else B := by rw [if_neg (by rw [hc]; decide)]; exact h
theorem ifB {c : Bool} {A B : Prop} (h1 : c = true → A) (h2 : c = false → B) : if c = true then A else B := by
  cases c with
  | true => exact ifT rfl (h1 rfl)
  | false => exact ifF rfl (h2 rfl)
theorem intsOf_map {α : Type} (f : α → Int) : ∀ l : List α, intsOf (l.map fun x => D.int (f x)) = some (l.map f)
  | [] => rfl
  | x :: l => by
    rw [List.map_cons, intsOf, intsOf_map f l]
    rfl
theorem blsOf_map {α : Type} (f : α → Bool) : ∀ l : List α, blsOf (l.map fun x => D.bl (f x)) = some (l.map f)
  | [] => rfl
  | x :: l => by
    rw [List.map_cons, blsOf, blsOf_map f l]
    rfl
theorem all_map {α : Type} (p : α → Bool) (l : List α) : allD [.lst (l.map fun d => .bl (p d))] = some (.fz (.bl ((l.map p).all id))) := by
  show (blsOf (l.map fun d => .bl (p d))).map _ = _
  rw [blsOf_map]
  rfl
theorem sum_map {α : Type} (p : α → Int) (l : List α) : sumD [.lst (l.map fun d => .int (p d))] = some (.fz (.int (l.map p).sum)) := by
  show (intsOf (l.map fun d => .int (p d))).map _ = _
  rw [intsOf_map]
  rfl
/-- nothing is asked of such a def -/
theorem At.none0 {P : Program} {w : World} {K : Fg} {mg : Str → Option Value} {base : Heap} {x : Str} {ps : List Str} {st : Stmt} {f : Addr} {fd : FuncData} {k n : Nat} {g : FS0} (A : At K mg x ps st f fd) (h : ∀ ds Q, ¬ g ds Q) : Fn0 P w K mg base x k n g :=
  A.fn0 ⟨fun vs H Q E ⟨_, ds, P, _, _, _, hg, _⟩ => absurd hg (h ds P), fun _ _ _ _ _ _ _ _ _ _ _ _ _ ⟨_, ds, P, _, _, _, hg, _⟩ => absurd hg (h ds P)⟩
/-- texts of one sign joined -/
theorem strsOf_signs : ∀ cs : List Nat, strsOf (cs.map fun c => D.str ⟨#[c]⟩) = some (cs.map fun c => (⟨#[c]⟩ : Str))
  | [] => rfl
  | c :: cs => by
    rw [List.map_cons, strsOf, strsOf_signs cs]
    rfl
/-! texts as lists of signs -/
abbrev Str.l (s : Str) : List Nat := s.cps.toList
def ofL (cs : List Nat) : Str := ⟨cs.toArray⟩
@[simp] theorem ofL_l (cs : List Nat) : (ofL cs).cps.toList = cs := by simp [ofL]
@[simp] theorem l_ofL (s : Str) : ofL s.cps.toList = s := by cases s; simp [ofL]
theorem str_ext {s t : Str} (h : s.cps.toList = t.cps.toList) : s = t := by rw [← l_ofL s, ← l_ofL t, h]
theorem len_l (s : Str) : s.length = s.cps.toList.length := by simp [Str.length]
theorem l_append (s t : Str) : (s ++ t).cps.toList = s.cps.toList ++ t.cps.toList := by
  show (Str.append s t).cps.toList = _
  simp [Str.append]
theorem sjoin_empty : ∀ ys : List Str, (Str.join Str.empty ys).cps.toList = (ys.map fun y => y.cps.toList).flatten
  | [] => rfl
  | [y] => by simp [Str.join]
  | y :: z :: r => by
    show (y ++ Str.empty ++ Str.join Str.empty (z :: r)).cps.toList = _
    rw [l_append, l_append, sjoin_empty (z :: r)]
    simp [Str.empty]
theorem join_empty (ys : List Str) : (Txt.join Str.empty ys).cps.toList = (ys.map fun y => y.cps.toList).flatten := by
  rw [show Txt.join Str.empty ys = Str.join Str.empty ys from TL.join_eq _ _, sjoin_empty]
theorem join_signs (cs : List Nat) : Txt.join Str.empty (cs.map fun c => (⟨#[c]⟩ : Str)) = ofL cs := by
  apply str_ext
  rw [join_empty, ofL_l, List.map_map]
  induction cs with
  | nil => rfl
  | cons c cs ih => rw [List.map_cons, List.flatten_cons, ih]; rfl
theorem joinD_signs (cs : List Nat) (h : cs.length ≤ 50000) : joinD (.str "") (.lst (cs.map fun c => .str ⟨#[c]⟩)) = some (.fz (.str (ofL cs))) := by
  have e0 : ("" : Str) = Str.empty := by decide +kernel
  have hz : ((cs.map fun c => (⟨#[c]⟩ : Str)).map (fun s : Str => s.length)).sum + (cs.map fun c => (⟨#[c]⟩ : Str)).length * ("" : Str).length ≤ 100000 := by
    rw [e0, show Str.empty.length = 0 from rfl, Nat.mul_zero, Nat.add_zero, List.map_map]
    have : ∀ l : List Nat, (l.map ((fun s : Str => s.length) ∘ fun c => (⟨#[c]⟩ : Str))).sum = l.length := by
      intro l
      induction l with
      | nil => rfl
      | cons c l ih => rw [List.map_cons, List.sum_cons, ih, List.length_cons]; show 1 + l.length = _; omega
    rw [this]
    omega
  show (match strsOf (cs.map fun c => D.str ⟨#[c]⟩) with | some ys => if (ys.map (fun s : Str => s.length)).sum + ys.length * ("" : Str).length ≤ 100000 then some (Res.fz (.str (Txt.join "" ys))) else none | none => none) = _
  rw [strsOf_signs]
  show (if _ then _ else _) = _
  rw [if_pos hz, e0, join_signs]
theorem eqS_eq' (a b : Str) : eqS a b = decide (b = a) := by
  rw [eqS_eq]
  by_cases h : a = b
  · rw [decide_eq_true h, decide_eq_true h.symm]
  · rw [decide_eq_false h, decide_eq_false fun z => h z.symm]
theorem mod_ok {i j : Int} (h : 0 < j) : modD (.int i) (.int j) = some (.fz (.int (i % j))) := by
  show (if _ then _ else _) = _
  rw [if_pos (decide_eq_true h)]
theorem fdiv_ok {i j : Int} (h : 0 < j) (h2 : j < 1073741824) : fdivD (.int i) (.int j) = some (.fz (.int (i / j))) := by
  show (if _ then _ else _) = _
  rw [if_pos (decide_eq_true ⟨h, h2⟩)]
theorem pow_ok {i j : Int} (h : 0 ≤ j) (h2 : j ≤ 1000000) (h3 : i.natAbs < 2 ^ 64) : powD (.int i) (.int j) = some (.fz (.int (i ^ j.toNat))) := by
  show (if _ then _ else _) = _
  rw [if_pos (decide_eq_true ⟨h, h2, h3⟩)]
theorem mul_okL {i j : Int} (h : -(2 ^ 64) < i) (h2 : i < 2 ^ 64) : mulD (.int i) (.int j) = some (.fz (.int (i * j))) := by
  show (if _ then _ else _) = _
  rw [if_pos (decide_eq_true (.inl ⟨h, h2⟩))]
theorem mul_okR {i j : Int} (h : -(2 ^ 64) < j) (h2 : j < 2 ^ 64) : mulD (.int i) (.int j) = some (.fz (.int (i * j))) := by
  show (if _ then _ else _) = _
  rw [if_pos (decide_eq_true (.inr ⟨h, h2⟩))]
theorem atI_get {α : Type} {xs : List α} {i : Int} (h0 : 0 ≤ i) (h1 : i < (xs.length : Int)) : atI xs i = xs[i.toNat]? := by
  unfold atI ixN
  rw [if_pos h0, if_pos h1]
  rfl
theorem atI_ok {α : Type} {xs : List α} {i : Int} (h0 : 0 ≤ i) (h1 : i < (xs.length : Int)) : ∃ x, atI xs i = some x ∧ x ∈ xs := by
  have hl : i.toNat < xs.length := by omega
  exact ⟨xs[i.toNat], by rw [atI_get h0 h1]; exact List.getElem?_eq_getElem hl, List.getElem_mem hl⟩
theorem ix_lst {xs : List D} {i : Int} {d : D} (h : atI xs i = some d) : ixD (.lst xs) (.int i) = some (.fz d) := by
  show (atI xs i).map _ = _
  rw [h]
  rfl
theorem ix_tup' {xs : List D} {i : Int} {d : D} (h : atI xs i = some d) : ixD (.tup xs) (.int i) = some (.fz d) := by
  show (atI xs i).map _ = _
  rw [h]
  rfl
theorem atI_0 {α : Type} (x : α) (xs : List α) : atI (x :: xs) 0 = some x := by
  unfold atI ixN
  rw [if_pos (by decide), if_pos (by rw [List.length_cons]; omega)]
  rfl
theorem ix_t0 (x : D) (xs : List D) : ixD (.tup (x :: xs)) (.int 0) = some (.fz x) := by
  show (atI (x :: xs) 0).map Res.fz = _
  rw [atI_0]
  rfl
theorem ix_l0 (x : D) (xs : List D) : ixD (.lst (x :: xs)) (.int 0) = some (.fz x) := by
  show (atI (x :: xs) 0).map Res.fz = _
  rw [atI_0]
  rfl
end DL
/-! set(xs) of a list of ints, so that the set may be walked -/
namespace L2
open PySem PySem.Spec PyProof.Rows PySem.Calls
section
variable {P : Program} {w : World} {A : Around} {E : Value → Shared → Prop} {s : Shared}
/-- the set that is made first -/
abbrev so (w : World) : Obj := { cls := .type "set", dict := none, data := .set #[] 0 (.fresh 0 0 (!w.params.followText "set-order")) }
set_option maxHeartbeats 3200000 in
theorem set_lst {l : Addr} {its : Array Value} (ns : List Int) {Q : Value → Shared → Prop} (h0 : A.handled = none) (hL : s.heap.IsList l its) (hI : IntsAre its.toList ns) (hb : ns.length + 1 < scanBound)
    (k : ∀ (h' : Heap) (tk c : Nat), SetR w h' s.heap.objs.size (fun j => decide (j ∈ ns)) c → c ≤ ns.length → (∀ b o, s.heap.get? b = some o → h'.get? b = some o) → Q (.ref s.heap.objs.size) { s with heap := h', toks := tk }) :
    wpAny (model P w) A (call (.type "set") [.ref l]) Q E s := by
  have hz : its.size = ns.length := (Array.length_toList).symm.trans (IntsAre.length hI)
  obtain ⟨mc, mt, m1⟩ := F.called_set.mro
  have m2 := F.called_set.made
  have m3 := F.called_set.sub
  refine wpAny_call (codeAny_of_tree (wpAny_pure ⟨Code.quiet_builtin _ (by decide +kernel), codeAny_builtin F.entry_type_call ?_⟩))
  rw [Around.under_plain (weight_type_call_type "set" [.ref l] []) rfl]
  have m4 := F.called_set.notType
  have m5 := F.called_set.canCreate
  have m6 := F.typeCall_set_1 (.ref l)
  repeat (any_goals (first | assumption | wp_step))
  let s1 : Shared := { s with heap := s.heap.push (so w) }
  refine codeAny_mono (code_set_led1 (.ref l) (E := E) (Q₁ := fun v t => v = .ref s.heap.objs.size ∧ t = s1) ⟨rfl, rfl⟩) fun r t hr => ?_
  match r, hr with
  | .error e, hr => exact hr
  | .ok (.ret v), hr =>
    obtain ⟨rfl, rfl⟩ := hr
    have n1 : s1.heap.get? s.heap.objs.size = some (so w) := Heap.get?_push_size _ rfl
    have n2 : Shared.TypeIs s1 (.ref s.heap.objs.size) "set" := ⟨_, n1, rfl⟩
    have n3 := F.called_set.init.lookup
    have n4 := F.called_set.init.bind (.ref s.heap.objs.size)
    repeat (any_goals (first | assumption | wp_step))
    refine codeAny_mono (codeAny_call_builtin (R := wants (fun v t => v = .none ∧ ∃ h' tk c, t = { s with heap := h', toks := tk } ∧ SetR w h' s.heap.objs.size (fun j => decide (j ∈ ns)) c ∧ c ≤ ns.length ∧ ∀ b o, s.heap.get? b = some o → h'.get? b = some o) E) F.called_set.init.plain F.entry_set_init (check_set_init_1 n2 ?_)) fun r2 t2 hr2 => ?_
    · obtain ⟨⟨oc, od, ox, os⟩, hol, hcl, nl, hdl⟩ := hL
      simp only at hcl hdl
      subst hcl hdl
      have p1 : s1.heap.get? l = some { cls := .type "list", dict := od, data := .seq its nl, slots := os } := Heap.get?_push_of_some _ hol
      have p2 := F.sub_list_set
      have p3 := F.sub_list_frozenset
      have p4 : (Value.type "list" == Value.type "dict") = false := by decide
      have p5 : s1.heap.IsList l its := ⟨_, p1, rfl, nl, rfl⟩
      unfold Builtin.«set.__init__» noKeywords Builtin.Frozenset.updateFrom
      generalize hp : pyIter = pI
      wp_walk
      subst hp
      refine wpAny_pyIter_list p5 (wpAny_bind (wpAny_runValue ?_))
      have q1 : l < s.heap.objs.size := Heap.lt_size hol
      have q2 : A.in1.in1.in1.handled = none := by simp [h0]
      have q3 : s1.heap.objs.size = s.heap.objs.size + 1 := Heap.size_push ..
      have q4 : l ≠ s1.heap.objs.size := by rw [q3]; exact Nat.ne_of_lt (Nat.lt_succ_of_lt q1)
      have q5 : s.heap.objs.size ∉ [s1.heap.objs.size, l] := by
        rw [q3]
        simp only [List.mem_cons, List.not_mem_nil, or_false, not_or]
        exact ⟨Nat.ne_of_lt (Nat.lt_succ_self _), Nat.ne_of_gt q1⟩
      have q6 : ∀ (i : Nat) (v : Value), its[i]? = some v → ∃ n t, ns[i]? = some n ∧ v = .int n t := fun i v hv => by
        have hi : i < ns.length := hz ▸ (Array.getElem?_eq_some_iff.mp hv).1
        obtain ⟨t, e⟩ := IntsAre.int_at hI i v (by rw [Array.getElem?_toList]; exact hv)
        exact ⟨ns[i], t, List.getElem?_eq_getElem hi, by rw [e, List.getD_eq_getElem?_getD, List.getElem?_eq_getElem hi]; rfl⟩
      refine set_update_ints (Walks.list q2 _ l q4 its).toS s.heap.objs.size q5 ns hz hb q6 its.size 0 _ (by omega) (Nat.zero_le _) ⟨⟨_, Heap.get?_push_size _ rfl, rfl, rfl⟩, p5.push _⟩ ⟨0, Nat.le_refl 0, setR_new_at (Heap.get?_push_of_some _ n1)⟩ ?_
      rintro ⟨h', g', d', tk', os'⟩ c hm hc hS
      have e1 : g' = s.gens := hm.gens
      have e2 : d' = s.drawn := hm.drawn
      have e3 : os' = s.os := hm.os
      subst e1 e2 e3
      refine wpAny_pure (wpAny_pure ⟨rfl, h', tk', c, rfl, hS, hz ▸ hc, fun b o e => ?_⟩)
      have e4 : b < s.heap.objs.size := Heap.lt_size e
      refine hm.heap b o ?_ (Heap.get?_push_of_some _ (Heap.get?_push_of_some _ e))
      rw [q3]
      simp only [List.mem_cons, List.not_mem_nil, or_false, not_or]
      exact ⟨Nat.ne_of_lt e4, Nat.ne_of_lt (Nat.lt_succ_of_lt e4)⟩
    · match r2, hr2 with
      | .error e, hr2 => exact hr2
      | .ok (.ret v), hr2 =>
        obtain ⟨rfl, h', tk, c, rfl, a1, a2, a3⟩ := hr2
        repeat (any_goals (first | assumption | wp_step))
        exact k _ _ _ a1 a2 a3
end
section
variable {X : Cx}
/-- set(xs), a list of ints -/
def rSetInts (K : PySem.W.Frag) (w : World) : List V → Hp → VK → Prop := fun vs H Q => ∃ (l : Addr) (ns : List Int), vs = [V.ref l] ∧ SqL K H l (ns.map V.int) ∧ ns.length ≤ 1000 ∧ ∀ (p : Addr) (c : Nat), c ≤ ns.length → H p = none → Q (.ref p) (upd H p (SetO w p (fun j => decide (j ∈ ns)) c))
theorem cr_setL (hc : X.calm = true) : CallR X (.type "set") (rSetInts X.K X.w) := by
  intro pins s σ H vs us Q I r h
  obtain ⟨l, ns, rfl, hq, hl, q⟩ := h
  rw [Vals.ref1 r]
  obtain ⟨its, rv, pl, hz⟩ := I.list hq
  refine set_lst ns (I.ok.hd hc) pl.isList (show IntsAre its.toArray.toList ns from ints_of_vals rv) (by unfold scanBound; omega) fun h' tk c R hcn kk => ?_
  have hn : H s.heap.objs.size = none := I.hok.fresh (Nat.le_refl _)
  exact ⟨.ref _, upd H s.heap.objs.size (SetO X.w s.heap.objs.size (fun j => decide (j ∈ ns)) c), I.laid (t' := tk) kk (Nat.le_refl _) (setO_new R), rfl, q _ c hcn hn⟩
end
end L2
/-! The data layer, 12: loops by what holds ahead of a turn; minus, min, find, sorted(set(..)), text[::-1]. -/
namespace DL
open PySem L2 PySem.Spec PyProof.Rows
/-- a loop by what holds ahead of each turn -/
theorem loop_inv {γ : TDG} {τb : TDS} {PD : DEnds} (I : List D → Ev → Prop) : ∀ (ds : List D) (ρ : Ev), I ds ρ → (∀ d es ρ (R : Ev → Prop), I (d :: es) ρ → (∀ ρ', I es ρ' → R ρ') → γ d ρ fun ρ1 => τb { PD with nx := R, ct := R, bk := PD.nx } ρ1) → (∀ ρ, I [] ρ → PD.nx ρ) → loopD γ τb PD ds ρ
  | [], ρ, h, _, q => q ρ h
  | d :: ds, ρ, h, t, q => t d ds ρ _ h fun ρ' h' => loop_inv I ds ρ' h' t q
/-- a comprehension by what holds ahead of each turn -/
theorem lc_inv {vs : List Nat} {γ : TDG} {τt : TDT} {τe : TD} {P : List D → Ev → Prop} (I : List D → Ev → List D → Prop) : ∀ (ds : List D) (ρ : Ev) (acc : List D), I ds ρ acc →
    (∀ d es ρ acc (R : Ev → List D → Prop), I (d :: es) ρ acc → (∀ ρ' acc', I es ρ' acc' → R ρ' acc') → γ d ρ fun ρ1 => τt ρ1 fun b ρ2 => if b = true then τe ρ2 fun r ρ3 => acc.length < 16000 ∧ R (wipeD ρ3 vs) (acc ++ [r.dat]) else R (wipeD ρ2 vs) acc) →
    (∀ ρ acc, I [] ρ acc → P acc ρ) → lcD vs γ τt τe ds ρ acc P
  | [], ρ, acc, h, _, q => q ρ acc h
  | d :: ds, ρ, acc, h, t, q => t d ds ρ acc (fun ρ' acc' => lcD vs γ τt τe ds ρ' acc' P) h fun ρ' acc' h' => lc_inv I ds ρ' acc' h' t q
/-- a slot that is not a parameter's list -/
def NP : Option Sl → Prop
  | some (.ow true _) => False
  | _ => True
theorem pin_np {ρ : Ev} {i : Nat} {s : Option Sl} (h : ρ[i]? = some s) (n : NP s) : pinB ρ i = false := by
  unfold pinB
  rw [h]
  match s, n with
  | none, _ => rfl
  | some (.fz _), _ => rfl
  | some (.ow false _), _ => rfl
theorem At.none1 {P : Program} {w : World} {K : Fg} {mg : Str → Option Value} {base : Heap} {x : Str} {ps : List Str} {st : Stmt} {f : Addr} {fd : FuncData} {k n : Nat} {g : FS1} (A : At K mg x ps st f fd) (h : ∀ xs ds Q, ¬ g xs ds Q) : Fn1 P w K mg base x k n g :=
  A.fn1 ⟨fun vs H Q E ⟨_, _, _, _, xs, ds, P, _, _, _, _, _, _, _, hg, _⟩ => absurd hg (h xs ds P), fun _ _ _ _ _ _ _ _ _ _ _ _ _ ⟨_, _, _, _, xs, ds, P, _, _, _, _, _, _, _, hg, _⟩ => absurd hg (h xs ds P)⟩
section
variable {X : Cx} {pos p p2 q apos : Pos} {a b c e o : Expr} {es : List Expr} {τa τb τe τo : TD} {τs : TDA}
/-- -a -/
def tNegE (τ : TD) : TD := fun ρ P => τ ρ fun x ρ1 => ∃ i, x.dat = .int i ∧ P (.fz (.int (-i))) ρ1
theorem de_neg (ha : DE X a τa) : DE X (.UnaryOp .USub a pos) (tNegE τa) := by
  obtain ⟨ta, pa, sa⟩ := ha.fz
  refine DE.of (pe_un un_neg pa) fun σ H Hf ρ P Q e q k => sa σ H Hf ρ (fun d ρ1 => ∃ i, d = .int i ∧ P (.fz (.int (-i))) ρ1) _ e q fun v H1 Hf1 d ρ1 e1 m1 r1 ⟨i, hi, p1⟩ => ?_
  subst hi
  cases r1
  exact ⟨i, rfl, k _ H1 Hf1 (.fz (.int (-i))) ρ1 e1 m1 (.int _) p1⟩
theorem callS_min2 {K : Fg} : CallS K (fun xs H Q => ∃ i j, xs = [.int i, .int j] ∧ Q (.int (if j < i then j else i)) H) min2D := by
  intro H Hf xs ds c Q hf r hg k
  match ds, hg with
  | [.int i, .int j], hg =>
    cases r with
    | cons ra rs =>
      cases rs with
      | cons rb rs =>
        cases rs
        cases ra
        cases rb
        cases hg
        exact ⟨i, j, rfl, k _ _ _ (Ext.refl hf) (.int _)⟩
theorem de_min2 (hc : X.calm = true) (hg : Gl X "min") (hm : X.mg "min" = none) (ha : DA X (e :: es) τs) (he : starEach (e :: es) X.env = (false, eval e X.env) :: starEach es X.env := by rfl) (hpl : (backTo pos (starEach es X.env)).any (·.1) = false := by rfl) : DE X (.Call (.Name "min" p) (e :: es) [] pos) (tCallG min2D τs) := de_callB (call_min2 hc) callS_min2 hg hm (by decide +kernel) ha (he := he) (hpl := hpl)
/-- a text's method with one argument that is a text -/
def tMS1 (g : Str → Str → D) (τo τe : TD) : TD := fun ρ P => τo ρ fun x ρ1 => ∃ z, x.dat = .str z ∧ τe ρ1 fun y ρ2 => ∃ t, y.dat = .str t ∧ P (.fz (g z t)) ρ2
theorem de_find (ho : DE X o τo) (he : DE X e τe) (hs : starEach [e] X.env = [(false, eval e X.env)] := by rfl) (hbase : attributeBase o "find" X.env (eval o X.env) = eval o X.env := by rfl) (hline : (apos.endLine == pos.line) = true := by rfl) :
    DE X (.Call (.Attribute o "find" apos) [e] [] pos) (tMS1 (fun z t => .int (Txt.find z t)) τo τe) := by
  obtain ⟨to, po, so⟩ := ho.fz
  obtain ⟨te, pe, se⟩ := he.fz
  refine DE.of (pe_m1 F.slot_str_find F.type_str_find mt_find po pe hs hbase hline) fun σ H Hf ρ P Q e q k => ?_
  refine so σ H Hf ρ (fun x ρ1 => ∃ z, x = .str z ∧ τe ρ1 fun y ρ2 => ∃ t, y.dat = .str t ∧ P (.fz (.int (Txt.find z t))) ρ2) _ e q fun x H1 Hf1 dx ρ1 e1 m1 r1 ⟨z, hz, q1⟩ => ?_
  subst hz
  cases r1
  refine ⟨⟨_, rfl⟩, ?_⟩
  refine se σ H1 Hf1 ρ1 (fun y ρ2 => ∃ t, y = .str t ∧ P (.fz (.int (Txt.find z t))) ρ2) _ e1 q1 fun y H2 Hf2 dy ρ2 e2 m2 r2 ⟨t, ht, q2⟩ => ?_
  subst ht
  cases r2
  exact ⟨z, t, rfl, rfl, k _ H2 Hf2 (.fz (.int (Txt.find z t))) ρ2 e2 (m1.trans m2) (.int _) q2⟩
/-- sorted(set(xs)), a list of ints -/
def tSortSet (τ : TD) : TD := fun ρ P => τ ρ fun x ρ1 => ∃ ns : List Int, x.dat = .lst (ns.map D.int) ∧ ns.length < 64 ∧ ∀ ns' : List Int, ns'.Pairwise (· < ·) → (∀ k : Int, k ∈ ns' ↔ k ∈ ns) → P (.fr (ns'.map D.int)) ρ1
theorem de_sortset (hc : X.calm = true) (hg : Gl X "sorted") (hm : X.mg "sorted" = none) (hg2 : Gl X "set") (hm2 : X.mg "set" = none) (he : DE X e τe) (hs : starEach [e] X.env = (false, eval e X.env) :: starEach [] X.env := by rfl)
    (hs2 : starEach [.Call (.Name "set" p2) [e] [] q] X.env = (false, eval (.Call (.Name "set" p2) [e] [] q) X.env) :: starEach [] X.env := by rfl) :
    DE X (.Call (.Name "sorted" p) [.Call (.Name "set" p2) [e] [] q] [] pos) (tSortSet τe) := by
  obtain ⟨te, pe, se⟩ := he.fz
  refine DE.of (pe_callB (cr_sortedSet hc) hg hm (by decide +kernel) (pa_cons (pe_callTy (cr_setL hc) hg2 hm2 (by decide +kernel) (pa_cons pe pa_nil hs) (he := hs)) pa_nil hs2) (he := hs2)) fun σ H Hf ρ P Q e q k => ?_
  refine se σ H Hf ρ (fun x ρ1 => ∃ ns : List Int, x = .lst (ns.map D.int) ∧ ns.length < 64 ∧ ∀ ns' : List Int, ns'.Pairwise (· < ·) → (∀ k : Int, k ∈ ns' ↔ k ∈ ns) → P (.fr (ns'.map D.int)) ρ1) _ e q fun x H1 Hf1 dx ρ1 e1 m1 r1 ⟨ns, hx, hl, q1⟩ => ?_
  subst hx
  cases r1 with
  | lst hp rp =>
    have ev := rp.ints ((intsOf_map (fun n : Int => n) ns).trans (by rw [List.map_id'']; intro n; rfl))
    subst ev
    refine ⟨_, ns, rfl, .inl (.inl (e1.sub _ _ hp)), by omega, fun s c hcl hn => ?_⟩
    have x2 := Ext.add' e1.sub (SetO X.w s (fun j => decide (j ∈ ns)) c) hn
    refine ⟨s, _, c, rfl, upd_same, by omega, fun ns' p' h1 h2 h3 hn2 => ?_⟩
    have x3 := Ext.add' x2.sub (.lst (ns'.map V.int)) hn2
    have x := x2.trans x3
    refine k _ _ Hf1 (.fr (ns'.map D.int)) ρ1 (x.env e1) (m1.trans x.mv) ?_ (q1 ns' h1 fun k => by rw [h2 k]; exact decide_eq_true_iff)
    have hz := x2.live p' hn2
    refine ⟨p', ns'.map V.int, rfl, upd_same, ?_, m1.live p' hz, repL_ints ns'⟩
    cases hq : Hf1 p' with
    | none => rfl
    | some o => rw [e1.sub _ _ hq] at hz; cases hz
/-- z[::-1] -/
def revS (z : Str) : Str := ⟨((Builtin.Str.strSliceIndices none none (-1) z.length).filterMap (z.cps[·]?)).toArray⟩
theorem de_revS {k : Nat} {p1 p3 : Pos} (he : DE X e τe) : DE X (.Subscript e (.Slice none none (some (.UnaryOp .USub (.Constant (.int 1) k p1) p2)) p3) pos) (fun ρ P => τe ρ fun x ρ1 => ∃ z, x.dat = .str z ∧ (revS z).length ≤ 100000 ∧ P (.fz (.str (revS z))) ρ1) := by
  obtain ⟨te, pe, se⟩ := he.fz
  refine DE.of (t := fun σ H Q => te σ H fun x H1 => ∃ z, x = .str z ∧ (revS z).length ≤ 100000 ∧ Q (.str (revS z)) H1) ⟨fun pins s σ H Q I h => ?_⟩ fun σ H Hf ρ P Q e q k => ?_
  · refine Subscript_ (thn (pe.run pins s σ H _ I h) fun v s1 ⟨x, H1, I1, r1, q1⟩ => ?_)
    obtain ⟨z, rfl, hz, q⟩ := q1
    obtain ⟨t, rfl⟩ := r1
    have step : PO X (some (.UnaryOp .USub (.Constant (.int 1) k p1) p2)) _ := po_some (pe_un un_neg pe_int)
    refine wpAny_Slice (thn (po_none.run pins s1 σ H1 (fun o H2 => o = none ∧ H2 = H1) I1 ⟨rfl, rfl⟩) fun vl s2 ⟨l, H2, I2, pl, el, e2⟩ => ?_)
    subst el e2
    refine thn (po_none.run pins s2 σ H2 (fun o H3 => o = none ∧ H3 = H2) I2 ⟨rfl, rfl⟩) fun vu s3 ⟨u, H3, I3, pu, eu, e3⟩ => ?_
    subst eu e3
    refine thn (step.run pins s3 σ H3 (fun o H4 => o = some (-1) ∧ H4 = H3) I3 ⟨1, rfl, -1, rfl, rfl, rfl⟩) fun vs s4 ⟨o, H4, I4, ps, eo, e4⟩ => ?_
    subst eo e4
    cases pl
    cases pu
    cases ps with
    | int i tk =>
      have I5 : Inv X pins σ H4 { s4 with heap := s4.heap.push { cls := .type "slice", data := .fields #[.none, .none, .int (-1) tk] } } := I4.kept (t' := s4.toks) fun b ob q => Heap.get?_push_of_some _ q
      refine tail_any (o := .str z t) (i := .ref s4.heap.objs.size) (ops := [.str z t, .ref s4.heap.objs.size]) (typeIs_str _ _ _) F.slot_str_getitem.lookup ?_ (by with_unfolding_all rfl)
      refine wpAny_getItem_str_slice (l := none) (u := none) (st := some (-1, tk)) ⟨_, Heap.get?_push_size _ rfl, rfl, rfl⟩ rfl ?_
      exact ⟨Nat.le_trans hz (by decide), .str (revS z), H4, I5.tok _, ⟨_, rfl⟩, q⟩
  · refine se σ H Hf ρ (fun x ρ1 => ∃ z, x = .str z ∧ (revS z).length ≤ 100000 ∧ P (.fz (.str (revS z))) ρ1) _ e q fun x H1 Hf1 dx ρ1 e1 m1 r1 ⟨z, hz, hl, q1⟩ => ?_
    subst hz
    cases r1
    exact ⟨z, rfl, hl, k _ H1 Hf1 (.fz (.str (revS z))) ρ1 e1 m1 (.str _) q1⟩
end
end DL
/-! The data layer, 13: joins behind tests. -/
namespace DL
open PySem L2
theorem ite_cut {c : Bool} {τ1 τ2 : TDS} {PD : DEnds} {ρ : Ev} (I : Ev → Prop) (h : ∀ R : Ev → Prop, (∀ ρ', I ρ' → R ρ') → if c = true then τ1 { PD with nx := R } ρ else τ2 { PD with nx := R } ρ) (h2 : ∀ ρ', I ρ' → PD.nx ρ') : if c = true then τ1 PD ρ else τ2 PD ρ := h PD.nx h2
/-- both ways set the slot i to d -/
theorem ite_set {c : Bool} {τ1 τ2 : TDS} {PD : DEnds} {ρ : Ev} (i : Nat) (d : D) (h : ∀ R : Ev → Prop, R (ρ.set i (some (.fz d))) → if c = true then τ1 { PD with nx := R } ρ else τ2 { PD with nx := R } ρ) (h2 : PD.nx (ρ.set i (some (.fz d)))) : if c = true then τ1 PD ρ else τ2 PD ρ := h PD.nx h2
theorem iteE_cut {c : Bool} {τ1 τ2 : TD} {P : Res → Ev → Prop} {ρ : Ev} (r : Res) (h : ∀ P' : Res → Ev → Prop, P' r ρ → if c = true then τ1 ρ P' else τ2 ρ P') (h2 : P r ρ) : if c = true then τ1 ρ P else τ2 ρ P := h P h2
/-- a and b -/
theorem and_cut {c : Bool} {τ : TD} {P : Res → Ev → Prop} {ρ : Ev} (b : Bool) (h1 : c = true → ∀ P' : Res → Ev → Prop, P' (.fz (.bl b)) ρ → τ ρ P') (h2 : c = false → b = false) (h3 : P (.fz (.bl b)) ρ) : if c = true then τ ρ P else P (.fz (.bl false)) ρ := by
  cases c with
  | true => exact h1 rfl P h3
  | false => rw [h2 rfl] at h3; exact h3
theorem or_cut {c : Bool} {τ : TD} {P : Res → Ev → Prop} {ρ : Ev} (b : Bool) (h1 : c = false → ∀ P' : Res → Ev → Prop, P' (.fz (.bl b)) ρ → τ ρ P') (h2 : c = true → b = true) (h3 : P (.fz (.bl b)) ρ) : if c = true then P (.fz (.bl true)) ρ else τ ρ P := by
  cases c with
  | false => exact h1 rfl P h3
  | true => rw [h2 rfl] at h3; exact h3
/-- the tests of ifs -/
theorem andT_cut {c : Bool} {τ : TDT} {P : Bool → Ev → Prop} {ρ : Ev} (b : Bool) (h1 : c = true → ∀ P' : Bool → Ev → Prop, P' b ρ → τ ρ P') (h2 : c = false → b = false) (h3 : P b ρ) : if c = true then τ ρ P else P false ρ := by
  cases c with
  | true => exact h1 rfl P h3
  | false => rw [h2 rfl] at h3; exact h3
theorem orT_cut {c : Bool} {τ : TDT} {P : Bool → Ev → Prop} {ρ : Ev} (b : Bool) (h1 : c = false → ∀ P' : Bool → Ev → Prop, P' b ρ → τ ρ P') (h2 : c = true → b = true) (h3 : P b ρ) : if c = true then P true ρ else τ ρ P := by
  cases c with
  | false => exact h1 rfl P h3
  | true => rw [h2 rfl] at h3; exact h3
end DL
/-! Dicts whose keys are nested tuples: what stands at the address, rules. -/
namespace DL
open PySem L2
mutual
def nkD : D → Option NestedKey
  | .non => some .none
  | .int i => some (.num i)
  | .str x => some (.text x)
  | .bl b => some (.num (if b = true then 1 else 0))
  | .tup ds => match nkL ds with
    | some ks => some (.tup ks)
    | none => none
  | _ => none
def nkL : List D → Option (List NestedKey)
  | [] => some []
  | d :: ds => match nkD d, nkL ds with
    | some k, some ks => some (k :: ks)
    | _, _ => none
end
section
variable {X : Cx} {pins : List (Addr × Obj)} {σ : St} {H : Hp} {s : Shared}
mutual
theorem nk_is (I : Inv X pins σ H s) : ∀ {v : V} {d : D} {k : NestedKey} {u : Value}, Rep X.K H v d → nkD d = some k → RelV v u → NestedIs s.heap k u
  | _, _, k, u, .non, e, r => by
    rw [nkD] at e; cases e
    rw [show u = Value.none from r]; exact .none
  | _, _, k, u, .bl b, e, r => by
    rw [nkD] at e; cases e
    rw [show u = Value.bool b from r]; exact .bool rfl
  | _, _, k, u, .int i, e, r => by
    rw [nkD] at e; cases e
    obtain ⟨t, rfl⟩ : ∃ t, u = Value.int i t := r
    exact .int i t
  | _, _, k, u, .str x, e, r => by
    rw [nkD] at e; cases e
    obtain ⟨t, rfl⟩ : ∃ t, u = Value.str x t := r
    exact .text x t
  | _, _, k, u, .ty n, e, r => by rw [nkD] at e <;> first | cases e | (intros; intro z; cases z)
  | _, _, k, u, .raw v, e, r => by rw [nkD] at e <;> first | cases e | (intros; intro z; cases z)
  | _, _, k, u, .scr h, e, r => by rw [nkD] at e <;> first | cases e | (intros; intro z; cases z)
  | _, _, k, u, .lst h t, e, r => by rw [nkD] at e <;> first | cases e | (intros; intro z; cases z)
  | _, _, k, u, .obj h t, e, r => by rw [nkD] at e <;> first | cases e | (intros; intro z; cases z)
  | _, _, k, u, .tup (a := a) (ds := ds) h t, e, r => by
    rw [nkD] at e
    cases el : nkL ds with
    | none => rw [el] at e; cases e
    | some ks =>
      rw [el] at e; cases e
      rw [show u = Value.ref a from r]
      obtain ⟨its, rv, ⟨o, h1, h2, n, h3⟩, _⟩ := I.tuple h
      exact .tup h1 h2 h3 (nk_all I t el rv)
theorem nk_all (I : Inv X pins σ H s) : ∀ {vs : List V} {ds : List D} {ks : List NestedKey} {us : List Value}, RepL X.K H vs ds → nkL ds = some ks → Vals vs us → NestedAll s.heap ks us
  | _, _, ks, us, .nil, e, r => by
    rw [nkL] at e; cases e
    cases r; exact .nil
  | _, _, ks, us, .cons (d := d) (ds := ds) h t, e, r => by
    rw [nkL] at e
    cases e1 : nkD d with
    | none => rw [e1] at e; cases e
    | some k =>
      cases e2 : nkL ds with
      | none => rw [e1, e2] at e; cases e
      | some ks =>
        rw [e1, e2] at e; cases e
        cases r with
        | cons r1 r2 => exact .cons (nk_is I h e1 r1) (nk_all I t e2 r2)
end
end
abbrev NkX := NestedKey × Addr × V
abbrev NkU := NestedKey × Addr × Value
def PN : List NkX → List NkU → Prop := Paired fun p q => p.1 = q.1 ∧ p.2.1 = q.2.1 ∧ RelV p.2.2 q.2.2
/-- the dict at a: its entries, in order -/
def DnR (w : World) (a : Addr) (xs : List NkX) (h : Heap) : Prop := xs.length ≤ sizeLine ∧ (a == sysModules) = false ∧ ∃ us : List NkU, PN xs us ∧
  ∃ o es ep, h.get? a = some o ∧ o.ExactDict ∧ o.data = .dict es ep ∧ es.toList = us.map (fun x => (⟨x.1.hash w, .ref x.2.1, x.2.2⟩ : DictEntry)) ∧ (us.map (·.1)).Nodup
theorem DnR.stay {w : World} {a : Addr} {xs : List NkX} : ∀ h1 h2 : Heap, DnR w a xs h1 → (∀ o, h1.get? a = some o → h2.get? a = some o) → DnR w a xs h2 := fun h1 h2 ⟨y1, y2, us, y3, o, es, ep, y4, y5⟩ e => ⟨y1, y2, us, y3, o, es, ep, e o y4, y5⟩
def DnO (w : World) (a : Addr) (xs : List NkX) : HO := .ext (DnR w a xs)
theorem DnR.ok {P : Program} {w : World} {H : Hp} {h : Heap} {a : Addr} {xs : List NkX} (r : DnR w a xs h) : ObjOk P w H h a (DnO w a xs) := by
  obtain ⟨_, _, us, _, o, _, _, y4, _⟩ := id r
  exact ⟨r, ⟨o, y4⟩, DnR.stay⟩
/-- a key of the dict -/
def KyO (K : Fg) (H : Hp) (x : NkX) : Prop := ∃ d, Rep K H (.ref x.2.1) d ∧ nkD d = some x.1 ∧ x.1.depth ≤ 8
def valN (xs : List NkX) (k : NestedKey) : Option V := match xs with
  | [] => none
  | x :: r => if x.1 = k then some x.2.2 else valN r k
def putN (xs : List NkX) (k : NestedKey) (b : Addr) (v : V) : List NkX := if (valN xs k).isSome = true then xs.map fun x => if x.1 = k then (x.1, x.2.1, v) else x else xs ++ [(k, b, v)]
theorem PN.val {k : NestedKey} : ∀ {xs : List NkX} {us : List NkU}, PN xs us → RelO (valN xs k) ((atKey us k).map (·.2))
  | _, _, .nil => True.intro
  | x :: xs, u :: us, .cons ⟨r1, r2, r3⟩ t => by
    rw [valN]
    by_cases e : x.1 = k
    · rw [if_pos e]
      have : atKey (u :: us) k = some u.2 := by unfold atKey; rw [List.find?_cons_of_pos (by rw [← r1]; exact decide_eq_true e)]; rfl
      rw [this]; exact r3
    · rw [if_neg e]
      have : atKey (u :: us) k = atKey us k := by unfold atKey; rw [List.find?_cons_of_neg (by rw [← r1]; simp [e])]
      rw [this]; exact PN.val t
theorem RelO.is {a : Option V} {b : Option Value} (r : RelO a b) : a.isSome = b.isSome := by
  cases a <;> cases b <;> first | rfl | exact r.elim
theorem PN.repl {k : NestedKey} {v : V} {u : Value} (rv : RelV v u) : ∀ {xs : List NkX} {us : List NkU}, PN xs us → PN (xs.map fun x => if x.1 = k then (x.1, x.2.1, v) else x) (us.map (putAt k u))
  | _, _, .nil => .nil
  | x :: xs, y :: us, .cons ⟨r1, r2, r3⟩ t => by
    rw [List.map_cons, List.map_cons]
    refine .cons ?_ (PN.repl rv t)
    unfold putAt
    by_cases e : x.1 = k
    · rw [if_pos e, if_pos (r1 ▸ e)]; exact ⟨r1, r2, rv⟩
    · rw [if_neg e, if_neg (fun z => e (r1.trans z))]; exact ⟨r1, r2, r3⟩
theorem PN.put {k : NestedKey} {b : Addr} {v : V} {u : Value} (rv : RelV v u) {xs : List NkX} {us : List NkU} (p : PN xs us) : PN (putN xs k b v) (storedH us k b u) := by
  unfold putN storedH
  have e := RelO.is (p.val (k := k))
  rw [Option.isSome_map] at e
  rw [e]
  by_cases z : (atKey us k).isSome = true
  · rw [if_pos z, if_pos z]; exact p.repl rv
  · rw [if_neg z, if_neg z]; exact Paired.snoc p ⟨rfl, rfl, rv⟩
theorem putN_len (xs : List NkX) (k : NestedKey) (b : Addr) (v : V) : (putN xs k b v).length ≤ xs.length + 1 := by
  unfold putN
  split
  · rw [List.length_map]; omega
  · simp
section
variable {X : Cx} {pins : List (Addr × Obj)} {σ : St} {H : Hp} {s : Shared} {a b : Addr} {xs : List NkX} {k : NestedKey} {v : V} {A : Around} {E : Value → Shared → Prop}
theorem ky_is (I : Inv X pins σ H s) {b : Addr} {d : D} (r : Rep X.K H (.ref b) d) (e : nkD d = some k) (l : k.depth ≤ 8) : (nestedKind X.prog X.w).is s.heap k b := ⟨nk_is I r e rfl, l⟩
theorem dn_of (I : Inv X pins σ H s) (e : H a = some (DnO X.w a xs)) (hk : ∀ x ∈ xs, KyO X.K H x) : xs.length ≤ sizeLine ∧ (a == sysModules) = false ∧ ∃ us, PN xs us ∧ s.heap.DictOfH (nestedKind X.prog X.w) a us := by
  obtain ⟨⟨y1, y2, us, y3, o, es, ep, y4, y5, y6, y7, y8⟩, _⟩ := (show ObjOk X.prog X.w H s.heap a (DnO X.w a xs) from I.hok a _ e)
  refine ⟨y1, y2, us, y3, o, es, ep, y4, y5, y6, y7, ?_, y8⟩
  have all : ∀ {l : List NkX} {m : List NkU}, PN l m → (∀ x ∈ l, KyO X.K H x) → ∀ u ∈ m, (nestedKind X.prog X.w).is s.heap u.1 u.2.1 := by
    intro l m p
    induction p with
    | nil => exact fun _ u hu => nomatch hu
    | @cons x u l m r t ih =>
      intro h u' hu
      rcases List.mem_cons.mp hu with z | hu
      · rw [z]
        obtain ⟨d, d1, d2, d3⟩ := h x (List.mem_cons_self ..)
        rw [← r.1, ← r.2.1]
        exact ky_is I d1 d2 d3
      · exact ih (fun x hx => h x (List.mem_cons_of_mem _ hx)) u' hu
  exact all y3 hk
theorem room_n (hu : A.units + 64 < cLine) : (nestedKind X.prog X.w).room A.in1 := by show A.units + 1 + 8 < cLine; omega
theorem dn_get {Q : Value → Shared → Prop} {d : D} (hu : A.units + 64 < cLine) (I : Inv X pins σ H s) (e : H a = some (DnO X.w a xs)) (hk : ∀ x ∈ xs, KyO X.K H x) (r : Rep X.K H (.ref b) d) (hd : nkD d = some k) (l : k.depth ≤ 8) (hv : valN xs k = some v) (h : ∀ w' s', Inv X pins σ H s' → RelV v w' → Q w' s') :
    wpAny (model X.prog X.w) A (getItem (.ref a) (.ref b)) Q E s := by
  obtain ⟨y1, y2, us, y3, y4⟩ := dn_of I e hk
  have z := y3.val (k := k)
  rw [hv] at z
  cases hz : atKey us k with
  | none => rw [hz] at z; exact z.elim
  | some p =>
    rw [hz] at z
    exact wpAny_getItem_heap (room_n hu) (ky_is I r hd l) y4 hz (h _ _ (I.tok _) z)
theorem dn_in {Q : Value → Shared → Prop} {d : D} (hu : A.units + 64 < cLine) (I : Inv X pins σ H s) (e : H a = some (DnO X.w a xs)) (hk : ∀ x ∈ xs, KyO X.K H x) (r : Rep X.K H (.ref b) d) (hd : nkD d = some k) (l : k.depth ≤ 8) (h : ∀ s', Inv X pins σ H s' → Q (.bool (valN xs k).isSome) s') :
    wpAny (model X.prog X.w) A (compareOp .In (.ref b) (.ref a)) Q E s := by
  obtain ⟨y1, y2, us, y3, y4⟩ := dn_of I e hk
  have z := RelO.is (y3.val (k := k))
  rw [Option.isSome_map] at z
  refine wpAny_in_heap (room_n hu) (ky_is I r hd l) y2 y4 ?_
  rw [← z]
  exact h _ (I.tok _)
theorem dn_notin {Q : Value → Shared → Prop} {d : D} (hu : A.units + 64 < cLine) (I : Inv X pins σ H s) (e : H a = some (DnO X.w a xs)) (hk : ∀ x ∈ xs, KyO X.K H x) (r : Rep X.K H (.ref b) d) (hd : nkD d = some k) (l : k.depth ≤ 8) (h : ∀ s', Inv X pins σ H s' → Q (.bool (!(valN xs k).isSome)) s') :
    wpAny (model X.prog X.w) A (compareOp .NotIn (.ref b) (.ref a)) Q E s := by
  obtain ⟨y1, y2, us, y3, y4⟩ := dn_of I e hk
  have z := RelO.is (y3.val (k := k))
  rw [Option.isSome_map] at z
  refine PyProof.Rows.wpAny_notIn_heap (room_n hu) (ky_is I r hd l) y2 y4 ?_
  rw [← z]
  exact h _ (I.tok _)
theorem dn_put {Q : Unit → Shared → Prop} {d : D} {u : Value} (hu : A.units + 64 < cLine) (I : Inv X pins σ H s) (e : H a = some (DnO X.w a xs)) (hk : ∀ x ∈ xs, KyO X.K H x) (r : Rep X.K H (.ref b) d) (hd : nkD d = some k) (l : k.depth ≤ 8) (hl : xs.length < sizeLine) (rv : RelV v u)
    (h : ∀ s', Inv X pins σ (upd H a (DnO X.w a (putN xs k b v))) s' → Q () s') : wpAny (model X.prog X.w) A (setItem (.ref a) (.ref b) u) Q E s := by
  obtain ⟨y1, y2, us, y3, y4⟩ := dn_of I e hk
  refine wpAny_setItem_heap (hsz := by rw [← Paired.length y3]; exact y1) (room_n hu) (ky_is I r hd l) y4 fun h' dd hs => h _ ?_
  obtain ⟨q, es, ep, hq, h2, h3, h4, _, h5⟩ := dd
  have new : DnR X.w a (putN xs k b v) h' := ⟨by have := putN_len xs k b v; omega, y2, _, y3.put rv, q, es, ep, hq, h2, h3, h4, h5⟩
  exact I.write (x := a) (e := a) (by rw [e]; exact True.intro) (.inl rfl) (fun c o hc z => (hs.2 c hc).trans z) ⟨q, hq⟩ new.ok
theorem dn_type (I : Inv X pins σ H s) (e : H a = some (DnO X.w a xs)) (hk : ∀ x ∈ xs, KyO X.K H x) : s.TypeIs (.ref a) "dict" := by
  obtain ⟨y1, y2, us, y3, y4⟩ := dn_of I e hk
  exact y4.typeIs
end
/-! ### readings and rules -/
def tDNewN (w : World) : TE := fun _ H Q => ∀ p, H p = none → Q (.ref p) (upd H p (DnO w p []))
def DnAt (K : Fg) (w : World) (H : Hp) (a : Addr) (xs : List NkX) (y : V) (k : NestedKey) (b : Addr) : Prop := H a = some (DnO w a xs) ∧ (∀ x ∈ xs, KyO K H x) ∧ y = .ref b ∧ (∃ d, Rep K H (.ref b) d ∧ nkD d = some k) ∧ k.depth ≤ 8
def tDGetN (K : Fg) (w : World) (td ty : TE) : TE := fun σ H Q => td σ H fun x H1 => ty σ H1 fun y H2 => ∃ a xs k b v, x = .ref a ∧ DnAt K w H2 a xs y k b ∧ valN xs k = some v ∧ Q v H2
def tDInN (K : Fg) (w : World) (neg : Bool) (ty td : TE) : TE := fun σ H Q => ty σ H fun y H1 => td σ H1 fun x H2 => ∃ a xs k b, x = .ref a ∧ DnAt K w H2 a xs y k b ∧ Q (.bl (neg != (valN xs k).isSome)) H2
def sDPutN (K : Fg) (w : World) (td ty tv : TE) : TS := fun D σ H => tv σ H fun v H1 => td σ H1 fun x H2 => ty σ H2 fun y H3 => ∃ a xs k b, x = .ref a ∧ DnAt K w H3 a xs y k b ∧ xs.length < sizeLine ∧ D.nx σ (upd H3 a (DnO w a (putN xs k b v)))
section
variable {X : Cx} {o i e value : Expr} {pos pos' tpos : Pos} {td ty tv : TE}
theorem pe_dnewN : PE X (.Dict [] [] pos) (tDNewN X.w) := ⟨fun pins s σ H Q I h =>
  wpAny_Dict_empty ⟨.ref s.heap.objs.size, _, I.laid (a := s.heap.objs.size) (o := DnO X.w s.heap.objs.size []) (t' := s.toks) (fun _ _ q => Heap.get?_push_of_some _ q) (Nat.le_refl _)
    (DnR.ok ⟨Nat.zero_le _, beq_eq_false_iff_ne.mpr (Ne.symm (Nat.ne_of_lt I.big)), [], .nil, _, #[], 0, Heap.get?_push_size _ rfl, ⟨rfl, rfl, rfl⟩, rfl, rfl, List.nodup_nil⟩), rfl, h _ (I.hok.fresh (Nat.le_refl _))⟩⟩
theorem pe_dgetN (hu : X.A.units + 64 < cLine) (ho : PE X o td) (hi : PE X i ty) (hs : NoSl i) : PE X (.Subscript o i pos) (tDGetN X.K X.w td ty) := by
  refine ⟨fun pins s σ H Q I h => ?_⟩
  refine subD_of PySem.F.slot_dict_getitem.lookup hs (thn (ho.run pins s σ H _ I h) fun u s1 ⟨x, H1, I1, rx, q1⟩ => thn (hi.run pins s1 σ H1 _ I1 q1) fun iv s2 ⟨y, H2, I2, ry, a, xs, k, b, v, ex, ⟨g1, g2, ey, ⟨d, g3, g4⟩, g5⟩, hv, q2⟩ => ?_)
  subst ex ey
  obtain rfl : u = Value.ref a := rx
  obtain rfl : iv = Value.ref b := ry
  exact ⟨dn_type I2 g1 g2, dn_get hu I2 g1 g2 g3 g4 g5 hv fun w' s3 I3 rw' => ⟨v, H2, I3, rw', q2⟩⟩
theorem pc_dinN' (hu : X.A.units + 64 < cLine) (hi : PE X i ty) (ho : PE X o td) : PC X .In i o (tDInN X.K X.w false ty td) := by
  refine ⟨fun pins s σ H Q I h => ?_⟩
  refine thn (hi.run pins s σ H _ I h) fun iv s1 ⟨y, H1, I1, ry, q1⟩ => thn (ho.run pins s1 σ H1 _ I1 q1) fun u s2 ⟨x, H2, I2, rx, a, xs, k, b, ex, ⟨g1, g2, ey, ⟨d, g3, g4⟩, g5⟩, q2⟩ => ?_
  subst ex ey
  obtain rfl : u = Value.ref a := rx
  obtain rfl : iv = Value.ref b := ry
  refine dn_in hu I2 g1 g2 g3 g4 g5 fun s3 I3 => ⟨.bl (valN xs k).isSome, H2, I3, rfl, ?_⟩
  rw [show (valN xs k).isSome = (false != (valN xs k).isSome) by cases (valN xs k).isSome <;> rfl]
  exact q2
theorem pc_dnotinN' (hu : X.A.units + 64 < cLine) (hi : PE X i ty) (ho : PE X o td) : PC X .NotIn i o (tDInN X.K X.w true ty td) := by
  refine ⟨fun pins s σ H Q I h => ?_⟩
  refine thn (hi.run pins s σ H _ I h) fun iv s1 ⟨y, H1, I1, ry, q1⟩ => thn (ho.run pins s1 σ H1 _ I1 q1) fun u s2 ⟨x, H2, I2, rx, a, xs, k, b, ex, ⟨g1, g2, ey, ⟨d, g3, g4⟩, g5⟩, q2⟩ => ?_
  subst ex ey
  obtain rfl : u = Value.ref a := rx
  obtain rfl : iv = Value.ref b := ry
  refine dn_notin hu I2 g1 g2 g3 g4 g5 fun s3 I3 => ⟨.bl (!(valN xs k).isSome), H2, I3, rfl, ?_⟩
  rw [show (!(valN xs k).isSome) = (true != (valN xs k).isSome) by cases (valN xs k).isSome <;> rfl]
  exact q2
theorem ps_dputN (hu : X.A.units + 64 < cLine) (ho : PE X o td) (hi : PE X i ty) (hv : PE X value tv) (hs : swapsWith value (some (.Subscript o i pos')) pos.line X.env = pure false) : PS X (.Assign [.Subscript o i pos'] value pos) (sDPutN X.K X.w td ty tv) := by
  refine ⟨fun pins s σ H D I h => ?_⟩
  refine wpAny_Assign_Subscript (thn (hv.run pins s σ H _ I h) fun r s1 ⟨v, H1, I1, rv, q1⟩ => thn (ho.run pins s1 σ H1 _ I1 q1) fun u s2 ⟨x, H2, I2, rx, q2⟩ => thn (hi.run pins s2 σ H2 _ I2 q2) fun iv s3 ⟨y, H3, I3, ry, a, xs, k, b, ex, ⟨g1, g2, ey, ⟨d, g3, g4⟩, g5⟩, hl, q3⟩ => ?_) hs
  subst ex ey
  obtain rfl : u = Value.ref a := rx
  obtain rfl : iv = Value.ref b := ry
  exact dn_put hu I3 g1 g2 g3 g4 g5 hl rv fun s4 I4 => ⟨σ, _, I4, q3⟩
end
end DL
/-! Patterns as plain Lean: values, expressions, widths. -/
namespace Cut
open PySem L2 DL
/-! ### values -/
mutual
def val : D → Bool
  | .non | .bl _ | .int _ => true
  | .str s => decide (s.length ≤ 10000)
  | .tup ds => decide (ds.length ≤ 10000) && valL ds
  | .lst ds => decide (ds.length ≤ 10000) && valL ds
  | _ => false
def valL : List D → Bool
  | [] => true
  | d :: ds => val d && valL ds
end
mutual
def dep : D → Nat
  | .tup ds => depL ds + 1
  | .lst ds => depL ds + 1
  | _ => 0
def depL : List D → Nat
  | [] => 0
  | d :: ds => max (dep d) (depL ds)
end
theorem valL_mem : ∀ {ds : List D}, valL ds = true → ∀ d ∈ ds, val d = true
  | _ :: _, h, d, hd => by
    rw [valL, Bool.and_eq_true] at h
    rcases List.mem_cons.mp hd with e | e
    · rw [e]; exact h.1
    · exact valL_mem h.2 d e
theorem depL_mem : ∀ {ds : List D} {n : Nat}, depL ds < n → ∀ d ∈ ds, dep d < n
  | _ :: _, n, h, d, hd => by
    rw [depL] at h
    rcases List.mem_cons.mp hd with e | e
    · rw [e]; omega
    · exact depL_mem (by omega) d e
/-! ### expressions over an alphabet -/
def isInt : D → Bool
  | .int _ => true
  | _ => false
def isSetM (A : Str) : List D → Bool
  | [.str s] => decide (s = ofL (A.cps.toList.filter fun c => decide (c ∈ s.cps.toList)))
  | _ => false
def hiB (l : Int) : D → Bool
  | .non => true
  | .int h => decide (l ≤ h) && decide (h ≤ 4)
  | _ => false
def loB (hi : D) : D → Bool
  | .int l => decide (0 ≤ l) && decide (l ≤ 4) && hiB l hi
  | _ => false
def againB : List D → List Bool → Bool
  | [_, lo, hi], [b, _, _] => b && loB hi lo
  | _, _ => false
def exprB (A w : Str) (ps : List D) (bs : List Bool) : Bool :=
  if w = "set" then isSetM A ps else if w = "again" then againB ps bs else
  if (w = "not" ∧ ps.length ≠ 1) ∨ ¬ (w = "row" ∨ w = "any" ∨ w = "all" ∨ w = "not") then false else bs.all id
mutual
def isExpr (A : Str) : D → Bool
  | .tup (.str w :: ps) => exprB A w ps (isExprM A ps)
  | _ => false
def isExprM (A : Str) : List D → List Bool
  | [] => []
  | d :: ds => isExpr A d :: isExprM A ds
end
theorem isExprM_map (A : Str) : ∀ ds, isExprM A ds = ds.map (isExpr A)
  | [] => rfl
  | d :: ds => by rw [isExprM, isExprM_map A ds]; rfl
theorem k1 : ¬ (("row" : Str) = "set") := by decide +kernel
theorem k2 : ¬ (("row" : Str) = "again") := by decide +kernel
theorem k3 : ¬ (("row" : Str) = "not") := by decide +kernel
theorem k4 : ¬ (("any" : Str) = "set") := by decide +kernel
theorem k5 : ¬ (("any" : Str) = "again") := by decide +kernel
theorem k6 : ¬ (("any" : Str) = "not") := by decide +kernel
theorem k7 : ¬ (("all" : Str) = "set") := by decide +kernel
theorem k8 : ¬ (("all" : Str) = "again") := by decide +kernel
theorem k9 : ¬ (("all" : Str) = "not") := by decide +kernel
theorem k10 : ¬ (("not" : Str) = "set") := by decide +kernel
theorem k11 : ¬ (("not" : Str) = "again") := by decide +kernel
theorem k12 : ¬ (("again" : Str) = "set") := by decide +kernel
theorem k13 : ¬ (("set" : Str) = "again") := by decide +kernel
theorem k14 : ¬ (("any" : Str) = "row") := by decide +kernel
theorem k15 : ¬ (("all" : Str) = "row") := by decide +kernel
theorem k16 : ¬ (("not" : Str) = "row") := by decide +kernel
theorem k17 : ¬ (("again" : Str) = "row") := by decide +kernel
theorem k18 : ¬ (("set" : Str) = "row") := by decide +kernel
theorem k19 : ¬ (("row" : Str) = "all") := by decide +kernel
theorem k20 : ¬ (("any" : Str) = "all") := by decide +kernel
theorem k21 : ¬ (("not" : Str) = "all") := by decide +kernel
theorem k22 : ¬ (("again" : Str) = "all") := by decide +kernel
theorem k23 : ¬ (("set" : Str) = "all") := by decide +kernel
theorem k24 : ¬ (("set" : Str) = "not") := by decide +kernel
theorem k25 : ¬ (("again" : Str) = "not") := by decide +kernel
theorem k26 : ¬ (("all" : Str) = "any") := by decide +kernel
theorem k27 : ¬ (("row" : Str) = "any") := by decide +kernel
theorem k28 : ¬ (("not" : Str) = "any") := by decide +kernel
theorem k29 : ¬ (("again" : Str) = "any") := by decide +kernel
theorem k30 : ¬ (("set" : Str) = "any") := by decide +kernel
/-! ### patterns as a datatype -/
inductive Rx where
  | set (s : Str) | row (ps : List Rx) | any (ps : List Rx) | all (ps : List Rx) | no (p : Rx) | again (p : Rx) (lo : Int) (hi : Option Int)
def hiD : Option Int → D
  | none => .non
  | some h => .int h
mutual
def toD : Rx → D
  | .set s => .tup [.str "set", .str s]
  | .row ps => .tup (.str "row" :: toDL ps)
  | .any ps => .tup (.str "any" :: toDL ps)
  | .all ps => .tup (.str "all" :: toDL ps)
  | .no p => .tup [.str "not", toD p]
  | .again p lo hi => .tup [.str "again", toD p, .int lo, hiD hi]
def toDL : List Rx → List D
  | [] => []
  | p :: ps => toD p :: toDL ps
end
theorem toDL_map : ∀ ps, toDL ps = ps.map toD
  | [] => rfl
  | p :: ps => by rw [toDL, toDL_map ps]; rfl
theorem toDL_len (ps : List Rx) : (toDL ps).length = ps.length := by rw [toDL_map, List.length_map]
def Rx.word : Rx → Str
  | .set _ => "set" | .row _ => "row" | .any _ => "any" | .all _ => "all" | .no _ => "not" | .again _ _ _ => "again"
def Rx.parts : Rx → List Rx
  | .set _ => []
  | .row ps | .any ps | .all ps => ps
  | .no p => [p]
  | .again p _ _ => [p]
def Rx.tail : Rx → List D
  | .set s => [.str s]
  | .row ps | .any ps | .all ps => toDL ps
  | .no p => [toD p]
  | .again p lo hi => [toD p, .int lo, hiD hi]
theorem toD_eq (r : Rx) : toD r = .tup (.str r.word :: r.tail) := by cases r <;> simp [toD, Rx.word, Rx.tail]
mutual
def rdep : Rx → Nat
  | .set _ => 0
  | .row ps | .any ps | .all ps => rdepL ps + 1
  | .no p => rdep p + 1
  | .again p _ _ => rdep p + 1
def rdepL : List Rx → Nat
  | [] => 0
  | p :: ps => max (rdep p) (rdepL ps)
end
theorem rdepL_mem : ∀ {ps : List Rx} {n : Nat}, rdepL ps < n → ∀ p ∈ ps, rdep p < n
  | _ :: _, n, h, d, hd => by
    rw [rdepL] at h
    rcases List.mem_cons.mp hd with e | e
    · rw [e]; omega
    · exact rdepL_mem (by omega) d e
theorem rdep_parts {r : Rx} {n : Nat} (h : rdep r < n + 1) (h0 : r.parts ≠ []) : ∀ p ∈ r.parts, rdep p < n := by
  intro p hp
  cases r with
  | set s => cases hp
  | row ps => rw [rdep] at h; exact rdepL_mem (ps := ps) (by omega) p hp
  | any ps => rw [rdep] at h; exact rdepL_mem (ps := ps) (by omega) p hp
  | all ps => rw [rdep] at h; exact rdepL_mem (ps := ps) (by omega) p hp
  | no q =>
    rw [rdep] at h
    rw [List.mem_singleton.mp hp]
    omega
  | again q lo hi =>
    rw [rdep] at h
    rw [List.mem_singleton.mp hp]
    omega
/-! the numbers of agains within their bounds, not too many parts -/
def hiOk (lo : Int) : Option Int → Bool
  | none => true
  | some h => decide (lo ≤ h) && decide (h ≤ 4)
mutual
def okR : Rx → Bool
  | .set s => decide (s.length ≤ 10000)
  | .row ps | .any ps | .all ps => decide (ps.length ≤ 9999) && okRL ps
  | .no p => okR p
  | .again p lo hi => okR p && decide (0 ≤ lo) && decide (lo ≤ 4) && hiOk lo hi
def okRL : List Rx → Bool
  | [] => true
  | p :: ps => okR p && okRL ps
end
theorem okRL_mem : ∀ {ps : List Rx}, okRL ps = true → ∀ p ∈ ps, okR p = true
  | _ :: _, h, d, hd => by
    rw [okRL, Bool.and_eq_true] at h
    rcases List.mem_cons.mp hd with e | e
    · rw [e]; exact h.1
    · exact okRL_mem h.2 d e
theorem okR_parts {r : Rx} (h : okR r = true) : ∀ p ∈ r.parts, okR p = true := by
  intro p hp
  cases r with
  | set s => cases hp
  | row ps => rw [okR, Bool.and_eq_true] at h; exact okRL_mem h.2 p hp
  | any ps => rw [okR, Bool.and_eq_true] at h; exact okRL_mem h.2 p hp
  | all ps => rw [okR, Bool.and_eq_true] at h; exact okRL_mem h.2 p hp
  | no q =>
    rw [okR] at h
    rw [List.mem_singleton.mp hp]
    exact h
  | again q lo hi =>
    rw [okR, Bool.and_eq_true, Bool.and_eq_true, Bool.and_eq_true] at h
    rw [List.mem_singleton.mp hp]
    exact h.1.1.1
theorem okR_len {r : Rx} (h : okR r = true) : r.parts.length ≤ 9999 := by
  cases r with
  | set s => exact Nat.zero_le _
  | row ps => rw [okR, Bool.and_eq_true] at h; exact of_decide_eq_true h.1
  | any ps => rw [okR, Bool.and_eq_true] at h; exact of_decide_eq_true h.1
  | all ps => rw [okR, Bool.and_eq_true] at h; exact of_decide_eq_true h.1
  | no q => show 1 ≤ 9999; decide
  | again q lo hi => show 1 ≤ 9999; decide
def mx1 (j : Int) : Int := if j > 1 then j else 1
def Rx.fac : Rx → Int
  | .again _ lo none => lo + 1
  | .again _ _ (some h) => mx1 h
  | _ => 1
mutual
def wd : Rx → Int
  | .set _ => 1
  | .row ps | .any ps | .all ps => mx1 (wdL ps).sum
  | .no p => mx1 (wd p)
  | .again p lo none => mx1 (wd p) * (lo + 1)
  | .again p lo (some h) => mx1 (wd p) * mx1 h
def wdL : List Rx → List Int
  | [] => []
  | p :: ps => wd p :: wdL ps
end
theorem wdL_map : ∀ ps, wdL ps = ps.map wd
  | [] => rfl
  | p :: ps => by rw [wdL, wdL_map ps]; rfl
mutual
def cnt : Rx → Int
  | .set _ => 1
  | .row ps | .any ps | .all ps => 1 + (cntL ps).sum
  | .no p => 1 + cnt p
  | .again p _ _ => 1 + cnt p
def cntL : List Rx → List Int
  | [] => []
  | p :: ps => cnt p :: cntL ps
end
theorem cntL_map : ∀ ps, cntL ps = ps.map cnt
  | [] => rfl
  | p :: ps => by rw [cntL, cntL_map ps]; rfl
theorem cnt_eq (r : Rx) : cnt r = 1 + (r.parts.map cnt).sum := by
  cases r <;> simp [cnt, Rx.parts, cntL_map]
mutual
def plain : Rx → Bool
  | .set _ => true
  | .row ps | .any ps => (plainL ps).all id
  | .all _ | .no _ => false
  | .again p _ _ => plain p
def plainL : List Rx → List Bool
  | [] => []
  | p :: ps => plain p :: plainL ps
end
theorem plainL_map : ∀ ps, plainL ps = ps.map plain
  | [] => rfl
  | p :: ps => by rw [plainL, plainL_map ps]; rfl
theorem plain_eq (r : Rx) : plain r = (!(decide (r.word = "all") || decide (r.word = "not")) && (r.parts.map plain).all id) := by
  cases r <;> simp [plain, Rx.parts, plainL_map, Rx.word, k19, k3, k20, k6, k22, k25, k23, k24]
mutual
def hasP : Rx → Bool
  | .set _ => true
  | .row ps => (plainL ps).all id
  | .again p _ _ => plain p
  | .any ps | .all ps => (hasPL ps).all id
  | .no p => hasP p
def hasPL : List Rx → List Bool
  | [] => []
  | p :: ps => hasP p :: hasPL ps
end
theorem hasPL_map : ∀ ps, hasPL ps = ps.map hasP
  | [] => rfl
  | p :: ps => by rw [hasPL, hasPL_map ps]; rfl
theorem hasP_eq (r : Rx) : hasP r = if r.word = "row" ∨ r.word = "again" then plain r else (r.parts.map hasP).all id := by
  cases r <;> simp [hasP, plain, Rx.parts, hasPL_map, Rx.word, k18, k13, k14, k5, k15, k8, k16, k11]
mutual
theorem toD_inj : ∀ r r', toD r = toD r' → r = r'
  | .set s, r', h => by
    cases r' <;> simp [toD, k1, k4, k7, k10, k12, k13, k18, k23, k24, k30] at h
    rw [h]
  | .row ps, r', h => by
    cases r' <;> simp [toD, k1, k2, k3, k14, k15, k16, k17, k18, k19, k27] at h
    rw [toDL_inj _ _ h]
  | .any ps, r', h => by
    cases r' <;> simp [toD, k4, k5, k6, k14, k20] at h
    rw [toDL_inj _ _ h]
  | .all ps, r', h => by
    cases r' <;> simp [toD, k7, k8, k9, k15, k26] at h
    rw [toDL_inj _ _ h]
  | .no p, r', h => by
    cases r' <;> simp [toD, k10, k11, k16, k21, k28] at h
    rw [toD_inj _ _ h]
  | .again p lo hi, r', h => by
    cases r' <;> simp [toD, k12, k17, k22, k25, k29] at h
    rename_i p' lo' hi'
    obtain ⟨h1, h2, h3⟩ := h
    rw [toD_inj _ _ h1, h2]
    cases hi <;> cases hi' <;> simp [hiD] at h3
    · rfl
    · rw [h3]
theorem toDL_inj : ∀ ps ps', toDL ps = toDL ps' → ps = ps'
  | [], [], _ => rfl
  | [], _ :: _, h => by simp [toDL] at h
  | _ :: _, [], h => by simp [toDL] at h
  | p :: ps, p' :: ps', h => by
    simp only [toDL, List.cons.injEq] at h
    rw [toD_inj _ _ h.1, toDL_inj _ _ h.2]
end
def patR (r : Rx) : Bool := hasP r && (decide (cnt r ≤ 20) && decide (wd r ≤ 10))
theorem cutD_1 (x : D) (xs : List D) : cutD (x :: xs) (some 1) none = xs := by
  unfold cutD
  have h1 : HT.sIx (x :: xs).length 0 (some 1) = 1 := by
    have := HT.sIx_nat (x :: xs).length 0 1
    rw [List.length_cons] at this
    exact this.trans (by omega)
  rw [h1, show HT.sIx (x :: xs).length (x :: xs).length none = (x :: xs).length from rfl, List.length_cons, Nat.add_sub_cancel]
  exact List.take_length
/-! ### what is an expression is a pattern's value -/
mutual
theorem ofExpr (A : Str) : ∀ d, val d = true → isExpr A d = true → ∃ r, d = toD r ∧ okR r = true ∧ rdep r ≤ dep d
  | .tup (.str w :: ps), hv, h => by
    rw [isExpr] at h
    rw [val, Bool.and_eq_true, valL, Bool.and_eq_true] at hv
    have hl : ps.length + 1 ≤ 10000 := by have := of_decide_eq_true hv.1; simpa using this
    unfold exprB at h
    by_cases h1 : w = "set"
    · rw [if_pos h1] at h
      subst h1
      unfold isSetM at h
      split at h
      · rename_i s
        have hs : val (.str s) = true := by have := hv.2.2; rw [valL, Bool.and_eq_true] at this; exact this.1
        rw [val] at hs
        exact ⟨.set s, by rw [toD], by rw [okR]; exact hs, by rw [rdep]; exact Nat.zero_le _⟩
      · cases h
    rw [if_neg h1] at h
    by_cases h2 : w = "again"
    · rw [if_pos h2] at h
      subst h2
      match ps, h, hv with
      | [p, lo, hi], h, hv =>
        rw [isExprM, isExprM, isExprM, isExprM, againB, Bool.and_eq_true] at h
        have hv2 := hv.2.2
        rw [valL, Bool.and_eq_true] at hv2
        obtain ⟨r, e, o, dd⟩ := ofExpr A p hv2.1 h.1
        have hlo := h.2
        unfold loB at hlo
        split at hlo
        · rename_i l
          rw [Bool.and_eq_true, Bool.and_eq_true] at hlo
          obtain ⟨⟨q1, q2⟩, q3⟩ := hlo
          have hd : rdep r + 1 ≤ dep (.tup [.str "again", p, .int l, hi]) := by
            rw [dep, depL, depL]
            omega
          unfold hiB at q3
          split at q3
          · exact ⟨.again r l none, by rw [toD, e]; rfl, by rw [okR, o, q1, q2]; rfl, by rw [rdep]; exact hd⟩
          · rename_i hh
            exact ⟨.again r l (some hh), by rw [toD, e]; rfl, by rw [okR, o, q1, q2]; simpa [hiOk] using q3, by rw [rdep]; exact hd⟩
          · cases q3
        · cases hlo
      | [], h, _ => simp [againB] at h
      | [_], h, _ => simp [againB, isExprM] at h
      | [_, _], h, _ => simp [againB, isExprM] at h
      | _ :: _ :: _ :: _ :: _, h, _ => simp [againB, isExprM] at h
    rw [if_neg h2] at h
    by_cases h3 : (w = "not" ∧ ps.length ≠ 1) ∨ ¬ (w = "row" ∨ w = "any" ∨ w = "all" ∨ w = "not")
    · rw [if_pos h3] at h
      cases h
    rw [if_neg h3] at h
    obtain ⟨rs, e, o, dd⟩ := ofExprL A ps hv.2.2 h
    have hd : rdepL rs + 1 ≤ dep (.tup (.str w :: ps)) := by
      rw [dep, depL]
      omega
    have hlr : rs.length = ps.length := by rw [e, toDL_len]
    have ho : (decide (rs.length ≤ 9999) && okRL rs) = true := by rw [decide_eq_true (by omega), o]; rfl
    by_cases w1 : w = "not"
    · subst w1
      have l1 : ps.length = 1 := Classical.byContradiction fun z => h3 (.inl ⟨rfl, z⟩)
      match rs, hlr, e, ho, hd, o with
      | [r], _, e, _, hd, o =>
        rw [okRL, okRL, Bool.and_true] at o
        exact ⟨.no r, by rw [toD, e]; rfl, by rw [okR]; exact o, by rw [rdep]; rw [rdepL, rdepL] at hd; omega⟩
      | [], hlr, _, _, _, _ => simp at hlr; omega
      | _ :: _ :: _, hlr, _, _, _, _ => simp at hlr; omega
    have w2 : w = "row" ∨ w = "any" ∨ w = "all" := by
      rcases Classical.not_not.mp (fun z => h3 (.inr z)) with z | z | z | z
      · exact .inl z
      · exact .inr (.inl z)
      · exact .inr (.inr z)
      · exact absurd z w1
    rcases w2 with rfl | rfl | rfl
    · exact ⟨.row rs, by rw [toD, e], by rw [okR]; exact ho, by rw [rdep]; exact hd⟩
    · exact ⟨.any rs, by rw [toD, e], by rw [okR]; exact ho, by rw [rdep]; exact hd⟩
    · exact ⟨.all rs, by rw [toD, e], by rw [okR]; exact ho, by rw [rdep]; exact hd⟩
  | .tup [], _, h => by simp [isExpr] at h
  | .tup (.non :: _), _, h => by simp [isExpr] at h
  | .tup (.bl _ :: _), _, h => by simp [isExpr] at h
  | .tup (.int _ :: _), _, h => by simp [isExpr] at h
  | .tup (.tup _ :: _), _, h => by simp [isExpr] at h
  | .tup (.lst _ :: _), _, h => by simp [isExpr] at h
  | .tup (.obj _ _ :: _), _, h => by simp [isExpr] at h
  | .tup (.ty _ :: _), _, h => by simp [isExpr] at h
  | .tup (.raw _ :: _), _, h => by simp [isExpr] at h
  | .tup (.scr _ :: _), _, h => by simp [isExpr] at h
  | .non, _, h => by simp [isExpr] at h
  | .bl _, _, h => by simp [isExpr] at h
  | .int _, _, h => by simp [isExpr] at h
  | .str _, _, h => by simp [isExpr] at h
  | .lst _, _, h => by simp [isExpr] at h
  | .obj _ _, _, h => by simp [isExpr] at h
  | .ty _, _, h => by simp [isExpr] at h
  | .raw _, _, h => by simp [isExpr] at h
  | .scr _, _, h => by simp [isExpr] at h
theorem ofExprL (A : Str) : ∀ ds, valL ds = true → (isExprM A ds).all id = true → ∃ rs, ds = toDL rs ∧ okRL rs = true ∧ rdepL rs ≤ depL ds
  | [], _, _ => ⟨[], rfl, rfl, Nat.le_refl _⟩
  | d :: ds, hv, h => by
    rw [valL, Bool.and_eq_true] at hv
    rw [isExprM, List.all_cons, Bool.and_eq_true] at h
    obtain ⟨r, e, o, dd⟩ := ofExpr A d hv.1 h.1
    obtain ⟨rs, e2, o2, d2⟩ := ofExprL A ds hv.2 h.2
    exact ⟨r :: rs, by rw [toDL, ← e, ← e2], by rw [okRL, o, o2]; rfl, by rw [rdepL, depL]; omega⟩
end
end Cut
namespace Cut
open PySem L2 DL
def top (i : Nat) : Stmt := PySem.Challenge.pw_cutscribe_k03_matches_by_splitting.main.body.getD i (.Pass ⟨0, 0, 0, 0⟩)
local macro_rules | `(tactic| walk_at "s") => `(tactic| repeat (first | with_reducible refine ⟨_, rfl, ?_⟩ | refine ⟨_, rfl, ?_⟩ | refine ⟨rfl, ?_⟩ | refine ⟨_, _, rfl, rfl, ?_⟩ | refine ⟨_, _, rfl, ?_⟩ | refine iteT ?_ | refine iteF ?_ | refine ⟨⟨_, rfl⟩, ?_⟩ | refine ⟨Nat.le_of_ble_eq_true rfl, ?_⟩ | refine ⟨(by decide), ?_⟩ | refine ⟨_, ix_t0 _ _, ?_⟩ | refine ⟨_, ix_l0 _ _, ?_⟩))
abbrev s_parts_of : Stmt := top 5
abbrev N_parts_of : List Str := ["expression"]
theorem sc_parts_of : FnScope N_parts_of ["expression"] (defScope s_parts_of) := ⟨rfl, rfl, rfl, by decide +kernel, rfl, by decide +kernel, by decide +kernel⟩
abbrev s_is_plain : Stmt := top 6
abbrev N_is_plain : List Str := ["expression", "part"]
theorem sc_is_plain : FnScope N_is_plain ["expression"] (defScope s_is_plain) := ⟨rfl, rfl, rfl, by decide +kernel, rfl, by decide +kernel, by decide +kernel⟩
section
variable {P : Program} {w : World} {K : Fg} {mg : Str → Option Value} {base : Heap} {f f2 : Addr} {fd fd2 : FuncData}
def D.top : D → Bool
  | .non | .bl _ | .int _ | .str _ | .tup _ | .lst _ => true
  | _ => false
theorem val_top {d : D} (h : val d = true) : D.top d = true := by cases d <;> first | rfl | (simp [val] at h)
def g_is_integer : FS0 := fun ds Q => ∃ d, ds = [d] ∧ D.top d = true ∧ Q (.fz (.bl (isInt d)))
def g_is_set : FS0 := fun ds Q => ∃ A ps, ds = [.str A, .lst ps] ∧ A.length ≤ 1000 ∧ valL ps = true ∧ Q (.fz (.bl (isSetM A ps)))
theorem isSetM_2 (A : Str) (a b : D) (t : List D) : isSetM A (a :: b :: t) = false := by cases a <;> rfl
def g_is_expression (n : Nat) : FS0 := fun ds Q => ∃ A d, ds = [.str A, d] ∧ A.length ≤ 1000 ∧ val d = true ∧ dep d < n ∧ Q (.fz (.bl (isExpr A d)))
def g_is_again (n : Nat) : FS0 := fun ds Q => ∃ A ps, ds = [.str A, .lst ps] ∧ A.length ≤ 1000 ∧ valL ps = true ∧ depL ps < n ∧ Q (.fz (.bl (againB ps (isExprM A ps))))
theorem againB_ne {ps : List D} {bs : List Bool} (h : ps.length ≠ 3) : againB ps bs = false := by
  match ps, h with
  | [], _ => rfl
  | [_], _ => rfl
  | [_, _], _ => rfl
  | [_, _, _], h => exact absurd rfl h
  | _ :: _ :: _ :: _ :: _, _ => rfl
theorem exprB_eq (A : Str) (w : Str) (ps : List D) : isExpr A (.tup (.str w :: ps)) = exprB A w ps (ps.map (isExpr A)) := by rw [isExpr, isExprM_map]
def g_parts_of : FS0 := fun ds Q => ∃ r, ds = [toD r] ∧ Q (.fz (.tup (toDL r.parts)))
theorem ok_parts_of (A : At K mg "parts_of" ["expression"] s_parts_of f fd) : Fn0 P w K mg base "parts_of" 1 1 g_parts_of := by
  refine A.fn0 (okD0 (k := 0) A.fn sc_parts_of (by decide) (fun cdv A outer s H E hr => (dss_cons (ds_if (dt_eq hr (de_ix (de_v 0) de_int (fun _ _ => rfl)) de_str) (dss_one (ds_ret (de_tup da_nil))) dss_nil)
      (dss_one (ds_ret (de_if (dt_eq hr (de_ix (de_v 0) de_int (fun _ _ => rfl)) de_str) (de_sl (de_v 0) (do_some de_int) (do_some de_int)) (de_sl (de_v 0) (do_some de_int) do_none)))))) ?_)
  rintro ds Q hl ⟨r, rfl, q⟩
  rw [toD_eq]
  walk_at "s"
  refine ifd (eqS_eq r.word "set") (fun h => ?_) (fun h => ?_)
  · cases r <;> first | (simp [Rx.word, k1, k4, k7, k10, k12] at h; done) | skip
    walk_at "s"
    exact q
  · walk_at "s"
    refine ifd (eqS_eq r.word "again") (fun h2 => ?_) (fun h2 => ?_)
    · cases r <;> first | (simp [Rx.word, k2, k5, k8, k11, k13] at h2; done) | skip
      walk_at "s"
      exact q
    · cases r <;> first | (simp [Rx.word] at h h2; done) | skip
      all_goals
        walk_at "s"
        rw [cutD_1]
        exact q
def g_count (n : Nat) : FS0 := fun ds Q => ∃ r, ds = [toD r] ∧ okR r = true ∧ rdep r < n ∧ Q (.fz (.int (cnt r)))
def g_width (n : Nat) : FS0 := fun ds Q => ∃ r, ds = [toD r] ∧ okR r = true ∧ rdep r < n ∧ Q (.fz (.int (wd r)))
theorem wd_eq (r : Rx) (h : r.word ≠ "set") : wd r = mx1 (r.parts.map wd).sum * r.fac := by
  cases r with
  | set s => exact absurd rfl h
  | row ps => simp [wd, Rx.parts, wdL_map, Rx.fac]
  | any ps => simp [wd, Rx.parts, wdL_map, Rx.fac]
  | all ps => simp [wd, Rx.parts, wdL_map, Rx.fac]
  | no p => simp [wd, Rx.parts, Rx.fac]
  | again p lo hi => cases hi <;> simp [wd, Rx.parts, Rx.fac]
def g_is_plain (n : Nat) : FS0 := fun ds Q => ∃ r, ds = [toD r] ∧ okR r = true ∧ rdep r < n ∧ Q (.fz (.bl (plain r)))
theorem ok_is_plain (A : At K mg "is_plain" ["expression"] s_is_plain f fd) (m_all : mg "all" = none) (c_parts_of : Fn0 P w K mg base "parts_of" 1 1 g_parts_of) : ∀ n, Fn0 P w K mg base "is_plain" (n + 1) 1 (g_is_plain n)
  | 0 => A.none0 fun ds Q ⟨_, _, _, h, _⟩ => absurd h (Nat.not_lt_zero _)
  | n + 1 => by
    have c_is_plain := ok_is_plain A m_all c_parts_of n
    refine A.fn0 (okD0 (k := n + 1) A.fn sc_is_plain (by decide) (fun cdv A outer s H E hr => (dss_one (ds_ret (de_and (de_notin (de_ix (de_v 0) de_int (fun _ _ => rfl)) (de_tup (da_cons de_str (da_cons de_str da_nil)))) (de_one (de_all rfl (by rfl) m_all (da_cons (de_lc (own := [("part", 1)]) rfl sc_is_plain.nd (di_seq (de_c0 c_parts_of (hr.mono (by omega)) (by rfl) (da_cons (de_v 0) da_nil))) (blkOk_by (N := N_is_plain) (sc := defScope s_is_plain) (own := [("part", 1)]) (by decide +kernel)) (fun _ _ _ _ _ => (dg_n 1 sc_is_plain.nd rfl (by first | exact Or.inl rfl | exact Or.inr rfl))) (fun _ _ _ _ _ => dts_nil) (fun _ _ _ _ _ => (de_c0 c_is_plain (hr.mono (by omega)) (by rfl) (da_cons (de_v 1) da_nil)))) da_nil))))))) ?_)
    rintro ds Q hl ⟨r, rfl, ho, hd, q⟩
    have et := toD_eq r
    rw [et]
    walk_at "s"
    have hin : (([.str "all", .str "not"] : List D).any fun b => eqB b (.str r.word)) = (decide (r.word = "all") || decide (r.word = "not")) := by
      show (eqS "all" r.word || (eqS "not" r.word || false)) = _
      rw [eqS_eq', eqS_eq', Bool.or_false]
    rw [plain_eq, ← hin] at q
    refine ifB (fun h => ?_) (fun h => ?_)
    · have h' : (!(([.str "all", .str "not"] : List D).any fun b => eqB b (.str r.word))) = true := h
      rw [h', Bool.true_and] at q
      walk_at "s"
      refine ⟨r, by rw [et]; rfl, ?_⟩
      walk_at "s"
      rw [toDL_map]
      refine lc_map (φ := toD) (f := fun p => .bl (plain p)) r.parts rfl rfl (fun p hp Q2 q2 => ?_) (Nat.le_trans (okR_len ho) (by decide)) ?_
      · exact ⟨_, rfl, p, rfl, okR_parts ho p hp, rdep_parts hd (List.ne_nil_of_mem hp) p hp, q2 _ rfl⟩
      · exact ⟨_, all_map _ _, q⟩
    · have h' : (!(([.str "all", .str "not"] : List D).any fun b => eqB b (.str r.word))) = false := h
      rw [h', Bool.false_and] at q
      exact q
def g_hasP (n : Nat) : FS0 := fun ds Q => ∃ r, ds = [toD r] ∧ okR r = true ∧ rdep r < n ∧ Q (.fz (.bl (hasP r)))
def g_is_pattern : FS0 := fun ds Q => ∃ A d, ds = [.str A, d] ∧ A.length ≤ 1000 ∧ val d = true ∧ dep d < 60 ∧ (isExpr A d = false → Q (.fz (.bl false))) ∧ (∀ r, d = toD r → okR r = true → isExpr A d = true → Q (.fz (.bl (patR r))))
end
end Cut
namespace Cut
open PySem L2 DL
local macro_rules | `(tactic| walk_at "s") => `(tactic| repeat (first | with_reducible refine ⟨_, rfl, ?_⟩ | refine ⟨_, rfl, ?_⟩ | refine ⟨rfl, ?_⟩ | refine ⟨_, _, rfl, rfl, ?_⟩ | refine ⟨_, _, rfl, ?_⟩ | refine iteT ?_ | refine iteF ?_ | refine ⟨⟨_, rfl⟩, ?_⟩ | refine ⟨⟨_, _, rfl⟩, ?_⟩ | refine ⟨_, _, _, _, rfl, rfl, rfl, ?_⟩ | refine ⟨Nat.le_of_ble_eq_true rfl, ?_⟩ | refine ⟨(by decide), ?_⟩ | refine ⟨_, ix_t0 _ _, ?_⟩ | refine ⟨_, ix_l0 _ _, ?_⟩))
abbrev s_l_source : Stmt := top 15
abbrev N_l_source : List Str := ["_law_script", "_law_k", "_law_cell", "_law_deep"]
theorem sc_l_source : FnScope N_l_source ["_law_script", "_law_k"] (defScope s_l_source) := ⟨rfl, rfl, rfl, by decide +kernel, rfl, by decide +kernel, by decide +kernel⟩
abbrev s_l_draw : Stmt := top 16
abbrev N_l_draw : List Str := ["_law_source_here", "_law_many", "_law_digit", "_law_seed"]
theorem sc_l_draw : FnScope N_l_draw ["_law_source_here", "_law_many"] (defScope s_l_draw) := ⟨rfl, rfl, rfl, by decide +kernel, rfl, by decide +kernel, by decide +kernel⟩
abbrev s_l_alphabet : Stmt := top 17
abbrev N_l_alphabet : List Str := ["_law_source_here", "_law_many", "_law_left", "_law_k"]
theorem sc_l_alphabet : FnScope N_l_alphabet ["_law_source_here", "_law_many"] (defScope s_l_alphabet) := ⟨rfl, rfl, rfl, by decide +kernel, rfl, by decide +kernel, by decide +kernel⟩
abbrev s_l_set : Stmt := top 18
abbrev N_l_set : List Str := ["_law_source_here", "_law_alphabet_here", "_law_many", "_law_taken", "_law_k", "_law_at"]
theorem sc_l_set : FnScope N_l_set ["_law_source_here", "_law_alphabet_here"] (defScope s_l_set) := ⟨rfl, rfl, rfl, by decide +kernel, rfl, by decide +kernel, by decide +kernel⟩
abbrev s_l_row : Stmt := top 19
abbrev N_l_row : List Str := ["_law_source_here", "_law_alphabet_here", "_law_many", "_law_k"]
theorem sc_l_row : FnScope N_l_row ["_law_source_here", "_law_alphabet_here", "_law_many"] (defScope s_l_row) := ⟨rfl, rfl, rfl, by decide +kernel, rfl, by decide +kernel, by decide +kernel⟩
section
variable {P : Program} {w : World} {K : Fg} {mg : Str → Option Value} {base : Heap} {f f2 : Addr} {fd fd2 : FuncData}
/-- a source of draws, after at most c draws -/
def Src (c : Nat) (xs : List D) : Prop := ∃ a b n : Int, xs = [.int a, .int b, .int n] ∧ 0 ≤ b ∧ b ≤ 2 ^ 50 ∧ 0 ≤ n ∧ n ≤ c
theorem Src.mono {c c' : Nat} {xs : List D} (h : Src c xs) (hc : c ≤ c') : Src c' xs := let ⟨a, b, n, h1, h2, h3, h4, h5⟩ := h; ⟨a, b, n, h1, h2, h3, h4, by omega⟩
def g_source : FS0 := fun ds Q => ∃ (ns : List Int) (k : Int), ds = [.scr ns, .int k] ∧ 0 ≤ k ∧ k ≤ 1000000 ∧ ∀ xs, Src 0 xs → Q (.fr xs)
theorem ok_source (A : At K mg "_law_source" ["_law_script", "_law_k"] s_l_source f fd) (m_len : mg "len" = none) : Fn0 P w K mg base "_law_source" 1 2 g_source := by
  refine A.fn0 (okD0 (k := 0) A.fn sc_l_source (by decide) (fun cdv A outer s H E hr => (dss_cons (ds_set 2 sc_l_source.nd rfl (by first | exact Or.inl rfl | exact Or.inr rfl) de_int)
      (dss_cons (ds_set 3 sc_l_source.nd rfl (by first | exact Or.inl rfl | exact Or.inr rfl) de_int)
      (dss_cons (ds_if (dt_gt (de_len (by rfl) m_len (da_cons (de_v 0) da_nil)) de_int) (dss_one (ds_set 2 sc_l_source.nd rfl (by first | exact Or.inl rfl | exact Or.inr rfl) (de_ix (de_v 0) (de_mod (de_v 1) (de_len (by rfl) m_len (da_cons (de_v 0) da_nil))) (fun _ _ => rfl)))) dss_nil)
      (dss_cons (ds_if (DW.dt (dw_and (dt_lt (de_v 1) (de_len (by rfl) m_len (da_cons (de_v 0) da_nil))) (dw_and1 (dt_ge (de_v 2) (de_pow de_int de_int))))) (dss_one (ds_set 3 sc_l_source.nd rfl (by first | exact Or.inl rfl | exact Or.inr rfl) (de_v 2))) dss_nil)
      (dss_one (ds_ret (de_lst (da_cons (de_v 3) (da_cons (de_add (de_add (de_mod (de_v 2) de_int) (de_mul de_int (de_v 1))) de_int) (da_cons de_int da_nil))))))))))) ?_)
  rintro ds Q hl ⟨ns, k, rfl, hk, hk2, q⟩
  have fin : ∀ (a c : Int), (tRetD (tLstD (tACons (tV 3) (tACons (tBin addD (tBin addD (tBin modD (tV 2) (tK (.int 2147483647))) (tBin mulD (tK (.int 7919000)) (tV 1))) (tK (.int 104729))) (tACons (tK (.int 0)) tANil))))) { nx := fun _ => Q (.fz .non), rt := fun r _ => Q r } [some (.fz (.scr ns)), some (.fz (.int k)), some (.fz (.int c)), some (.fz (.int a))] := by
    intro a c
    walk_at "s"
    refine q _ ⟨a, c % 2147483647 + 7919000 * k + 104729, 0, rfl, ?_, ?_, by decide, by decide⟩
    · have := Int.emod_nonneg c (b := 2147483647) (by decide)
      omega
    · have := Int.emod_lt_of_pos c (b := 2147483647) (by decide)
      omega
  have mid : ∀ c : Int, (tSeqD (tIfD (tAndT (tT (tBin ltD (tV 1) (tCallG lenD (tACons (tV 0) tANil)))) (tT (tBin geD (tV 2) (tBin powD (tK (.int 10)) (tK (.int 18)))))) (tSetD 3 (tV 2)) tNextD)
      (tRetD (tLstD (tACons (tV 3) (tACons (tBin addD (tBin addD (tBin modD (tV 2) (tK (.int 2147483647))) (tBin mulD (tK (.int 7919000)) (tV 1))) (tK (.int 104729))) (tACons (tK (.int 0)) tANil)))))) { nx := fun _ => Q (.fz .non), rt := fun r _ => Q r } [some (.fz (.scr ns)), some (.fz (.int k)), some (.fz (.int c)), some (.fz (.int 0))] := by
    intro c
    walk_at "s"
    refine ifB (fun h => ?_) (fun h => ?_)
    · walk_at "s"
      refine ifB (fun h => ?_) (fun h => ?_)
      · exact ⟨_, rfl, rfl, fin c c⟩
      · exact fin 0 c
    · exact fin 0 c
  walk_at "s"
  refine ifB (fun h => ?_) (fun h => ?_)
  · have h1 : (0 : Int) < (ns.length : Int) := of_decide_eq_true h
    obtain ⟨x, hx, _⟩ := atI_ok (xs := ns) (Int.emod_nonneg k (by omega)) (Int.emod_lt_of_pos k h1)
    walk_at "s"
    refine ⟨_, mod_ok h1, .fz (.int x), by show (atI ns _).map _ = _; rw [hx]; rfl, rfl, mid x⟩
  · exact mid 0
def g_draw : FS1 := fun xs ds Q => ∃ (c : Nat) (m : Int), ds = [.int m] ∧ Src c xs ∧ c ≤ 2 ^ 40 ∧ 0 < m ∧ m ≤ 1000000 ∧ ∀ (i : Int) xs', 0 ≤ i → i < m → Src (c + 1) xs' → Q (.fz (.int i)) xs'
theorem ok_draw (A : At K mg "_law_draw" ["_law_source_here", "_law_many"] s_l_draw f fd) : Fn1 P w K mg base "_law_draw" 1 2 g_draw := by
  refine A.fn1 (okD1 (k := 0) A.fn sc_l_draw (by decide) (fun cdv A outer s H E hr => (dss_cons (ds_subO 0 (de_add (de_ixO 0 de_int (fun _ _ => rfl)) de_int) de_int)
      (dss_cons (ds_if (dt_gt (de_ixO 0 de_int (fun _ _ => rfl)) de_int) (dss_cons (ds_set 2 sc_l_draw.nd rfl (by first | exact Or.inl rfl | exact Or.inr rfl) (de_mod (de_ixO 0 de_int (fun _ _ => rfl)) (de_v 1)))
      (dss_cons (ds_subO 0 (de_fdiv (de_ixO 0 de_int (fun _ _ => rfl)) (de_v 1)) de_int)
      (dss_one (ds_ret (de_v 2))))) dss_nil)
      (dss_cons (ds_set 3 sc_l_draw.nd rfl (by first | exact Or.inl rfl | exact Or.inr rfl) (de_mod (de_pow (de_add (de_ixO 0 de_int (fun _ _ => rfl)) (de_mul de_int (de_ixO 0 de_int (fun _ _ => rfl)))) de_int) de_int))
      (dss_one (ds_ret (de_mod (de_fdiv (de_mod (de_mul (de_add (de_v 3) (de_ixO 0 de_int (fun _ _ => rfl))) de_int) de_int) de_int) (de_v 1)))))))) ?_)
  rintro xs ds Q hl ⟨c, m, rfl, ⟨a, b, n, rfl, b0, b1, n0, n1⟩, hc, m0, m1, q⟩
  walk_at "s"
  refine ifB (fun h => ?_) (fun h => ?_)
  · have h1 : 0 < a := of_decide_eq_true h
    walk_at "s"
    refine ⟨_, mod_ok m0, ?_⟩
    walk_at "s"
    refine ⟨_, fdiv_ok m0 (by omega), ?_⟩
    walk_at "s"
    exact q _ _ (Int.emod_nonneg a (by omega)) (Int.emod_lt_of_pos a m0) ⟨_, _, _, rfl, b0, b1, by omega, by omega⟩
  · walk_at "s"
    refine ⟨_, pow_ok (by decide) (by decide) (by omega), ?_⟩
    walk_at "s"
    refine ⟨_, mul_okR (by decide) (by decide), ?_⟩
    walk_at "s"
    refine ⟨_, mod_ok m0, ?_⟩
    walk_at "s"
    exact q _ _ (Int.emod_nonneg _ (by omega)) (Int.emod_lt_of_pos _ m0) ⟨_, _, _, rfl, b0, b1, by omega, by omega⟩
/-- the characters that alphabets are made of -/
def CH : List Nat := ((("abcdefghijklmnopqrstuvwxyz0123456789 -." : Str) ++ ("_" : Str))).cps.toList
theorem CH_eq : CH = [97, 98, 99, 100, 101, 102, 103, 104, 105, 106, 107, 108, 109, 110, 111, 112, 113, 114, 115, 116, 117, 118, 119, 120, 121, 122, 48, 49, 50, 51, 52, 53, 54, 55, 56, 57, 32, 45, 46, 95] := by decide +kernel
/-- an alphabet -/
structure Alp (A : Str) : Prop where
  lo : 1 ≤ A.length
  hi : A.length ≤ 6
  nd : A.cps.toList.Nodup
  ch : ∀ c ∈ A.cps.toList, c ∈ CH
def sgn (c : Nat) : D := .str ⟨#[c]⟩
def g_alphabet : FS1 := fun xs ds Q => ∃ (c : Nat) (m : Int), ds = [.int m] ∧ Src c xs ∧ c + 6 ≤ 2 ^ 40 ∧ 1 ≤ m ∧ m ≤ 6 ∧ ∀ A xs', Alp A → A.length = m.toNat → Src (c + 6) xs' → Q (.fz (.str A)) xs'
theorem rangeD_map (lo : Int) (n : Nat) : rangeD lo n = (List.range n).map fun (i : Nat) => D.int (lo + i) := rfl
theorem map_erase {α β : Type} (f : α → β) : ∀ (l : List α) (i : Nat), (l.map f).eraseIdx i = (l.eraseIdx i).map f
  | [], _ => rfl
  | _ :: _, 0 => rfl
  | a :: l, i + 1 => by
    show f a :: (l.map f).eraseIdx i = f a :: (l.eraseIdx i).map f
    rw [map_erase f l i]
theorem nd_erase {l : List Nat} (h : l.Nodup) {i : Nat} (hi : i < l.length) : l[i] ∉ l.eraseIdx i := by
  induction l generalizing i with
  | nil => exact absurd hi (Nat.not_lt_zero _)
  | cons a l ih =>
    rw [List.nodup_cons] at h
    cases i with
    | zero => exact h.1
    | succ i =>
      have hi' : i < l.length := by simpa using hi
      intro z
      have z' : l[i] ∈ a :: l.eraseIdx i := z
      rcases List.mem_cons.mp z' with e | e
      · exact h.1 (e ▸ List.getElem_mem (by simpa using hi))
      · exact ih h.2 (by simpa using hi) e
/-- the turns of the comprehension: characters are taken out of those left -/
theorem alpha_turns {Q : List D → Ev → Prop} {m : Int} : ∀ (n : Nat) (is : List Nat) (c : Nat) (xs : List D) (left acc : List Nat), is.length = n → Src c xs → c + n ≤ 2 ^ 40 → left.length ≥ n → left.length ≤ 1000 → acc.length + n ≤ 1000 → (∀ x ∈ left, x ∉ acc) → left.Nodup → acc.Nodup → (∀ x ∈ left, x ∈ CH) → (∀ x ∈ acc, x ∈ CH) →
    (∀ (acc' : List Nat) (xs' left' : List D), acc'.length = acc.length + n → acc'.Nodup → (∀ x ∈ acc', x ∈ CH) → Src (c + n) xs' → Q (acc'.map sgn) [some (.ow true xs'), some (.fz (.int m)), some (.ow false left'), none]) →
    lcD [3] (gN 3) tYesD (tPopO 2 (tACons (tCall1 g_draw 0 (tACons (tLenO 2) tANil)) tANil)) (is.map fun (i : Nat) => D.int (0 + i)) [some (.ow true xs), some (.fz (.int m)), some (.ow false (left.map sgn)), none] (acc.map sgn) Q
  | 0, [], c, xs, left, acc, _, hS, _, _, _, _, _, _, hn, _, hac, q => q acc xs _ rfl hn hac hS
  | n + 1, i :: is, c, xs, left, acc, hl, hS, hc, hll, hlm, ham, hdis, hnl, hna, hlc, hac, q => by
    refine ⟨rfl, ⟨_, _, rfl⟩, ⟨_, _, rfl⟩, _, _, rfl, _, _, rfl, c, _, rfl, hS, by omega, by rw [List.length_map]; omega, by rw [List.length_map]; omega, fun j xs' j0 j1 hS' => ?_⟩
    rw [List.length_map] at j1
    have hj : j.toNat < left.length := by omega
    refine ⟨_, _, _, j.toNat, sgn (left[j.toNat]), rfl, rfl, ⟨by omega, by omega⟩, ?_, ?_, by rw [List.length_map]; omega, ?_⟩
    · show seqIndex? j (left.map sgn).length = _
      rw [List.length_map]
      unfold seqIndex?
      simp
      omega
    · rw [List.getElem?_map, List.getElem?_eq_getElem hj]
      rfl
    · have e1 : (left.map sgn).eraseIdx j.toNat = (left.eraseIdx j.toNat).map sgn := map_erase ..
      have e2 : acc.map sgn ++ [sgn left[j.toNat]] = (acc ++ [left[j.toNat]]).map sgn := by rw [List.map_append]; rfl
      show lcD _ _ _ _ _ [some (.ow true xs'), some (.fz (.int m)), some (.ow false ((left.map sgn).eraseIdx j.toNat)), none] (acc.map sgn ++ [sgn left[j.toNat]]) Q
      rw [e1, e2]
      have hsub : ∀ x ∈ left.eraseIdx j.toNat, x ∈ left := fun x hx => List.mem_of_mem_eraseIdx hx
      have hne : ∀ x ∈ left.eraseIdx j.toNat, x ≠ left[j.toNat] := fun x hx e => nd_erase hnl hj (e ▸ hx)
      refine alpha_turns n is (c + 1) xs' (left.eraseIdx j.toNat) (acc ++ [left[j.toNat]]) (by simpa using hl) hS' (by omega) (by rw [List.length_eraseIdx_of_lt hj]; omega) (by rw [List.length_eraseIdx_of_lt hj]; omega) (by simp; omega) (fun x hx hm => ?_) (hnl.sublist (List.eraseIdx_sublist ..)) ?_ (fun x hx => hlc x (hsub x hx)) ?_ (fun acc' xs2 left' h1 h2 h3 h4 => q acc' xs2 left' (by rw [h1]; simp; omega) h2 h3 (by rw [show c + (n + 1) = c + 1 + n by omega]; exact h4))
      · rcases List.mem_append.mp hm with hm | hm
        · exact hdis x (hsub x hx) hm
        · exact hne x hx (List.mem_singleton.mp hm)
      · rw [List.nodup_append]
        refine ⟨hna, by simp, ?_⟩
        intro a ha b hb e
        rw [List.mem_singleton.mp hb] at e
        subst e
        exact hdis _ (List.getElem_mem hj) ha
      · intro x hx
        rcases List.mem_append.mp hx with hx | hx
        · exact hac x hx
        · rw [List.mem_singleton.mp hx]
          exact hlc _ (List.getElem_mem hj)
theorem ok_alphabet (A : At K mg "_law_alphabet" ["_law_source_here", "_law_many"] s_l_alphabet f fd) (m_len : mg "len" = none) (m_list : mg "list" = none) (m_range : mg "range" = none) (c_l_draw : Fn1 P w K mg base "_law_draw" 1 2 g_draw) : Fn1 P w K mg base "_law_alphabet" 2 2 g_alphabet := by
  refine A.fn1 (okD1 (k := 1) A.fn sc_l_alphabet (by decide) (fun cdv A outer s H E hr => (dss_cons (ds_setO 2 sc_l_alphabet.nd rfl (by first | exact Or.inl rfl | exact Or.inr rfl) (de_list rfl (by rfl) m_list (da_cons (de_add de_str de_str) da_nil)))
      (dss_one (ds_ret (de_join de_str (de_lc (own := [("_law_k", 3)]) rfl sc_l_alphabet.nd (di_range1 (by rfl) m_range (da_cons (de_v 1) da_nil)) (blkOk_by (N := N_l_alphabet) (sc := defScope s_l_alphabet) (own := [("_law_k", 3)]) (by decide +kernel)) (fun _ _ _ _ _ => (dg_n 3 sc_l_alphabet.nd rfl (by first | exact Or.inl rfl | exact Or.inr rfl))) (fun _ _ _ _ _ => dts_nil) (fun _ _ _ _ _ => (de_popO 2 (da_cons (de_c1 0 c_l_draw (hr.mono (by decide)) (by rfl) (da_cons (de_lenO 2 (by rfl) m_len) da_nil)) da_nil))))))))) ?_)
  rintro xs ds Q hl ⟨c, m, rfl, hS, hc, m0, m1, q⟩
  walk_at "s"
  refine ⟨⟨by omega, by omega⟩, rfl, ?_⟩
  refine alpha_turns (m := m) m.toNat (List.range m.toNat) c xs CH [] (by simp) hS (by omega) (by rw [CH_eq]; show 40 ≥ _; omega) (by rw [CH_eq]; decide) (by simp; omega) (by simp) (by rw [CH_eq]; decide) (by simp) (fun x hx => hx) (by simp) (fun acc' xs' left' h1 h2 h3 h4 => ?_)
  have hl6 : acc'.length = m.toNat := by simpa using h1
  have hlen : (ofL acc').length = acc'.length := by rw [len_l, ofL_l]
  exact ⟨_, joinD_signs acc' (by omega), xs', rfl, q (ofL acc') xs' ⟨by omega, by omega, by rw [ofL_l]; exact h2, by rw [ofL_l]; exact h3⟩ (by omega) (h4.mono (by omega))⟩
/-! ### sets -/
theorem map_range_getD (l : List Nat) : (List.range l.length).map (fun i => l.getD i 0) = l := by
  apply List.ext_getElem?
  intro i
  rw [List.getElem?_map]
  by_cases h : i < l.length
  · rw [List.getElem?_range h, List.getElem?_eq_getElem h]
    simp [List.getD_eq_getElem?_getD, List.getElem?_eq_getElem h]
  · rw [List.getElem?_eq_none (by rw [List.length_range]; omega), List.getElem?_eq_none (by omega)]
    rfl
theorem pick_set {l : List Nat} (hn : l.Nodup) (T : Nat → Bool) : l.filter (fun c => decide (c ∈ ((List.range l.length).filter T).map fun i => l.getD i 0)) = ((List.range l.length).filter T).map fun i => l.getD i 0 := by
  have e : ∀ p : Nat → Bool, l.filter p = ((List.range l.length).filter fun i => p (l.getD i 0)).map fun i => l.getD i 0 := by
    intro p
    have h := congrArg (List.filter p) (map_range_getD l)
    rw [List.filter_map] at h
    exact h.symm
  rw [e]
  congr 1
  apply List.filter_congr
  intro i hi
  have hi' : i < l.length := List.mem_range.mp hi
  by_cases hT : T i = true
  · rw [hT]
    exact decide_eq_true (List.mem_map.mpr ⟨i, List.mem_filter.mpr ⟨hi, hT⟩, rfl⟩)
  · rw [Bool.eq_false_iff.mpr hT]
    refine decide_eq_false fun z => ?_
    obtain ⟨j, hj, ej⟩ := List.mem_map.mp z
    obtain ⟨hj1, hj2⟩ := List.mem_filter.mp hj
    have hj' : j < l.length := List.mem_range.mp hj1
    have : i = j := by
      have e1 : l[j] = l[i] := by
        simpa [List.getD_eq_getElem?_getD, List.getElem?_eq_getElem hi', List.getElem?_eq_getElem hj'] using ej
      exact ((List.getElem_inj hn).mp e1).symm
    subst this
    exact hT hj2
theorem flat_ints : ∀ ns : List Int, (ns.map D.int).all D.flat = true
  | [] => rfl
  | n :: ns => by rw [List.map_cons, List.all_cons, flat_ints ns]; rfl
theorem in_ints (i : Int) (ns : List Int) : inD (.int i) (.lst (ns.map .int)) = some (.fz (.bl (decide (i ∈ ns)))) := by
  show (if ((D.int i).flat && (ns.map D.int).all D.flat) = true then some ((ns.map D.int).any fun b => eqB b (.int i)) else none).map _ = _
  rw [flat_ints, show ((D.int i).flat && true) = true from rfl, if_pos rfl]
  show some (Res.fz (.bl ((ns.map D.int).any fun b => eqB b (.int i)))) = _
  congr 3
  induction ns with
  | nil => rfl
  | cons n ns ih =>
    rw [List.map_cons, List.any_cons, ih]
    show (decide (n = i) || decide (i ∈ ns)) = decide (i ∈ n :: ns)
    rw [← Bool.decide_or]
    congr 1
    rw [List.mem_cons, show (i = n) = (n = i) from propext ⟨Eq.symm, Eq.symm⟩]
theorem ixS_ok {A : Str} {i : Nat} (h : i < A.cps.toList.length) (hz : A.length ≤ 100000) : ixD (.str A) (.int (0 + (i : Int))) = some (.fz (.str ⟨#[A.cps.toList.getD i 0]⟩)) := by
  show (if A.length ≤ 100000 then (atI A.cps.toList (0 + (i : Int))).map _ else none) = _
  rw [if_pos hz, atI_get (by omega) (by omega)]
  have e : (0 + (i : Int)).toNat = i := by omega
  rw [e, List.getElem?_eq_getElem h]
  simp [List.getD_eq_getElem?_getD, List.getElem?_eq_getElem h]
def g_set : FS1 := fun xs ds Q => ∃ (c : Nat) (A : Str), ds = [.str A] ∧ Alp A ∧ Src c xs ∧ c + 7 ≤ 2 ^ 40 ∧ ∀ s xs', isSetM A [.str s] = true → s.length ≤ 6 → Src (c + 7) xs' → Q (.fz (toD (.set s))) xs'
/-- draws in a comprehension -/
theorem draw_turns {Q : List D → Ev → Prop} {A : Str} {mm : D} (hA : A.length ≤ 100) (hA0 : 1 ≤ A.length) : ∀ (n : Nat) (is : List Nat) (c : Nat) (xs : List D) (acc : List Int), is.length = n → Src c xs → c + n ≤ 2 ^ 40 → acc.length + n ≤ 1000 →
    (∀ (acc' : List Int) (xs' : List D), Src (c + n) xs' → Q (acc'.map .int) [some (.ow true xs'), some (.fz (.str A)), some (.fz mm), none, none, none]) →
    lcD [4] (gN 4) tYesD (tCall1 g_draw 0 (tACons (tCallG lenD (tACons (tV 1) tANil)) tANil)) (is.map fun (i : Nat) => D.int (0 + i)) [some (.ow true xs), some (.fz (.str A)), some (.fz mm), none, none, none] (acc.map .int) Q
  | 0, [], c, xs, acc, _, hS, _, _, q => q acc xs hS
  | n + 1, i :: is, c, xs, acc, hl, hS, hc, ha, q => by
    refine ⟨rfl, ⟨_, _, rfl⟩, _, rfl, .fz (.int A.length), by show (if A.length ≤ 100000 then _ else _) = _; rw [if_pos (by omega)], _, _, rfl, c, _, rfl, hS, by omega, by omega, by omega, fun j xs' j0 j1 hS' => ⟨by rw [List.length_map]; omega, ?_⟩⟩
    show lcD _ _ _ _ _ [some (.ow true xs'), some (.fz (.str A)), some (.fz mm), none, none, none] (acc.map .int ++ [.int j]) Q
    rw [show acc.map D.int ++ [.int j] = (acc ++ [j]).map .int by rw [List.map_append]; rfl]
    exact draw_turns hA hA0 n is (c + 1) xs' (acc ++ [j]) (by simpa using hl) hS' (by omega) (by simp; omega) fun acc' xs2 h => q acc' xs2 (by rw [show c + (n + 1) = c + 1 + n by omega]; exact h)
theorem ok_set (A : At K mg "_law_set" ["_law_source_here", "_law_alphabet_here"] s_l_set f fd) (m_len : mg "len" = none) (m_range : mg "range" = none) (c_l_draw : Fn1 P w K mg base "_law_draw" 1 2 g_draw) : Fn1 P w K mg base "_law_set" 2 2 g_set := by
  refine A.fn1 (okD1 (k := 1) A.fn sc_l_set (by decide) (fun cdv A outer s H E hr => (dss_cons (ds_set 2 sc_l_set.nd rfl (by first | exact Or.inl rfl | exact Or.inr rfl) (de_ix (de_lst (da_cons de_int (da_cons de_int (da_cons de_int (da_cons de_int (da_cons de_int (da_cons de_int (da_cons de_int (da_cons de_int da_nil))))))))) (de_c1 0 c_l_draw (hr.mono (by decide)) (by rfl) (da_cons de_int da_nil)) (fun _ _ => rfl)))
      (dss_cons (ds_set 3 sc_l_set.nd rfl (by first | exact Or.inl rfl | exact Or.inr rfl) (de_lc (own := [("_law_k", 4)]) rfl sc_l_set.nd (di_range1 (by rfl) m_range (da_cons (de_v 2) da_nil)) (blkOk_by (N := N_l_set) (sc := defScope s_l_set) (own := [("_law_k", 4)]) (by decide +kernel)) (fun _ _ _ _ _ => (dg_n 4 sc_l_set.nd rfl (by first | exact Or.inl rfl | exact Or.inr rfl))) (fun _ _ _ _ _ => dts_nil) (fun _ _ _ _ _ => (de_c1 0 c_l_draw (hr.mono (by decide)) (by rfl) (da_cons (de_len (by rfl) m_len (da_cons (de_v 1) da_nil)) da_nil)))))
      (dss_one (ds_ret (de_tup (da_cons de_str (da_cons (de_join de_str (de_lc (own := [("_law_at", 5)]) rfl sc_l_set.nd (di_range1 (by rfl) m_range (da_cons (de_len (by rfl) m_len (da_cons (de_v 1) da_nil)) da_nil)) (blkOk_by (N := N_l_set) (sc := defScope s_l_set) (own := [("_law_at", 5)]) (by decide +kernel)) (fun _ _ _ _ _ => (dg_n 5 sc_l_set.nd rfl (by first | exact Or.inl rfl | exact Or.inr rfl))) (fun _ _ _ _ _ => (dts_one (dt_in (de_v 5) (de_v 3)))) (fun _ _ _ _ _ => (de_ix (de_v 1) (de_v 5) (fun _ _ => rfl))))) da_nil)))))))) ?_)
  rintro xs ds Q hl ⟨c, A, rfl, hA, hS, hc, q⟩
  have hA1 := hA.lo
  have hA6 := hA.hi
  walk_at "s"
  refine ⟨c, _, rfl, hS, by omega, by decide, by decide, fun j xs1 j0 j1 hS1 => ?_⟩
  obtain ⟨x, hx, hm⟩ := atI_ok (xs := ([.int 1, .int 1, .int 1, .int 1, .int 1, .int 2, .int 2, .int 6] : List D)) j0 j1
  obtain ⟨v, rfl, v1, v6⟩ : ∃ v : Int, x = .int v ∧ 0 ≤ v ∧ v ≤ 6 := by
    simp only [List.mem_cons, List.mem_nil_iff, or_false] at hm
    rcases hm with rfl | rfl | rfl | rfl | rfl | rfl | rfl | rfl <;> exact ⟨_, rfl, by decide, by decide⟩
  refine ⟨.fz (.int v), ix_lst hx, rfl, ?_⟩
  walk_at "s"
  refine ⟨⟨by omega, by omega⟩, rfl, ?_⟩
  refine draw_turns (A := A) (mm := .int v) (by omega) hA1 v.toNat (List.range v.toNat) (c + 1) xs1 [] (by simp) hS1 (by omega) (by simp; omega) fun taken xs2 hS2 => ?_
  walk_at "s"
  refine ⟨.fz (.int A.length), by show (if A.length ≤ 100000 then _ else _) = _; rw [if_pos (by omega)], ?_⟩
  walk_at "s"
  refine ⟨⟨by omega, by omega⟩, rfl, ?_⟩
  have el : ((A.length : Nat) : Int).toNat = A.cps.toList.length := by rw [len_l]; omega
  rw [show rangeD 0 ((A.length : Nat) : Int).toNat = (List.range A.cps.toList.length).map fun (i : Nat) => D.int (0 + i) by rw [el]; rfl]
  refine lc_pure (b := fun (i : Nat) => decide (0 + (i : Int) ∈ taken)) (f := fun i => .str ⟨#[A.cps.toList.getD i 0]⟩) rfl rfl (List.range A.cps.toList.length) [] (fun i _ Q2 q2 => ?_) (fun i hi _ Q2 q2 => ?_) (by rw [List.length_range, ← len_l]; simp; omega) ?_
  · exact ⟨_, rfl, _, rfl, _, in_ints _ taken, _, rfl, q2⟩
  · exact ⟨_, rfl, _, rfl, _, ixS_ok (List.mem_range.mp hi) (by omega), q2 _ rfl⟩
  · have hcl : ((((List.range A.cps.toList.length).filter fun (i : Nat) => decide (0 + (i : Int) ∈ taken)).map fun i => A.cps.toList.getD i 0)).length ≤ 6 := by
      rw [List.length_map]
      have := List.length_filter_le (fun (i : Nat) => decide (0 + (i : Int) ∈ taken)) (List.range A.cps.toList.length)
      rw [List.length_range] at this
      have := len_l A
      omega
    have hcs : ([] ++ ((List.range A.cps.toList.length).filter fun (i : Nat) => decide (0 + (i : Int) ∈ taken)).map fun i => D.str ⟨#[A.cps.toList.getD i 0]⟩) = (((List.range A.cps.toList.length).filter fun (i : Nat) => decide (0 + (i : Int) ∈ taken)).map fun i => A.cps.toList.getD i 0).map fun c => D.str ⟨#[c]⟩ := by
      rw [List.nil_append, List.map_map]
      rfl
    rw [hcs]
    generalize hcs2 : (((List.range A.cps.toList.length).filter fun (i : Nat) => decide (0 + (i : Int) ∈ taken)).map fun i => A.cps.toList.getD i 0) = cs at hcl
    refine ⟨_, joinD_signs cs (by omega), Nat.le_of_ble_eq_true rfl, xs2, rfl, q (ofL cs) xs2 ?_ (by rw [len_l, ofL_l]; exact hcl) (hS2.mono (by omega))⟩
    show decide (ofL cs = ofL (A.cps.toList.filter fun c => decide (c ∈ (ofL cs).cps.toList))) = true
    rw [ofL_l, ← hcs2, pick_set hA.nd]
    exact decide_eq_true rfl
/-! ### rows of sets -/
/-- the sets of a row -/
def setsOk (A : Str) (ss : List Str) : Prop := ∀ s ∈ ss, isSetM A [.str s] = true ∧ s.length ≤ 6
def g_row : FS1 := fun xs ds Q => ∃ (c : Nat) (A : Str) (m : Int), ds = [.str A, .int m] ∧ Alp A ∧ Src c xs ∧ 0 ≤ m ∧ m ≤ 100 ∧ c + 700 ≤ 2 ^ 40 ∧ ∀ ss xs', setsOk A ss → ss.length = m.toNat → Src (c + 700) xs' → Q (.fz (toD (.row (ss.map .set)))) xs'
theorem set_turns {Q : List D → Ev → Prop} {A : Str} {mm : D} (hA : Alp A) : ∀ (n : Nat) (is : List Nat) (c : Nat) (xs : List D) (acc : List Str), is.length = n → Src c xs → c + 7 * n ≤ 2 ^ 40 → acc.length + n ≤ 1000 → setsOk A acc →
    (∀ (acc' : List Str) (xs' : List D), setsOk A acc' → acc'.length = acc.length + n → Src (c + 7 * n) xs' → Q (acc'.map fun s => toD (.set s)) [some (.ow true xs'), some (.fz (.str A)), some (.fz mm), none]) →
    lcD [3] (gN 3) tYesD (tCall1 g_set 0 (tACons (tV 1) tANil)) (is.map fun (i : Nat) => D.int (0 + i)) [some (.ow true xs), some (.fz (.str A)), some (.fz mm), none] (acc.map fun s => toD (.set s)) Q
  | 0, [], c, xs, acc, _, hS, _, _, hs, q => q acc xs hs rfl hS
  | n + 1, i :: is, c, xs, acc, hl, hS, hc, ha, hs, q => by
    refine ⟨rfl, ⟨_, _, rfl⟩, _, rfl, _, _, rfl, c, A, rfl, hA, hS, by omega, fun s xs' h1 h2 hS' => ⟨by rw [List.length_map]; omega, ?_⟩⟩
    show lcD _ _ _ _ _ [some (.ow true xs'), some (.fz (.str A)), some (.fz mm), none] ((acc.map fun s => toD (.set s)) ++ [toD (.set s)]) Q
    rw [show (acc.map fun s => toD (.set s)) ++ [toD (.set s)] = (acc ++ [s]).map fun s => toD (.set s) by rw [List.map_append]; rfl]
    refine set_turns hA n is (c + 7) xs' (acc ++ [s]) (by simpa using hl) hS' (by omega) (by simp; omega) ?_ fun acc' xs2 h3 h4 h => q acc' xs2 h3 (by rw [h4]; simp; omega) (by rw [show c + 7 * (n + 1) = c + 7 + 7 * n by omega]; exact h)
    intro t ht
    rcases List.mem_append.mp ht with ht | ht
    · exact hs t ht
    · rw [List.mem_singleton.mp ht]
      exact ⟨h1, h2⟩
theorem ok_row (A : At K mg "_law_row" ["_law_source_here", "_law_alphabet_here", "_law_many"] s_l_row f fd) (m_tuple : mg "tuple" = none) (m_range : mg "range" = none) (c_l_set : Fn1 P w K mg base "_law_set" 2 2 g_set) : Fn1 P w K mg base "_law_row" 3 3 g_row := by
  refine A.fn1 (okD1 (k := 2) A.fn sc_l_row (by decide) (fun cdv A outer s H E hr => (dss_one (ds_ret (de_add (de_tup (da_cons de_str da_nil)) (de_tuple (by rfl) m_tuple (da_cons (de_lc (own := [("_law_k", 3)]) rfl sc_l_row.nd (di_range1 (by rfl) m_range (da_cons (de_v 2) da_nil)) (blkOk_by (N := N_l_row) (sc := defScope s_l_row) (own := [("_law_k", 3)]) (by decide +kernel)) (fun _ _ _ _ _ => (dg_n 3 sc_l_row.nd rfl (by first | exact Or.inl rfl | exact Or.inr rfl))) (fun _ _ _ _ _ => dts_nil) (fun _ _ _ _ _ => (de_c1 0 c_l_set (hr.mono (by decide)) (by rfl) (da_cons (de_v 1) da_nil)))) da_nil)))))) ?_)
  rintro xs ds Q hl ⟨c, A, m, rfl, hA, hS, m0, m1, hc, q⟩
  walk_at "s"
  refine ⟨⟨by omega, by omega⟩, rfl, ?_⟩
  refine set_turns (A := A) (mm := .int m) hA m.toNat (List.range m.toNat) c xs [] (by simp) hS (by omega) (by simp; omega) (by intro s hs; cases hs) fun ss xs2 h1 h2 hS2 => ?_
  walk_at "s"
  have hl2 : ss.length = m.toNat := by simpa using h2
  refine ⟨.fz (.tup (.str "row" :: ss.map fun s => toD (.set s))), ?_, xs2, rfl, ?_⟩
  · show (if ([D.str "row"].length + (ss.map fun s => toD (.set s)).length ≤ 16000) then _ else _) = _
    rw [if_pos (by simp; omega)]
    rfl
  · have := q ss xs2 h1 hl2 (hS2.mono (by omega))
    rw [toD, toDL_map, List.map_map] at this
    exact this
end
end Cut
namespace Cut
open PySem L2 DL
/-! ### expressions whose sets are those of the alphabet -/
mutual
def stR (A : Str) : Rx → Bool
  | .set s => isSetM A [.str s] && decide (s.length ≤ 6)
  | .row ps | .any ps | .all ps => stRL A ps
  | .no p => stR A p
  | .again p _ _ => stR A p
def stRL (A : Str) : List Rx → Bool
  | [] => true
  | p :: ps => stR A p && stRL A ps
end
theorem stRL_all (A : Str) : ∀ ps, (∀ p ∈ ps, stR A p = true) → stRL A ps = true
  | [], _ => rfl
  | p :: ps, h => by rw [stRL, h p (List.mem_cons_self ..), stRL_all A ps fun q hq => h q (List.mem_cons_of_mem _ hq)]; rfl
theorem okRL_all : ∀ ps, (∀ p ∈ ps, okR p = true) → okRL ps = true
  | [], _ => rfl
  | p :: ps, h => by rw [okRL, h p (List.mem_cons_self ..), okRL_all ps fun q hq => h q (List.mem_cons_of_mem _ hq)]; rfl
mutual
theorem exprR (A : Str) : ∀ r, stR A r = true → okR r = true → isExpr A (toD r) = true
  | .set s, h, _ => by
    rw [toD, isExpr, exprB, if_pos rfl]
    rw [stR, Bool.and_eq_true] at h
    exact h.1
  | .row ps, h, o => by
    rw [toD, isExpr, exprB, if_neg k1, if_neg k2, if_neg (by rintro (⟨z, _⟩ | z); exact k3 z; exact z (.inl rfl))]
    rw [okR, Bool.and_eq_true] at o
    exact exprRL A ps h o.2
  | .any ps, h, o => by
    rw [toD, isExpr, exprB, if_neg k4, if_neg k5, if_neg (by rintro (⟨z, _⟩ | z); exact k6 z; exact z (.inr (.inl rfl)))]
    rw [okR, Bool.and_eq_true] at o
    exact exprRL A ps h o.2
  | .all ps, h, o => by
    rw [toD, isExpr, exprB, if_neg k7, if_neg k8, if_neg (by rintro (⟨z, _⟩ | z); exact k9 z; exact z (.inr (.inr (.inl rfl))))]
    rw [okR, Bool.and_eq_true] at o
    exact exprRL A ps h o.2
  | .no p, h, o => by
    rw [toD, isExpr, exprB, if_neg k10, if_neg k11, if_neg (by rintro (⟨_, z⟩ | z); exact z rfl; exact z (.inr (.inr (.inr rfl)))), isExprM, isExprM, exprR A p h o]
    rfl
  | .again p lo hi, h, o => by
    rw [okR, Bool.and_eq_true, Bool.and_eq_true, Bool.and_eq_true] at o
    rw [toD, isExpr, exprB, if_neg k12, if_pos rfl, isExprM, isExprM, isExprM, isExprM, againB, exprR A p h o.1.1.1, Bool.true_and, loB, o.1.1.2, o.1.2]
    have o2 := o.2
    cases hi with
    | none => rfl
    | some hh => exact o2
theorem exprRL (A : Str) : ∀ ps, stRL A ps = true → okRL ps = true → (isExprM A (toDL ps)).all id = true
  | [], _, _ => rfl
  | p :: ps, h, o => by
    rw [stRL, Bool.and_eq_true] at h
    rw [okRL, Bool.and_eq_true] at o
    rw [toDL, isExprM, List.all_cons, exprR A p h.1 o.1, exprRL A ps h.2 o.2]
    rfl
end
/-! ### values, depths -/
theorem strlen_set : ("set" : Str).length = 3 := by decide +kernel
theorem strlen_row : ("row" : Str).length = 3 := by decide +kernel
theorem strlen_any : ("any" : Str).length = 3 := by decide +kernel
theorem strlen_all : ("all" : Str).length = 3 := by decide +kernel
theorem strlen_not : ("not" : Str).length = 3 := by decide +kernel
theorem strlen_again : ("again" : Str).length = 5 := by decide +kernel
theorem val_hi (hi : Option Int) : val (hiD hi) = true := by cases hi <;> rfl
theorem dep_hi (hi : Option Int) : dep (hiD hi) = 0 := by cases hi <;> rfl
mutual
theorem val_toD : ∀ r, okR r = true → val (toD r) = true
  | .set s, h => by
    rw [okR] at h
    simp only [toD, val, valL, strlen_set, h]
    rfl
  | .row ps, h => by
    rw [okR, Bool.and_eq_true] at h
    have := of_decide_eq_true h.1
    simp only [toD, val, valL, strlen_row, val_toDL ps h.2, List.length_cons, toDL_len]
    simp
    omega
  | .any ps, h => by
    rw [okR, Bool.and_eq_true] at h
    have := of_decide_eq_true h.1
    simp only [toD, val, valL, strlen_any, val_toDL ps h.2, List.length_cons, toDL_len]
    simp
    omega
  | .all ps, h => by
    rw [okR, Bool.and_eq_true] at h
    have := of_decide_eq_true h.1
    simp only [toD, val, valL, strlen_all, val_toDL ps h.2, List.length_cons, toDL_len]
    simp
    omega
  | .no p, h => by
    rw [okR] at h
    simp only [toD, val, valL, strlen_not, val_toD p h]
    rfl
  | .again p lo hi, h => by
    rw [okR, Bool.and_eq_true, Bool.and_eq_true, Bool.and_eq_true] at h
    simp only [toD, val, valL, strlen_again, val_toD p h.1.1.1, val_hi]
    rfl
theorem val_toDL : ∀ ps, okRL ps = true → valL (toDL ps) = true
  | [], _ => rfl
  | p :: ps, h => by
    rw [okRL, Bool.and_eq_true] at h
    rw [toDL, valL, val_toD p h.1, val_toDL ps h.2]
    rfl
end
mutual
theorem dep_toD : ∀ r, dep (toD r) ≤ rdep r + 1
  | .set s => by simp [toD, dep, depL]
  | .row ps => by have := dep_toDL ps; simp only [toD, dep, depL, rdep]; omega
  | .any ps => by have := dep_toDL ps; simp only [toD, dep, depL, rdep]; omega
  | .all ps => by have := dep_toDL ps; simp only [toD, dep, depL, rdep]; omega
  | .no p => by have := dep_toD p; simp only [toD, dep, depL, rdep]; omega
  | .again p lo hi => by have := dep_toD p; have := dep_hi hi; simp only [toD, dep, depL, rdep]; omega
theorem dep_toDL : ∀ ps, depL (toDL ps) ≤ rdepL ps + 1
  | [] => by simp [toDL, depL]
  | p :: ps => by have := dep_toD p; have := dep_toDL ps; simp only [toDL, depL, rdepL]; omega
end
/-- a pattern of the law: what is_pattern is asked of it -/
structure Okp (A : Str) (r : Rx) : Prop where
  st : stR A r = true
  ok : okR r = true
  dp : rdep r ≤ 50
theorem sum_const {α : Type} {f : α → Int} : ∀ (l : List α) (k : Int), (∀ a ∈ l, f a = k) → (l.map f).sum = k * l.length
  | [], k, _ => by simp
  | a :: l, k, h => by
    rw [List.map_cons, List.sum_cons, h a (List.mem_cons_self ..), sum_const l k fun b hb => h b (List.mem_cons_of_mem _ hb), List.length_cons]
    rw [show ((l.length + 1 : Nat) : Int) = (l.length : Int) + 1 by omega, Int.mul_add]
    omega
theorem all_const {α : Type} {f : α → Bool} (l : List α) (h : ∀ a ∈ l, f a = true) : (l.map f).all id = true := by
  rw [List.all_eq_true]
  intro x hx
  obtain ⟨a, ha, rfl⟩ := List.mem_map.mp hx
  exact h a ha
/-- an again's numbers -/
def fcI (lo : Int) (hi : Option Int) : Int := match hi with | none => lo + 1 | some h => mx1 h
theorem wd_again (p : Rx) (lo : Int) (hi : Option Int) : wd (.again p lo hi) = mx1 (wd p) * fcI lo hi := by cases hi <;> rfl
theorem stR_sets {A : Str} {ss : List Str} (h : setsOk A ss) : ∀ p ∈ ss.map Rx.set, stR A p = true := by
  intro p hp
  obtain ⟨s, hs, rfl⟩ := List.mem_map.mp hp
  rw [stR, (h s hs).1, decide_eq_true (h s hs).2]
  rfl
theorem okR_set {A : Str} {s : Str} (h : s.length ≤ 6) : okR (.set s) = true := by rw [okR]; exact decide_eq_true (by omega)
theorem okR_sets {A : Str} {ss : List Str} (h : setsOk A ss) : ∀ p ∈ ss.map Rx.set, okR p = true := by
  intro p hp
  obtain ⟨s, hs, rfl⟩ := List.mem_map.mp hp
  exact okR_set (A := A) (h s hs).2
theorem wd_sets (ss : List Str) : (wdL (ss.map Rx.set)).sum = (ss.length : Int) := by
  rw [wdL_map, sum_const _ 1 (by intro p hp; obtain ⟨s, _, rfl⟩ := List.mem_map.mp hp; rfl), List.length_map]
  omega
theorem cnt_sets (ss : List Str) : (cntL (ss.map Rx.set)).sum = (ss.length : Int) := by
  rw [cntL_map, sum_const _ 1 (by intro p hp; obtain ⟨s, _, rfl⟩ := List.mem_map.mp hp; rfl), List.length_map]
  omega
theorem plain_sets (ss : List Str) : (plainL (ss.map Rx.set)).all id = true := by
  rw [plainL_map]
  exact all_const _ (by intro p hp; obtain ⟨s, _, rfl⟩ := List.mem_map.mp hp; rfl)
theorem hasP_sets (ss : List Str) : (hasPL (ss.map Rx.set)).all id = true := by
  rw [hasPL_map]
  exact all_const _ (by intro p hp; obtain ⟨s, _, rfl⟩ := List.mem_map.mp hp; rfl)
theorem rdepL_le : ∀ (ps : List Rx) (n : Nat), (∀ p ∈ ps, rdep p ≤ n) → rdepL ps ≤ n
  | [], n, _ => Nat.zero_le _
  | p :: ps, n, h => by
    have h1 := h p (List.mem_cons_self ..)
    have h2 := rdepL_le ps n fun q hq => h q (List.mem_cons_of_mem _ hq)
    rw [rdepL]
    omega
theorem rdep_sets (ss : List Str) : rdepL (ss.map Rx.set) = 0 := by
  have := rdepL_le (ss.map Rx.set) 0 (by intro p hp; obtain ⟨s, _, rfl⟩ := List.mem_map.mp hp; exact Nat.le_refl _)
  omega
theorem mx1_of {j : Int} (h : 1 ≤ j) : mx1 j = j := by unfold mx1; split <;> omega
/-- row, any or all of parts -/
def mk (w : Nat) (ps : List Rx) : Rx := match w with | 0 => .row ps | 1 => .any ps | _ => .all ps
theorem toD_mk (w : Nat) (ps : List Rx) : toD (mk w ps) = .tup (.str (match w with | 0 => "row" | 1 => "any" | _ => "all") :: toDL ps) := by
  match w with
  | 0 => exact toD.eq_2 ps
  | 1 => exact toD.eq_3 ps
  | n + 2 => exact toD.eq_4 ps
theorem Okp.of {A : Str} {w : Nat} {ps : List Rx} (h1 : ∀ p ∈ ps, stR A p = true) (h2 : ∀ p ∈ ps, okR p = true) (h3 : ps.length ≤ 9999) (h4 : rdepL ps ≤ 40) : Okp A (Cut.mk w ps) := by
  have e1 := stRL_all A ps h1
  have e2 := okRL_all ps h2
  have e3 : (decide (ps.length ≤ 9999) && okRL ps) = true := by rw [decide_eq_true h3, e2]; rfl
  match w with
  | 0 => exact ⟨by show stR A (.row ps) = true; rw [stR]; exact e1, by show okR (.row ps) = true; rw [okR]; exact e3, by show rdep (.row ps) ≤ 50; rw [rdep]; omega⟩
  | 1 => exact ⟨by show stR A (.any ps) = true; rw [stR]; exact e1, by show okR (.any ps) = true; rw [okR]; exact e3, by show rdep (.any ps) ≤ 50; rw [rdep]; omega⟩
  | n + 2 => exact ⟨by show stR A (.all ps) = true; rw [stR]; exact e1, by show okR (.all ps) = true; rw [okR]; exact e3, by show rdep (.all ps) ≤ 50; rw [rdep]; omega⟩
theorem wd_mk (w : Nat) (ps : List Rx) : wd (mk w ps) = mx1 (wdL ps).sum := by
  match w with
  | 0 => exact wd.eq_2 ps
  | 1 => exact wd.eq_3 ps
  | n + 2 => exact wd.eq_4 ps
theorem cnt_mk (w : Nat) (ps : List Rx) : cnt (mk w ps) = 1 + (cntL ps).sum := by
  match w with
  | 0 => exact cnt.eq_2 ps
  | 1 => exact cnt.eq_3 ps
  | n + 2 => exact cnt.eq_4 ps
theorem hasP_mk (w : Nat) (ps : List Rx) (h1 : (plainL ps).all id = true) (h2 : (hasPL ps).all id = true) : hasP (mk w ps) = true := by
  match w with
  | 0 => exact (hasP.eq_2 ps).trans h1
  | 1 => show hasP (.any ps) = true; rw [hasP]; exact h2
  | n + 2 => show hasP (.all ps) = true; rw [hasP]; exact h2
/-- ["row", "any", "all"][draw] -/
theorem word3 {j : Int} (j0 : 0 ≤ j) (j1 : j < 3) : ∃ w : Nat, atI ([.str "row", .str "any", .str "all"] : List D) j = some (.str (match w with | 0 => "row" | 1 => "any" | _ => "all")) := by
  have h : j = 0 ∨ j = 1 ∨ j = 2 := by omega
  rcases h with rfl | rfl | rfl
  · exact ⟨0, rfl⟩
  · exact ⟨1, rfl⟩
  · exact ⟨2, rfl⟩
theorem add_tup {a b : List D} (h : a.length + b.length ≤ 16000) : addD (.tup a) (.tup b) = some (.fz (.tup (a ++ b))) := by
  show (if _ then _ else _) = _
  rw [if_pos h]
theorem mul_tup {a : List D} {k : Int} (h1 : a ≠ []) (h2 : 0 ≤ k) (h3 : k ≤ 1000) (h4 : a.length ≤ 1000) : mulD (.tup a) (.int k) = some (.fz (.tup (List.replicate k.toNat a).flatten)) := by
  show (if _ then _ else _) = _
  rw [if_pos (decide_eq_true ⟨h1, h2, h3, h4⟩)]
theorem rep_one {α : Type} (a : α) : ∀ n, (List.replicate n [a]).flatten = List.replicate n a
  | 0 => rfl
  | n + 1 => by rw [List.replicate_succ, List.flatten_cons, rep_one a n, List.replicate_succ]; rfl
theorem toDL_rep (r : Rx) (n : Nat) : toDL (List.replicate n r) = List.replicate n (toD r) := by rw [toDL_map, List.map_replicate]
/-! ### what the drawn patterns are -/
theorem wd_row (ps : List Rx) : wd (.row ps) = mx1 (wdL ps).sum := wd.eq_2 ps
theorem wd_any (ps : List Rx) : wd (.any ps) = mx1 (wdL ps).sum := wd.eq_3 ps
theorem wd_all (ps : List Rx) : wd (.all ps) = mx1 (wdL ps).sum := wd.eq_4 ps
theorem wd_no (p : Rx) : wd (.no p) = mx1 (wd p) := wd.eq_5 p
/-- a plain pattern of at most the width R -/
structure Pln (A : Str) (R : Int) (r : Rx) : Prop where
  st : stR A r = true
  ok : okR r = true
  dp : rdep r ≤ 3
  pl : plain r = true
  wl : wd r ≤ R
  w1 : 1 ≤ wd r
  ct : cnt r ≤ R + 3
structure Pat (A : Str) (R : Int) (r : Rx) : Prop where
  st : stR A r = true
  ok : okR r = true
  dp : rdep r ≤ 5
  hp : hasP r = true
  wl : wd r ≤ R
  w1 : 1 ≤ wd r
  ct : cnt r ≤ R + 8
mutual
theorem plain_hasP : ∀ r : Rx, plain r = true → hasP r = true
  | .set _, _ => rfl
  | .row ps, h => by rw [hasP]; rw [plain] at h; exact h
  | .any ps, h => by rw [hasP]; rw [plain] at h; exact plain_hasPL ps h
  | .all _, h => by rw [plain] at h; cases h
  | .no _, h => by rw [plain] at h; cases h
  | .again p _ _, h => by rw [hasP]; rw [plain] at h; exact h
theorem plain_hasPL : ∀ ps : List Rx, (plainL ps).all id = true → (hasPL ps).all id = true
  | [], _ => rfl
  | p :: ps, h => by
    rw [plainL, List.all_cons, Bool.and_eq_true] at h
    rw [hasPL, List.all_cons, Bool.and_eq_true]
    exact ⟨plain_hasP p h.1, plain_hasPL ps h.2⟩
end
theorem Pln.pat {A : Str} {R : Int} {r : Rx} (h : Pln A R r) : Pat A R r := ⟨h.st, h.ok, Nat.le_trans h.dp (by decide), plain_hasP r h.pl, h.wl, h.w1, by have := h.ct; omega⟩
theorem Pln.set {A s : Str} {R : Int} (h1 : isSetM A [.str s] = true) (h2 : s.length ≤ 6) (hR : 1 ≤ R) : Pln A R (.set s) :=
  ⟨by rw [stR, h1, decide_eq_true h2]; rfl, okR_set (A := A) h2, by rw [rdep]; decide, rfl, hR, Int.le_refl 1, by show (1 : Int) ≤ _; omega⟩
/-- the parts of a row of sets -/
structure Sets (A : Str) (n : Int) (ps : List Rx) : Prop where
  st : stRL A ps = true
  ok : okRL ps = true
  pl : (plainL ps).all id = true
  ws : (wdL ps).sum = n
  ct : (cntL ps).sum = n
  dp : rdepL ps = 0
  ln : (ps.length : Int) = n
theorem Sets.of {A : Str} {m : Int} {ss : List Str} (h : setsOk A ss) (hl : ss.length = m.toNat) (m0 : 0 ≤ m) : Sets A m (ss.map .set) := by
  have e : (ss.length : Int) = m := by omega
  exact ⟨stRL_all A _ (stR_sets h), okRL_all _ (okR_sets h), plain_sets ss, by rw [wd_sets, e], by rw [cnt_sets, e], rdep_sets ss, by rw [List.length_map]; exact e⟩
theorem Pln.row {A : Str} {R n : Int} {ps : List Rx} (h : Sets A n ps) (n1 : 1 ≤ n) (hn : n ≤ R) (hR : R ≤ 100) : Pln A R (.row ps) := by
  have := h.ln
  refine ⟨by rw [stR]; exact h.st, by rw [okR, decide_eq_true (by omega), h.ok]; rfl, by rw [rdep, h.dp]; decide, by rw [plain]; exact h.pl, ?_, ?_, ?_⟩
  · rw [wd_row, h.ws, mx1_of n1]
    exact hn
  · rw [wd_row, h.ws, mx1_of n1]
    exact n1
  · rw [cnt, h.ct]
    omega
theorem Pln.any2 {A : Str} {R n m : Int} {ps qs : List Rx} (h : Sets A n ps) (h' : Sets A m qs) (n1 : 1 ≤ n) (m1 : 1 ≤ m) (hn : n + m = R) (hR : R ≤ 100) : Pln A R (.any [.row ps, .row qs]) := by
  have a := Pln.row h n1 (Int.le_refl n) (by omega)
  have b := Pln.row h' m1 (Int.le_refl m) (by omega)
  have e1 : wd (.row ps) = n := by rw [wd_row, h.ws, mx1_of n1]
  have e2 : wd (.row qs) = m := by rw [wd_row, h'.ws, mx1_of m1]
  have e3 : wd (.any [.row ps, .row qs]) = R := by
    rw [wd_any, wdL, wdL, wdL, e1, e2, List.sum_cons, List.sum_cons, List.sum_nil, mx1_of (by omega)]
    omega
  refine ⟨by rw [stR, stRL, stRL, stRL, a.st, b.st]; rfl, by rw [okR, okRL, okRL, okRL, a.ok, b.ok]; rfl, ?_, by rw [plain, plainL, plainL, plainL, a.pl, b.pl]; rfl, by rw [e3]; exact Int.le_refl _, by rw [e3]; omega, ?_⟩
  · rw [rdep, rdepL, rdepL, rdepL, rdep, rdep, h.dp, h'.dp]
    decide
  · rw [cnt, cntL, cntL, cntL, cnt, cnt, h.ct, h'.ct, List.sum_cons, List.sum_cons, List.sum_nil]
    omega
/-- sets and one plain part behind or ahead of them -/
theorem Pln.rowWith {A : Str} {R n : Int} {ps qs : List Rx} {p : Rx} (h : Sets A n ps) (st : stR A p = true) (ok : okR p = true) (dp : rdep p ≤ 2) (pl : plain p = true) (w0 : 0 ≤ wd p) (wl : n + wd p ≤ R) (ct : n + cnt p ≤ R + 2) (n1 : 1 ≤ n) (hR : R ≤ 100) (hq : qs = ps ++ [p] ∨ qs = p :: ps) : Pln A R (.row qs) := by
  have hl := h.ln
  have e1 : stRL A qs = true := by
    refine stRL_all A qs fun q hq' => ?_
    have hm : ∀ x ∈ ps, stR A x = true := by
      have := h.st
      clear hl
      revert this
      clear h hq hq'
      induction ps with
      | nil => intro _ x hx; cases hx
      | cons a l ih =>
        intro z x hx
        rw [stRL, Bool.and_eq_true] at z
        rcases List.mem_cons.mp hx with e | e
        · rw [e]; exact z.1
        · exact ih z.2 x e
    rcases hq with rfl | rfl
    · rcases List.mem_append.mp hq' with z | z
      · exact hm q z
      · rw [List.mem_singleton.mp z]; exact st
    · rcases List.mem_cons.mp hq' with z | z
      · rw [z]; exact st
      · exact hm q z
  have e2 : okRL qs = true := by
    refine okRL_all qs fun q hq' => ?_
    rcases hq with rfl | rfl
    · rcases List.mem_append.mp hq' with z | z
      · exact okRL_mem h.ok q z
      · rw [List.mem_singleton.mp z]; exact ok
    · rcases List.mem_cons.mp hq' with z | z
      · rw [z]; exact ok
      · exact okRL_mem h.ok q z
  have e3 : (wdL qs).sum = n + wd p := by
    rcases hq with rfl | rfl
    · rw [wdL_map, List.map_append, List.sum_append, ← wdL_map, h.ws]
      simp
    · rw [wdL, List.sum_cons, h.ws]
      omega
  have e4 : (cntL qs).sum = n + cnt p := by
    rcases hq with rfl | rfl
    · rw [cntL_map, List.map_append, List.sum_append, ← cntL_map, h.ct]
      simp
    · rw [cntL, List.sum_cons, h.ct]
      omega
  have e5 : (plainL qs).all id = true := by
    rcases hq with rfl | rfl
    · rw [plainL_map, List.map_append, List.all_append, ← plainL_map, h.pl]
      simp [pl]
    · rw [plainL, List.all_cons, h.pl, pl]
      rfl
  have e6 : rdepL qs ≤ 2 := by
    refine rdepL_le qs 2 fun q hq' => ?_
    have hm : ∀ x ∈ ps, rdep x ≤ 2 := fun x hx => by
      have := rdepL_mem (n := 1) (by rw [h.dp]; decide) x hx
      omega
    rcases hq with rfl | rfl
    · rcases List.mem_append.mp hq' with z | z
      · exact hm q z
      · rw [List.mem_singleton.mp z]; exact dp
    · rcases List.mem_cons.mp hq' with z | z
      · rw [z]; exact dp
      · exact hm q z
  have e7 : qs.length = ps.length + 1 := by rcases hq with rfl | rfl <;> simp
  refine ⟨by rw [stR]; exact e1, by rw [okR, decide_eq_true (by omega), e2]; rfl, by rw [rdep]; omega, by rw [plain]; exact e5, ?_, ?_, ?_⟩
  · rw [wd_row, e3, mx1_of (by omega)]
    exact wl
  · rw [wd_row, e3, mx1_of (by omega)]
    omega
  · rw [cnt, e4]
    omega
theorem Pat.all2 {A : Str} {R n m : Int} {p q : Rx} (h : Pln A n p) (h' : Pln A m q) (hn : n + m = R) : Pat A R (.all [p, .no q]) := by
  have a := h.w1
  have b := h'.w1
  have c := h.wl
  have d := h'.wl
  have e3 : wd (.all [p, .no q]) = wd p + wd q := by
    rw [wd_all, wdL, wdL, wdL, wd_no, mx1_of b, List.sum_cons, List.sum_cons, List.sum_nil, mx1_of (by omega)]
    omega
  refine ⟨by rw [stR, stRL, stRL, stRL, stR, h.st, h'.st]; rfl, by rw [okR, okRL, okRL, okRL, okR, h.ok, h'.ok]; rfl, ?_, ?_, by rw [e3]; omega, by rw [e3]; omega, ?_⟩
  · have := h.dp
    have := h'.dp
    rw [rdep, rdepL, rdepL, rdepL, rdep]
    omega
  · rw [hasP, hasPL, hasPL, hasPL, hasP, plain_hasP p h.pl, plain_hasP q h'.pl]
    rfl
  · have := h.ct
    have := h'.ct
    rw [cnt, cntL, cntL, cntL, cnt, List.sum_cons, List.sum_cons, List.sum_nil]
    omega
end Cut
/-! The second data layer, 1: objects that change, a heap of data, readings with a wish for what is raised. -/
namespace ML
open PySem L2 DL
/-- an object that may change -/
inductive Ob where
  | lst (xs : List D) | ins (C : Addr) (fs : List (Str × D)) | dic (kvs : List (Key × D)) | dcn (w : World) (kvs : List (NestedKey × D))
abbrev Hd := Addr → Option Ob
def put (h : Hd) (a : Addr) (o : Ob) : Hd := fun b => if b = a then some o else h b
def off (h : Hd) (a : Addr) : Hd := fun b => if b = a then none else h b
theorem put_same {h : Hd} {a : Addr} {o : Ob} : put h a o a = some o := if_pos rfl
theorem put_ne {h : Hd} {a b : Addr} {o : Ob} (e : b ≠ a) : put h a o b = h b := if_neg e
theorem off_same {h : Hd} {a : Addr} : off h a a = none := if_pos rfl
theorem off_ne {h : Hd} {a b : Addr} (e : b ≠ a) : off h a b = h b := if_neg e
theorem put_put {h : Hd} {a : Addr} {o u : Ob} : put (put h a o) a u = put h a u := by
  funext b; unfold put; split <;> rfl
theorem hd_ne {h : Hd} {a b : Addr} {o : Ob} (h1 : h a = some o) (h2 : h b = none) : a ≠ b := fun z => by rw [z, h2] at h1; cases h1
theorem off_put {h : Hd} {a : Addr} {o : Ob} (e : h a = none) : off (put h a o) a = h := by
  funext b; unfold off put; split
  · rename_i z; rw [z, e]
  · rfl
abbrev Me := List (Option D)
/-- what is raised: its class, its fields -/
structure Ex where
  C : Addr
  fs : List (Str × D)
def RepK (K : Fg) (Hf : Hp) (kws : List (Key × V)) (kvs : List (Key × D)) : Prop := kws.map (·.1) = kvs.map (·.1) ∧ RepL K Hf (kws.map (·.2)) (kvs.map (·.2))
def RepN (K : Fg) (Hf : Hp) : List NkX → List (NestedKey × D) → Prop := Paired fun x p => x.1 = p.1 ∧ KyO K Hf x ∧ Rep K Hf x.2.2 p.2
theorem RepN.mono {K : Fg} {H H' : Hp} (g : ∀ b u, H b = some u → H' b = some u) {xs : List NkX} {kvs : List (NestedKey × D)} (h : RepN K H xs kvs) : RepN K H' xs kvs := Paired.mapP h fun x p ⟨h1, ⟨d, h2, h3⟩, h4⟩ => ⟨h1, ⟨d, h2.mono g, h3⟩, h4.mono g⟩
def ObOk (K : Fg) (H Hf : Hp) (a : Addr) : Ob → Prop
  | .lst xs => ∃ ys, H a = some (.lst ys) ∧ RepL K Hf ys xs
  | .ins C fs => ∃ dx gs, H a = some (.ins C dx gs) ∧ RepF K Hf gs fs
  | .dic kvs => ∃ kws, H a = some (.dK kws) ∧ RepK K Hf kws kvs
  | .dcn w kvs => ∃ xs, H a = some (DnO w a xs) ∧ RepN K Hf xs kvs
theorem ObOk.at {K : Fg} {H Hf : Hp} {a : Addr} {o : Ob} (h : ObOk K H Hf a o) : ∃ u, H a = some u := by
  cases o with
  | lst xs => obtain ⟨ys, e, _⟩ := h; exact ⟨_, e⟩
  | ins C fs => obtain ⟨dx, gs, e, _⟩ := h; exact ⟨_, e⟩
  | dic kvs => obtain ⟨kws, e, _⟩ := h; exact ⟨_, e⟩
  | dcn w kvs => obtain ⟨xs, e, _⟩ := h; exact ⟨_, e⟩
theorem ObOk.mono {K : Fg} {H H' Hf Hf' : Hp} {a : Addr} {o : Ob} (h : ObOk K H Hf a o) (e : ∀ u, H a = some u → H' a = some u) (g : ∀ b u, Hf b = some u → Hf' b = some u) : ObOk K H' Hf' a o := by
  cases o with
  | lst xs => obtain ⟨ys, h1, h2⟩ := h; exact ⟨ys, e _ h1, h2.mono g⟩
  | ins C fs => obtain ⟨dx, gs, h1, h2⟩ := h; exact ⟨dx, gs, e _ h1, h2.mono g⟩
  | dic kvs => obtain ⟨kws, h1, h2, h3⟩ := h; exact ⟨kws, e _ h1, h2, h3.mono g⟩
  | dcn w kvs => obtain ⟨xs, h1, h2⟩ := h; exact ⟨xs, e _ h1, h2.mono g⟩
/-- the heap of data is held -/
structure Hs (K : Fg) (H Hf : Hp) (h : Hd) : Prop where
  sub : ∀ b o, Hf b = some o → H b = some o
  hp : ∀ a o, h a = some o → Hf a = none ∧ ObOk K H Hf a o
/-- movement -/
structure Mo (h h' : Hd) (H H' Hf Hf' : Hp) : Prop where
  keep : ∀ b o, H b = some o → h b = none → H' b = some o
  live : ∀ b, H' b = none → H b = none
  grow : ∀ b o, Hf b = some o → Hf' b = some o
  new : ∀ b o, Hf' b = some o → Hf b = some o ∨ H b = none ∨ ∃ u, h b = some u
  own : ∀ b u, h' b = some u → (∃ u', h b = some u') ∨ H b = none
section
variable {K : Fg} {h h1 h2 : Hd} {H H1 H2 Hf Hf1 Hf2 : Hp}
theorem Mo.refl (h : Hd) (H Hf : Hp) : Mo h h H H Hf Hf := ⟨fun _ _ q _ => q, fun _ q => q, fun _ _ q => q, fun _ _ q => .inl q, fun _ u q => .inl ⟨u, q⟩⟩
theorem Mo.trans (m : Mo h h1 H H1 Hf Hf1) (n : Mo h1 h2 H1 H2 Hf1 Hf2) : Mo h h2 H H2 Hf Hf2 where
  keep := fun b o q z => n.keep b o (m.keep b o q z) (by
    cases e : h1 b with
    | none => rfl
    | some u =>
      rcases m.own b u e with ⟨u', w⟩ | w
      · rw [z] at w; cases w
      · rw [q] at w; cases w)
  live := fun b q => m.live b (n.live b q)
  grow := fun b o q => n.grow b o (m.grow b o q)
  new := fun b o q => by
    rcases n.new b o q with q | q | ⟨u, q⟩
    · exact m.new b o q
    · exact .inr (.inl (m.live b q))
    · rcases m.own b u q with q | q
      · exact .inr (.inr q)
      · exact .inr (.inl q)
  own := fun b u q => by
    rcases n.own b u q with ⟨u', q⟩ | q
    · exact m.own b u' q
    · exact .inr (m.live b q)
theorem Hs.free (s : Hs K H Hf h) {a : Addr} (n : H a = none) : h a = none := by
  cases e : h a with
  | none => rfl
  | some o =>
    obtain ⟨u, z⟩ := (s.hp a o e).2.at
    rw [n] at z; cases z
theorem Hs.freeF (s : Hs K H Hf h) {a : Addr} (n : H a = none) : Hf a = none := by
  cases e : Hf a with
  | none => rfl
  | some o => rw [s.sub a o e] at n; cases n
/-- the heap grows, nothing that was there is touched -/
theorem Hs.ext (s : Hs K H Hf h) (x : Ext H H1 Hf Hf1) : Hs K H1 Hf1 h where
  sub := x.sub
  hp := fun a o q => by
    obtain ⟨z1, z2⟩ := s.hp a o q
    refine ⟨?_, z2.mono (x.same a) x.grow⟩
    cases e : Hf1 a with
    | none => rfl
    | some u =>
      obtain ⟨w, hw⟩ := z2.at
      rcases x.new a u e with e | e
      · rw [z1] at e; cases e
      · rw [hw] at e; cases e
theorem Mo.ext (x : Ext H H1 Hf Hf1) : Mo h h H H1 Hf Hf1 := ⟨fun b o q _ => x.same b o q, x.live, x.grow, fun b o q => (x.new b o q).imp id .inl, fun _ u q => .inl ⟨u, q⟩⟩
/-- what is told of is less -/
theorem Hs.less (s : Hs K H Hf h) (l : ∀ a o, h1 a = some o → h a = some o) : Hs K H Hf h1 := ⟨s.sub, fun a o q => s.hp a o (l a o q)⟩
theorem Mo.less (m : Mo h h1 H H1 Hf Hf1) (l : ∀ a o, h2 a = some o → h1 a = some o) : Mo h h2 H H1 Hf Hf1 := ⟨m.keep, m.live, m.grow, m.new, fun b u q => m.own b u (l b u q)⟩
/-- an object is changed -/
theorem Hs.upd (s : Hs K H Hf h) {a : Addr} {o : Ob} {u : HO} (q : (∃ o', h a = some o') ∨ H a = none) (ok : ∀ H' : Hp, H' a = some u → ObOk K H' Hf a o) : Hs K (upd H a u) Hf (put h a o) := by
  have nf : Hf a = none := by
    rcases q with ⟨o', q⟩ | q
    · exact (s.hp a o' q).1
    · exact s.freeF q
  refine ⟨fun b v z => ?_, fun b v z => ?_⟩
  · rw [upd_ne (ne_of_none z nf)]; exact s.sub b v z
  · by_cases hb : b = a
    · subst hb
      rw [put_same] at z; cases z
      exact ⟨nf, ok _ upd_same⟩
    · rw [put_ne hb] at z
      obtain ⟨z1, z2⟩ := s.hp b v z
      exact ⟨z1, z2.mono (fun w hw => by rw [upd_ne hb]; exact hw) fun _ _ w => w⟩
theorem Mo.upd {a : Addr} {o : Ob} {u : HO} (q : (∃ o', h a = some o') ∨ H a = none) : Mo h (put h a o) H (upd H a u) Hf Hf where
  keep := fun b v z n => by
    have hb : b ≠ a := fun e => by
      subst e
      rcases q with ⟨o', q⟩ | q
      · rw [n] at q; cases q
      · rw [z] at q; cases q
    rw [upd_ne hb]; exact z
  live := fun b z => by
    by_cases hb : b = a
    · subst hb; rw [upd_same] at z; cases z
    · rw [upd_ne hb] at z; exact z
  grow := fun _ _ z => z
  new := fun _ _ z => .inl z
  own := fun b v z => by
    by_cases hb : b = a
    · subst hb; exact q
    · rw [put_ne hb] at z; exact .inl ⟨v, z⟩
end
/-- what was when a stretch of code began; what is wanted of what it raises -/
structure Rg where
  H0 : Hp
  Hf0 : Hp
  h0 : Hd
  ω : Ex → Me → Hd → Prop
abbrev Wω := Ex → Me → Hd → Prop
def XRep (K : Fg) (Hf : Hp) (d : Option Addr) (fs : List (Str × D)) : Prop := (d = none ∧ fs = []) ∨ ∃ a gs, d = some a ∧ Hf a = some (.xd gs) ∧ RepF K Hf gs fs
structure Sd (K : Fg) (Hf : Hp) (σ : St) (ρ : Me) : Prop where
  at_ : ∀ (i : Nat) (d : D), ρ[i]? = some (some d) → ∃ v, σ[i]? = some (some v) ∧ Rep K Hf v d
  len : σ.length = ρ.length
theorem Sd.mono {K : Fg} {Hf Hf' : Hp} {σ : St} {ρ : Me} (s : Sd K Hf σ ρ) (g : ∀ b o, Hf b = some o → Hf' b = some o) : Sd K Hf' σ ρ := ⟨fun i d h => let ⟨v, h1, h2⟩ := s.at_ i d h; ⟨v, h1, h2.mono g⟩, s.len⟩
def wishM (K : Fg) (R : Rg) : WX := fun cls d σ H => ∃ C fs Hf ρ h, cls = .ref C ∧ XRep K Hf d fs ∧ Sd K Hf σ ρ ∧ Hs K H Hf h ∧ Mo R.h0 h R.H0 H R.Hf0 Hf ∧ R.ω ⟨C, fs⟩ ρ h
/-- what is wanted of what is raised; what is known of what stays -/
structure Wd where
  x : WX
  g : Hp → Prop
  mono : ∀ Hf Hf', (∀ b o, Hf b = some o → Hf' b = some o) → g Hf → g Hf'
/-- nothing is known -/
abbrev wd (x : WX) : Wd := ⟨x, fun _ => True, fun _ _ _ h => h⟩
structure RE (K : Fg) (W : Wd) (R : Rg) (H Hf : Hp) (σ : St) (ρ : Me) (h : Hd) : Prop where
  ok : ∀ cls d σ H, wishM K R cls d σ H → W.x cls d σ H
  gh : W.g Hf
  sl : Sd K Hf σ ρ
  hs : Hs K H Hf h
  mv : Mo R.h0 h R.H0 H R.Hf0 Hf
/-- a result -/
def RO (K : Fg) (H H' Hf' : Hp) (h' : Hd) (v : V) : Res → Prop
  | .fz d => Rep K Hf' v d
  | .fr xs => ∃ a ys, v = .ref a ∧ H' a = some (.lst ys) ∧ Hf' a = none ∧ h' a = none ∧ H a = none ∧ RepL K Hf' ys xs
section
variable {K : Fg} {W : Wd} {R : Rg} {h h1 h2 : Hd} {H H1 H2 Hf Hf1 Hf2 : Hp} {σ : St} {ρ : Me}
theorem RE.step (e : RE K W R H Hf σ ρ h) (s : Hs K H1 Hf1 h1) (m : Mo h h1 H H1 Hf Hf1) : RE K W R H1 Hf1 σ ρ h1 := ⟨e.ok, W.mono _ _ m.grow e.gh, e.sl.mono m.grow, s, e.mv.trans m⟩
theorem RE.ext (e : RE K W R H Hf σ ρ h) (x : Ext H H1 Hf Hf1) : RE K W R H1 Hf1 σ ρ h := e.step (e.hs.ext x) (Mo.ext x)
theorem RO.of (s : Hs K H Hf h) (x : Ext H H1 Hf Hf1) {v : V} {r : Res} (k : ResOk K H H1 Hf1 v r) : RO K H H1 Hf1 h v r := by
  cases r with
  | fz d => exact k
  | fr xs =>
    obtain ⟨a, ys, e1, e2, e3, e4, e5⟩ := k
    exact ⟨a, ys, e1, e2, e3, s.free e4, e4, e5⟩
theorem RO.back {v : V} {r : Res} (l : ∀ b, H1 b = none → H b = none) (k : RO K H1 H2 Hf2 h2 v r) : RO K H H2 Hf2 h2 v r := by
  cases r with
  | fz d => exact k
  | fr xs =>
    obtain ⟨a, ys, e1, e2, e3, e4, e5, e6⟩ := k
    exact ⟨a, ys, e1, e2, e3, e4, l _ e5, e6⟩
/-- a new list is frozen -/
theorem RO.freeze {v : V} {r : Res} (s : Hs K H1 Hf1 h1) (m : Mo h h1 H H1 Hf Hf1) (k : RO K H H1 Hf1 h1 v r) : ∃ Hf2, Hs K H1 Hf2 h1 ∧ Mo h h1 H H1 Hf Hf2 ∧ Rep K Hf2 v r.dat := by
  cases r with
  | fz d => exact ⟨Hf1, s, m, k⟩
  | fr xs =>
    obtain ⟨a, ys, rfl, e2, e3, e4, e5, e6⟩ := k
    have g : ∀ b o, Hf1 b = some o → upd Hf1 a (.lst ys) b = some o := fun b o q => by rw [upd_ne (ne_of_none q e3)]; exact q
    refine ⟨upd Hf1 a (.lst ys), ⟨fun b o q => ?_, fun b o q => ?_⟩, ⟨m.keep, m.live, fun b o q => g b o (m.grow b o q), fun b o q => ?_, m.own⟩, .lst upd_same (e6.mono g)⟩
    · by_cases hb : b = a
      · subst hb; rw [upd_same] at q; rw [e2]; exact q
      · rw [upd_ne hb] at q; exact s.sub b o q
    · obtain ⟨z1, z2⟩ := s.hp b o q
      have hb : b ≠ a := hd_ne q e4
      exact ⟨by rw [upd_ne hb]; exact z1, z2.mono (fun _ w => w) g⟩
    · by_cases hb : b = a
      · subst hb; exact .inr (.inl e5)
      · rw [upd_ne hb] at q; exact m.new b o q
/-- .. or is one's own -/
theorem RO.take {v : V} {xs : List D} (s : Hs K H1 Hf1 h1) (m : Mo h h1 H H1 Hf Hf1) (k : RO K H H1 Hf1 h1 v (.fr xs)) : ∃ a, v = .ref a ∧ h1 a = none ∧ H a = none ∧ Hs K H1 Hf1 (put h1 a (.lst xs)) ∧ Mo h (put h1 a (.lst xs)) H H1 Hf Hf1 := by
  obtain ⟨a, ys, rfl, e2, e3, e4, e5, e6⟩ := k
  refine ⟨a, rfl, e4, e5, ⟨s.sub, fun b o q => ?_⟩, ⟨m.keep, m.live, m.grow, m.new, fun b o q => ?_⟩⟩
  · by_cases hb : b = a
    · subst hb; rw [put_same] at q; cases q; exact ⟨e3, ys, e2, e6⟩
    · rw [put_ne hb] at q; exact s.hp b o q
  · by_cases hb : b = a
    · subst hb; exact .inr e5
    · rw [put_ne hb] at q; exact m.own b o q
end
/-! ### expressions -/
abbrev TM := Wω → Me → Hd → (Res → Hd → Prop) → Prop
def SndE (K : Fg) (W : Wd) (t : TE) (τ : TM) : Prop := ∀ (σ : St) (H Hf : Hp) (ρ : Me) (h : Hd) (R : Rg) (P : Res → Hd → Prop) (Q : VK), RE K W R H Hf σ ρ h → τ R.ω ρ h P →
  (∀ v H' Hf' r h', RE K W R H' Hf' σ ρ h' → Mo h h' H H' Hf Hf' → RO K H H' Hf' h' v r → P r h' → Q v H') → t σ H Q
def SndF (K : Fg) (W : Wd) (t : TE) (τ : TM) : Prop := ∀ (σ : St) (H Hf : Hp) (ρ : Me) (h : Hd) (R : Rg) (P : D → Hd → Prop) (Q : VK), RE K W R H Hf σ ρ h → τ R.ω ρ h (fun r h' => P r.dat h') →
  (∀ v H' Hf' d h', RE K W R H' Hf' σ ρ h' → Mo h h' H H' Hf Hf' → Rep K Hf' v d → P d h' → Q v H') → t σ H Q
def canM (K : Fg) (W : Wd) (τ : TM) : TE := fun σ H Q => ∃ (R : Rg) (Hf : Hp) (ρ : Me) (h : Hd) (P : Res → Hd → Prop), RE K W R H Hf σ ρ h ∧ τ R.ω ρ h P ∧
  ∀ v H' Hf' r h', RE K W R H' Hf' σ ρ h' → Mo h h' H H' Hf Hf' → RO K H H' Hf' h' v r → P r h' → Q v H'
structure ME (X : Cx) (W : Wd) (e : Expr) (τ : TM) : Prop where
  pe : PE X e (canM X.K W τ)
section
variable {X : Cx} {W : Wd} {e : Expr} {τ : TM}
theorem ME.of {t : TE} (h : PE X e t) (k : SndE X.K W t τ) : ME X W e τ :=
  ⟨⟨fun pins s σ H Q I ⟨R, Hf, ρ, hd, P, e, q, kk⟩ => h.run pins s σ H Q I (k σ H Hf ρ hd R P Q e q kk)⟩⟩
theorem ME.ex (h : ME X W e τ) : ∃ t, PE X e t ∧ SndE X.K W t τ := ⟨_, h.pe, fun σ H Hf ρ hd R P Q e q k => ⟨R, Hf, ρ, hd, P, e, q, k⟩⟩
theorem SndE.fz {K : Fg} {t : TE} (s : SndE K W t τ) : SndF K W t τ := fun σ H Hf ρ h R P Q e q k => s σ H Hf ρ h R _ Q e q fun v H' Hf' r h' e1 m1 r1 p1 => by
  obtain ⟨Hf2, s2, m2, r2⟩ := r1.freeze e1.hs m1
  exact k v H' Hf2 r.dat h' (e.step s2 m2) m2 r2 p1
theorem ME.fz (h : ME X W e τ) : ∃ t, PE X e t ∧ SndF X.K W t τ := let ⟨t, p, s⟩ := h.ex; ⟨t, p, s.fz⟩
end
/-! ### constants, names -/
section
variable {X : Cx} {W : Wd} {pos : Pos}
def mK (d : D) : TM := fun _ _ h P => P (.fz d) h
theorem me_tC {e : Expr} {v : V} {d : D} (h : PE X e (tC v)) (r : ∀ H, Rep X.K H v d) : ME X W e (mK d) := ME.of h fun σ H Hf ρ h R P Q e q k => k v H Hf (.fz d) h e (Mo.refl ..) (r _) q
theorem me_int {i : Int} {j : Nat} : ME X W (.Constant (.int i) j pos) (mK (.int i)) := me_tC pe_int fun _ => .int i
theorem me_bl {b : Bool} {j : Nat} : ME X W (.Constant (.bool b) j pos) (mK (.bl b)) := me_tC pe_bl fun _ => .bl b
theorem me_non {j : Nat} : ME X W (.Constant .none j pos) (mK .non) := me_tC pe_non fun _ => .non
theorem me_str {x : Str} {j : Nat} : ME X W (.Constant (.str x) j pos) (mK (.str x)) := me_tC pe_str fun _ => .str x
theorem me_g {x : Str} {d : D} (h : Gc X.K X.mg x d) (hg : Gl X x) (hd : (x == ("__debug__" : Str)) = false := by decide) : ME X W (.Name x pos) (mK d) := let ⟨_, _, h1, h2, h3⟩ := h; me_tC (pe_glob hg h1 h2 hd) h3
theorem me_ty {x : Str} {n : String} (hg : Gl X x) (hm : X.mg x = none) (hv : bootBuiltins x = some (.type n)) (hn : x ≠ "__name__" := by decide) (hd : (x == ("__debug__" : Str)) = false := by decide) : ME X W (.Name x pos) (mK (.ty n)) :=
  me_tC (pe_bltn hg hm hv (v := .ty n) rfl hn hd) fun _ => .ty n
def mV (i : Nat) : TM := fun _ ρ h P => ∃ d, ρ[i]? = some (some d) ∧ P (.fz d) h
theorem me_v (i : Nat) {x : Str} (hN : X.N[i]? = some x := by rfl) (hv : Vis X.env.scope x := by first | exact Or.inl rfl | exact Or.inr (Or.inl rfl) | exact Or.inr (Or.inr rfl)) (hd : (x == ("__debug__" : Str)) = false := by decide) (hcd : (x == ("__classdict__" : Str)) = false := by decide) :
    ME X W (.Name x pos) (mV i) := ME.of (pe_var hN hv hd hcd) fun σ H Hf ρ h R P Q e ⟨d, hi, q⟩ k => by
  obtain ⟨v, h1, h2⟩ := e.sl.at_ i _ hi
  exact ⟨v, h1, k v H Hf (.fz d) h e (Mo.refl ..) h2 q⟩
end
/-! ### lists of one's own seen as data -/
def vw (h : Hd) : D → D
  | .raw (.ref a) => match h a with
    | some (.lst xs) => .lst xs
    | _ => .raw (.ref a)
  | d => d
def hfv (H Hf : Hp) (h : Hd) : Hp := fun b => match Hf b with
  | some o => some o
  | none => match h b with
    | some (.lst _) => H b
    | _ => none
section
variable {K : Fg} {H H1 Hf Hf1 : Hp} {h : Hd}
theorem hfv_sub (s : Hs K H Hf h) : ∀ b o, hfv H Hf h b = some o → H b = some o := fun b o q => by
  unfold hfv at q
  cases e : Hf b with
  | some u => rw [e] at q; cases q; exact s.sub b _ e
  | none =>
    rw [e] at q
    cases e2 : h b with
    | none => rw [e2] at q; cases q
    | some u =>
      rw [e2] at q
      cases u with
      | lst xs => exact q
      | ins C fs => cases q
      | dic kvs => cases q
      | dcn w kvs => cases q
theorem hfv_grow : ∀ b o, Hf b = some o → hfv H Hf h b = some o := fun b o q => by unfold hfv; rw [q]
theorem Rep.vw (s : Hs K H Hf h) {v : V} {d : D} (r : Rep K Hf v d) : Rep K (hfv H Hf h) v (vw h d) := by
  cases r with
  | raw v =>
    cases v with
    | ref a =>
      unfold ML.vw
      cases e : h a with
      | none => simp only [e]; exact .raw _
      | some o =>
        cases o with
        | lst xs =>
          simp only [e]
          obtain ⟨z1, ys, z2, z3⟩ := s.hp a _ e
          refine .lst ?_ (z3.mono hfv_grow)
          unfold hfv
          rw [z1, e]
          exact z2
        | ins C fs => simp only [e]; exact .raw _
        | dic kvs => simp only [e]; exact .raw _
        | dcn w kvs => simp only [e]; exact .raw _
    | _ => exact .raw _
  | non => exact .non
  | bl b => exact .bl b
  | int i => exact .int i
  | str x => exact .str x
  | ty n => exact .ty n
  | scr q => exact .scr (sqL_same hfv_grow q)
  | tup q r => exact .tup (sqT_same hfv_grow q) (r.mono hfv_grow)
  | lst q r => exact .lst (hfv_grow _ _ q) (r.mono hfv_grow)
  | obj q r => exact .obj (hfv_grow _ _ q) (r.mono hfv_grow)
theorem RepL.vw (s : Hs K H Hf h) : ∀ {vs : List V} {ds : List D}, RepL K Hf vs ds → RepL K (hfv H Hf h) vs (ds.map (ML.vw h))
  | _, _, .nil => .nil
  | _, _, .cons a r => .cons (Rep.vw s a) (RepL.vw s r)
theorem Rep.flat_any {v : V} {d : D} (r : Rep K Hf v d) (f : d.flat = true) (Hf' : Hp) : Rep K Hf' v d := by
  cases r <;> first | (simp [D.flat] at f; done) | constructor
/-- a step that leaves all as it was, read by the seen lists -/
theorem ext_seen (s : Hs K H Hf h) (x : Ext H H1 (hfv H Hf h) Hf1) : Ext H H1 Hf Hf := ⟨x.same, fun b o q => x.same b o (s.sub b o q), fun _ _ q => q, fun _ _ q => .inl q⟩
end
end ML
/-! The second data layer, 2: operators, tests, displays, subscripts, slices, built-ins. -/
namespace ML
open PySem L2 DL
def mBin (g : D → D → Option Res) (a b : TM) : TM := fun ω ρ h P => a ω ρ h fun x h1 => b ω ρ h1 fun y h2 => ∃ c, g x.dat y.dat = some c ∧ P c h2
/-- .. where lists of one's own are seen -/
def mBinV (g : D → D → Option Res) (a b : TM) : TM := fun ω ρ h P => a ω ρ h fun x h1 => b ω ρ h1 fun y h2 => ∃ c, g (vw h2 x.dat) (vw h2 y.dat) = some (.fz c) ∧ c.flat = true ∧ P (.fz c) h2
section
variable {X : Cx} {W : Wd} {a b c e : Expr} {rest : List Expr} {τa τb τc : TM} {pos : Pos} {r r' : R2} {g g' : D → D → Option Res}
theorem run2 {K : Fg} {ta tb : TE} (hs : OpS K r g) (sa : SndF K W ta τa) (sb : SndF K W tb τb) : SndE K W (tOp r ta tb) (mBin g τa τb) := fun σ H Hf ρ h R P Q e q k => by
  refine sa σ H Hf ρ h R (fun x h1 => τb R.ω ρ h1 fun y h2 => ∃ c, g x y.dat = some c ∧ P c h2) _ e q fun x H1 Hf1 dx h1 e1 m1 r1 q1 => ?_
  refine sb σ H1 Hf1 ρ h1 R (fun y h2 => ∃ c, g dx y = some c ∧ P c h2) _ e1 q1 fun y H2 Hf2 dy h2 e2 m2 r2 ⟨c, hc, p⟩ => ?_
  refine hs H2 Hf2 x y dx dy c Q e2.hs.sub (r1.mono m2.grow) r2 hc fun v H3 Hf3 x3 ok => ?_
  exact k v H3 Hf3 c h2 (e2.ext x3) ((m1.trans m2).trans (Mo.ext x3)) ((RO.of e2.hs x3 ok).back (m1.trans m2).live) p
theorem run2V {K : Fg} {ta tb : TE} (hs : OpS K r g) (sa : SndF K W ta τa) (sb : SndF K W tb τb) : SndE K W (tOp r ta tb) (mBinV g τa τb) := fun σ H Hf ρ h R P Q e q k => by
  refine sa σ H Hf ρ h R (fun x h1 => τb R.ω ρ h1 fun y h2 => ∃ c, g (vw h2 x) (vw h2 y.dat) = some (.fz c) ∧ c.flat = true ∧ P (.fz c) h2) _ e q fun x H1 Hf1 dx h1 e1 m1 r1 q1 => ?_
  refine sb σ H1 Hf1 ρ h1 R (fun y h2 => ∃ c, g (vw h2 dx) (vw h2 y) = some (.fz c) ∧ c.flat = true ∧ P (.fz c) h2) _ e1 q1 fun y H2 Hf2 dy h2 e2 m2 r2 ⟨c, hc, hf, p⟩ => ?_
  refine hs H2 (hfv H2 Hf2 h2) x y (vw h2 dx) (vw h2 dy) _ Q (hfv_sub e2.hs) (Rep.vw e2.hs (r1.mono m2.grow)) (Rep.vw e2.hs r2) hc fun v H3 Hf3 x3 ok => ?_
  have x4 := ext_seen e2.hs x3
  exact k v H3 Hf2 (.fz c) h2 (e2.ext x4) ((m1.trans m2).trans (Mo.ext x4)) (Rep.flat_any ok hf _) p
theorem me_bin {op : Operator} (ho : OpR X (binaryOp op) r) (hs : OpS X.K r g) (ha : ME X W a τa) (hb : ME X W b τb) : ME X W (.BinOp a op b pos) (mBin g τa τb) := by
  obtain ⟨ta, pa, sa⟩ := ha.fz
  obtain ⟨tb, pb, sb⟩ := hb.fz
  exact ME.of (pe_op ho pa pb) (run2 hs sa sb)
theorem me_cmp {op : CmpOp} (ho : OpR X (compareOp op) r) (hs : OpS X.K r g) (ha : ME X W a τa) (hb : ME X W b τb) (hm : behindInMarks op b = false) : ME X W (.Compare a [op] [b] pos) (mBin g τa τb) := by
  obtain ⟨ta, pa, sa⟩ := ha.fz
  obtain ⟨tb, pb, sb⟩ := hb.fz
  exact ME.of (pe_cmpR ho pa pb hm) (run2 hs sa sb)
theorem me_binV {op : Operator} (ho : OpR X (binaryOp op) r) (hs : OpS X.K r g) (ha : ME X W a τa) (hb : ME X W b τb) : ME X W (.BinOp a op b pos) (mBinV g τa τb) := by
  obtain ⟨ta, pa, sa⟩ := ha.fz
  obtain ⟨tb, pb, sb⟩ := hb.fz
  exact ME.of (pe_op ho pa pb) (run2V hs sa sb)
theorem me_cmpV {op : CmpOp} (ho : OpR X (compareOp op) r) (hs : OpS X.K r g) (ha : ME X W a τa) (hb : ME X W b τb) (hm : behindInMarks op b = false) : ME X W (.Compare a [op] [b] pos) (mBinV g τa τb) := by
  obtain ⟨ta, pa, sa⟩ := ha.fz
  obtain ⟨tb, pb, sb⟩ := hb.fz
  exact ME.of (pe_cmpR ho pa pb hm) (run2V hs sa sb)
end
/-! ### tests -/
abbrev TMT := Wω → Me → Hd → (Bool → Hd → Prop) → Prop
def SndT (K : Fg) (W : Wd) (t : TT) (τ : TMT) : Prop := ∀ (σ : St) (H Hf : Hp) (ρ : Me) (h : Hd) (R : Rg) (P : Bool → Hd → Prop) (Q : Bool → Hp → Prop), RE K W R H Hf σ ρ h → τ R.ω ρ h P →
  (∀ b H' Hf' h', RE K W R H' Hf' σ ρ h' → Mo h h' H H' Hf Hf' → P b h' → Q b H') → t σ H Q
def canMT (K : Fg) (W : Wd) (τ : TMT) : TT := fun σ H Q => ∃ (R : Rg) (Hf : Hp) (ρ : Me) (h : Hd) (P : Bool → Hd → Prop), RE K W R H Hf σ ρ h ∧ τ R.ω ρ h P ∧ (∀ b H' Hf' h', RE K W R H' Hf' σ ρ h' → Mo h h' H H' Hf Hf' → P b h' → Q b H')
structure MT (X : Cx) (W : Wd) (e : Expr) (τ : TMT) : Prop where
  pt : PT X e (canMT X.K W τ)
structure MW (X : Cx) (W : Wd) (e : Expr) (τ : TMT) : Prop where
  pw : PW X e (canMT X.K W τ)
section
variable {X : Cx} {W : Wd} {pos : Pos} {a b c e : Expr} {rest : List Expr} {τa τb τc : TM} {tA tB : TMT} {op : Operator}
theorem MT.of {τ : TMT} {t : TT} (h : PT X e t) (k : SndT X.K W t τ) : MT X W e τ := ⟨⟨fun pins s σ H Q I ⟨R, Hf, ρ, hd, P, e, q, kk⟩ => h.run pins s σ H Q I (k σ H Hf ρ hd R P Q e q kk)⟩⟩
theorem MW.of {τ : TMT} {t : TT} (h : PW X e t) (k : SndT X.K W t τ) : MW X W e τ := ⟨⟨fun wh pins s σ H Q I ⟨R, Hf, ρ, hd, P, e, q, kk⟩ => h.run wh pins s σ H Q I (k σ H Hf ρ hd R P Q e q kk)⟩⟩
theorem MW.mt {τ : TMT} (h : MW X W e τ) : MT X W e τ := ⟨h.pw.pt⟩
def mT (τ : TM) : TMT := fun ω ρ h P => τ ω ρ h fun r h' => ∃ b, r.dat = .bl b ∧ P b h'
theorem mt_val (h : ME X W e τa) (he : ∀ whole, isTrue e X.env whole = (do let v ← whole; standAt e.pos; holding [v] (truthy v)) := by intro _; rfl) : MT X W e (mT τa) := by
  obtain ⟨t, p, s⟩ := h.fz
  refine MT.of (pt_val p he) fun σ H Hf ρ h R P Q e q k => s σ H Hf ρ h R (fun d h' => ∃ b, d = .bl b ∧ P b h') _ e q fun v H' Hf' d h' e1 m1 r1 ⟨b, hb, p1⟩ => ?_
  subst hb
  exact ⟨b, r1.bl_inv, k b H' Hf' h' e1 m1 p1⟩
theorem cmpT {ta tb : TE} {r : R2} {τ : TM} (s : SndE X.K W (tOp r ta tb) τ) : SndT X.K W (L2.tB (tOp r ta tb)) (mT τ) := fun σ H Hf ρ h R P Q e q k => s.fz σ H Hf ρ h R (fun d h' => ∃ b, d = .bl b ∧ P b h') _ e q fun v H' Hf' d h' e1 m1 r1 ⟨b, hb, p1⟩ => by
  subst hb
  exact ⟨b, r1.bl_inv, k b H' Hf' h' e1 m1 p1⟩
theorem mt_cmp {cop : CmpOp} {r : R2} {g : D → D → Option Res} (ho : OpR X (compareOp cop) r) (hs : OpS X.K r g) (ha : ME X W a τa) (hb : ME X W b τb) (hm : behindInMarks cop b = false) : MT X W (.Compare a [cop] [b] pos) (mT (mBin g τa τb)) := by
  obtain ⟨ta, pa, sa⟩ := ha.fz
  obtain ⟨tb, pb, sb⟩ := hb.fz
  exact MT.of (pt_cmpR ho pa pb hm) (cmpT (run2 hs sa sb))
theorem mt_cmpV {cop : CmpOp} {r : R2} {g : D → D → Option Res} (ho : OpR X (compareOp cop) r) (hs : OpS X.K r g) (ha : ME X W a τa) (hb : ME X W b τb) (hm : behindInMarks cop b = false) : MT X W (.Compare a [cop] [b] pos) (mT (mBinV g τa τb)) := by
  obtain ⟨ta, pa, sa⟩ := ha.fz
  obtain ⟨tb, pb, sb⟩ := hb.fz
  exact MT.of (pt_cmpR ho pa pb hm) (cmpT (run2V hs sa sb))
def mAndT (a b : TMT) : TMT := fun ω ρ h P => a ω ρ h fun c h1 => if c = true then b ω ρ h1 P else P false h1
def mOrT (a b : TMT) : TMT := fun ω ρ h P => a ω ρ h fun c h1 => if c = true then P true h1 else b ω ρ h1 P
def mNotT (a : TMT) : TMT := fun ω ρ h P => a ω ρ h fun c h1 => P (!c) h1
theorem mw_and1 (ha : MT X W a tA) : MW X W (.BoolOp .And [a] pos) tA := ⟨pw_and1 ha.pt⟩
theorem mw_or1 (ha : MT X W a tA) : MW X W (.BoolOp .Or [a] pos) tA := ⟨pw_or1 ha.pt⟩
theorem mw_and (ha : MT X W a tA) (hb : MW X W (.BoolOp .And (b :: rest) pos) tB) : MW X W (.BoolOp .And (a :: b :: rest) pos) (mAndT tA tB) := by
  refine MW.of (pw_and ha.pt hb.pw) fun σ H Hf ρ h R P Q e q k => ⟨R, Hf, ρ, h, _, e, q, fun c H' Hf' h' e1 m1 p1 => ?_⟩
  cases c with
  | true => exact ⟨R, Hf', ρ, h', P, e1, p1, fun b H2 Hf2 h2 e2 m2 p2 => k b H2 Hf2 h2 e2 (m1.trans m2) p2⟩
  | false => exact k false H' Hf' h' e1 m1 p1
theorem mw_or (ha : MT X W a tA) (hb : MW X W (.BoolOp .Or (b :: rest) pos) tB) : MW X W (.BoolOp .Or (a :: b :: rest) pos) (mOrT tA tB) := by
  refine MW.of (pw_or ha.pt hb.pw) fun σ H Hf ρ h R P Q e q k => ⟨R, Hf, ρ, h, _, e, q, fun c H' Hf' h' e1 m1 p1 => ?_⟩
  cases c with
  | false => exact ⟨R, Hf', ρ, h', P, e1, p1, fun b H2 Hf2 h2 e2 m2 p2 => k b H2 Hf2 h2 e2 (m1.trans m2) p2⟩
  | true => exact k true H' Hf' h' e1 m1 p1
theorem mt_not (ha : MT X W a tA) : MT X W (.UnaryOp .Not a pos) (mNotT tA) :=
  MT.of (pt_not ha.pt) fun σ H Hf ρ h R P Q e q k => ⟨R, Hf, ρ, h, _, e, q, fun c H' Hf' h' e1 m1 p1 => k (!c) H' Hf' h' e1 m1 p1⟩
/-! ### and, or, not, if as values -/
def mAndE (a b : TM) : TM := fun ω ρ h P => a ω ρ h fun x h1 => ∃ c, x.dat = .bl c ∧ if c = true then b ω ρ h1 P else P (.fz (.bl false)) h1
def mOrE (a b : TM) : TM := fun ω ρ h P => a ω ρ h fun x h1 => ∃ c, x.dat = .bl c ∧ if c = true then P (.fz (.bl true)) h1 else b ω ρ h1 P
def mNotE (a : TM) : TM := fun ω ρ h P => a ω ρ h fun x h1 => ∃ c, x.dat = .bl c ∧ P (.fz (.bl (!c))) h1
def mIfE (c : TMT) (a b : TM) : TM := fun ω ρ h P => c ω ρ h fun k h1 => if k = true then a ω ρ h1 P else b ω ρ h1 P
theorem me_one {bop : BoolOp} (h : ME X W a τa) : ME X W (.BoolOp bop [a] pos) τa := ⟨pe_one h.pe⟩
theorem me_and (ha : ME X W a τa) (hb : ME X W (.BoolOp .And (b :: rest) pos) τb) : ME X W (.BoolOp .And (a :: b :: rest) pos) (mAndE τa τb) := by
  obtain ⟨ta, pa, sa⟩ := ha.fz
  obtain ⟨tb, pb, sb⟩ := hb.ex
  refine ME.of (pe_and pa pb) fun σ H Hf ρ h R P Q e q k => sa σ H Hf ρ h R (fun d h1 => ∃ c, d = .bl c ∧ if c = true then τb R.ω ρ h1 P else P (.fz (.bl false)) h1) _ e q fun v H1 Hf1 d h1 e1 m1 r1 ⟨c, hc, p1⟩ => ?_
  subst hc
  refine ⟨c, r1.bl_inv, ?_⟩
  cases c with
  | true => exact sb σ H1 Hf1 ρ h1 R P Q e1 p1 fun v H2 Hf2 r h2 e2 m2 r2 p2 => k v H2 Hf2 r h2 e2 (m1.trans m2) (r2.back m1.live) p2
  | false => exact k _ H1 Hf1 (.fz (.bl false)) h1 e1 m1 (.bl false) p1
theorem me_or (ha : ME X W a τa) (hb : ME X W (.BoolOp .Or (b :: rest) pos) τb) : ME X W (.BoolOp .Or (a :: b :: rest) pos) (mOrE τa τb) := by
  obtain ⟨ta, pa, sa⟩ := ha.fz
  obtain ⟨tb, pb, sb⟩ := hb.ex
  refine ME.of (pe_or pa pb) fun σ H Hf ρ h R P Q e q k => sa σ H Hf ρ h R (fun d h1 => ∃ c, d = .bl c ∧ if c = true then P (.fz (.bl true)) h1 else τb R.ω ρ h1 P) _ e q fun v H1 Hf1 d h1 e1 m1 r1 ⟨c, hc, p1⟩ => ?_
  subst hc
  refine ⟨c, r1.bl_inv, ?_⟩
  cases c with
  | false => exact sb σ H1 Hf1 ρ h1 R P Q e1 p1 fun v H2 Hf2 r h2 e2 m2 r2 p2 => k v H2 Hf2 r h2 e2 (m1.trans m2) (r2.back m1.live) p2
  | true => exact k _ H1 Hf1 (.fz (.bl true)) h1 e1 m1 (.bl true) p1
theorem me_not (ha : ME X W a τa) : ME X W (.UnaryOp .Not a pos) (mNotE τa) := by
  obtain ⟨ta, pa, sa⟩ := ha.fz
  refine ME.of (pe_not pa) fun σ H Hf ρ h R P Q e q k => sa σ H Hf ρ h R (fun d h1 => ∃ c, d = .bl c ∧ P (.fz (.bl (!c))) h1) _ e q fun v H1 Hf1 d h1 e1 m1 r1 ⟨c, hc, p1⟩ => ?_
  subst hc
  exact ⟨c, r1.bl_inv, k _ H1 Hf1 (.fz (.bl (!c))) h1 e1 m1 (.bl _) p1⟩
theorem me_if (hc : MT X W c tA) (ha : ME X W a τa) (hb : ME X W b τb) : ME X W (.IfExp c a b pos) (mIfE tA τa τb) := by
  refine ME.of (pe_ifExp hc.pt ha.pe hb.pe) fun σ H Hf ρ h R P Q e q k => ⟨R, Hf, ρ, h, _, e, q, fun c H1 Hf1 h1 e1 m1 p1 => ?_⟩
  cases c with
  | true => exact ⟨R, Hf1, ρ, h1, P, e1, p1, fun v H2 Hf2 r h2 e2 m2 r2 p2 => k v H2 Hf2 r h2 e2 (m1.trans m2) (r2.back m1.live) p2⟩
  | false => exact ⟨R, Hf1, ρ, h1, P, e1, p1, fun v H2 Hf2 r h2 e2 m2 r2 p2 => k v H2 Hf2 r h2 e2 (m1.trans m2) (r2.back m1.live) p2⟩
/-- -a -/
def mNegE (τ : TM) : TM := fun ω ρ h P => τ ω ρ h fun x h1 => ∃ i, x.dat = .int i ∧ P (.fz (.int (-i))) h1
theorem me_neg (ha : ME X W a τa) : ME X W (.UnaryOp .USub a pos) (mNegE τa) := by
  obtain ⟨ta, pa, sa⟩ := ha.fz
  refine ME.of (pe_un un_neg pa) fun σ H Hf ρ h R P Q e q k => sa σ H Hf ρ h R (fun d h1 => ∃ i, d = .int i ∧ P (.fz (.int (-i))) h1) _ e q fun v H1 Hf1 d h1 e1 m1 r1 ⟨i, hi, p1⟩ => ?_
  subst hi
  cases r1
  exact ⟨i, rfl, k _ H1 Hf1 (.fz (.int (-i))) h1 e1 m1 (.int _) p1⟩
/-- a < b < c -/
def mChn (g g' : D → D → Option Res) (a b c : TM) : TM := fun ω ρ h P => a ω ρ h fun x h1 => b ω ρ h1 fun y h2 => ∃ z k, g x.dat y.dat = some (.fz z) ∧ z = .bl k ∧ if k = true then c ω ρ h2 (fun w h3 => ∃ z', g' y.dat w.dat = some z' ∧ P z' h3) else P (.fz (.bl false)) h2
theorem run3 {r r' : R2} {g g' : D → D → Option Res} {ta tb tc : TE} {K : Fg} (hs : OpS K r g) (hs' : OpS K r' g') (sa : SndF K W ta τa) (sb : SndF K W tb τb) (sc : SndF K W tc τc) : SndE K W (tChain r r' ta tb tc) (mChn g g' τa τb τc) := fun σ H Hf ρ h R P Q e q k => by
  refine sa σ H Hf ρ h R (fun x h1 => τb R.ω ρ h1 fun y h2 => ∃ z k, g x y.dat = some (.fz z) ∧ z = .bl k ∧ if k = true then τc R.ω ρ h2 (fun w h3 => ∃ z', g' y.dat w.dat = some z' ∧ P z' h3) else P (.fz (.bl false)) h2) _ e q fun x H1 Hf1 dx h1 e1 m1 r1 q1 => ?_
  refine sb σ H1 Hf1 ρ h1 R (fun y h2 => ∃ z k, g dx y = some (.fz z) ∧ z = .bl k ∧ if k = true then τc R.ω ρ h2 (fun w h3 => ∃ z', g' y w.dat = some z' ∧ P z' h3) else P (.fz (.bl false)) h2) _ e1 q1 fun y H2 Hf2 dy h2 e2 m2 r2 q2 => ?_
  obtain ⟨z, kk, hc, hd, p⟩ := q2
  subst hd
  refine hs H2 Hf2 x y dx dy _ _ e2.hs.sub (r1.mono m2.grow) r2 hc fun v H3 Hf3 x3 ok => ?_
  refine ⟨kk, Rep.bl_inv ok, ?_⟩
  have e3 := e2.ext x3
  have m3 := (m1.trans m2).trans (Mo.ext x3)
  cases kk with
  | false => exact k _ H3 Hf3 (.fz (.bl false)) h2 e3 m3 (.bl false) p
  | true =>
    refine sc σ H3 Hf3 ρ h2 R (fun w h3 => ∃ z', g' dy w = some z' ∧ P z' h3) _ e3 p fun w H5 Hf5 dw h5 e5 m6 r6 ⟨z', hz, p6⟩ => ?_
    refine hs' H5 Hf5 y w dy dw z' Q e5.hs.sub ((r2.mono x3.grow).mono m6.grow) r6 hz fun v H7 Hf7 x7 ok7 => ?_
    exact k v H7 Hf7 z' h5 (e5.ext x7) ((m3.trans m6).trans (Mo.ext x7)) ((RO.of e5.hs x7 ok7).back (m3.trans m6).live) p6
theorem me_chn {cop cop' : CmpOp} {r r' : R2} {g g' : D → D → Option Res} (ho : OpR X (compareOp cop) r) (hs : OpS X.K r g) (ho' : OpR X (compareOp cop') r') (hs' : OpS X.K r' g') (ha : ME X W a τa) (hb : ME X W b τb) (hc : ME X W c τc)
    (hm : lastMarks [cop, cop'] [b, c] = false := by with_unfolding_all rfl) : ME X W (.Compare a [cop, cop'] [b, c] pos) (mChn g g' τa τb τc) := by
  obtain ⟨ta, pa, sa⟩ := ha.fz
  obtain ⟨tb, pb, sb⟩ := hb.fz
  obtain ⟨tc, pc, sc⟩ := hc.fz
  exact ME.of (pe_chain ho ho' pa pb pc hm) (run3 hs hs' sa sb sc)
theorem mt_chn {cop cop' : CmpOp} {r r' : R2} {g g' : D → D → Option Res} (ho : OpR X (compareOp cop) r) (hs : OpS X.K r g) (ho' : OpR X (compareOp cop') r') (hs' : OpS X.K r' g') (ha : ME X W a τa) (hb : ME X W b τb) (hc : ME X W c τc)
    (hm : lastMarks [cop, cop'] [b, c] = false := by with_unfolding_all rfl) : MT X W (.Compare a [cop, cop'] [b, c] pos) (mT (mChn g g' τa τb τc)) := by
  obtain ⟨ta, pa, sa⟩ := ha.fz
  obtain ⟨tb, pb, sb⟩ := hb.fz
  obtain ⟨tc, pc, sc⟩ := hc.fz
  refine MT.of (pt_chain ho ho' pa pb pc hm) fun σ H Hf ρ h R P Q e q k => (run3 hs hs' sa sb sc).fz σ H Hf ρ h R (fun d h' => ∃ b, d = .bl b ∧ P b h') _ e q fun v H' Hf' d h' e1 m1 r1 ⟨b, hb, p1⟩ => ?_
  subst hb
  exact ⟨b, r1.bl_inv, k b H' Hf' h' e1 m1 p1⟩
end
/-! ### argument lists, displays -/
abbrev TMA := Wω → Me → Hd → (List D → Hd → Prop) → Prop
def canMA (K : Fg) (W : Wd) (n : Nat) (τ : TMA) : TA := fun σ H Q => ∃ (R : Rg) (Hf : Hp) (ρ : Me) (h : Hd) (P : List D → Hd → Prop), RE K W R H Hf σ ρ h ∧ τ R.ω ρ h P ∧ (∀ vs H' Hf' ds h', RE K W R H' Hf' σ ρ h' → Mo h h' H H' Hf Hf' → RepL K Hf' vs ds → ds.length = n → P ds h' → Q vs H')
structure MA (X : Cx) (W : Wd) (es : List Expr) (τ : TMA) : Prop where
  pa : PA X es (canMA X.K W es.length τ)
section
variable {X : Cx} {W : Wd} {pos : Pos} {e : Expr} {es : List Expr} {τ : TM} {τs : TMA}
theorem MA.of {t : TA} (h : PA X es t) (k : ∀ (σ : St) (H Hf : Hp) (ρ : Me) (h : Hd) (R : Rg) (P : List D → Hd → Prop) (Q : List V → Hp → Prop), RE X.K W R H Hf σ ρ h → τs R.ω ρ h P → (∀ vs H' Hf' ds h', RE X.K W R H' Hf' σ ρ h' → Mo h h' H H' Hf Hf' → RepL X.K Hf' vs ds → ds.length = es.length → P ds h' → Q vs H') → t σ H Q) : MA X W es τs :=
  ⟨⟨fun pos pins s σ H Q I ⟨R, Hf, ρ, hd, P, e, q, kk⟩ => h.run pos pins s σ H Q I (k σ H Hf ρ hd R P Q e q kk)⟩⟩
def mANil : TMA := fun _ _ h P => P [] h
def mACons (a : TM) (r : TMA) : TMA := fun ω ρ h P => a ω ρ h fun x h1 => r ω ρ h1 fun xs h2 => P (x.dat :: xs) h2
theorem ma_nil : MA X W [] mANil := MA.of pa_nil fun σ H Hf ρ h R P Q e q k => k [] H Hf [] h e (Mo.refl ..) .nil rfl q
theorem ma_cons (ha : ME X W e τ) (hr : MA X W es τs) (hs : starEach (e :: es) X.env = (false, eval e X.env) :: starEach es X.env := by rfl) : MA X W (e :: es) (mACons τ τs) := by
  obtain ⟨ta, pa, sa⟩ := ha.fz
  refine MA.of (pa_cons pa hr.pa hs) fun σ H Hf ρ h R P Q e q k => sa σ H Hf ρ h R (fun d h1 => τs R.ω ρ h1 fun xs h2 => P (d :: xs) h2) _ e q fun v H1 Hf1 d h1 e1 m1 r1 p1 => ?_
  exact ⟨R, Hf1, ρ, h1, _, e1, p1, fun vs H2 Hf2 ds h2 e2 m2 r2 l2 p2 => k (v :: vs) H2 Hf2 (d :: ds) h2 e2 (m1.trans m2) (.cons (r1.mono m2.grow) r2) (by rw [List.length_cons, l2, List.length_cons]) p2⟩
def mTup (τ : TMA) : TM := fun ω ρ h P => τ ω ρ h fun ds h1 => ds.length ≤ 16000 ∧ P (.fz (.tup ds)) h1
def mLst (τ : TMA) : TM := fun ω ρ h P => τ ω ρ h fun ds h1 => ds.length ≤ 16000 ∧ P (.fr ds) h1
theorem me_tup {x1 : Nat} (h : MA X W es τs) : ME X W (.Tuple es x1 pos) (mTup τs) := by
  refine ME.of (pe_tup h.pa) fun σ H Hf ρ h R P Q e q k => ⟨R, Hf, ρ, h, _, e, q, fun vs H1 Hf1 ds h1 e1 m1 r1 _ ⟨hz, p1⟩ => ⟨by rw [r1.length]; exact lim hz, fun n hn => ?_⟩⟩
  obtain ⟨x1, x2⟩ := new_tup e1.hs.sub hn r1
  exact k _ _ _ _ h1 (e1.ext x1) (m1.trans (Mo.ext x1)) ((RO.of e1.hs x1 x2).back m1.live) p1
theorem me_lst (h : MA X W es τs) : ME X W (.List es pos) (mLst τs) := by
  refine ME.of (pe_lst h.pa) fun σ H Hf ρ h R P Q e q k => ⟨R, Hf, ρ, h, _, e, q, fun vs H1 Hf1 ds h1 e1 m1 r1 _ ⟨hz, p1⟩ => ⟨by rw [r1.length]; exact lim hz, fun n hn => ?_⟩⟩
  obtain ⟨x1, x2⟩ := new_lst e1.hs.sub hn r1
  exact k _ _ _ _ h1 (e1.ext x1) (m1.trans (Mo.ext x1)) ((RO.of e1.hs x1 x2).back m1.live) p1
end
/-! ### subscripts, slices -/
section
variable {X : Cx} {W : Wd} {a b e : Expr} {τa τb τ : TM} {pos p2 : Pos}
theorem me_ix (ha : ME X W a τa) (hb : ME X W b τb) (hs : PlainIx b) : ME X W (.Subscript a b pos) (mBin ixD τa τb) := by
  obtain ⟨ta, pa, sa⟩ := ha.fz
  obtain ⟨tb, pb, sb⟩ := hb.fz
  exact ME.of (pe_ix ix_seq pa pb hs) (run2 opS_ix sa sb)
/-- xs[i], xs a list of one's own -/
def mIxO (a b : TM) : TM := fun ω ρ h P => a ω ρ h fun x h1 => b ω ρ h1 fun y h2 => ∃ p xs i d, x.dat = .raw (.ref p) ∧ h2 p = some (.lst xs) ∧ y.dat = .int i ∧ atI xs i = some d ∧ P (.fz d) h2
theorem me_ixO (ha : ME X W a τa) (hb : ME X W b τb) (hs : PlainIx b) : ME X W (.Subscript a b pos) (mIxO τa τb) := by
  obtain ⟨ta, pa, sa⟩ := ha.fz
  obtain ⟨tb, pb, sb⟩ := hb.fz
  refine ME.of (pe_ix ix_seq pa pb hs) fun σ H Hf ρ h R P Q e q k => ?_
  refine sa σ H Hf ρ h R (fun x h1 => τb R.ω ρ h1 fun y h2 => ∃ p xs i d, x = .raw (.ref p) ∧ h2 p = some (.lst xs) ∧ y.dat = .int i ∧ atI xs i = some d ∧ P (.fz d) h2) _ e q fun x H1 Hf1 dx h1 e1 m1 r1 q1 => ?_
  refine sb σ H1 Hf1 ρ h1 R (fun y h2 => ∃ p xs i d, dx = .raw (.ref p) ∧ h2 p = some (.lst xs) ∧ y = .int i ∧ atI xs i = some d ∧ P (.fz d) h2) _ e1 q1 fun y H2 Hf2 dy h2 e2 m2 r2 ⟨p, xs, i, d, g1, g2, g3, g4, g5⟩ => ?_
  subst g1 g3
  cases r1
  cases r2
  obtain ⟨z1, ys, z2, z3⟩ := e2.hs.hp p _ g2
  obtain ⟨v, w1, w2⟩ := z3.atI g4
  exact .inl ⟨p, ys, i, v, rfl, rfl, .inl (.inl z2), w1, k v H2 Hf2 (.fz d) h2 e2 (m1.trans m2) w2 g5⟩
abbrev TMO := Wω → Me → Hd → (Option Int → Hd → Prop) → Prop
def canMO (K : Fg) (W : Wd) (τ : TMO) : TO := fun σ H Q => ∃ (R : Rg) (Hf : Hp) (ρ : Me) (h : Hd) (P : Option Int → Hd → Prop), RE K W R H Hf σ ρ h ∧ τ R.ω ρ h P ∧ (∀ o H' Hf' h', RE K W R H' Hf' σ ρ h' → Mo h h' H H' Hf Hf' → P o h' → Q o H')
structure MO (X : Cx) (W : Wd) (e : Option Expr) (τ : TMO) : Prop where
  po : PO X e (canMO X.K W τ)
def mONone : TMO := fun _ _ h P => P none h
def mOSome (τ : TM) : TMO := fun ω ρ h P => τ ω ρ h fun r h1 => ∃ i, r.dat = .int i ∧ P (some i) h1
def mSl (a : TM) (l u : TMO) : TM := fun ω ρ h P => a ω ρ h fun x h1 => l ω ρ h1 fun lo h2 => u ω ρ h2 fun hi h3 => ∃ c, slD x.dat lo hi = some c ∧ P c h3
theorem mo_none : MO X W none mONone := ⟨⟨fun pins s σ H Q I ⟨R, Hf, ρ, h, P, e, q, k⟩ => po_none.run pins s σ H Q I (k none H Hf h e (Mo.refl ..) q)⟩⟩
theorem mo_some (h : ME X W e τ) : MO X W (some e) (mOSome τ) := by
  obtain ⟨t, p, sa⟩ := h.fz
  refine ⟨⟨fun pins s σ H Q I ⟨R, Hf, ρ, hd, P, e, q, k⟩ => (po_some p).run pins s σ H Q I (sa σ H Hf ρ hd R (fun d h1 => ∃ i, d = .int i ∧ P (some i) h1) _ e q fun v H1 Hf1 d h1 e1 m1 r1 ⟨i, hi, p1⟩ => ?_)⟩⟩
  subst hi
  exact ⟨i, r1.int_inv, k _ H1 Hf1 h1 e1 m1 p1⟩
theorem me_sl {lo hi : Option Expr} {τl τh : TMO} (ha : ME X W a τa) (hl : MO X W lo τl) (hh : MO X W hi τh) : ME X W (.Subscript a (.Slice lo hi none p2) pos) (mSl τa τl τh) := by
  obtain ⟨ta, pa, sa⟩ := ha.fz
  refine ME.of (pe_slice (SlR.or sl_tupA (SlR.or sl_list sl_str)) pa hl.po hh.po) fun σ H Hf ρ h R P Q e q k => ?_
  refine sa σ H Hf ρ h R (fun d h1 => τl R.ω ρ h1 fun lo h2 => τh R.ω ρ h2 fun hi h3 => ∃ c, slD d lo hi = some c ∧ P c h3) _ e q fun v H1 Hf1 d h1 e1 m1 r1 p1 => ?_
  refine ⟨R, Hf1, ρ, h1, _, e1, p1, fun lo H2 Hf2 h2 e2 m2 p2 => ⟨R, Hf2, ρ, h2, _, e2, p2, fun hi H3 Hf3 h3 e3 m3 ⟨c, hc, p4⟩ => ?_⟩⟩
  have m := (m1.trans m2).trans m3
  exact slS (Q := Q) e3.hs.sub ((r1.mono m2.grow).mono m3.grow) hc fun v H4 Hf4 x4 ok => k v H4 Hf4 c h3 (e3.ext x4) (m.trans (Mo.ext x4)) ((RO.of e3.hs x4 ok).back m.live) p4
end
/-! ### built-ins called -/
section
variable {X : Cx} {W : Wd} {pos : Pos} {e : Expr} {es : List Expr} {τs : TMA}
def mCallG (g : List D → Option Res) (τ : TMA) : TM := fun ω ρ h P => τ ω ρ h fun ds h1 => ∃ c, g ds = some c ∧ P c h1
def mCallGV (g : List D → Option Res) (τ : TMA) : TM := fun ω ρ h P => τ ω ρ h fun ds h1 => ∃ c, g (ds.map (vw h1)) = some (.fz c) ∧ c.flat = true ∧ P (.fz c) h1
theorem runC {K : Fg} {n : Nat} {r : List V → Hp → VK → Prop} {g : List D → Option Res} (hs : CallS K r g) : SndE K W (tCB r (canMA K W n τs)) (mCallG g τs) := fun σ H Hf ρ h R P Q e q k => by
  refine ⟨R, Hf, ρ, h, _, e, q, fun vs H1 Hf1 ds h1 e1 m1 r1 _ ⟨c, hc, p1⟩ => ?_⟩
  exact hs H1 Hf1 vs ds c Q e1.hs.sub r1 hc fun v H2 Hf2 x2 ok => k v H2 Hf2 c h1 (e1.ext x2) (m1.trans (Mo.ext x2)) ((RO.of e1.hs x2 ok).back m1.live) p1
theorem runCV {K : Fg} {n : Nat} {r : List V → Hp → VK → Prop} {g : List D → Option Res} (hs : CallS K r g) : SndE K W (tCB r (canMA K W n τs)) (mCallGV g τs) := fun σ H Hf ρ h R P Q e q k => by
  refine ⟨R, Hf, ρ, h, _, e, q, fun vs H1 Hf1 ds h1 e1 m1 r1 _ ⟨c, hc, hf, p1⟩ => ?_⟩
  refine hs H1 (hfv H1 Hf1 h1) vs _ _ Q (hfv_sub e1.hs) (RepL.vw e1.hs r1) hc fun v H2 Hf2 x2 ok => ?_
  have x4 := ext_seen e1.hs x2
  exact k v H2 Hf1 (.fz c) h1 (e1.ext x4) (m1.trans (Mo.ext x4)) (Rep.flat_any ok hf _) p1
theorem me_callB {x : Str} {id : String} {p : Pos} {r : List V → Hp → VK → Prop} {g : List D → Option Res} (hc : CallR X (.builtin id) r) (hs : CallS X.K r g) (hg : Gl X x) (hm : X.mg x = none) (hv : bootBuiltins x = some (.builtin id)) (ha : MA X W (e :: es) τs)
    (hn : x ≠ "__name__" := by decide) (hdb : (x == ("__debug__" : Str)) = false := by decide) (he : starEach (e :: es) X.env = (false, eval e X.env) :: starEach es X.env := by rfl) (hpl : (backTo pos (starEach es X.env)).any (·.1) = false := by rfl) :
    ME X W (.Call (.Name x p) (e :: es) [] pos) (mCallG g τs) := ME.of (pe_callB hc hg hm hv ha.pa hn hdb he hpl) (runC hs)
theorem me_callTy {x : Str} {T : String} {p : Pos} {r : List V → Hp → VK → Prop} {g : List D → Option Res} (hc : CallR X (.type T) r) (hs : CallS X.K r g) (hg : Gl X x) (hm : X.mg x = none) (hv : bootBuiltins x = some (.type T)) (ha : MA X W (e :: es) τs)
    (hn : x ≠ "__name__" := by decide) (hdb : (x == ("__debug__" : Str)) = false := by decide) (he : starEach (e :: es) X.env = (false, eval e X.env) :: starEach es X.env := by rfl) (hpl : (backTo pos (starEach es X.env)).any (·.1) = false := by rfl) :
    ME X W (.Call (.Name x p) (e :: es) [] pos) (mCallG g τs) := ME.of (pe_callTy hc hg hm hv ha.pa hn hdb he hpl) (runC hs)
theorem me_callBV {x : Str} {id : String} {p : Pos} {r : List V → Hp → VK → Prop} {g : List D → Option Res} (hc : CallR X (.builtin id) r) (hs : CallS X.K r g) (hg : Gl X x) (hm : X.mg x = none) (hv : bootBuiltins x = some (.builtin id)) (ha : MA X W (e :: es) τs)
    (hn : x ≠ "__name__" := by decide) (hdb : (x == ("__debug__" : Str)) = false := by decide) (he : starEach (e :: es) X.env = (false, eval e X.env) :: starEach es X.env := by rfl) (hpl : (backTo pos (starEach es X.env)).any (·.1) = false := by rfl) :
    ME X W (.Call (.Name x p) (e :: es) [] pos) (mCallGV g τs) := ME.of (pe_callB hc hg hm hv ha.pa hn hdb he hpl) (runCV hs)
end
end ML
/-! The second data layer, 3: contracts, calls, fields, methods, making; what is one's own, what is frozen. -/
namespace ML
open PySem L2 DL
abbrev FM := List D → Hd → (Res → Hd → Prop) → (Ex → Hd → Prop) → Prop
def spM (K : Fg) (n : Nat) (g : FM) : Sp := fun vs H Q E => ∃ (Hf : Hp) (h : Hd) (ds : List D) (P : Res → Hd → Prop) (PE : Ex → Hd → Prop), Hs K H Hf h ∧ RepL K Hf vs ds ∧ ds.length = n ∧ g ds h P PE ∧
  (∀ v H' Hf' r h', Hs K H' Hf' h' → Mo h h' H H' Hf Hf' → RO K H H' Hf' h' v r → P r h' → Q v H') ∧
  (∀ C d fs H' Hf' h', Hs K H' Hf' h' → Mo h h' H H' Hf Hf' → XRep K Hf' d fs → PE ⟨C, fs⟩ h' → E (.ref C) d H')
theorem spM.imp {K : Fg} {n : Nat} {g g' : FM} (i : ∀ ds h P E, g' ds h P E → g ds h P E) {vs : List V} {H : Hp} {Q : VK} {E : XK} (h : spM K n g' vs H Q E) : spM K n g vs H Q E := by
  obtain ⟨Hf, h, ds, P, PE, h1, h2, h3, h4, h5, h6⟩ := h
  exact ⟨Hf, h, ds, P, PE, h1, h2, h3, i _ _ _ _ h4, h5, h6⟩
/-- what a call lets out is what is wished for -/
theorem RE.out {K : Fg} {W : Wd} {R : Rg} {H H' Hf Hf' : Hp} {σ : St} {ρ : Me} {h h' : Hd} (e : RE K W R H Hf σ ρ h) (s : Hs K H' Hf' h') (m : Mo h h' H H' Hf Hf') {C : Addr} {d : Option Addr} {fs : List (Str × D)} (x : XRep K Hf' d fs) (q : R.ω ⟨C, fs⟩ ρ h') : W.x (.ref C) d σ H' :=
  e.ok _ _ _ _ ⟨C, fs, Hf', ρ, h', rfl, x, e.sl.mono m.grow, s, e.mv.trans m, q⟩
/-- a promise met from a state of ours -/
theorem spM_run {K : Fg} {W : Wd} {R : Rg} {H Hf : Hp} {σ : St} {ρ : Me} {h : Hd} {n : Nat} {g : FM} {vs : List V} {ds : List D} {P : Res → Hd → Prop} {Q : VK} (e : RE K W R H Hf σ ρ h) (r : RepL K Hf vs ds) (hl : ds.length = n) (q : g ds h P (fun x h2 => R.ω x ρ h2))
    (k : ∀ v H' Hf' r h', RE K W R H' Hf' σ ρ h' → Mo h h' H H' Hf Hf' → RO K H H' Hf' h' v r → P r h' → Q v H') : spM K n g vs H Q (WE W.x σ) :=
  ⟨Hf, h, ds, P, _, e.hs, r, hl, q, fun v H' Hf' r h' s m ok p => k v H' Hf' r h' (e.step s m) m ok p, fun C d fs H' Hf' h' s m x p => e.out s m x p⟩
/-! ### calls -/
section
variable {X : Cx} {W : Wd} {pos p apos : Pos} {e o : Expr} {es : List Expr} {τ τo : TM} {τs : TMA} {x m : Str} {f C : Addr} {fd : FuncData} {ps : List Str} {k n : Nat}
def mCall0 (g : FS0) (τ : TMA) : TM := fun ω ρ h P => τ ω ρ h fun ds h1 => g ds fun r => P r h1
theorem me_c0 {g : FS0} (F : Fn0 X.prog X.w X.K X.mg X.base x k n g) (hr : Room k X.A) (hg : Gl X x) (ha : MA X W (e :: es) τs) (hl : (e :: es).length = n := by rfl) (hdb : (x == ("__debug__" : Str)) = false := by decide) (he : starEach (e :: es) X.env = (false, eval e X.env) :: starEach es X.env := by rfl) (hpl : (backTo pos (starEach es X.env)).any (·.1) = false := by rfl) :
    ME X W (.Call (.Name x p) (e :: es) [] pos) (mCall0 g τs) := by
  obtain ⟨f, fd, ps, F, hm, hk, hb⟩ := F
  refine ME.of (pe_call F hr hg hm hk hb .nil pass0 ha.pa hdb he hpl) fun σ H Hf ρ h R P Q e q k => ⟨R, Hf, ρ, h, _, e, q, fun vs H1 Hf1 ds h1 e1 m1 r1 hds p1 => ?_⟩
  show sp0 X.K n g (vs ++ []) H1 Q _
  rw [List.append_nil]
  exact ⟨Hf1, ds, _, e1.hs.sub, r1, hds.trans hl, p1, fun v H2 Hf2 r x2 ok p2 => k v H2 Hf2 r h1 (e1.ext x2) (m1.trans (Mo.ext x2)) ((RO.of e1.hs x2 ok).back m1.live) p2⟩
/-- f(x, ..), f changes the list x -/
def mCall1 (g : FS1) (τ : TMA) : TM := fun ω ρ h P => τ ω ρ h fun ds h1 => ∃ a es xs, ds = .raw (.ref a) :: es ∧ h1 a = some (.lst xs) ∧ g xs es fun r xs' => P r (put h1 a (.lst xs'))
theorem me_c1 {g : FS1} (F : Fn1 X.prog X.w X.K X.mg X.base x k n g) (hr : Room k X.A) (hg : Gl X x) (ha : MA X W (e :: es) τs) (hl : (e :: es).length = n := by rfl) (hdb : (x == ("__debug__" : Str)) = false := by decide) (he : starEach (e :: es) X.env = (false, eval e X.env) :: starEach es X.env := by rfl) (hpl : (backTo pos (starEach es X.env)).any (·.1) = false := by rfl) :
    ME X W (.Call (.Name x p) (e :: es) [] pos) (mCall1 g τs) := by
  obtain ⟨f, fd, ps, F, hm, hk, hb⟩ := F
  refine ME.of (pe_call F hr hg hm hk hb .nil pass0 ha.pa hdb he hpl) fun σ H Hf ρ h R P Q e q k => ⟨R, Hf, ρ, h, _, e, q, fun vs H1 Hf1 ds h1 e1 m1 r1 hds ⟨a, es', xs, hd, ha1, p1⟩ => ?_⟩
  show sp1 X.K n g (vs ++ []) H1 Q _
  rw [List.append_nil]
  subst hd
  cases r1 with
  | cons ra rr =>
    cases ra
    obtain ⟨z1, ys, z2, z3⟩ := e1.hs.hp a _ ha1
    refine ⟨Hf1, a, _, ys, xs, es', _, rfl, e1.hs.sub, z2, z1, z3, rr, by rw [List.length_cons] at hds; omega, p1, fun v H2 Hf2 r ys' xs' x2 hy' hf' ry ok p3 => ?_⟩
    have s2 : Hs X.K H2 Hf2 (put h1 a (.lst xs')) := ⟨x2.sub, fun b o q => by
      by_cases hb : b = a
      · subst hb
        rw [put_same] at q; cases q
        exact ⟨hf', ys', hy', ry⟩
      · rw [put_ne hb] at q
        obtain ⟨w1, w2⟩ := e1.hs.hp b o q
        obtain ⟨u, hu⟩ := w2.at
        refine ⟨?_, w2.mono (fun u hu => x2.same b u hu hb) x2.grow⟩
        cases z : Hf2 b with
        | none => rfl
        | some o' =>
          rcases x2.new b o' z with z | z
          · rw [w1] at z; cases z
          · rw [hu] at z; cases z⟩
    have m2 : Mo h1 (put h1 a (.lst xs')) H1 H2 Hf1 Hf2 := ⟨fun b o q n => x2.same b o q fun z => (by rw [z, ha1] at n; cases n), x2.live, x2.grow, fun b o q => (x2.new b o q).imp id .inl, fun b u q => by
      by_cases hb : b = a
      · rw [hb]; exact .inl ⟨_, ha1⟩
      · rw [put_ne hb] at q; exact .inl ⟨u, q⟩⟩
    refine k v H2 Hf2 r _ (e1.step s2 m2) (m1.trans m2) (RO.back m1.live ?_) p3
    cases r with
    | fz d => exact ok
    | fr us =>
      obtain ⟨b, vs, q1, q2, q3, q4, q5⟩ := ok
      exact ⟨b, vs, q1, q2, q3, by rw [put_ne (ne_of_none z2 q4).symm]; exact e1.hs.free q4, q4, q5⟩
/-- the def of the name x stands, at level k, and keeps the promise -/
def FnM (P : Program) (w : World) (K : Fg) (mg : Str → Option Value) (base : Heap) (x : Str) (k n : Nat) (g : FM) : Prop := ∃ f fd ps, FnOk P w K mg base (L2.CX P w) k f fd ps (spM K n g) ∧ mg x = some (.ref f) ∧ PySem.W.keepIn K (.ref f) = true ∧ Binds K fd ps []
theorem FnM.mono {P : Program} {w : World} {K : Fg} {mg : Str → Option Value} {base : Heap} {j : Nat} {g : FM} (h : FnM P w K mg base x j n g) (hj : j ≤ k) : FnM P w K mg base x k n g := let ⟨f, fd, ps, a, b⟩ := h; ⟨f, fd, ps, a.mono hj, b⟩
theorem FnM.imp {P : Program} {w : World} {K : Fg} {mg : Str → Option Value} {base : Heap} {g g' : FM} (h : FnM P w K mg base x k n g) (i : ∀ ds h P E, g' ds h P E → g ds h P E) : FnM P w K mg base x k n g' := let ⟨f, fd, ps, a, b⟩ := h; ⟨f, fd, ps, a.imp fun vs H Q E q => q.imp i, b⟩
def mCallM (g : FM) (τ : TMA) : TM := fun ω ρ h P => τ ω ρ h fun ds h1 => g ds h1 P fun x h2 => ω x ρ h2
theorem me_cM {g : FM} (F : FnM X.prog X.w X.K X.mg X.base x k n g) (tk : Takes X W.x) (hr : Room k X.A) (hg : Gl X x) (ha : MA X W (e :: es) τs) (hl : (e :: es).length = n := by rfl) (hdb : (x == ("__debug__" : Str)) = false := by decide) (he : starEach (e :: es) X.env = (false, eval e X.env) :: starEach es X.env := by rfl) (hpl : (backTo pos (starEach es X.env)).any (·.1) = false := by rfl) :
    ME X W (.Call (.Name x p) (e :: es) [] pos) (mCallM g τs) := by
  obtain ⟨f, fd, ps, F, hm, hk, hb⟩ := F
  refine ME.of (pe_callS F hr hg hm hk hb (passAt tk) ha.pa hdb he hpl) fun σ H Hf ρ h R P Q e q k => ⟨R, Hf, ρ, h, _, e, q, fun vs H1 Hf1 ds h1 e1 m1 r1 hds p1 => ?_⟩
  exact spM_run e1 r1 (hds.trans hl) p1 fun v H2 Hf2 r h2 e2 m2 ok p2 => k v H2 Hf2 r h2 e2 (m1.trans m2) (ok.back m1.live) p2
/-! ### instances -/
def isI (h : Hd) (d : D) (C : Addr) (fs : List (Str × D)) : Prop := (∃ a, d = .raw (.ref a) ∧ h a = some (.ins C fs)) ∨ d = .obj C fs
theorem RepF.get {K : Fg} {H : Hp} {f : Str} : ∀ {gs : List (Str × V)} {fs : List (Str × D)}, RepF K H gs fs → (∀ d, fs.lookup f = some d → ∃ v, gs.lookup f = some v ∧ Rep K H v d) ∧ (fs.lookup f = none → gs.lookup f = none)
  | _, _, .nil => ⟨fun d h => (nomatch h), fun _ => rfl⟩
  | _, _, .cons (f := g) a r => by
    obtain ⟨i1, i2⟩ := RepF.get (f := f) r
    simp only [List.lookup]
    cases e : f == g with
    | true => exact ⟨fun d h => ⟨_, rfl, by cases h; exact a⟩, fun h => nomatch h⟩
    | false => exact ⟨i1, i2⟩
def putD (f : Str) (v : D) : List (Str × D) → List (Str × D)
  | [] => [(f, v)]
  | (g, x) :: r => if g = f then (g, v) :: r else (g, x) :: putD f v r
theorem RepF.put {K : Fg} {H : Hp} {f : Str} {v : V} {d : D} (q : Rep K H v d) : ∀ {gs : List (Str × V)} {fs : List (Str × D)}, RepF K H gs fs → RepF K H (putF f v gs) (putD f d fs)
  | _, _, .nil => .cons q .nil
  | _, _, .cons (f := g) a r => by
    unfold putF putD
    split
    · exact .cons q r
    · exact .cons a (RepF.put q r)
theorem RepF.length {K : Fg} {H : Hp} : ∀ {gs : List (Str × V)} {fs : List (Str × D)}, RepF K H gs fs → gs.length = fs.length
  | _, _, .nil => rfl
  | _, _, .cons _ r => congrArg (· + 1) (RepF.length r)
theorem isI.at {K : Fg} {H Hf : Hp} {h : Hd} {v : V} {d : D} {C : Addr} {fs : List (Str × D)} (s : Hs K H Hf h) (r : Rep K Hf v d) (i : isI h d C fs) : ∃ a dx gs, v = .ref a ∧ H a = some (.ins C dx gs) ∧ RepF K Hf gs fs := by
  rcases i with ⟨a, rfl, e⟩ | rfl
  · cases r
    obtain ⟨_, dx, gs, z1, z2⟩ := s.hp a _ e
    exact ⟨a, dx, gs, rfl, z1, z2⟩
  · cases r with
    | obj q r => exact ⟨_, _, _, rfl, s.sub _ _ q, r⟩
/-- a field of the class may be read and stored -/
def Fo (K : Fg) (C : Addr) (f : Str) : Prop := Cls K C ∧ NoAttr K C f
def mFld (C : Addr) (f : Str) (τ : TM) : TM := fun ω ρ h P => τ ω ρ h fun x h1 => ∃ fs d, isI h1 x.dat C fs ∧ fs.lookup f = some d ∧ P (.fz d) h1
theorem me_fld {f : Str} (fo : Fo X.K C f) (he : ME X W e τ) (hb : attributeBase e f X.env (eval e X.env) = eval e X.env := by rfl) : ME X W (.Attribute e f pos) (mFld C f τ) := by
  obtain ⟨t, pe, se⟩ := he.fz
  refine ME.of (pe_fld pe hb) fun σ H Hf ρ h R P Q e q k => se σ H Hf ρ h R (fun x h1 => ∃ fs d, isI h1 x C fs ∧ fs.lookup f = some d ∧ P (.fz d) h1) _ e q fun v H1 Hf1 dx h1 e1 m1 r1 ⟨fs, d, i1, l, p1⟩ => ?_
  obtain ⟨a, dx', gs, ev, z1, z2⟩ := isI.at e1.hs r1 i1
  obtain ⟨w, l1, rw'⟩ := (RepF.get z2).1 d l
  exact ⟨a, C, dx', gs, w, ev, z1, fo.1, fo.2, l1, k w H1 Hf1 (.fz d) h1 e1 m1 rw' p1⟩
/-- o.m(..), what it raises wished for at the slots -/
def tMethD (C : Addr) (m : Str) (sp : Sp) (E : St → XK) (ta : TE) (t : TA) : TE := fun σ H Q => ta σ H fun x H1 => ∃ a dx fs, x = .ref a ∧ H1 a = some (.ins C dx fs) ∧ fs.lookup m = none ∧ t σ H1 fun vs H2 => sp (x :: vs) H2 Q (E σ)
theorem pe_methD {pl : Sem Bool} {CX : CXT} {sp : Sp} {E : St → XK} {ta : TE} {t : TA} (he : PE X o ta) (c : Cls X.K C) (hm : Meth X.K C m f) (F : FnOk X.prog X.w X.K X.mg X.base CX k f fd ps sp) (hr : Room k X.A) (hb : Binds X.K fd ps []) (hx : ∀ σ, PassesAt CX X σ (E σ)) (ha : PA X (e :: es) t)
    (hst : starEach (e :: es) X.env = (false, eval e X.env) :: starEach es X.env) (hpl : (backTo pos (starEach es X.env)).any (·.1) = false)
    (ht : eval (.Call (.Attribute o m apos) (e :: es) [] pos) X.env = (do let ov ← eval o X.env; standAt apos.atName; let (f, first) ← holding [ov] (getMethod ov m pl); callWith pos f first (backTo pos (starEach (e :: es) X.env)) (backToKw pos (keywordEach [] X.env)))) :
    PE X (.Call (.Attribute o m apos) (e :: es) [] pos) (tMethD C m sp E ta t) := ⟨fun pins s σ H Q I q0 => PySem.W.methodCall_KW (pl := pl) (thn (he.run pins s σ H _ I q0) fun u s1 ⟨x, H1, I1, rx, a, dx, fs, ex, ea, l, q⟩ => by
  subst ex
  cases (show u = Value.ref a from rx)
  exact getmeth_ok I1 ea c hm l (PySem.W.callWith_K (first := [.ref a]) (h₀ := X.base) I.ok.mod.kin hm.kp (thn (ha.run pos pins s1 σ H1 _ I1 q) fun us s2 ⟨vs, H2, I2, r, q2⟩ => ⟨I2.kIn, run_fnS (us := .ref a :: us) (vs := .ref a :: vs) F hr hb (hx σ) I2 (.cons rfl r) q2⟩) hst hpl)) ht⟩
theorem pe_methD0 {pl : Sem Bool} {CX : CXT} {sp : Sp} {E : St → XK} {ta : TE} (he : PE X o ta) (c : Cls X.K C) (hm : Meth X.K C m f) (F : FnOk X.prog X.w X.K X.mg X.base CX k f fd ps sp) (hr : Room k X.A) (hb : Binds X.K fd ps []) (hx : ∀ σ, PassesAt CX X σ (E σ))
    (ht : eval (.Call (.Attribute o m apos) [] [] pos) X.env = (do let ov ← eval o X.env; standAt apos.atName; let (f, first) ← holding [ov] (getMethod ov m pl); callWith pos f first (backTo pos (starEach [] X.env)) (backToKw pos (keywordEach [] X.env)))) :
    PE X (.Call (.Attribute o m apos) [] [] pos) (tMethD C m sp E ta tNil) := ⟨fun pins s σ H Q I q0 => PySem.W.methodCall_KW (pl := pl) (thn (he.run pins s σ H _ I q0) fun u s1 ⟨x, H1, I1, rx, a, dx, fs, ex, ea, l, q⟩ => by
  subst ex
  cases (show u = Value.ref a from rx)
  exact getmeth_ok I1 ea c hm l (PySem.W.callWith_K0 (first := [.ref a]) I1.kIn hm.kp (run_fnS (us := [.ref a]) (vs := [.ref a]) F hr hb (hx σ) I1 (.cons rfl .nil) q))) ht⟩
/-- the method m of the class C keeps the promise -/
def MthM (P : Program) (w : World) (K : Fg) (mg : Str → Option Value) (base : Heap) (C : Addr) (m : Str) (k n : Nat) (g : FM) : Prop := ∃ f fd ps, FnOk P w K mg base (L2.CX P w) k f fd ps (spM K n g) ∧ Cls K C ∧ Meth K C m f ∧ Binds K fd ps []
theorem MthM.mono {P : Program} {w : World} {K : Fg} {mg : Str → Option Value} {base : Heap} {j : Nat} {g : FM} (h : MthM P w K mg base C m j n g) (hj : j ≤ k) : MthM P w K mg base C m k n g := let ⟨f, fd, ps, a, b⟩ := h; ⟨f, fd, ps, a.mono hj, b⟩
theorem MthM.imp {P : Program} {w : World} {K : Fg} {mg : Str → Option Value} {base : Heap} {g g' : FM} (h : MthM P w K mg base C m k n g) (i : ∀ ds h P E, g' ds h P E → g ds h P E) : MthM P w K mg base C m k n g' := let ⟨f, fd, ps, a, b⟩ := h; ⟨f, fd, ps, a.imp fun vs H Q E q => q.imp i, b⟩
def mMeth (C : Addr) (m : Str) (g : FM) (τo : TM) (τs : TMA) : TM := fun ω ρ h P => τo ω ρ h fun x h1 => (∃ fs, isI h1 x.dat C fs ∧ fs.lookup m = none) ∧ τs ω ρ h1 fun ds h2 => g (x.dat :: ds) h2 P fun x h3 => ω x ρ h3
theorem me_mM {pl : Sem Bool} {g : FM} (F : MthM X.prog X.w X.K X.mg X.base C m k n g) (tk : Takes X W.x) (hr : Room k X.A) (ho : ME X W o τo) (ha : MA X W (e :: es) τs) (hl : (e :: es).length + 1 = n := by rfl)
    (hst : starEach (e :: es) X.env = (false, eval e X.env) :: starEach es X.env := by rfl) (hpl : (backTo pos (starEach es X.env)).any (·.1) = false := by rfl)
    (ht : eval (.Call (.Attribute o m apos) (e :: es) [] pos) X.env = (do let ov ← eval o X.env; standAt apos.atName; let (f, first) ← holding [ov] (getMethod ov m pl); callWith pos f first (backTo pos (starEach (e :: es) X.env)) (backToKw pos (keywordEach [] X.env))) := by rfl) :
    ME X W (.Call (.Attribute o m apos) (e :: es) [] pos) (mMeth C m g τo τs) := by
  obtain ⟨f, fd, ps, F, hc, hm, hb⟩ := F
  obtain ⟨t, po, so⟩ := ho.fz
  refine ME.of (pe_methD po hc hm F hr hb (passAt tk) ha.pa hst hpl ht) fun σ H Hf ρ h R P Q e q k => so σ H Hf ρ h R (fun x h1 => (∃ fs, isI h1 x C fs ∧ fs.lookup m = none) ∧ τs R.ω ρ h1 fun ds h2 => g (x :: ds) h2 P fun x h3 => R.ω x ρ h3) _ e q fun v H1 Hf1 dv h1 e1 m1 r1 ⟨⟨fs, i1, l1⟩, p1⟩ => ?_
  obtain ⟨a, dx, gs, ev, z1, z2⟩ := isI.at e1.hs r1 i1
  refine ⟨a, dx, gs, ev, z1, (RepF.get z2).2 l1, R, Hf1, ρ, h1, _, e1, p1, fun vs H2 Hf2 ds h2 e2 m2 r2 hds p2 => ?_⟩
  have m12 := m1.trans m2
  exact spM_run e2 (.cons (r1.mono m2.grow) r2) (by rw [List.length_cons, hds]; exact hl) p2 fun v H3 Hf3 r h3 e3 m3 ok p3 => k v H3 Hf3 r h3 e3 (m12.trans m3) (ok.back m12.live) p3
theorem me_mM0 {pl : Sem Bool} {g : FM} (F : MthM X.prog X.w X.K X.mg X.base C m k 1 g) (tk : Takes X W.x) (hr : Room k X.A) (ho : ME X W o τo)
    (ht : eval (.Call (.Attribute o m apos) [] [] pos) X.env = (do let ov ← eval o X.env; standAt apos.atName; let (f, first) ← holding [ov] (getMethod ov m pl); callWith pos f first (backTo pos (starEach [] X.env)) (backToKw pos (keywordEach [] X.env))) := by rfl) :
    ME X W (.Call (.Attribute o m apos) [] [] pos) (mMeth C m g τo mANil) := by
  obtain ⟨f, fd, ps, F, hc, hm, hb⟩ := F
  obtain ⟨t, po, so⟩ := ho.fz
  refine ME.of (pe_methD0 po hc hm F hr hb (passAt tk) ht) fun σ H Hf ρ h R P Q e q k => so σ H Hf ρ h R (fun x h1 => (∃ fs, isI h1 x C fs ∧ fs.lookup m = none) ∧ mANil R.ω ρ h1 fun ds h2 => g (x :: ds) h2 P fun x h3 => R.ω x ρ h3) _ e q fun v H1 Hf1 dv h1 e1 m1 r1 ⟨⟨fs, i1, l1⟩, p1⟩ => ?_
  obtain ⟨a, dx, gs, ev, z1, z2⟩ := isI.at e1.hs r1 i1
  refine ⟨a, dx, gs, ev, z1, (RepF.get z2).2 l1, ?_⟩
  exact spM_run e1 (.cons r1 .nil) rfl p1 fun v H3 Hf3 r h3 e3 m3 ok p3 => k v H3 Hf3 r h3 e3 (m1.trans m3) (ok.back m1.live) p3
end
end ML
/-! The second data layer, 4: new instances; what is one's own; what is frozen; targets; statements. -/
namespace ML
open PySem L2 DL
section
variable {X : Cx} {W : Wd} {pos p apos : Pos} {e o : Expr} {es : List Expr} {τ τo : TM} {τs : TMA} {x m : Str} {f C : Addr} {fd : FuncData} {ps : List Str} {k n : Nat}
/-! ### new instances -/
def tMakeD (C : Addr) (sp : Sp) (E : St → XK) (t : TA) : TE := fun σ H Q => t σ H fun vs H1 => ∀ x dx, H1 x = none → H1 dx = none → dx ≠ x → sp (.ref x :: vs) (upd (upd H1 dx (.own x)) x (.ins C dx [])) (fun v H2 => v = .non ∧ Q (.ref x) H2) (E σ)
theorem run_mkD {CX : CXT} {sp : Sp} {E : St → XK} {pins : List (Addr × Obj)} {σ : St} {H : Hp} {s : Shared} {Q : VK} {us : List Value} {vs : List V} (M : Mk X.K C f) (F : FnOk X.prog X.w X.K X.mg X.base CX k f fd ps sp) (hr : Room (k + 1) X.A) (hb : Binds X.K fd ps [])
    (hx : PassesAt CX X σ (E σ)) (I : Inv X pins σ H s) (r : Vals vs us) (q0 : ∀ x dx, H x = none → H dx = none → dx ≠ x → sp (.ref x :: vs) (upd (upd H dx (.own x)) x (.ins C dx [])) (fun v H2 => v = .non ∧ Q (.ref x) H2) (E σ)) :
    wpAny (model X.prog X.w) X.A (call (.ref C) us) (EP X pins σ Q) X.xe s := by
  have J := Inv.made (C := C) I
  have hq := q0 (s.heap.objs.size + 1) s.heap.objs.size (I.hok.fresh (Nat.le_succ _)) (I.hok.fresh (Nat.le_refl _)) (Nat.ne_of_lt (Nat.lt_succ_self _))
  have rr : Vals (V.ref (s.heap.objs.size + 1) :: vs) (Value.ref (s.heap.objs.size + 1) :: us) := .cons rfl r
  have hl : (Value.ref (s.heap.objs.size + 1) :: us).length = ps.length := rr.length.symm.trans (F.len _ _ _ _ hq)
  have b := hb { s with heap := (s.heap.push PySem.W.emptyDict).push (PySem.W.instObj C s.heap.objs.size) } (Value.ref (s.heap.objs.size + 1) :: us) J.kIn (by rw [List.append_nil]; exact hl)
  rw [List.append_nil] at b
  refine wpAny_call (make_map (f := f) I.kIn M.makes M.init (beq_iff_eq.mp M.fn) (codeAny_mono (F.run _ X.stack _ _ ⟨Value.ref (s.heap.objs.size + 1) :: us, []⟩ _ _ _ (E σ) (hr.make C us []) (J.env0.make C us []) b rr hq) fun res s' z => ?_))
  match res, z with
  | .error e, z => exact hx pins _ _ e s' J z
  | .ok (.ret u), z =>
    obtain ⟨v, H', I3, rv, ev, q3⟩ := J.after z
    subst ev
    exact ⟨rv, V.ref (s.heap.objs.size + 1), H', I3, rfl, q3⟩
  | .ok .next, z => exact z.elim
  | .ok .brk, z => exact z.elim
  | .ok .cont, z => exact z.elim
theorem pe_mkD {CX : CXT} {sp : Sp} {E : St → XK} {t : TA} (M : Mk X.K C f) (F : FnOk X.prog X.w X.K X.mg X.base CX k f fd ps sp) (hr : Room (k + 1) X.A) (hg : Gl X x) (hm : X.mg x = some (.ref C)) (hb : Binds X.K fd ps []) (hx : ∀ σ, PassesAt CX X σ (E σ))
    (ha : PA X (e :: es) t) (hdb : (x == ("__debug__" : Str)) = false) (he : starEach (e :: es) X.env = (false, eval e X.env) :: starEach es X.env) (hpl : (backTo pos (starEach es X.env)).any (·.1) = false) :
    PE X (.Call (.Name x p) (e :: es) [] pos) (tMakeD C sp E t) := ⟨fun pins s σ H Q I q0 =>
  wpAny_Call_Name_kw (ld_glob I hg hm (PySem.W.callWith_K (h₀ := X.base) I.ok.mod.kin M.kp (thn (ha.run pos pins s σ H _ I q0) fun us s1 ⟨vs, H1, I1, r, q⟩ => ⟨I1.kIn, run_mkD M F hr hb (hx σ) I1 r q⟩) he hpl) hdb)⟩
theorem pe_mkD0 {CX : CXT} {sp : Sp} {E : St → XK} (M : Mk X.K C f) (F : FnOk X.prog X.w X.K X.mg X.base CX k f fd ps sp) (hr : Room (k + 1) X.A) (hg : Gl X x) (hm : X.mg x = some (.ref C)) (hb : Binds X.K fd ps []) (hx : ∀ σ, PassesAt CX X σ (E σ))
    (hdb : (x == ("__debug__" : Str)) = false) : PE X (.Call (.Name x p) [] [] pos) (tMakeD C sp E tNil) := ⟨fun pins s σ H Q I q0 =>
  wpAny_Call_Name_kw (ld_glob I hg hm (PySem.W.callWith_K0 I.kIn M.kp (run_mkD (us := []) M F hr hb (hx σ) I .nil q0)) hdb)⟩
/-- the class of the name x at C, its __init__ keeping the promise -/
def MkM (P : Program) (w : World) (K : Fg) (mg : Str → Option Value) (base : Heap) (x : Str) (C : Addr) (k n : Nat) (g : FM) : Prop := ∃ f fd ps, FnOk P w K mg base (L2.CX P w) k f fd ps (spM K n g) ∧ Mk K C f ∧ mg x = some (.ref C) ∧ Binds K fd ps []
theorem MkM.mono {P : Program} {w : World} {K : Fg} {mg : Str → Option Value} {base : Heap} {j : Nat} {g : FM} (h : MkM P w K mg base x C j n g) (hj : j ≤ k) : MkM P w K mg base x C k n g := let ⟨f, fd, ps, a, b⟩ := h; ⟨f, fd, ps, a.mono hj, b⟩
theorem MkM.imp {P : Program} {w : World} {K : Fg} {mg : Str → Option Value} {base : Heap} {g g' : FM} (h : MkM P w K mg base x C k n g) (i : ∀ ds h P E, g' ds h P E → g ds h P E) : MkM P w K mg base x C k n g' := let ⟨f, fd, ps, a, b⟩ := h; ⟨f, fd, ps, a.imp fun vs H Q E q => q.imp i, b⟩
def mMake (C : Addr) (g : FM) (τs : TMA) : TM := fun ω ρ h P => τs ω ρ h fun ds h1 => ∀ a, h1 a = none → g (.raw (.ref a) :: ds) (put h1 a (.ins C [])) (fun r h2 => r.dat = .non ∧ P (.fz (.raw (.ref a))) h2) fun x h2 => ω x ρ h2
theorem make_run {K : Fg} {R : Rg} {H Hf : Hp} {σ : St} {ρ : Me} {h : Hd} {g : FM} {vs : List V} {ds : List D} {P : Res → Hd → Prop} {Q : VK} (e : RE K W R H Hf σ ρ h) (r : RepL K Hf vs ds) (hl : ds.length + 1 = n)
    (q : ∀ a, h a = none → g (.raw (.ref a) :: ds) (put h a (.ins C [])) (fun r h2 => r.dat = .non ∧ P (.fz (.raw (.ref a))) h2) fun x h2 => R.ω x ρ h2)
    (k : ∀ v H' Hf' r h', RE K W R H' Hf' σ ρ h' → Mo h h' H H' Hf Hf' → RO K H H' Hf' h' v r → P r h' → Q v H') (x dx : Addr) (hx : H x = none) (hd : H dx = none) (hne : dx ≠ x) :
    spM K n g (.ref x :: vs) (upd (upd H dx (.own x)) x (.ins C dx [])) (fun v H2 => v = .non ∧ Q (.ref x) H2) (WE W.x σ) := by
  have x1 := Ext.add' e.hs.sub (.own x) hd
  have hx1 : upd H dx (.own x) x = none := by rw [upd_ne (Ne.symm hne)]; exact hx
  have s1 := e.hs.ext x1
  have s2 : Hs K (upd (upd H dx (.own x)) x (.ins C dx [])) Hf (put h x (.ins C [])) := s1.upd (o := .ins C []) (u := .ins C dx []) (.inr hx1) fun H' hq => ⟨dx, [], hq, .nil⟩
  have m2 : Mo h (put h x (.ins C [])) H (upd (upd H dx (.own x)) x (.ins C dx [])) Hf Hf := (Mo.ext x1).trans (Mo.upd (.inr hx1))
  have e2 := e.step s2 m2
  refine spM_run e2 (.cons (.raw _) r) (by rw [List.length_cons]; exact hl) (q x (e.hs.free hx)) fun v H3 Hf3 r3 h3 e3 m3 ok ⟨hn, p3⟩ => ?_
  obtain ⟨Hf4, s4, m4, r4⟩ := ok.freeze e3.hs m3
  rw [hn] at r4
  refine ⟨by cases r4; rfl, k _ H3 Hf3 (.fz (.raw (.ref x))) h3 e3 (m2.trans m3) (Rep.raw _) p3⟩
theorem me_mk {g : FM} (F : MkM X.prog X.w X.K X.mg X.base x C k n g) (tk : Takes X W.x) (hr : Room (k + 1) X.A) (hg : Gl X x) (ha : MA X W (e :: es) τs) (hl : (e :: es).length + 1 = n := by rfl) (hdb : (x == ("__debug__" : Str)) = false := by decide) (he : starEach (e :: es) X.env = (false, eval e X.env) :: starEach es X.env := by rfl) (hpl : (backTo pos (starEach es X.env)).any (·.1) = false := by rfl) :
    ME X W (.Call (.Name x p) (e :: es) [] pos) (mMake C g τs) := by
  obtain ⟨f, fd, ps, F, M, hm, hb⟩ := F
  refine ME.of (pe_mkD M F hr hg hm hb (passAt tk) ha.pa hdb he hpl) fun σ H Hf ρ h R P Q e q k => ⟨R, Hf, ρ, h, _, e, q, fun vs H1 Hf1 ds h1 e1 m1 r1 hds p1 => ?_⟩
  exact make_run e1 r1 (by rw [hds]; exact hl) p1 fun v H2 Hf2 r h2 e2 m2 ok p2 => k v H2 Hf2 r h2 e2 (m1.trans m2) (ok.back m1.live) p2
theorem me_mk0 {g : FM} (F : MkM X.prog X.w X.K X.mg X.base x C k 1 g) (tk : Takes X W.x) (hr : Room (k + 1) X.A) (hg : Gl X x) (hdb : (x == ("__debug__" : Str)) = false := by decide) : ME X W (.Call (.Name x p) [] [] pos) (mMake C g mANil) := by
  obtain ⟨f, fd, ps, F, M, hm, hb⟩ := F
  exact ME.of (pe_mkD0 M F hr hg hm hb (passAt tk) hdb) fun σ H Hf ρ h R P Q e q k => make_run e .nil rfl q k
/-! ### a new list is one's own -/
def mOwn (τ : TM) : TM := fun ω ρ h P => τ ω ρ h fun r h1 => ∃ xs, r = .fr xs ∧ ∀ a, h1 a = none → P (.fz (.raw (.ref a))) (put h1 a (.lst xs))
theorem me_own (he : ME X W e τ) : ME X W e (mOwn τ) := by
  obtain ⟨t, pe, se⟩ := he.ex
  refine ME.of pe fun σ H Hf ρ h R P Q e q k => se σ H Hf ρ h R _ Q e q fun v H1 Hf1 r h1 e1 m1 r1 ⟨xs, hr, p1⟩ => ?_
  subst hr
  obtain ⟨a, ev, n1, n2, s2, m2⟩ := r1.take e1.hs m1
  subst ev
  exact k _ H1 Hf1 (.fz (.raw (.ref a))) _ (e.step s2 m2) m2 (Rep.raw _) (p1 a n1)
end
/-! ### freezing -/
mutual
inductive Fz (h : Hd) (A : Addr → Prop) : D → D → Prop
  | same (d : D) : Fz h A d d
  | lst {a : Addr} {xs ys : List D} : h a = some (.lst xs) → A a → FzL h A xs ys → Fz h A (.raw (.ref a)) (.lst ys)
  | ins {a C : Addr} {fs gs : List (Str × D)} : h a = some (.ins C fs) → A a → FzF h A fs gs → Fz h A (.raw (.ref a)) (.obj C gs)
  | tup {xs ys : List D} : FzL h A xs ys → Fz h A (.tup xs) (.tup ys)
  | lis {xs ys : List D} : FzL h A xs ys → Fz h A (.lst xs) (.lst ys)
inductive FzL (h : Hd) (A : Addr → Prop) : List D → List D → Prop
  | nil : FzL h A [] []
  | cons {d e : D} {xs ys : List D} : Fz h A d e → FzL h A xs ys → FzL h A (d :: xs) (e :: ys)
inductive FzF (h : Hd) (A : Addr → Prop) : List (Str × D) → List (Str × D) → Prop
  | nil : FzF h A [] []
  | cons {f : Str} {d e : D} {xs ys : List (Str × D)} : Fz h A d e → FzF h A xs ys → FzF h A ((f, d) :: xs) ((f, e) :: ys)
end
open Classical in
noncomputable def hfz (H Hf : Hp) (h : Hd) (A : Addr → Prop) : Hp := fun b => match Hf b with
  | some o => some o
  | none => if A b ∧ (h b).isSome = true then H b else none
section
variable {K : Fg} {W : Wd} {R : Rg} {H Hf : Hp} {h h' : Hd} {A : Addr → Prop} {σ : St} {ρ ρ' : Me}
theorem hfz_grow : ∀ b o, Hf b = some o → hfz H Hf h A b = some o := fun b o q => by unfold hfz; rw [q]
theorem hfz_sub (s : Hs K H Hf h) : ∀ b o, hfz H Hf h A b = some o → H b = some o := fun b o q => by
  unfold hfz at q
  cases e : Hf b with
  | some u => rw [e] at q; cases q; exact s.sub b _ e
  | none =>
    rw [e] at q
    dsimp only at q
    split at q
    · exact q
    · cases q
theorem hfz_at {a : Addr} {o : Ob} (s : Hs K H Hf h) (e : h a = some o) (ha : A a) : hfz H Hf h A a = H a := by
  unfold hfz
  rw [(s.hp a o e).1]
  dsimp only
  rw [if_pos ⟨ha, by rw [e]; rfl⟩]
mutual
theorem Fz.rep (s : Hs K H Hf h) : ∀ {d e : D} {v : V}, Fz h A d e → Rep K Hf v d → Rep K (hfz H Hf h A) v e
  | _, _, _, .same d, r => r.mono hfz_grow
  | _, _, _, .lst q ha l, .raw _ => by
    obtain ⟨_, ys, z1, z2⟩ := s.hp _ _ q
    exact .lst ((hfz_at s q ha).trans z1) (FzL.rep s l z2)
  | _, _, _, .ins q ha l, .raw _ => by
    obtain ⟨_, dx, gs, z1, z2⟩ := s.hp _ _ q
    exact .obj ((hfz_at s q ha).trans z1) (FzF.rep s l z2)
  | _, _, _, .tup l, .tup q r => .tup (sqT_same hfz_grow q) (FzL.rep s l r)
  | _, _, _, .lis l, .lst q r => .lst (hfz_grow _ _ q) (FzL.rep s l r)
theorem FzL.rep (s : Hs K H Hf h) : ∀ {ds es : List D} {vs : List V}, FzL h A ds es → RepL K Hf vs ds → RepL K (hfz H Hf h A) vs es
  | _, _, _, .nil, .nil => .nil
  | _, _, _, .cons a l, .cons r t => .cons (Fz.rep s a r) (FzL.rep s l t)
theorem FzF.rep (s : Hs K H Hf h) : ∀ {ds es : List (Str × D)} {vs : List (Str × V)}, FzF h A ds es → RepF K Hf vs ds → RepF K (hfz H Hf h A) vs es
  | _, _, _, .nil, .nil => .nil
  | _, _, _, .cons a l, .cons r t => .cons (Fz.rep s a r) (FzF.rep s l t)
end
/-- what stands behind a freezing of A -/
def Cut (h h' : Hd) (A : Addr → Prop) : Prop := ∀ a o, h' a = some o → h a = some o ∧ ¬ A a
theorem Hs.fz (s : Hs K H Hf h) (c : Cut h h' A) : Hs K H (hfz H Hf h A) h' := ⟨hfz_sub s, fun b o q => by
  obtain ⟨q1, q2⟩ := c b o q
  obtain ⟨z1, z2⟩ := s.hp b o q1
  refine ⟨?_, z2.mono (fun _ w => w) hfz_grow⟩
  unfold hfz
  rw [z1]
  dsimp only
  rw [if_neg fun z => q2 z.1]⟩
theorem Mo.fz (c : Cut h h' A) : Mo h h' H H Hf (hfz H Hf h A) := ⟨fun _ _ q _ => q, fun _ q => q, hfz_grow, (fun b o q => by
  unfold hfz at q
  cases e : Hf b with
  | some u => rw [e] at q; cases q; exact .inl rfl
  | none =>
    rw [e] at q
    dsimp only at q
    split at q
    · rename_i z
      exact .inr (.inr (Option.isSome_iff_exists.mp z.2))
    · cases q), fun b u q => .inl ⟨u, (c b u q).1⟩⟩
/-- slots seen anew, or let go -/
def FzE (h : Hd) (A : Addr → Prop) (ρ ρ' : Me) : Prop := ρ'.length = ρ.length ∧ ∀ (i : Nat) (e : D), ρ'[i]? = some (some e) → ∃ d, ρ[i]? = some (some d) ∧ Fz h A d e
theorem FzE.refl (h : Hd) (A : Addr → Prop) (ρ : Me) : FzE h A ρ ρ := ⟨rfl, fun i e q => ⟨e, q, .same e⟩⟩
theorem FzE.set {i : Nat} {d e : D} (q : ρ[i]? = some (some d)) (z : Fz h A d e) : FzE h A ρ (ρ.set i (some e)) := ⟨by rw [List.length_set], fun j u w => by
  rw [List.getElem?_set] at w
  by_cases hj : i = j
  · subst hj
    rw [if_pos rfl] at w
    split at w
    · cases w; exact ⟨d, q, z⟩
    · cases w
  · rw [if_neg hj] at w
    exact ⟨u, w, .same u⟩⟩
theorem RE.fz (e : RE K W R H Hf σ ρ h) (c : Cut h h' A) (z : FzE h A ρ ρ') : RE K W R H (hfz H Hf h A) σ ρ' h' where
  ok := e.ok
  gh := W.mono _ _ hfz_grow e.gh
  sl := ⟨fun i d q => by
    obtain ⟨d0, q0, f⟩ := z.2 i d q
    obtain ⟨v, h1, h2⟩ := e.sl.at_ i d0 q0
    exact ⟨v, h1, f.rep e.hs h2⟩, by rw [z.1]; exact e.sl.len⟩
  hs := e.hs.fz c
  mv := e.mv.trans (Mo.fz c)
end
section
variable {X : Cx} {W : Wd} {e : Expr} {τ : TM}
/-- the value is frozen -/
def mFz (τ : TM) : TM := fun ω ρ h P => τ ω ρ h fun r h1 => ∃ A d h2, Fz h1 A r.dat d ∧ Cut h1 h2 A ∧ P (.fz d) h2
theorem me_fz (he : ME X W e τ) : ME X W e (mFz τ) := by
  obtain ⟨t, pe, se⟩ := he.fz
  refine ME.of pe fun σ H Hf ρ h R P Q e q k => se σ H Hf ρ h R (fun r h1 => ∃ A d h2, Fz h1 A r d ∧ Cut h1 h2 A ∧ P (.fz d) h2) Q e q fun v H1 Hf1 d1 h1 e1 m1 r1 ⟨A, d, h2, f, c, p1⟩ => ?_
  exact k v H1 _ (.fz d) h2 (e1.fz c (FzE.refl ..)) (m1.trans (Mo.fz c)) (f.rep e1.hs r1) p1
end
/-! ### targets -/
abbrev TMG := D → Me → (Me → Prop) → Prop
abbrev TMGs := List D → Me → (Me → Prop) → Prop
theorem set_getM {ρ : Me} {i j : Nat} {s : Option D} : (ρ.set i s)[j]? = if i = j then (if i < ρ.length then some s else none) else ρ[j]? := by rw [List.getElem?_set]
/-- slots set, the others as they were -/
structure StM (is : List Nat) (σ σ' : St) (ρ ρ' : Me) : Prop where
  sl : ∀ i, i ∉ is → σ'[i]? = σ[i]? ∧ ρ'[i]? = ρ[i]?
  len : σ'.length = σ.length
  lenR : ρ'.length = ρ.length
theorem StM.refl (is : List Nat) (σ : St) (ρ : Me) : StM is σ σ ρ ρ := ⟨fun _ _ => ⟨rfl, rfl⟩, rfl, rfl⟩
theorem StM.trans {is js : List Nat} {σ σ1 σ2 : St} {ρ ρ1 ρ2 : Me} (a : StM is σ σ1 ρ ρ1) (b : StM js σ1 σ2 ρ1 ρ2) : StM (is ++ js) σ σ2 ρ ρ2 := ⟨fun i h => by
  obtain ⟨a1, a2⟩ := a.sl i fun z => h (List.mem_append_left _ z)
  obtain ⟨b1, b2⟩ := b.sl i fun z => h (List.mem_append_right _ z)
  exact ⟨b1.trans a1, b2.trans a2⟩, b.len.trans a.len, b.lenR.trans a.lenR⟩
def canMG (K : Fg) (is : List Nat) (γ : TMG) : TG := fun v σ H Q => ∃ (Hf : Hp) (ρ : Me) (d : D) (P : Me → Prop), (∀ b o, Hf b = some o → H b = some o) ∧ Sd K Hf σ ρ ∧ Rep K Hf v d ∧ γ d ρ P ∧ ∀ σ' H' Hf' ρ', Sd K Hf' σ' ρ' → Ext H H' Hf Hf' → StM is σ σ' ρ ρ' → P ρ' → Q σ' H'
def canMGs (K : Fg) (is : List Nat) (γ : TMGs) : TGs := fun vs σ H Q => ∃ (Hf : Hp) (ρ : Me) (ds : List D) (P : Me → Prop), (∀ b o, Hf b = some o → H b = some o) ∧ Sd K Hf σ ρ ∧ RepL K Hf vs ds ∧ γ ds ρ P ∧ ∀ σ' H' Hf' ρ', Sd K Hf' σ' ρ' → Ext H H' Hf Hf' → StM is σ σ' ρ ρ' → P ρ' → Q σ' H'
structure MG (X : Cx) (tg : Expr) (is : List Nat) (γ : TMG) : Prop where
  pg : PG X tg (canMG X.K is γ)
structure MGs (X : Cx) (tgs : List Expr) (is : List Nat) (γ : TMGs) : Prop where
  pgs : PGs X tgs (canMGs X.K is γ)
theorem Sd.set {K : Fg} {Hf : Hp} {σ : St} {ρ : Me} (s : Sd K Hf σ ρ) (i : Nat) {v : V} {d : D} (r : Rep K Hf v d) : Sd K Hf (σ.set i (some v)) (ρ.set i (some d)) := ⟨fun j e q => by
  rw [set_getM] at q
  by_cases hj : i = j
  · subst hj
    rw [if_pos rfl] at q
    split at q
    · rename_i hlt
      cases q
      exact ⟨v, by rw [List.getElem?_set, if_pos rfl, if_pos (by rw [s.len]; exact hlt)], r⟩
    · cases q
  · rw [if_neg hj] at q
    rw [List.getElem?_set, if_neg hj]
    exact s.at_ j e q, by rw [List.length_set, List.length_set]; exact s.len⟩
theorem stM_slot {σ : St} {ρ : Me} {i : Nat} {v : Option V} {d : Option D} : StM [i] σ (σ.set i v) ρ (ρ.set i d) := ⟨fun j h => by
  have hj : ¬ i = j := fun z => h (by rw [z]; exact List.mem_singleton.mpr rfl)
  exact ⟨by rw [List.getElem?_set, if_neg hj], by rw [set_getM, if_neg hj]⟩, by rw [List.length_set], by rw [List.length_set]⟩
section
variable {X : Cx} {pos : Pos} {e : Expr} {es : List Expr} {γ : TMG} {γs : TMGs} {is js : List Nat}
def gM (i : Nat) : TMG := fun d ρ P => P (ρ.set i (some d))
theorem MG.of {t : TG} (h : PG X e t) (k : ∀ (v : V) (σ : St) (H Hf : Hp) (ρ : Me) (d : D) (P : Me → Prop) (Q : St → Hp → Prop), (∀ b o, Hf b = some o → H b = some o) → Sd X.K Hf σ ρ → Rep X.K Hf v d → γ d ρ P → (∀ σ' H' Hf' ρ', Sd X.K Hf' σ' ρ' → Ext H H' Hf Hf' → StM is σ σ' ρ ρ' → P ρ' → Q σ' H') → t v σ H Q) : MG X e is γ :=
  ⟨⟨fun pins s σ H v u Q I r ⟨Hf, ρ, d, P, e1, e2, r1, q, kk⟩ => h.run pins s σ H v u Q I r (k v σ H Hf ρ d P Q e1 e2 r1 q kk)⟩⟩
theorem MGs.of {t : TGs} (h : PGs X es t) (k : ∀ (vs : List V) (σ : St) (H Hf : Hp) (ρ : Me) (ds : List D) (P : Me → Prop) (Q : St → Hp → Prop), (∀ b o, Hf b = some o → H b = some o) → Sd X.K Hf σ ρ → RepL X.K Hf vs ds → γs ds ρ P → (∀ σ' H' Hf' ρ', Sd X.K Hf' σ' ρ' → Ext H H' Hf Hf' → StM is σ σ' ρ ρ' → P ρ' → Q σ' H') → t vs σ H Q) : MGs X es is γs :=
  ⟨⟨fun pins s σ H v u Q I r ⟨Hf, ρ, d, P, e1, e2, r1, q, kk⟩ => h.run pins s σ H v u Q I r (k v σ H Hf ρ d P Q e1 e2 r1 q kk)⟩⟩
theorem mg_n {x : Str} (i : Nat) (hN : X.N.Nodup) (hi : X.N[i]? = some x) (hx : Loc X.env.scope x) (hf : X.fn x = true ∨ X.env.scope.names.lookup x = some .local := by first | exact .inl rfl | exact .inr rfl | assumption) : MG X (.Name x pos) [i] (gM i) :=
  MG.of (pg_name hN hi hx hf) fun v σ H Hf ρ d P Q sub e r h2 k => k _ H Hf _ (e.set i r) (Ext.refl sub) stM_slot h2
def gNilM : TMGs := fun ds ρ P => ds = [] ∧ P ρ
def gConsM (a : TMG) (r : TMGs) : TMGs := fun ds ρ P => ∃ d es, ds = d :: es ∧ a d ρ fun ρ1 => r es ρ1 P
theorem mgs_nil : MGs X [] [] gNilM := MGs.of pgs_nil fun vs σ H Hf ρ ds P Q sub e r ⟨h1, h2⟩ k => by
  subst h1
  cases r
  exact ⟨rfl, k σ H Hf ρ e (Ext.refl sub) (StM.refl ..) h2⟩
theorem mgs_cons (h1 : MG X e is γ) (h2 : MGs X es js γs) (hs : (assignEach (e :: es) X.env).map (·.2) = assign e X.env :: (assignEach es X.env).map (·.2) := by rfl) : MGs X (e :: es) (is ++ js) (gConsM γ γs) :=
  MGs.of (pgs_cons h1.pg h2.pgs hs) fun vs σ H Hf ρ ds P Q sub e r ⟨d, es, hd, q⟩ k => by
  subst hd
  cases r with
  | cons ra rr => exact ⟨_, _, rfl, Hf, ρ, d, _, sub, e, ra, q, fun σ1 H1 Hf1 ρ1 e1 x1 s1 p1 => ⟨Hf1, ρ1, es, P, x1.sub, e1, rr.mono x1.grow, p1, fun σ2 H2 Hf2 ρ2 e2 x2 s2 p2 => k σ2 H2 Hf2 ρ2 e2 (x1.trans x2) (s1.trans s2) p2⟩⟩
def gTupM (n : Nat) (γ : TMGs) : TMG := fun d ρ P => ∃ ds, d = .tup ds ∧ ds.length = n ∧ γ ds ρ P
theorem mg_tup {k n : Nat} (hc : X.calm = true) (h : MGs X es is γs) (hn : (assignEach es X.env).length = n := by rfl) (hst : (assignEach es X.env).findIdx? (·.1) = none := by rfl) : MG X (.Tuple es k pos) is (gTupM n γs) :=
  MG.of (pg_tup hc h.pgs hn hst) fun v σ H Hf ρ d P Q sub e r ⟨ds, hd, hl, q⟩ k => by
    subst hd
    cases r with
    | tup hp rp => exact ⟨_, _, rfl, sqT_same sub hp, rp.length.trans hl, Hf, ρ, ds, P, sub, e, rp, q, k⟩
def gUnlM (n : Nat) (γ : TMGs) : TMG := fun d ρ P => ∃ ds, d = .lst ds ∧ ds.length = n ∧ γ ds ρ P
theorem mg_unl {k n : Nat} (hc : X.calm = true) (h : MGs X es is γs) (hn : (assignEach es X.env).length = n := by rfl) (hst : (assignEach es X.env).findIdx? (·.1) = none := by rfl) : MG X (.Tuple es k pos) is (gUnlM n γs) :=
  MG.of (pg_unl hc h.pgs hn hst) fun v σ H Hf ρ d P Q sub e r ⟨ds, hd, hl, q⟩ k => by
    subst hd
    cases r with
    | lst hp rp => exact ⟨_, _, rfl, .inl (.inl (sub _ _ hp)), rp.length.trans hl, Hf, ρ, ds, P, sub, e, rp, q, k⟩
def gStarM (n : Nat) (γ : TMGs) : TMG := fun d ρ P => ∃ ds es, (d = .tup (ds ++ es) ∨ d = .lst (ds ++ es)) ∧ ds.length = n ∧ (ds ++ es).length ≤ 16000 ∧ γ (ds ++ [.lst es]) ρ P
theorem mgs_star {p : Pos} (h1 : MG X e is γ) : MGs X [.Starred e p] is (gConsM γ gNilM) :=
  MGs.of (pgs_star h1.pg) fun vs σ H Hf ρ ds P Q sub e r ⟨d, es, hd, q⟩ k => by
    subst hd
    cases r with
    | cons ra rr =>
      refine ⟨_, _, rfl, Hf, ρ, d, _, sub, e, ra, q, fun σ1 H1 Hf1 ρ1 e1 x1 s1 ⟨p0, p1⟩ => ?_⟩
      subst p0
      cases rr
      exact ⟨rfl, k σ1 H1 Hf1 ρ1 e1 x1 s1 p1⟩
theorem mg_star {k i : Nat} (hc : X.calm = true) (h : MGs X es is γs) (hn : (assignEach es X.env).length = i + 1 := by rfl) (hst : (assignEach es X.env).findIdx? (·.1) = some i := by rfl) : MG X (.Tuple es k pos) is (gStarM i γs) :=
  MG.of (pg_star hc h.pgs hn hst) fun v σ H Hf ρ d P Q sub e r ⟨ds, es, hd, hl, hz, q⟩ k => by
    have fin : ∀ {a : Addr} {vs : List V}, v = .ref a → (SqT X.K H a vs ∨ SqL X.K H a vs) → RepL X.K Hf vs (ds ++ es) → gStar X.K i (canMGs X.K is γs) v σ H Q := by
      intro a vs hv hs rp
      obtain ⟨us, ws, e1, r1, r2⟩ := rp.split
      subst e1
      refine ⟨a, us, ws, hv, hs, r1.length.trans hl, by rw [rp.length]; exact hz, fun n hn => ?_⟩
      have x1 := Ext.add sub (.lst ws) hn
      refine ⟨upd Hf n (.lst ws), ρ, ds ++ [.lst es], P, x1.sub, e.mono x1.grow, (r1.mono x1.grow).append (.cons (.lst upd_same (r2.mono x1.grow)) .nil), q, fun σ2 H2 Hf2 ρ2 e2 x2 s2 p2 => k σ2 H2 Hf2 ρ2 e2 (x1.trans x2) s2 p2⟩
    rcases hd with hd | hd
    · subst hd
      cases r with
      | tup hp rp => exact fin rfl (.inl (sqT_same sub hp)) rp
    · subst hd
      cases r with
      | lst hp rp => exact fin rfl (.inr (.inl (.inl (sub _ _ hp)))) rp
end
end ML
/-! The second data layer, 5: statements, loops, defs. -/
namespace ML
open PySem L2 DL
structure MEnds where
  nx : Me → Hd → Prop
  rt : Res → Hd → Prop
  bk : Me → Hd → Prop := fun _ _ => False
  ct : Me → Hd → Prop := fun _ _ => False
abbrev TMS := Wω → MEnds → Me → Hd → Prop
structure LkM (K : Fg) (W : Wd) (R : Rg) (PD : MEnds) (D : Ends) : Prop where
  nx : ∀ σ H Hf ρ h, RE K W R H Hf σ ρ h → PD.nx ρ h → D.nx σ H
  rt : ∀ v σ H Hf ρ h r, RE K W R H Hf σ ρ h → RO K R.H0 H Hf h v r → PD.rt r h → D.rt v H
  bk : ∀ σ H Hf ρ h, RE K W R H Hf σ ρ h → PD.bk ρ h → D.bk σ H
  ct : ∀ σ H Hf ρ h, RE K W R H Hf σ ρ h → PD.ct ρ h → D.ct σ H
def canMS (K : Fg) (W : Wd) (τ : TMS) : TS := fun D σ H => ∃ (R : Rg) (Hf : Hp) (ρ : Me) (h : Hd) (PD : MEnds), RE K W R H Hf σ ρ h ∧ τ R.ω PD ρ h ∧ LkM K W R PD D
structure MS (X : Cx) (W : Wd) (st : Stmt) (τ : TMS) : Prop where
  ps : PS X st (canMS X.K W τ)
structure MSs (X : Cx) (W : Wd) (sts : List Stmt) (τ : TMS) : Prop where
  pss : PSs X sts (canMS X.K W τ)
theorem RE.setTo {K : Fg} {W : Wd} {R : Rg} {H H1 Hf Hf1 : Hp} {σ σ1 : St} {ρ ρ1 : Me} {h : Hd} (e : RE K W R H Hf σ ρ h) (s : Sd K Hf1 σ1 ρ1) (x : Ext H H1 Hf Hf1) : RE K W R H1 Hf1 σ1 ρ1 h := ⟨e.ok, W.mono _ _ x.grow e.gh, s, e.hs.ext x, e.mv.trans (Mo.ext x)⟩
theorem RE.set {K : Fg} {W : Wd} {R : Rg} {H Hf : Hp} {σ : St} {ρ : Me} {h : Hd} (e : RE K W R H Hf σ ρ h) (i : Nat) {v : V} {d : D} (r : Rep K Hf v d) : RE K W R H Hf (σ.set i (some v)) (ρ.set i (some d)) h := ⟨e.ok, e.gh, e.sl.set i r, e.hs, e.mv⟩
section
variable {X : Cx} {W : Wd} {pos pos' : Pos} {st : Stmt} {rest sts sts2 : List Stmt} {e c o tg : Expr} {τ τ1 : TMS} {τe τo : TM} {τc : TMT} {γ : TMG} {x : Str}
theorem MS.of {t : TS} (h : PS X st t) (k : ∀ (D : Ends) (σ : St) (H Hf : Hp) (R : Rg) (ρ : Me) (hd : Hd) (PD : MEnds), RE X.K W R H Hf σ ρ hd → τ R.ω PD ρ hd → LkM X.K W R PD D → t D σ H) : MS X W st τ :=
  ⟨⟨fun pins s σ H D I ⟨R, Hf, ρ, hd, PD, e, q, l⟩ => h.run pins s σ H D I (k D σ H Hf R ρ hd PD e q l)⟩⟩
def mNext : TMS := fun _ PD ρ h => PD.nx ρ h
def mSeq (t u : TMS) : TMS := fun ω PD ρ h => t ω { PD with nx := u ω PD } ρ h
theorem mss_nil : MSs X W [] mNext := ⟨⟨fun pins s σ H D I ⟨R, Hf, ρ, hd, PD, e, q, l⟩ => pss_nil.run pins s σ H D I (l.nx σ H Hf ρ hd e q)⟩⟩
theorem mss_one (h : MS X W st τ) : MSs X W [st] τ := ⟨pss_one h.ps⟩
theorem mss_cons (h : MS X W st τ) (h2 : MSs X W rest τ1) : MSs X W (st :: rest) (mSeq τ τ1) :=
  ⟨⟨fun pins s σ H D I ⟨R, Hf, ρ, hd, PD, e, q, l⟩ => (pss_cons h.ps h2.pss).run pins s σ H D I ⟨R, Hf, ρ, hd, { PD with nx := τ1 R.ω PD }, e, q, ⟨fun σ1 H1 Hf1 ρ1 hd1 e1 q1 => ⟨R, Hf1, ρ1, hd1, PD, e1, q1, l⟩, l.rt, l.bk, l.ct⟩⟩⟩⟩
/-- slots and data seen anew ahead of a statement -/
def mRe (τ : TMS) : TMS := fun ω PD ρ h => ∃ A ρ' h', FzE h A ρ ρ' ∧ Cut h h' A ∧ τ ω PD ρ' h'
theorem ms_re (h : MS X W st τ) : MS X W st (mRe τ) := ⟨⟨fun pins s σ H D I ⟨R, Hf, ρ, hd, PD, e, ⟨A, ρ', h', f, c, q⟩, l⟩ => h.ps.run pins s σ H D I ⟨R, _, ρ', h', PD, e.fz c f, q, l⟩⟩⟩
/-- a list of one's own, in slot i, is frozen ahead of a statement -/
def mFzS (i : Nat) (τ : TMS) : TMS := fun ω PD ρ h => ∃ a xs, ρ[i]? = some (some (.raw (.ref a))) ∧ h a = some (.lst xs) ∧ τ ω PD (ρ.set i (some (.lst xs))) (off h a)
theorem FzL.same {h : Hd} {A : Addr → Prop} : ∀ xs, FzL h A xs xs
  | [] => .nil
  | d :: xs => .cons (.same d) (FzL.same xs)
theorem FzF.same {h : Hd} {A : Addr → Prop} : ∀ xs, FzF h A xs xs
  | [] => .nil
  | (f, d) :: xs => .cons (.same d) (FzF.same xs)
theorem cut_off {h : Hd} {a : Addr} : Cut h (off h a) (· = a) := fun b o q => by
  by_cases hb : b = a
  · rw [hb, off_same] at q; cases q
  · rw [off_ne hb] at q; exact ⟨q, hb⟩
theorem ms_fzs (i : Nat) (h : MS X W st τ) : MS X W st (mFzS i τ) := ⟨⟨fun pins s σ H D I ⟨R, Hf, ρ, hd, PD, e, ⟨a, xs, q1, q2, q⟩, l⟩ => (ms_re h).ps.run pins s σ H D I ⟨R, Hf, ρ, hd, PD, e, ⟨(· = a), _, _, FzE.set q1 (.lst q2 rfl (FzL.same xs)), cut_off, q⟩, l⟩⟩⟩
/-- x = e -/
def mSet (i : Nat) (τe : TM) : TMS := fun ω PD ρ h => τe ω ρ h fun r h1 => PD.nx (ρ.set i (some r.dat)) h1
theorem ms_set (i : Nat) (hN : X.N.Nodup) (hi : X.N[i]? = some x) (hx : Loc X.env.scope x) (he : ME X W e τe) (hs : swapsWith e (some (.Name x pos')) pos.line X.env = pure false := by rfl) (hf : X.fn x = true ∨ X.env.scope.names.lookup x = some .local := by first | exact .inl rfl | exact .inr rfl | assumption) :
    MS X W (.Assign [.Name x pos'] e pos) (mSet i τe) := by
  obtain ⟨t, pe, se⟩ := he.fz
  exact MS.of (ps_set hN hi hx pe hs hf) fun D σ H Hf R ρ h PD s q l => se σ H Hf ρ h R (fun d h1 => PD.nx (ρ.set i (some d)) h1) _ s q fun v H1 Hf1 d h1 e1 m1 r1 p1 => l.nx _ H1 Hf1 _ h1 (e1.set i r1) p1
/-- target = e -/
def mAsg (τe : TM) (γ : TMG) : TMS := fun ω PD ρ h => τe ω ρ h fun r h1 => γ r.dat ρ fun ρ1 => PD.nx ρ1 h1
theorem ms_asg (he : ME X W e τe) {is : List Nat} (hg : MG X tg is γ) (hs : swapsWithSole [tg] e pos.line X.env = pure false := by rfl) (hw : swappedStores [tg] e X.env = pure none := by rfl) (h1 : (assignEach [tg] X.env).map (·.2) = [assign tg X.env] := by rfl) : MS X W (.Assign [tg] e pos) (mAsg τe γ) := by
  obtain ⟨t, pe, se⟩ := he.fz
  exact MS.of (ps_asg pe hg.pg hs hw h1) fun D σ H Hf R ρ h PD s q l => se σ H Hf ρ h R (fun d h1 => γ d ρ fun ρ1 => PD.nx ρ1 h1) _ s q fun v H1 Hf1 d h1 e1 m1 r1 p1 =>
    ⟨Hf1, ρ, d, _, e1.hs.sub, e1.sl, r1, p1, fun σ2 H2 Hf2 ρ2 s2 x2 t2 p2 => l.nx σ2 H2 Hf2 ρ2 h1 (e1.setTo s2 x2) p2⟩
/-- if -/
def mIf (c : TMT) (t u : TMS) : TMS := fun ω PD ρ h => c ω ρ h fun b h1 => if b = true then t ω PD ρ h1 else u ω PD ρ h1
theorem ms_if (hc : MT X W c τc) (ha : MSs X W sts τ) (hb : MSs X W sts2 τ1) : MS X W (.If c sts sts2 pos) (mIf τc τ τ1) :=
  MS.of (ps_if hc.pt ha.pss hb.pss) fun D σ H Hf R ρ h PD s q l => ⟨R, Hf, ρ, h, _, s, q, fun b H1 Hf1 h1 e1 m1 p1 => by
    cases b with
    | true => exact ⟨R, Hf1, ρ, h1, PD, e1, p1, l⟩
    | false => exact ⟨R, Hf1, ρ, h1, PD, e1, p1, l⟩⟩
/-- return e -/
def mRet (τe : TM) : TMS := fun ω PD ρ h => τe ω ρ h PD.rt
theorem ms_ret (he : ME X W e τe) : MS X W (.Return (some e) pos) (mRet τe) :=
  MS.of (ps_ret he.pe) fun D σ H Hf R ρ h PD s q l => ⟨R, Hf, ρ, h, _, s, q, fun v H1 Hf1 r h1 e1 m1 r1 p1 => l.rt v σ H1 Hf1 ρ h1 r e1 (r1.back s.mv.live) p1⟩
def mRetN : TMS := fun _ PD _ h => PD.rt (.fz .non) h
theorem ms_retN : MS X W (.Return none pos) mRetN := MS.of ps_retN fun D σ H Hf R ρ h PD s q l => l.rt .non σ H Hf ρ h (.fz .non) s Rep.non q
/-- return x, a list of one's own that is new -/
def mRetO (i : Nat) : TMS := fun _ PD ρ h => ∃ a xs, ρ[i]? = some (some (.raw (.ref a))) ∧ h a = some (.lst xs) ∧ PD.rt (.fz (.lst xs)) (off h a)
theorem ms_retO (i : Nat) {p : Pos} (hN : X.N[i]? = some x := by rfl) (hv : Vis X.env.scope x := by first | exact Or.inl rfl | exact Or.inr (Or.inl rfl) | exact Or.inr (Or.inr rfl)) (hd : (x == ("__debug__" : Str)) = false := by decide) (hcd : (x == ("__classdict__" : Str)) = false := by decide) :
    MS X W (.Return (some (.Name x p)) pos) (mRetO i) :=
  MS.of (ps_ret (pe_var hN hv hd hcd)) fun D σ H Hf R ρ h PD s ⟨a, xs, h1, h2, q⟩ l => by
    obtain ⟨v, w1, w2⟩ := s.sl.at_ i _ h1
    have f : Fz h (· = a) (.raw (.ref a)) (.lst xs) := .lst h2 rfl (FzL.same xs)
    exact ⟨v, w1, l.rt v σ H _ ρ _ (.fz (.lst xs)) (s.fz cut_off (FzE.refl ..)) (f.rep s.hs w2) q⟩
/-- e; its value is dropped -/
def mDrop (τe : TM) : TMS := fun ω PD ρ h => τe ω ρ h fun _ h1 => PD.nx ρ h1
theorem ms_expr (he : ME X W e τe) (hs : swapsWith e none pos.line X.env = pure false := by rfl) : MS X W (.Expr e pos) (mDrop τe) :=
  MS.of (ps_expr he.pe hs) fun D σ H Hf R ρ h PD s q l => ⟨R, Hf, ρ, h, _, s, q, fun v H1 Hf1 r h1 e1 m1 r1 p1 => l.nx σ H1 Hf1 ρ h1 e1 p1⟩
/-- o.f = e -/
def mFldS (C : Addr) (f : Str) (τo τe : TM) : TMS := fun ω PD ρ h => τe ω ρ h fun y h1 => τo ω ρ h1 fun x h2 => ∃ a fs, x.dat = .raw (.ref a) ∧ h2 a = some (.ins C fs) ∧ fs.length < 1000 ∧ PD.nx ρ (put h2 a (.ins C (putD f y.dat fs)))
theorem ms_fld {f : Str} {C : Addr} {p' : Pos} (g3 : Fo X.K C f) (ho : ME X W o τo) (he : ME X W e τe) (hs : swapsWith e (some (.Attribute o f p')) pos.line X.env = pure false := by rfl) : MS X W (.Assign [.Attribute o f p'] e pos) (mFldS C f τo τe) := by
  obtain ⟨t, pe, se⟩ := he.fz
  obtain ⟨t2, po, so⟩ := ho.fz
  refine MS.of (ps_fld po pe hs) fun D σ H Hf R ρ h PD s q l => ?_
  refine se σ H Hf ρ h R (fun y h1 => τo R.ω ρ h1 fun x h2 => ∃ a fs, x.dat = .raw (.ref a) ∧ h2 a = some (.ins C fs) ∧ fs.length < 1000 ∧ PD.nx ρ (put h2 a (.ins C (putD f y fs)))) _ s q fun y H1 Hf1 dy h1 e1 m1 r1 q1 => ?_
  refine so σ H1 Hf1 ρ h1 R (fun x h2 => ∃ a fs, x = .raw (.ref a) ∧ h2 a = some (.ins C fs) ∧ fs.length < 1000 ∧ PD.nx ρ (put h2 a (.ins C (putD f dy fs)))) _ e1 q1 fun x H2 Hf2 dx h2 e2 m2 r2 ⟨a, fs, g1, g2, g4, g5⟩ => ?_
  subst g1
  cases r2
  obtain ⟨z0, dx, gs, z1, z2⟩ := e2.hs.hp a _ g2
  refine ⟨a, C, dx, gs, rfl, z1, g3.1, g3.2, by rw [RepF.length z2]; exact g4, ?_⟩
  have s3 := e2.hs.upd (a := a) (o := .ins C (putD f dy fs)) (u := .ins C dx (putF f y gs)) (.inl ⟨_, g2⟩) fun H' hq => ⟨dx, _, hq, RepF.put (r1.mono m2.grow) z2⟩
  exact l.nx σ _ Hf2 ρ _ (e2.step s3 (Mo.upd (.inl ⟨_, g2⟩))) g5
/-- a op= b on data -/
def InS (K : Fg) (rd : V → V → Hp → VK → Prop) (g : D → D → Option D) : Prop := ∀ (H Hf : Hp) (x y : V) (a b c : D) (Q : VK), Rep K Hf x a → Rep K Hf y b → g a b = some c → (∀ v, Rep K Hf v c → Q v H) → rd x y H Q
def iaddD : D → D → Option D
  | .int i, .int j => some (.int (i + j))
  | .str i, .str j => if i.length + j.length ≤ 100000 then some (.str (i ++ j)) else none
  | _, _ => none
def isubD : D → D → Option D
  | .int i, .int j => some (.int (i - j))
  | _, _ => none
def rdAdd : V → V → Hp → VK → Prop := fun x y H Q => rAdd x y H Q ∨ (∃ i j, x = .str i ∧ y = .str j ∧ i.length + j.length ≤ sizeLine ∧ Q (.str (i ++ j)) H)
theorem inS_add {K : Fg} : InS K rdAdd iaddD := fun H Hf x y a b c Q ra rb hg k => by
  cases ra <;> first | (simp [iaddD] at hg; done) | skip
  all_goals cases rb <;> first | (simp [iaddD] at hg; done) | skip
  · simp only [iaddD, Option.some.injEq] at hg
    subst hg
    exact .inl ⟨_, _, rfl, rfl, k _ (.int _)⟩
  · simp only [iaddD] at hg
    split at hg
    · rename_i hz
      cases hg
      exact .inr ⟨_, _, rfl, rfl, lim hz, k _ (.str _)⟩
    · cases hg
theorem inS_sub {K : Fg} : InS K rSub isubD := fun H Hf x y a b c Q ra rb hg k => by
  cases ra <;> first | (simp [isubD] at hg; done) | skip
  all_goals cases rb <;> first | (simp [isubD] at hg; done) | skip
  simp only [isubD, Option.some.injEq] at hg
  subst hg
  exact ⟨_, _, rfl, rfl, k _ (.int _)⟩
theorem in_rdAdd : InOp X .Add rdAdd := fun pins s σ H x y u v Q I rx ry q => by
  rcases q with q | q
  · exact in_add pins s σ H x y u v Q I rx ry q
  · exact iop_add_str pins s σ H x y u v Q I rx ry q
def mFldA (C : Addr) (f : Str) (g : D → D → Option D) (τo τe : TM) : TMS := fun ω PD ρ h => τo ω ρ h fun x h1 => ∃ a fs d, x.dat = .raw (.ref a) ∧ h1 a = some (.ins C fs) ∧ fs.lookup f = some d ∧ τe ω ρ h1 fun y h2 => ∃ fs' c, g d y.dat = some c ∧ h2 a = some (.ins C fs') ∧ fs'.length < 1000 ∧ PD.nx ρ (put h2 a (.ins C (putD f c fs')))
theorem ms_fldA {f : Str} {op : Operator} {rd : V → V → Hp → VK → Prop} {g : D → D → Option D} {C : Addr} {p' : Pos} (g3 : Fo X.K C f) (ho : ME X W o τo) (he : ME X W e τe) (hop : InOp X op rd) (hs : InS X.K rd g) : MS X W (.AugAssign (.Attribute o f p') op e pos) (mFldA C f g τo τe) := by
  obtain ⟨t, pe, se⟩ := he.fz
  obtain ⟨t2, po, so⟩ := ho.fz
  refine MS.of (ps_fldaug po pe hop) fun D σ H Hf R ρ h PD s q l => ?_
  refine so σ H Hf ρ h R (fun x h1 => ∃ a fs d, x = .raw (.ref a) ∧ h1 a = some (.ins C fs) ∧ fs.lookup f = some d ∧ τe R.ω ρ h1 fun y h2 => ∃ fs' c, g d y.dat = some c ∧ h2 a = some (.ins C fs') ∧ fs'.length < 1000 ∧ PD.nx ρ (put h2 a (.ins C (putD f c fs')))) _ s q fun x H1 Hf1 dx h1 e1 m1 r1 ⟨a, fs, d, g1, g2, g4, q1⟩ => ?_
  subst g1
  cases r1
  obtain ⟨_, dx, gs, z1, z2⟩ := e1.hs.hp a _ g2
  obtain ⟨w, l1, rw'⟩ := (RepF.get z2).1 d g4
  refine ⟨a, C, dx, gs, w, rfl, z1, g3.1, g3.2, l1, ?_⟩
  refine se σ H1 Hf1 ρ h1 R (fun y h2 => ∃ fs' c, g d y = some c ∧ h2 a = some (.ins C fs') ∧ fs'.length < 1000 ∧ PD.nx ρ (put h2 a (.ins C (putD f c fs')))) _ e1 q1 fun y H2 Hf2 dy h2 e2 m2 r2 ⟨fs', c, k1, k2, k3, k4⟩ => ?_
  refine hs H2 Hf2 w y d dy c _ (rw'.mono m2.grow) r2 k1 fun v rv => ?_
  obtain ⟨_, dx2, gs2, y1, y2⟩ := e2.hs.hp a _ k2
  refine ⟨dx2, gs2, y1, by rw [RepF.length y2]; exact k3, ?_⟩
  have s3 := e2.hs.upd (a := a) (o := .ins C (putD f c fs')) (u := .ins C dx2 (putF f v gs2)) (.inl ⟨_, k2⟩) fun H' hq => ⟨dx2, _, hq, RepF.put rv y2⟩
  exact l.nx σ _ Hf2 ρ _ (e2.step s3 (Mo.upd (.inl ⟨_, k2⟩))) k4
/-- x op= e -/
def mAug (i : Nat) (g : D → D → Option D) (τe : TM) : TMS := fun ω PD ρ h => ∃ d, ρ[i]? = some (some d) ∧ τe ω ρ h fun y h1 => ∃ c, g d y.dat = some c ∧ PD.nx (ρ.set i (some c)) h1
theorem ms_aug (i : Nat) {op : Operator} {rd : V → V → Hp → VK → Prop} {g : D → D → Option D} (hN : X.N.Nodup) (hi : X.N[i]? = some x) (hx : Loc X.env.scope x) (he : ME X W e τe) (ho : PIp X op rd) (hs : InS X.K rd g) (hf : X.fn x = true ∨ X.env.scope.names.lookup x = some .local := by first | exact .inl rfl | exact .inr rfl | assumption) :
    MS X W (.AugAssign (.Name x pos') op e pos) (mAug i g τe) := by
  obtain ⟨t, pe, se⟩ := he.fz
  refine MS.of (ps_aug hN hi hx pe ho hf) fun D σ H Hf R ρ h PD s ⟨d, h0, q⟩ l => ?_
  obtain ⟨v0, w1, w2⟩ := s.sl.at_ i _ h0
  refine ⟨v0, w1, se σ H Hf ρ h R (fun y h1 => ∃ c, g d y = some c ∧ PD.nx (ρ.set i (some c)) h1) _ s q fun y H1 Hf1 dy h1 e1 m1 r1 ⟨c, k1, k2⟩ => ?_⟩
  exact hs H1 Hf1 v0 y d dy c _ (w2.mono m1.grow) r1 k1 fun v rv => l.nx _ H1 Hf1 _ h1 (e1.set i rv) k2
theorem ip_of {op : Operator} {rd : V → V → Hp → VK → Prop} (h : InOp X op rd) : PIp X op rd := h
/-- o[k] = e, o a list of one's own -/
def mSubS (τe τo τk : TM) : TMS := fun ω PD ρ h => τe ω ρ h fun r h1 => τo ω ρ h1 fun x h2 => τk ω ρ h2 fun y h3 => ∃ a xs k j, x.dat = .raw (.ref a) ∧ h3 a = some (.lst xs) ∧ y.dat = .int k ∧ ixN (List.length xs) k = some j ∧ PD.nx ρ (put h3 a (.lst (xs.set j r.dat)))
theorem ms_sub {k : Expr} {τk : TM} {p2 : Pos} (he : ME X W e τe) (ho : ME X W o τo) (hk : ME X W k τk)
    (ha : ∀ v, assign (.Subscript o k p2) X.env v = (do let ov ← holding [v] (eval o X.env); let iv ← holding [v, ov] (eval k X.env); standAt p2; holding [v, ov, iv] (setItem ov iv v); release [v, ov, iv] []) := by intro _; rfl)
    (hs : swapsWithSole [.Subscript o k p2] e pos.line X.env = pure false := by rfl) (hw : swappedStores [.Subscript o k p2] e X.env = pure none := by rfl) :
    MS X W (.Assign [.Subscript o k p2] e pos) (mSubS τe τo τk) := by
  obtain ⟨t, pe, se⟩ := he.fz
  obtain ⟨t2, po, so⟩ := ho.fz
  obtain ⟨t3, pk, sk⟩ := hk.fz
  refine MS.of (ps_asg pe (pg_sub po pk set_list ha) hs hw) fun D σ H Hf R ρ h PD s q l => ?_
  refine se σ H Hf ρ h R (fun r h1 => τo R.ω ρ h1 fun x h2 => τk R.ω ρ h2 fun y h3 => ∃ a xs k j, x.dat = .raw (.ref a) ∧ h3 a = some (.lst xs) ∧ y.dat = .int k ∧ ixN (List.length xs) k = some j ∧ PD.nx ρ (put h3 a (.lst (xs.set j r)))) _ s q fun v H1 Hf1 d h1 e1 m1 r1 q1 => ?_
  refine so σ H1 Hf1 ρ h1 R (fun x h2 => τk R.ω ρ h2 fun y h3 => ∃ a xs k j, x = .raw (.ref a) ∧ h3 a = some (.lst xs) ∧ y.dat = .int k ∧ ixN (List.length xs) k = some j ∧ PD.nx ρ (put h3 a (.lst (xs.set j d)))) _ e1 q1 fun x H2 Hf2 dx h2 e2 m2 r2 q2 => ?_
  refine sk σ H2 Hf2 ρ h2 R (fun y h3 => ∃ a xs k j, dx = .raw (.ref a) ∧ h3 a = some (.lst xs) ∧ y = .int k ∧ ixN (List.length xs) k = some j ∧ PD.nx ρ (put h3 a (.lst (xs.set j d)))) _ e2 q2 fun y H3 Hf3 dy h3 e3 m3 r3 ⟨a, xs, kk, j, g1, g2, g3, g4, g5⟩ => ?_
  subst g1 g3
  cases r2
  cases r3
  obtain ⟨z0, ys, z1, z2⟩ := e3.hs.hp a _ g2
  refine ⟨a, ys, kk, j, rfl, rfl, z1, by rw [z2.length]; exact g4, ?_⟩
  have s4 := e3.hs.upd (a := a) (o := .lst (xs.set j d)) (u := .lst (ys.set j v)) (.inl ⟨_, g2⟩) fun H' hq => ⟨_, hq, z2.set ((r1.mono m2.grow).mono m3.grow) j⟩
  exact l.nx σ _ Hf3 ρ _ (e3.step s4 (Mo.upd (.inl ⟨_, g2⟩))) g5
/-- x, y = a, b -/
def mPar (i j : Nat) (τ : TMA) : TMS := fun ω PD ρ h => τ ω ρ h fun ds h1 => ∃ d d', ds = [d, d'] ∧ PD.nx ((ρ.set i (some d)).set j (some d')) h1
theorem ms_par {i j : Nat} {x y : Str} {a b : Expr} {τs : TMA} {px py pt : Pos} {kt k2 : Nat} {pt2 : Pos} (hc : X.calm = true) (hN : X.N.Nodup) (hi : X.N[i]? = some x) (hj : X.N[j]? = some y) (hij : i ≠ j)
    (hx : X.env.scope.names.lookup x = some .local) (hy : X.env.scope.names.lookup y = some .local) (ha : MA X W [a, b] τs)
    (hw : swappedStores [.Tuple [.Name x px, .Name y py] kt pt] (.Tuple [a, b] k2 pt2) X.env = pure (some [x, y]))
    (hs : swapsWithSole [.Tuple [.Name x px, .Name y py] kt pt] (.Tuple [a, b] k2 pt2) pos.line X.env = pure false := by rfl) :
    MS X W (.Assign [.Tuple [.Name x px, .Name y py] kt pt] (.Tuple [a, b] k2 pt2) pos) (mPar i j τs) :=
  MS.of (ps_par hc hN hi hj hij hx hy ha.pa hw hs) fun D σ H Hf R ρ h PD s q l => ⟨R, Hf, ρ, h, _, s, q, fun vs H1 Hf1 ds h1 e1 m1 r1 _ ⟨d, d', hd, p3⟩ => by
    subst hd
    cases r1 with
    | cons ra rr =>
      cases rr with
      | cons rb rr =>
        cases rr
        exact ⟨_, _, rfl, l.nx _ H1 Hf1 _ h1 ((e1.set i ra).set j rb) p3⟩⟩
/-- break, continue, pass -/
def mBrk : TMS := fun _ PD ρ h => PD.bk ρ h
def mCnt : TMS := fun _ PD ρ h => PD.ct ρ h
theorem ms_brk : MS X W (.Break pos) mBrk := MS.of ps_break fun D σ H Hf R ρ h PD s q l => l.bk σ H Hf ρ h s q
theorem ms_cnt : MS X W (.Continue pos) mCnt := MS.of ps_continue fun D σ H Hf R ρ h PD s q l => l.ct σ H Hf ρ h s q
/-! ### while -/
def mWhile (c : TMT) (tb : TMS) : TMS := fun ω PD ρ h => ∃ J : Nat → Me → Hd → Prop, (∃ m, J m ρ h) ∧ ∀ m ρ h, J m ρ h → c ω ρ h fun b h1 => if b = true then tb ω { PD with nx := fun ρ' h' => ∃ m', m' < m ∧ J m' ρ' h', ct := fun ρ' h' => ∃ m', m' < m ∧ J m' ρ' h', bk := PD.nx } ρ h1 else PD.nx ρ h1
theorem ms_while (hp : PassesOwn (model X.prog X.w) X.A X.env X.xe) (hc : MT X W c τc) (hb : MSs X W sts τ) : MS X W (.While c sts [] pos) (mWhile τc τ) :=
  MS.of (ps_while hp hc.pt hb.pss) fun D σ H Hf R ρ h PD s ⟨J, ⟨m0, j0⟩, turn⟩ l => by
    refine ⟨fun m σ' H' => ∃ Hf' ρ' h', RE X.K W R H' Hf' σ' ρ' h' ∧ J m ρ' h', ⟨m0, Hf, ρ, h, s, j0⟩, ?_⟩
    rintro m σ1 H1 ⟨Hf1, ρ1, h1, e1, j1⟩
    refine ⟨R, Hf1, ρ1, h1, _, e1, turn m ρ1 h1 j1, fun b H2 Hf2 h2 e2 m2 p2 => ?_⟩
    cases b with
    | false => exact l.nx σ1 H2 Hf2 ρ1 h2 e2 p2
    | true =>
      refine ⟨fun σ' H' => ∃ Hf' ρ' h', RE X.K W R H' Hf' σ' ρ' h' ∧ ∃ m', m' < m ∧ J m' ρ' h', fun σ' H' ⟨Hf', ρ', h', e', m', hm, j'⟩ => ⟨m', hm, Hf', ρ', h', e', j'⟩, ?_⟩
      exact ⟨R, Hf2, ρ1, h2, _, e2, p2, ⟨fun σ5 H5 Hf5 ρ5 h5 e5 q5 => ⟨Hf5, ρ5, h5, e5, q5⟩, l.rt, fun σ5 H5 Hf5 ρ5 h5 e5 q5 => l.nx σ5 H5 Hf5 ρ5 h5 e5 q5, fun σ5 H5 Hf5 ρ5 h5 e5 q5 => ⟨Hf5, ρ5, h5, e5, q5⟩⟩⟩
end
/-! ### what is walked -/
abbrev TMI := Wω → Me → Hd → (List D → Hd → Prop) → Prop
def canMI (K : Fg) (W : Wd) (τ : TMI) : TI := fun σ H Q => ∃ (R : Rg) (Hf : Hp) (ρ : Me) (h : Hd) (P : List D → Hd → Prop), RE K W R H Hf σ ρ h ∧ τ R.ω ρ h P ∧ ∀ J H' Hf' ds h', RE K W R H' Hf' σ ρ h' → Mo h h' H H' Hf Hf' → DIt K J Hf' ds → P ds h' → Q J H'
structure MI (X : Cx) (W : Wd) (tg iter : Expr) (τ : TMI) : Prop where
  pi : PI X tg iter (canMI X.K W τ)
section
variable {X : Cx} {W : Wd} {tg e : Expr} {τe : TM} {τs : TMA} {p pos : Pos}
theorem MI.of {iter : Expr} {τ : TMI} {t : TI} (h : PI X tg iter t) (k : ∀ (σ : St) (H Hf : Hp) (ρ : Me) (h : Hd) (R : Rg) (P : List D → Hd → Prop) (Q : It → Hp → Prop), RE X.K W R H Hf σ ρ h → τ R.ω ρ h P → (∀ J H' Hf' ds h', RE X.K W R H' Hf' σ ρ h' → Mo h h' H H' Hf Hf' → DIt X.K J Hf' ds → P ds h' → Q J H') → t σ H Q) : MI X W tg iter τ :=
  ⟨⟨fun pins s σ H Q I ⟨R, Hf, ρ, hd, P, e, q, kk⟩ => h.run pins s σ H Q I (k σ H Hf ρ hd R P Q e q kk)⟩⟩
def mSeqI (τe : TM) : TMI := fun ω ρ h P => τe ω ρ h fun r h1 => ∃ ds, itemsD r.dat = some ds ∧ P ds h1
theorem mi_seq (he : ME X W e τe) : MI X W tg e (mSeqI τe) := by
  obtain ⟨t, pe, se⟩ := he.fz
  refine MI.of (pi_seq pe) fun σ H Hf ρ h R P Q e q k => se σ H Hf ρ h R (fun d h1 => ∃ ds, itemsD d = some ds ∧ P ds h1) _ e q fun v H1 Hf1 d h1 e1 m1 r1 zz => ?_
  obtain ⟨ds, hd, p1⟩ := zz
  cases r1 <;> first | (simp [itemsD] at hd; done) | skip
  · rename_i z
    simp only [itemsD, Option.some.injEq] at hd
    subst hd
    exact .inr (.inr ⟨z, rfl, k _ H1 Hf1 _ h1 e1 m1 its_it p1⟩)
  · rename_i a ns hp
    simp only [itemsD, Option.some.injEq] at hd
    subst hd
    exact .inl ⟨a, rfl, ⟨_, sqL_same e1.hs.sub hp⟩, k _ H1 Hf1 _ h1 e1 m1 (itl_it hp (repL_ints ns)) p1⟩
  · rename_i a vs es hp rp
    simp only [itemsD, Option.some.injEq] at hd
    subst hd
    exact .inr (.inl ⟨a, rfl, ⟨_, sqT_same e1.hs.sub hp⟩, k _ H1 Hf1 _ h1 e1 m1 (itt_it hp rp) p1⟩)
  · rename_i a vs es hp rp
    simp only [itemsD, Option.some.injEq] at hd
    subst hd
    exact .inl ⟨a, rfl, ⟨_, .inl (.inl (e1.hs.sub _ _ hp))⟩, k _ H1 Hf1 _ h1 e1 m1 (itl_it (.inl (.inl hp)) rp) p1⟩
def mRng1 (τ : TMA) : TMI := fun ω ρ h P => τ ω ρ h fun ds h1 => ∃ j : Int, ds = [.int j] ∧ (-(2 ^ 62) ≤ j ∧ j < 2 ^ 62) ∧ P (rangeD 0 j.toNat) h1
def mRng2 (τ : TMA) : TMI := fun ω ρ h P => τ ω ρ h fun ds h1 => ∃ i j : Int, ds = [.int i, .int j] ∧ (-(2 ^ 62) ≤ i ∧ i < 2 ^ 62 ∧ -(2 ^ 62) ≤ j ∧ j < 2 ^ 62) ∧ P (rangeD i (j - i).toNat) h1
theorem mi_range1 {a : Expr} (hg : Gl X "range") (hm : X.mg "range" = none) (ha : MA X W [a] τs) (hs : starEach [a] X.env = [(false, eval a X.env)] := by rfl) : MI X W tg (.Call (.Name "range" p) [a] [] pos) (mRng1 τs) :=
  MI.of (pi_range1 hg hm ha.pa hs) fun σ H Hf ρ h R P Q e q k => ⟨R, Hf, ρ, h, _, e, q, fun vs H1 Hf1 ds h1 e1 m1 r1 _ ⟨j, hd, hj, p1⟩ => by
    subst hd
    cases r1 with
    | cons ra rr =>
      cases rr
      cases ra
      exact ⟨j, rfl, hj.1, hj.2, k _ H1 Hf1 _ h1 e1 m1 itr_it p1⟩⟩
theorem mi_range2 {a b : Expr} (hg : Gl X "range") (hm : X.mg "range" = none) (ha : MA X W [a, b] τs) (hs : starEach [a, b] X.env = [(false, eval a X.env), (false, eval b X.env)] := by rfl) (hs2 : starEach [b] X.env = [(false, eval b X.env)] := by rfl) : MI X W tg (.Call (.Name "range" p) [a, b] [] pos) (mRng2 τs) :=
  MI.of (pi_range2 hg hm ha.pa hs hs2) fun σ H Hf ρ h R P Q e q k => ⟨R, Hf, ρ, h, _, e, q, fun vs H1 Hf1 ds h1 e1 m1 r1 _ ⟨i, j, hd, hj, p1⟩ => by
    subst hd
    cases r1 with
    | cons ra rr =>
      cases rr with
      | cons rb rr =>
        cases rr
        cases ra
        cases rb
        exact ⟨i, j, rfl, hj, k _ H1 Hf1 _ h1 e1 m1 itr_it p1⟩⟩
end
/-! ### for -/
def loop0 (ω : Wω) (γ : TMG) (τb : TMS) (PD : MEnds) : List D → Me → Hd → Prop
  | [], ρ, h => PD.nx ρ h
  | d :: ds, ρ, h => γ d ρ fun ρ1 => τb ω { PD with nx := loop0 ω γ τb PD ds, ct := loop0 ω γ τb PD ds, bk := PD.nx } ρ1 h
@[irreducible] def loopM (ω : Wω) (γ : TMG) (τb : TMS) (PD : MEnds) (ds : List D) (ρ : Me) (h : Hd) : Prop := loop0 ω γ τb PD ds ρ h
theorem loopM_nil (ω : Wω) (γ : TMG) (τb : TMS) (PD : MEnds) (ρ : Me) (h : Hd) : loopM ω γ τb PD [] ρ h = PD.nx ρ h := by unfold loopM; rfl
theorem loopM_cons (ω : Wω) (γ : TMG) (τb : TMS) (PD : MEnds) (d : D) (ds : List D) (ρ : Me) (h : Hd) : loopM ω γ τb PD (d :: ds) ρ h = γ d ρ fun ρ1 => τb ω { PD with nx := loopM ω γ τb PD ds, ct := loopM ω γ τb PD ds, bk := PD.nx } ρ1 h := by unfold loopM; rfl
def mFor (τi : TMI) (γ : TMG) (τb : TMS) : TMS := fun ω PD ρ h => τi ω ρ h fun ds h1 => loopM ω γ τb PD ds ρ h1
/-- from here on -/
def Rg.at (R : Rg) (H Hf : Hp) (h : Hd) : Rg := ⟨H, Hf, h, R.ω⟩
theorem RE.re {K : Fg} {W : Wd} {R : Rg} {H Hf : Hp} {σ : St} {ρ : Me} {h : Hd} (e : RE K W R H Hf σ ρ h) : RE K W (R.at H Hf h) H Hf σ ρ h := ⟨fun cls d σ' H' ⟨C, fs, Hf', ρ', h', a1, a2, a3, a4, a5, a6⟩ => e.ok cls d σ' H' ⟨C, fs, Hf', ρ', h', a1, a2, a3, a4, e.mv.trans a5, a6⟩, e.gh, e.sl, e.hs, Mo.refl ..⟩
theorem RE.un {K : Fg} {W : Wd} {R : Rg} {H H1 Hf Hf1 : Hp} {σ σ1 : St} {ρ ρ1 : Me} {h h1 : Hd} (e : RE K W R H Hf σ ρ h) (e1 : RE K W (R.at H Hf h) H1 Hf1 σ1 ρ1 h1) : RE K W R H1 Hf1 σ1 ρ1 h1 := ⟨e.ok, e1.gh, e1.sl, e1.hs, e.mv.trans e1.mv⟩
theorem ms_for {X : Cx} {W : Wd} {tg iter : Expr} {body : List Stmt} {is : List Nat} {τi : TMI} {γ : TMG} {τb : TMS} {pos : Pos} (hp : PassesOwn (model X.prog X.w) X.A X.env X.xe) (hc : X.calm = true) (hi : MI X W tg iter τi) (hg : MG X tg is γ) (hb : MSs X W body τb)
    (hs : ∀ x, foldedSetIterable iter X.env x = pure x := by intro _; rfl) : MS X W (.For tg iter body [] pos) (mFor τi γ τb) := by
  refine MS.of (ps_for hp hc hi.pi hg.pg hb.pss hs) fun D σ H Hf R ρ h PD s q l => ⟨R, Hf, ρ, h, _, s, q, fun J H1 Hf1 ds h1 e1 m1 it p1 => ?_⟩
  refine ⟨fun i m σ' H' => ∃ Hf' ρ' h', RE X.K W (R.at H1 Hf1 h1) H' Hf' σ' ρ' h' ∧ loopM R.ω γ τb PD (ds.drop i) ρ' h' ∧ m = ds.length - i ∧ i ≤ ds.length, ⟨ds.length, Hf1, ρ, h1, e1.re, by rw [List.drop_zero]; exact p1, by omega, Nat.zero_le _⟩, ?_⟩
  rintro i m σ2 H2 ⟨Hf2, ρ2, h2, s2, q2, hm, hil⟩
  by_cases hlt : i < ds.length
  · have hd : ds[i]? = some ds[i] := List.getElem?_eq_getElem hlt
    obtain ⟨go, yl⟩ := it.item i ds[i] H2 Hf2 s2.hs.sub s2.mv.grow hd
    rw [List.drop_eq_getElem_cons hlt, loopM_cons] at q2
    refine .inr ⟨go, fun σ' H' => ∃ Hf' ρ' h', RE X.K W (R.at H1 Hf1 h1) H' Hf' σ' ρ' h' ∧ loopM R.ω γ τb PD (ds.drop (i + 1)) ρ' h', fun σ' H' ⟨Hf', ρ', h', a1, a2⟩ => ⟨ds.length - (i + 1), by omega, Hf', ρ', h', a1, a2, rfl, hlt⟩, fun x H3 y => ?_⟩
    obtain ⟨Hf3, x3, r3⟩ := yl x H3 y
    refine ⟨Hf3, ρ2, ds[i], _, x3.sub, s2.sl.mono x3.grow, r3, q2, fun σ4 H4 Hf4 ρ4 e4 x4 t4 p4 => ?_⟩
    have s4 : RE X.K W (R.at H1 Hf1 h1) H4 Hf4 σ4 ρ4 h2 := s2.setTo e4 (x3.trans x4)
    refine ⟨R.at H1 Hf1 h1, Hf4, ρ4, h2, _, s4, p4, ⟨fun σ5 H5 Hf5 ρ5 h5 e5 q5 => ⟨Hf5, ρ5, h5, e5, q5⟩, fun v σ5 H5 Hf5 ρ5 h5 r e5 ok q5 => l.rt v σ5 H5 Hf5 ρ5 h5 r (e1.un e5) (ok.back e1.mv.live) q5, fun σ5 H5 Hf5 ρ5 h5 e5 q5 => l.nx σ5 H5 Hf5 ρ5 h5 (e1.un e5) q5, fun σ5 H5 Hf5 ρ5 h5 e5 q5 => ⟨Hf5, ρ5, h5, e5, q5⟩⟩⟩
  · have e : i = ds.length := by omega
    subst e
    rw [List.drop_length, loopM_nil] at q2
    exact .inl ⟨it.stop _ H2 Hf2 s2.hs.sub s2.mv.grow (Nat.le_refl _) (Nat.le_refl _), l.nx σ2 H2 Hf2 ρ2 h2 (e1.un s2) q2⟩
/-! ### defs -/
def startM (n : Nat) (ds : List D) : Me := ds.map some ++ List.replicate (n - ds.length) none
theorem startM_get {n : Nat} {ds : List D} {i : Nat} {d : D} (h : (startM n ds)[i]? = some (some d)) : ds[i]? = some d := by
  unfold startM at h
  by_cases hi : i < ds.length
  · rw [List.getElem?_append_left (by rw [List.length_map]; exact hi), List.getElem?_map] at h
    cases e : ds[i]? with
    | none => rw [e] at h; cases h
    | some d => rw [e] at h; cases h; rfl
  · rw [List.getElem?_append_right (by rw [List.length_map]; omega), List.getElem?_replicate] at h
    split at h <;> cases h
section
variable {P : Program} {w : World} {K : Fg} {mg : Str → Option Value} {base : Heap} {x qual : Str} {st : Stmt} {f : Addr} {fd : FuncData} {N ps : List Str} {k : Nat}
/-- THE RULE for a def -/
theorem okM {g : FM} {τ : TMS} (F : Fun K x qual st f fd) (S : FnScope N ps (defScope st)) (hps : ps.length ≤ N.length)
    (hb : ∀ (cdv : Value) (A : Around) (outer : List Env) (s : Shared) (H : Hp) (E : XK), Room k (A.deeper (PyProof.Rows.envOfC qual (defScope st) s.heap.objs.size f cdv)) → Takes (cxOf (L2.CX P w) P w K mg base N qual (defScope st) f cdv A outer s H E) (fun cls d _ H => E cls d H) →
      PassesOwn (model P w) (cxOf (L2.CX P w) P w K mg base N qual (defScope st) f cdv A outer s H E).A (cxOf (L2.CX P w) P w K mg base N qual (defScope st) f cdv A outer s H E).env (cxOf (L2.CX P w) P w K mg base N qual (defScope st) f cdv A outer s H E).xe →
      MSs (cxOf (L2.CX P w) P w K mg base N qual (defScope st) f cdv A outer s H E) (wd fun cls d _ H => E cls d H) (defBody st) τ)
    (hq : ∀ ds h Q E, ds.length = ps.length → g ds h Q E → τ (fun x _ h => E x h) { nx := fun _ h => Q (.fz .non) h, rt := fun r h => Q r h } (startM N.length ds) h) : FnOk P w K mg base (L2.CX P w) (k + 1) f fd ps (spM K ps.length g) := by
  refine F.okX S (fun vs H Q E h => ?_) (fun cdv A outer s H vs Q E hr h => ?_)
  · obtain ⟨Hf, h, ds, P, PE, _, r, hl, _⟩ := h
    exact r.length.trans hl
  obtain ⟨Hf, h, ds, PQ, PX, hs, r, hl, hg, kk, kx⟩ := h
  have hvl := r.length
  refine ⟨_, (hb cdv A outer s H E hr (takes_of rfl rfl rfl rfl) (passes_of rfl)).pss, ⟨⟨H, Hf, h, fun x _ h => PX x h⟩, Hf, startM N.length ds, h, _, ⟨?_, trivial, ⟨fun i d q => ?_, ?_⟩, hs, Mo.refl ..⟩, hq ds h PQ PX hl hg, ?_⟩⟩
  · rintro cls d σ H' ⟨C, fs, Hf', ρ', h', rfl, a2, a3, a4, a5, a6⟩
    exact kx C d fs H' Hf' h' a4 a5 a2 a6
  · obtain ⟨v, h2, h3⟩ := r.get (startM_get q)
    exact ⟨v, start_get h2, h3⟩
  · rw [start_len N vs (by omega)]
    unfold startM
    rw [List.length_append, List.length_map, List.length_replicate]
    omega
  · exact ⟨fun σ H1 Hf1 ρ h1 e q => kk .non H1 Hf1 (.fz .non) h1 e.hs e.mv Rep.non q, fun v σ H1 Hf1 ρ h1 r1 e ok q => kk v H1 Hf1 r1 h1 e.hs e.mv ok q, fun _ _ _ _ _ _ z => z.elim, fun _ _ _ _ _ _ z => z.elim⟩
end
end ML
/-! The second data layer, 6: comprehensions; methods of lists and texts. -/
namespace ML
open PySem L2 DL
/-- nothing is let out -/
abbrev WF : Wd := wd fun _ _ _ _ => False
abbrev ωF : Wω := fun _ _ _ => False
structure MTs (X : Cx) (W : Wd) (ifs : List Expr) (τ : TMT) : Prop where
  pts : PTs X ifs (canMT X.K W τ)
def mYes : TMT := fun _ _ h P => P true h
theorem mts_nil {X : Cx} {W : Wd} : MTs X W [] mYes := ⟨⟨fun pins s σ H Q I ⟨R, Hf, ρ, hd, P, e, q, k⟩ => pts_nil.run pins s σ H Q I (k true H Hf hd e (Mo.refl ..) q)⟩⟩
theorem mts_one {X : Cx} {W : Wd} {c : Expr} {τ : TMT} (h : MT X W c τ) : MTs X W [c] τ := ⟨pts_one h.pt⟩
def wipeM (ρ : Me) : List Nat → Me
  | [] => ρ
  | v :: vs => (wipeM ρ vs).set v none
theorem wipeM_len (ρ : Me) : ∀ vs, (wipeM ρ vs).length = ρ.length
  | [] => rfl
  | v :: vs => by unfold wipeM; rw [List.length_set, wipeM_len ρ vs]
theorem wipeM_get (ρ : Me) {i : Nat} {d : D} : ∀ {vs : List Nat}, (wipeM ρ vs)[i]? = some (some d) → i ∉ vs ∧ ρ[i]? = some (some d)
  | [], q => ⟨(fun h => nomatch h), q⟩
  | v :: vs, q => by
    unfold wipeM at q
    rw [set_getM] at q
    by_cases hv : v = i
    · rw [if_pos hv] at q
      split at q <;> cases q
    · rw [if_neg hv] at q
      obtain ⟨h1, h2⟩ := wipeM_get ρ q
      exact ⟨fun h => by rcases List.mem_cons.mp h with e | e; exact hv e.symm; exact h1 e, h2⟩
theorem Sd.wipe {K : Fg} {Hf : Hp} {σ : St} {ρ : Me} (s : Sd K Hf σ ρ) (vs : List Nat) : Sd K Hf (L2.wipe σ vs) (wipeM ρ vs) := ⟨fun i d q => by
  obtain ⟨h1, h2⟩ := wipeM_get ρ q
  rw [wipe_out σ h1]
  exact s.at_ i d h2, by rw [wipe_length, wipeM_len]; exact s.len⟩
def lc0 (γ : TMG) (τt : TMT) (τe : TM) (ρ : Me) (P : List D → Hd → Prop) : List D → Hd → List D → Prop
  | [], h, acc => P acc h
  | d :: ds, h, acc => γ d ρ fun ρ1 => τt ωF ρ1 h fun b h1 => if b = true then τe ωF ρ1 h1 fun r h2 => acc.length < 16000 ∧ lc0 γ τt τe ρ P ds h2 (acc ++ [r.dat]) else lc0 γ τt τe ρ P ds h1 acc
@[irreducible] def lcM (γ : TMG) (τt : TMT) (τe : TM) (ρ : Me) (P : List D → Hd → Prop) (ds : List D) (h : Hd) (acc : List D) : Prop := lc0 γ τt τe ρ P ds h acc
theorem lcM_nil (γ : TMG) (τt : TMT) (τe : TM) (ρ : Me) (P : List D → Hd → Prop) (h : Hd) (acc : List D) : lcM γ τt τe ρ P [] h acc = P acc h := by unfold lcM; rfl
theorem lcM_cons (γ : TMG) (τt : TMT) (τe : TM) (ρ : Me) (P : List D → Hd → Prop) (d : D) (ds : List D) (h : Hd) (acc : List D) : lcM γ τt τe ρ P (d :: ds) h acc = γ d ρ fun ρ1 => τt ωF ρ1 h fun b h1 => if b = true then τe ωF ρ1 h1 fun r h2 => acc.length < 16000 ∧ lcM γ τt τe ρ P ds h2 (acc ++ [r.dat]) else lcM γ τt τe ρ P ds h1 acc := by unfold lcM; rfl
def mLc (τi : TMI) (γ : TMG) (τt : TMT) (τe : TM) (vs : List Nat) : TM := fun ω ρ h P => τi ω ρ h fun ds h1 => lcM γ τt τe (wipeM ρ vs) (fun acc h2 => P (.fr acc) h2) ds h1 []
theorem Mo.apart {h h1 : Hd} {H H1 Hf Hf1 : Hp} (m : Mo h h1 H H1 Hf Hf1) {n : Addr} {o : HO} (q1 : H n = some o) (q2 : Hf n = none) (q3 : h n = none) : H1 n = some o ∧ Hf1 n = none ∧ h1 n = none := by
  refine ⟨m.keep n o q1 q3, ?_, ?_⟩
  · cases e : Hf1 n with
    | none => rfl
    | some u =>
      rcases m.new n u e with e | e | ⟨u', e⟩
      · rw [q2] at e; cases e
      · rw [q1] at e; cases e
      · rw [q3] at e; cases e
  · cases e : h1 n with
    | none => rfl
    | some u =>
      rcases m.own n u e with ⟨u', e⟩ | e
      · rw [q3] at e; cases e
      · rw [q1] at e; cases e
theorem Hs.aside {K : Fg} {H Hf : Hp} {h : Hd} (s : Hs K H Hf h) {n : Addr} {u : HO} (q2 : Hf n = none) (q3 : h n = none) : Hs K (L2.upd H n u) Hf h := ⟨fun b o q => by rw [upd_ne (ne_of_none q q2)]; exact s.sub b o q, fun b o q => by
  have hb : b ≠ n := hd_ne q q3
  obtain ⟨z1, z2⟩ := s.hp b o q
  exact ⟨z1, z2.mono (fun w hw => by rw [upd_ne hb]; exact hw) fun _ _ w => w⟩⟩
section
variable {X : Cx} {W : Wd} {pos : Pos}
theorem lc_readingM {K : Fg} {vs is : List Nat} {τi : TMI} {γ : TMG} {τt : TMT} {τe : TM} (hv : ∀ i ∈ is, i ∈ vs) : SndE K W (tLc (canMI K W τi) (canMG K is γ) (canMT K WF τt) (canM K WF τe) vs) (mLc τi γ τt τe vs) := fun σ H Hf ρ h R P Q e q k => by
  refine ⟨R, Hf, ρ, h, _, e, q, fun J H1 Hf1 ds h1 e1 m1 it p1 n hn => ?_⟩
  have x0 := Ext.add' e1.hs.sub (.lst []) hn
  let R' : Rg := ⟨H1, Hf1, h1, ωF⟩
  have okF : ∀ cls d σ H, wishM K R' cls d σ H → WF.x cls d σ H := fun cls d σ H ⟨_, _, _, _, _, _, _, _, _, _, z⟩ => z
  refine ⟨fun i m H' => ∃ Hf' h' accV acc, Hs K H' Hf' h' ∧ Mo h1 h' H1 H' Hf1 Hf' ∧ H' n = some (.lst accV) ∧ Hf' n = none ∧ h' n = none ∧ RepL K Hf' accV acc ∧ lcM γ τt τe (wipeM ρ vs) (fun acc h2 => P (.fr acc) h2) (ds.drop i) h' acc ∧ m = ds.length - i ∧ i ≤ ds.length,
    ⟨ds.length, Hf1, h1, [], [], e1.hs.ext x0, Mo.ext x0, upd_same, e1.hs.freeF hn, e1.hs.free hn, .nil, by rw [List.drop_zero]; exact p1, by omega, Nat.zero_le _⟩, ?_⟩
  rintro i m H2 ⟨Hf2, h2, accV, acc, s2, m2, hD, fD, oD, rD, q2, hm, hil⟩
  by_cases hlt : i < ds.length
  · have hd : ds[i]? = some ds[i] := List.getElem?_eq_getElem hlt
    obtain ⟨go, yl⟩ := it.item i ds[i] H2 Hf2 s2.sub m2.grow hd
    rw [List.drop_eq_getElem_cons hlt, lcM_cons] at q2
    refine .inr ⟨go, fun H' => ∃ Hf' h' accV acc, Hs K H' Hf' h' ∧ Mo h1 h' H1 H' Hf1 Hf' ∧ H' n = some (.lst accV) ∧ Hf' n = none ∧ h' n = none ∧ RepL K Hf' accV acc ∧ lcM γ τt τe (wipeM ρ vs) (fun acc h2 => P (.fr acc) h2) (ds.drop (i + 1)) h' acc, fun H' ⟨a1, a2, a3, a4, b1, b2, b3, b4, b5, b6, b7⟩ => ⟨ds.length - (i + 1), by omega, a1, a2, a3, a4, b1, b2, b3, b4, b5, b6, b7, rfl, hlt⟩, fun x H3 y => ?_⟩
    obtain ⟨Hf3, x3, r3⟩ := yl x H3 y
    refine ⟨Hf3, wipeM ρ vs, ds[i], _, x3.sub, ((e1.sl.mono m2.grow).mono x3.grow).wipe vs, r3, q2, fun σ4 H4 Hf4 ρ4 e4 x4 t4 p4 => ?_⟩
    refine ⟨wipe_eq (by rw [t4.len, wipe_length]) fun j hj => ((t4.sl j fun z => hj (hv j z)).1).trans (wipe_out σ hj), ?_⟩
    have x34 := x3.trans x4
    have s4 := s2.ext x34
    have m4 : Mo h1 h2 H1 H4 Hf1 Hf4 := m2.trans (Mo.ext x34)
    obtain ⟨d4, f4, o4⟩ := (Mo.ext (h := h2) x34).apart hD fD oD
    refine ⟨R', Hf4, ρ4, h2, _, ⟨okF, trivial, e4, s4, m4⟩, p4, fun b H5 Hf5 h5 e5 m5 p5 => ?_⟩
    obtain ⟨d5, f5, o5⟩ := m5.apart d4 f4 o4
    cases b with
    | false => exact ⟨Hf5, h5, accV, acc, e5.hs, m4.trans m5, d5, f5, o5, rD.mono fun b o z => m5.grow b o (x34.grow b o z), p5⟩
    | true =>
      refine ⟨R', Hf5, ρ4, h5, _, e5, p5, fun y H6 Hf6 r h6 e6 m6 r6 ⟨hz, p6⟩ => ?_⟩
      obtain ⟨Hf7, s7, m7, r7⟩ := r6.freeze e6.hs m6
      obtain ⟨d7, f7, o7⟩ := m7.apart d5 f5 o5
      have rD7 : RepL K Hf7 accV acc := rD.mono fun b o z => m7.grow b o (m5.grow b o (x34.grow b o z))
      refine ⟨accV, d7, by rw [rD7.length]; exact Nat.lt_of_lt_of_le hz (by decide), ?_⟩
      have m8 := (m4.trans m5).trans m7
      refine ⟨Hf7, h6, accV ++ [y], acc ++ [r.dat], s7.aside f7 o7, ⟨fun b o z hb => ?_, fun b z => ?_, m8.grow, m8.new, m8.own⟩, upd_same, f7, o7, rD7.append (.cons r7 .nil), p6⟩
      · rw [upd_ne (ne_of_none z hn)]
        exact m8.keep b o z hb
      · by_cases hb : b = n
        · subst hb; exact hn
        · rw [upd_ne hb] at z; exact m8.live b z
  · have ei : i = ds.length := by omega
    subst ei
    rw [List.drop_length, lcM_nil] at q2
    exact .inl ⟨it.stop _ H2 Hf2 s2.sub m2.grow (Nat.le_refl _) (Nat.le_refl _), k _ H2 Hf2 (.fr acc) h2 (e1.step s2 m2) (m1.trans m2) ⟨n, accV, rfl, hD, fD, oD, m1.live n hn, rD⟩ q2⟩
/-- [e for x in xs if c] -/
theorem me_lc {elt tg iter : Expr} {ifs : List Expr} {scope : Scope} {own : List (Str × Nat)} {is : List Nat} {τi : TMI} {γ : TMG} {τt : TMT} {τe : TM} (hc : X.calm = true) (hN : X.N.Nodup) (hi : MI X W tg iter τi) (ok : BlkOk X.N X.env.scope scope own)
    (hg : ∀ (s : Shared) (H : Hp) (C : Addr) (cl : List (Str × Addr)) (fp : List Addr), MG (X.blk s H scope (compEnvC scope cl C X.env) fp) tg is γ) (ht : ∀ (s : Shared) (H : Hp) (C : Addr) (cl : List (Str × Addr)) (fp : List Addr), MTs (X.blk s H scope (compEnvC scope cl C X.env) fp) WF ifs τt)
    (he : ∀ (s : Shared) (H : Hp) (C : Addr) (cl : List (Str × Addr)) (fp : List Addr), ME (X.blk s H scope (compEnvC scope cl C X.env) fp) WF elt τe) (hv : ∀ i ∈ is, i ∈ own.map (·.2) := by decide) (hs : ∀ x, foldedSetIterable iter X.env x = pure x := by intro _; rfl) :
    ME X W (.ListComp elt [⟨tg, iter, ifs, 0⟩] scope pos) (mLc τi γ τt τe (own.map (·.2))) :=
  ME.of (pe_lc hc hN hi.pi ok (fun s H C cl fp => (hg s H C cl fp).pg) (fun s H C cl fp => (ht s H C cl fp).pts) (fun s H C cl fp => (he s H C cl fp).pe) hs) (lc_readingM hv)
/-- y = [e for x in xs if c], frozen -/
theorem ms_setLc {i : Nat} {y : Str} {py : Pos} {elt tg iter : Expr} {ifs : List Expr} {scope : Scope} {own : List (Str × Nat)} {is : List Nat} {spos : Pos} {τi : TMI} {γ : TMG} {τt : TMT} {τe : TM} (hc : X.calm = true) (hN : X.N.Nodup) (hy : X.N[i]? = some y) (hyl : X.env.scope.names.lookup y = some .local)
    (hsw : swapsWith (.ListComp elt [⟨tg, iter, ifs, 0⟩] scope pos) (some (.Name y py)) spos.line X.env = pure true) (hi : MI X W tg iter τi) (ok : BlkOk X.N X.env.scope scope own)
    (hg : ∀ (s : Shared) (H : Hp) (C : Addr) (cl : List (Str × Addr)) (fp : List Addr), MG (X.blk s H scope (compEnvC scope cl C X.env) fp) tg is γ) (ht : ∀ (s : Shared) (H : Hp) (C : Addr) (cl : List (Str × Addr)) (fp : List Addr), MTs (X.blk s H scope (compEnvC scope cl C X.env) fp) WF ifs τt)
    (he : ∀ (s : Shared) (H : Hp) (C : Addr) (cl : List (Str × Addr)) (fp : List Addr), ME (X.blk s H scope (compEnvC scope cl C X.env) fp) WF elt τe) (hv : ∀ i ∈ is, i ∈ own.map (·.2) := by decide) (hs : ∀ x, foldedSetIterable iter X.env x = pure x := by intro _; rfl) :
    MS X W (.Assign [.Name y py] (.ListComp elt [⟨tg, iter, ifs, 0⟩] scope pos) spos) (mSet i (mLc τi γ τt τe (own.map (·.2)))) :=
  MS.of (ps_setLc hc hN hy hyl hsw hi.pi ok (fun s H C cl fp => (hg s H C cl fp).pg) (fun s H C cl fp => (ht s H C cl fp).pts) (fun s H C cl fp => (he s H C cl fp).pe) hs) fun D σ H Hf R ρ h PD s q l =>
    (lc_readingM hv).fz σ H Hf ρ h R (fun d h1 => PD.nx (ρ.set i (some d)) h1) _ s q fun v H1 Hf1 d h1 e1 m1 r1 p1 => l.nx _ H1 Hf1 _ h1 (e1.set i r1) p1
/-- .. one's own -/
theorem ms_setLcO {i : Nat} {y : Str} {py : Pos} {elt tg iter : Expr} {ifs : List Expr} {scope : Scope} {own : List (Str × Nat)} {is : List Nat} {spos : Pos} {τi : TMI} {γ : TMG} {τt : TMT} {τe : TM} (hc : X.calm = true) (hN : X.N.Nodup) (hy : X.N[i]? = some y) (hyl : X.env.scope.names.lookup y = some .local)
    (hsw : swapsWith (.ListComp elt [⟨tg, iter, ifs, 0⟩] scope pos) (some (.Name y py)) spos.line X.env = pure true) (hi : MI X W tg iter τi) (ok : BlkOk X.N X.env.scope scope own)
    (hg : ∀ (s : Shared) (H : Hp) (C : Addr) (cl : List (Str × Addr)) (fp : List Addr), MG (X.blk s H scope (compEnvC scope cl C X.env) fp) tg is γ) (ht : ∀ (s : Shared) (H : Hp) (C : Addr) (cl : List (Str × Addr)) (fp : List Addr), MTs (X.blk s H scope (compEnvC scope cl C X.env) fp) WF ifs τt)
    (he : ∀ (s : Shared) (H : Hp) (C : Addr) (cl : List (Str × Addr)) (fp : List Addr), ME (X.blk s H scope (compEnvC scope cl C X.env) fp) WF elt τe) (hv : ∀ i ∈ is, i ∈ own.map (·.2) := by decide) (hs : ∀ x, foldedSetIterable iter X.env x = pure x := by intro _; rfl) :
    MS X W (.Assign [.Name y py] (.ListComp elt [⟨tg, iter, ifs, 0⟩] scope pos) spos) (mSet i (mOwn (mLc τi γ τt τe (own.map (·.2))))) :=
  MS.of (ps_setLc hc hN hy hyl hsw hi.pi ok (fun s H C cl fp => (hg s H C cl fp).pg) (fun s H C cl fp => (ht s H C cl fp).pts) (fun s H C cl fp => (he s H C cl fp).pe) hs) fun D σ H Hf R ρ h PD s q l =>
    (lc_readingM hv) σ H Hf ρ h R (fun r h1 => ∃ xs, r = .fr xs ∧ ∀ a, h1 a = none → PD.nx (ρ.set i (some (.raw (.ref a)))) (put h1 a (.lst xs))) _ s q fun v H1 Hf1 r h1 e1 m1 r1 ⟨xs, hr, p1⟩ => by
      subst hr
      obtain ⟨a, ev, n1, n2, s2, m2⟩ := r1.take e1.hs m1
      subst ev
      exact l.nx _ H1 Hf1 _ _ ((s.step s2 m2).set i (Rep.raw _)) (p1 a n1)
end
/-! ### methods of lists of one's own -/
section
variable {X : Cx} {W : Wd} {pos apos : Pos} {o e : Expr} {es : List Expr} {τo τe : TM} {τs : TMA}
def mApp (τo : TM) (τs : TMA) : TM := fun ω ρ h P => τo ω ρ h fun x h1 => ∃ a ys, x.dat = .raw (.ref a) ∧ h1 a = some (.lst ys) ∧ τs ω ρ h1 fun ds h2 => ∃ xs d, h2 a = some (.lst xs) ∧ ds = [d] ∧ xs.length < 16000 ∧ P (.fz .non) (put h2 a (.lst (xs ++ [d])))
theorem me_app (ho : ME X W o τo) (ha : MA X W [e] τs) (he : starEach [e] X.env = (false, eval e X.env) :: starEach [] X.env := by rfl) (hbase : attributeBase o "append" X.env (eval o X.env) = eval o X.env := by rfl)
    (hfew : ((backTo pos (starEach [e] X.env)).all (fun x => !x.1) && (backToKw pos (keywordEach [] X.env)).all (fun x => x.1.isSome) && decide ([e].length + ([] : List Keyword).length + (if ([] : List Keyword).isEmpty then 0 else 1) < 30)) = true := by rfl) (hline : (apos.endLine == pos.line) = true := by rfl) :
    ME X W (.Call (.Attribute o "append" apos) [e] [] pos) (mApp τo τs) := by
  obtain ⟨t, po, so⟩ := ho.fz
  refine ME.of (pe_bm PySem.F.plainAttrs_list PySem.F.slot_list_append PySem.F.type_list_append mt_append po ha.pa hbase hfew hline he rfl) fun σ H Hf ρ h R P Q e q k => ?_
  refine so σ H Hf ρ h R (fun x h1 => ∃ a ys, x = .raw (.ref a) ∧ h1 a = some (.lst ys) ∧ τs R.ω ρ h1 fun ds h2 => ∃ xs d, h2 a = some (.lst xs) ∧ ds = [d] ∧ xs.length < 16000 ∧ P (.fz .non) (put h2 a (.lst (xs ++ [d])))) _ e q fun x H1 Hf1 dx h1 e1 m1 r1 ⟨a, ys, g1, g2, q1⟩ => ?_
  subst g1
  cases r1
  obtain ⟨z0, zs, z1, z2⟩ := e1.hs.hp a _ g2
  refine ⟨.inl ⟨rfl, zs, .inl (.inl z1)⟩, R, Hf1, ρ, h1, _, e1, q1, fun vs H2 Hf2 ds h2 e2 m2 r2 _ ⟨xs, d, k1, k2, k3, k4⟩ => ?_⟩
  subst k2
  cases r2 with
  | @cons v _ _ _ ra rr =>
    cases rr
    obtain ⟨y0, us, y1, y2⟩ := e2.hs.hp a _ k1
    have s3 := e2.hs.upd (a := a) (o := .lst (xs ++ [d])) (u := .lst (us ++ [v])) (.inl ⟨_, k1⟩) fun H' hq => ⟨_, hq, y2.append (.cons ra .nil)⟩
    have m3 := Mo.upd (h := h2) (H := H2) (Hf := Hf2) (a := a) (o := .lst (xs ++ [d])) (u := .lst (us ++ [v])) (.inl ⟨_, k1⟩)
    exact ⟨a, us, _, rfl, rfl, y1, by rw [y2.length]; exact Nat.lt_of_lt_of_le k3 (by decide), k .non _ Hf2 (.fz .non) _ (e2.step s3 m3) ((m1.trans m2).trans m3) Rep.non k4⟩
/-- o.pop() -/
def mPop (τo : TM) : TM := fun ω ρ h P => τo ω ρ h fun x h1 => ∃ a xs d, x.dat = .raw (.ref a) ∧ h1 a = some (.lst (xs ++ [d])) ∧ P (.fz d) (put h1 a (.lst xs))
theorem me_pop (ho : ME X W o τo) (hbase : attributeBase o "pop" X.env (eval o X.env) = eval o X.env := by rfl) (hline : (apos.endLine == pos.line) = true := by rfl) : ME X W (.Call (.Attribute o "pop" apos) [] [] pos) (mPop τo) := by
  obtain ⟨t, po, so⟩ := ho.fz
  refine ME.of (pe_bm0 PySem.F.plainAttrs_list PySem.F.slot_list_pop PySem.F.type_list_pop mt_pop po hbase hline) fun σ H Hf ρ h R P Q e q k => ?_
  refine so σ H Hf ρ h R (fun x h1 => ∃ a xs d, x = .raw (.ref a) ∧ h1 a = some (.lst (xs ++ [d])) ∧ P (.fz d) (put h1 a (.lst xs))) _ e q fun x H1 Hf1 dx h1 e1 m1 r1 ⟨a, xs, d, g1, g2, q1⟩ => ?_
  subst g1
  cases r1
  obtain ⟨z0, zs, z1, z2⟩ := e1.hs.hp a _ g2
  obtain ⟨us, ws, rfl, r3, r4⟩ := z2.split
  cases r4 with
  | @cons v _ _ _ rv rr =>
    cases rr
    have s3 := e1.hs.upd (a := a) (o := .lst xs) (u := .lst us) (.inl ⟨_, g2⟩) fun H' hq => ⟨_, hq, r3⟩
    have m3 := Mo.upd (h := h1) (H := H1) (Hf := Hf1) (a := a) (o := .lst xs) (u := .lst us) (.inl ⟨_, g2⟩)
    refine ⟨.inl ⟨rfl, _, .inl (.inl z1)⟩, a, us ++ [v], v, rfl, rfl, z1, by simp, ?_⟩
    rw [List.dropLast_concat]
    exact k v _ Hf1 (.fz d) _ (e1.step s3 m3) (m1.trans m3) rv q1
/-! ### methods of texts, of lists that stay -/
def MtD (K : Fg) (T : String) (r : V → List V → Hp → VK → Prop) (g : D → List D → Option Res) (ok : D → Prop) : Prop := (∀ H Hf x d, (∀ b o, Hf b = some o → H b = some o) → ok d → Rep K Hf x d → tyV K T x H) ∧
  ∀ (H Hf : Hp) (x : V) (xs : List V) (d : D) (ds : List D) (c : Res) (Q : VK), (∀ b o, Hf b = some o → H b = some o) → Rep K Hf x d → RepL K Hf xs ds → g d ds = some c → (∀ v H' Hf', Ext H H' Hf Hf' → ResOk K H H' Hf' v c → Q v H') → r x xs H Q
def mMt (g : D → List D → Option Res) (ok : D → Prop) (τo : TM) (τs : TMA) : TM := fun ω ρ h P => τo ω ρ h fun x h1 => ok x.dat ∧ τs ω ρ h1 fun ds h2 => ∃ c, g x.dat ds = some c ∧ P c h2
theorem me_mt {T id : String} {name : Str} {r : V → List V → Hp → VK → Prop} {g : D → List D → Option Res} {ok : D → Prop} (pa : PlainAttrs T) (slot : Slot T name id) (hty : typeOf (.builtin id) = pure (.type "method_descriptor")) (hm : MtR X id r) (hd : MtD X.K T r g ok) (ho : ME X W o τo) (ha : MA X W (e :: es) τs)
    (he : starEach (e :: es) X.env = (false, eval e X.env) :: starEach es X.env := by rfl) (hbase : attributeBase o name X.env (eval o X.env) = eval o X.env := by rfl)
    (hfew : ((backTo pos (starEach (e :: es) X.env)).all (fun x => !x.1) && (backToKw pos (keywordEach [] X.env)).all (fun x => x.1.isSome) && decide ((e :: es).length + ([] : List Keyword).length + (if ([] : List Keyword).isEmpty then 0 else 1) < 30)) = true := by rfl) (hline : (apos.endLine == pos.line) = true := by rfl) (hpl : (backTo pos (starEach es X.env)).any (·.1) = false := by rfl) :
    ME X W (.Call (.Attribute o name apos) (e :: es) [] pos) (mMt g ok τo τs) := by
  obtain ⟨t, po, so⟩ := ho.fz
  refine ME.of (pe_bm pa slot hty hm po ha.pa hbase hfew hline he hpl) fun σ H Hf ρ h R P Q e q k => ?_
  refine so σ H Hf ρ h R (fun x h1 => ok x ∧ τs R.ω ρ h1 fun ds h2 => ∃ c, g x ds = some c ∧ P c h2) _ e q fun x H1 Hf1 dx h1 e1 m1 r1 ⟨g1, q1⟩ => ?_
  refine ⟨hd.1 H1 Hf1 x dx e1.hs.sub g1 r1, R, Hf1, ρ, h1, _, e1, q1, fun vs H2 Hf2 ds h2 e2 m2 r2 _ ⟨c, hc, p⟩ => ?_⟩
  have m := m1.trans m2
  exact hd.2 H2 Hf2 x vs dx ds c Q e2.hs.sub (r1.mono m2.grow) r2 hc fun v H3 Hf3 x3 ok => k v H3 Hf3 c h2 (e2.ext x3) (m.trans (Mo.ext x3)) ((RO.of e2.hs x3 ok).back m.live) p
def isS (d : D) : Prop := ∃ z, d = .str z
theorem isS_ty {K : Fg} {H Hf : Hp} {x : V} {d : D} (h : isS d) (r : Rep K Hf x d) : tyV K "str" x H := by
  obtain ⟨z, rfl⟩ := h
  cases r
  rfl
/-- a text's method with one text: by a rule that gives a datum -/
theorem mtD_s1 {K : Fg} {g : Str → Str → Option D} (hg : ∀ a b d, g a b = some d → d.flat = true) {r : V → List V → Hp → VK → Prop} (hr : ∀ a b d v H (Q : VK), g a b = some d → (∀ Hf, Rep K Hf v d) → Q v H → r (.str a) [.str b] H Q)
    (hv : ∀ d : D, d.flat = true → ∃ v, ∀ Hf, Rep K Hf v d) : MtD K "str" r (fun d ds => match d, ds with | .str a, [.str b] => (g a b).map .fz | _, _ => none) isS := by
  refine ⟨fun H Hf x d _ h r => isS_ty h r, fun H Hf x xs d ds c Q sub rx rs hc k => ?_⟩
  match d, ds, hc with
  | .str a, [.str b], hc =>
    cases rx
    cases rs with
    | cons rb rr =>
      cases rr
      cases rb
      cases e : g a b with
      | none => simp [e] at hc
      | some d =>
        simp only [e, Option.map_some, Option.some.injEq] at hc
        subst hc
        obtain ⟨v, hv⟩ := hv d (hg a b d e)
        exact hr a b d v H Q e hv (k v H Hf (Ext.refl sub) (hv _))
theorem flat_rep {K : Fg} (d : D) (h : d.flat = true) : ∃ v, ∀ Hf, Rep K Hf v d := by
  cases d with
  | non => exact ⟨.non, fun _ => .non⟩
  | bl b => exact ⟨.bl b, fun _ => .bl b⟩
  | int i => exact ⟨.int i, fun _ => .int i⟩
  | str z => exact ⟨.str z, fun _ => .str z⟩
  | _ => simp [D.flat] at h
def indexS (a b : Str) : Option D := match Builtin.Str.occurrences a b 0 a.length 1 with
  | i :: _ => some (.int (i : Nat))
  | [] => none
def findS (a b : Str) : Option D := some (.int (Txt.find a b))
def countS (a b : Str) : Option D := some (.int (Txt.count a b))
def s1D (g : Str → Str → Option D) : D → List D → Option Res := fun d ds => match d, ds with | .str a, [.str b] => (g a b).map .fz | _, _ => none
theorem me_sindex (ho : ME X W o τo) (ha : MA X W [e] τs) (he : starEach [e] X.env = (false, eval e X.env) :: starEach [] X.env := by rfl) (hbase : attributeBase o "index" X.env (eval o X.env) = eval o X.env := by rfl)
    (hfew : ((backTo pos (starEach [e] X.env)).all (fun x => !x.1) && (backToKw pos (keywordEach [] X.env)).all (fun x => x.1.isSome) && decide ([e].length + ([] : List Keyword).length + (if ([] : List Keyword).isEmpty then 0 else 1) < 30)) = true := by rfl) (hline : (apos.endLine == pos.line) = true := by rfl) :
    ME X W (.Call (.Attribute o "index" apos) [e] [] pos) (mMt (s1D indexS) isS τo τs) :=
  me_mt PySem.F.plainAttrs_str PySem.F.slot_str_index PySem.F.type_str_index mt_sindex (mtD_s1 (fun a b d h => by unfold indexS at h; split at h <;> cases h; rfl) (fun a b d v H Q h hv q => by
    unfold indexS at h
    split at h
    · rename_i i rest ho
      cases h
      have := hv (fun _ => none)
      cases this
      exact ⟨a, b, i, rest, rfl, rfl, ho, q⟩
    · cases h) flat_rep) ho ha he hbase hfew hline
theorem me_find (ho : ME X W o τo) (ha : MA X W [e] τs) (he : starEach [e] X.env = (false, eval e X.env) :: starEach [] X.env := by rfl) (hbase : attributeBase o "find" X.env (eval o X.env) = eval o X.env := by rfl)
    (hfew : ((backTo pos (starEach [e] X.env)).all (fun x => !x.1) && (backToKw pos (keywordEach [] X.env)).all (fun x => x.1.isSome) && decide ([e].length + ([] : List Keyword).length + (if ([] : List Keyword).isEmpty then 0 else 1) < 30)) = true := by rfl) (hline : (apos.endLine == pos.line) = true := by rfl) :
    ME X W (.Call (.Attribute o "find" apos) [e] [] pos) (mMt (s1D findS) isS τo τs) :=
  me_mt PySem.F.plainAttrs_str PySem.F.slot_str_find PySem.F.type_str_find mt_find (mtD_s1 (fun a b d h => by cases h; rfl) (fun a b d v H Q h hv q => by
    cases h
    have := hv (fun _ => none)
    cases this
    exact ⟨a, b, rfl, rfl, q⟩) flat_rep) ho ha he hbase hfew hline
theorem me_count (ho : ME X W o τo) (ha : MA X W [e] τs) (he : starEach [e] X.env = (false, eval e X.env) :: starEach [] X.env := by rfl) (hbase : attributeBase o "count" X.env (eval o X.env) = eval o X.env := by rfl)
    (hfew : ((backTo pos (starEach [e] X.env)).all (fun x => !x.1) && (backToKw pos (keywordEach [] X.env)).all (fun x => x.1.isSome) && decide ([e].length + ([] : List Keyword).length + (if ([] : List Keyword).isEmpty then 0 else 1) < 30)) = true := by rfl) (hline : (apos.endLine == pos.line) = true := by rfl) :
    ME X W (.Call (.Attribute o "count" apos) [e] [] pos) (mMt (s1D countS) isS τo τs) :=
  me_mt PySem.F.plainAttrs_str PySem.F.slot_str_count PySem.F.type_str_count mt_count (mtD_s1 (fun a b d h => by cases h; rfl) (fun a b d v H Q h hv q => by
    cases h
    have := hv (fun _ => none)
    cases this
    exact ⟨a, b, rfl, rfl, q⟩) flat_rep) ho ha he hbase hfew hline
/-- sep.join(xs) -/
def join1D : D → List D → Option Res := fun d ds => match ds with | [x] => joinD d x | _ => none
theorem mtD_join {K : Fg} : MtD K "str" (fun x xs H Q => ∃ a p, ∃ ys : List Str, x = .str a ∧ xs = [.ref p] ∧ (SqL K H p (ys.map V.str) ∨ SqT K H p (ys.map V.str)) ∧ (ys.map (·.length)).sum + ys.length * a.length ≤ 16777216 ∧ Q (.str (Txt.join a ys)) H) join1D isS := by
  refine ⟨fun H Hf x d _ h r => isS_ty h r, fun H Hf x xs d ds c Q sub rx rs hc k => ?_⟩
  match ds, hc with
  | [y], hc =>
    cases rs with
    | cons rb rr =>
      cases rr
      cases rx <;> first | (simp [join1D, joinD] at hc; done) | skip
      cases rb <;> first | (simp [join1D, joinD] at hc; done) | skip
      all_goals
        rename_i z p vs es hp rp
        simp only [join1D, joinD] at hc
        cases e : strsOf es with
        | none => simp [e] at hc
        | some ys =>
          simp only [e] at hc
          split at hc
          · rename_i hz
            cases hc
            have ev := rp.strs e
            subst ev
            refine ⟨_, _, ys, rfl, rfl, ?_, by omega, k _ _ _ (Ext.refl sub) (Rep.str _)⟩
            first | exact .inl (.inl (.inl (sub _ _ hp))) | exact .inr (sqT_same sub hp)
          · cases hc
theorem me_join (ho : ME X W o τo) (ha : MA X W [e] τs) (he : starEach [e] X.env = (false, eval e X.env) :: starEach [] X.env := by rfl) (hbase : attributeBase o "join" X.env (eval o X.env) = eval o X.env := by rfl)
    (hfew : ((backTo pos (starEach [e] X.env)).all (fun x => !x.1) && (backToKw pos (keywordEach [] X.env)).all (fun x => x.1.isSome) && decide ([e].length + ([] : List Keyword).length + (if ([] : List Keyword).isEmpty then 0 else 1) < 30)) = true := by rfl) (hline : (apos.endLine == pos.line) = true := by rfl) :
    ME X W (.Call (.Attribute o "join" apos) [e] [] pos) (mMt join1D isS τo τs) :=
  me_mt PySem.F.plainAttrs_str PySem.F.slot_str_join PySem.F.type_str_join mt_join mtD_join ho ha he hbase hfew hline
end
end ML
/-! The second data layer, 7: own errors made and raised; try. -/
namespace ML
open PySem L2 DL
/-! ### B.__init__(self, ..) within an own error's __init__, B an own class without one -/
section
variable {X : Cx} {o e : Expr} {es : List Expr} {ta : TA} {f x : Str} {p p' p1 p2 pos : Pos} {B : Addr}
theorem pe_binit {pl : Sem Bool} (hg : Gl X x) (hm : X.mg x = some (.ref B)) (hr : PySem.W.readsIn X.K B (.type "type") = true) (hs : PySem.W.specialIn X.K (.ref B) "__getattribute__" = some (some (.builtin "type.__getattribute__")))
    (vV : PySem.W.findCls X.K (.ref B) (.type "type") "__init__" = some (.val (.builtin "ValueError.__init__"))) (ha : PA X (e :: es) ta)
    (hc : eval (.Call (.Attribute (.Name x p1) "__init__" p2) (e :: es) [] pos) X.env = (do let ov ← eval (.Name x p1) X.env; standAt p2.atName; let (f, first) ← holding [ov] (getMethod ov "__init__" pl); callWith pos f first (backTo pos (starEach (e :: es) X.env)) (backToKw pos (keywordEach [] X.env))) := by rfl)
    (he : starEach (e :: es) X.env = (false, eval e X.env) :: starEach es X.env := by rfl) (hpl : (backTo pos (starEach es X.env)).any (·.1) = false := by rfl) (hdb : (x == ("__debug__" : Str)) = false := by decide) :
    PE X (.Call (.Attribute (.Name x p1) "__init__" p2) (e :: es) [] pos) (tVeI X.K ta) := ⟨fun pins s σ H Q I q0 => by
  refine PySem.W.methodCall_KW (ld_glob I hg hm ?_ hdb) hc
  refine PySem.W.method_cls I.kIn hs (PySem.W.cls_value I.kIn hr vV (by decide +kernel) ?_)
  refine PyProof.Rows.callWith_method1 (thn (ha.run pos pins _ σ H _ (I.tok _) q0) fun us s1 ⟨vs, H1, I1, r1, a, C, ws, ev, hl, T, ea, q⟩ => ?_) he hpl
  subst ev
  cases r1 with
  | @cons _ u0 _ ur ra rr =>
    cases (show u0 = Value.ref a from ra)
    exact oinit_ok T I1 ea (by rw [← Paired.length rr, sizeLine_eq]; omega) fun s' J => ⟨.non, H1, J, rfl, q⟩⟩
end
/-- an own error class, at C, with the field f: what its __init__ leaves -/
def spE1 (K : Fg) (C : Addr) (f : Str) : Sp := fun vs H Q _ => ∃ a y, vs = [.ref a, y] ∧ H a = some (exo a C none) ∧ ∀ dx, H dx = none → dx ≠ a → Q .non (upd (upd H dx (exd dx [(f, y)])) a (exo a C (some dx)))
def spE3 (K : Fg) (C : Addr) (f1 f2 f3 : Str) : Sp := fun vs H Q _ => ∃ a y1 y2 y3, vs = [.ref a, y1, y2, y3] ∧ H a = some (exo a C none) ∧ ∀ dx, H dx = none → dx ≠ a → Q .non (upd (upd (upd (upd H dx (exd dx [(f1, y1)])) a (exo a C (some dx))) dx (exd dx [(f2, y2), (f1, y1)])) dx (exd dx [(f3, y3), (f2, y2), (f1, y1)]))
/-- what the written part says of an own error class over B -/
structure ErC (K : Fg) (mg : Str → Option Value) (x : Str) (C : Addr) : Prop where
  cl : OexC K C
  nm : mg x = some (.ref C)
  xf : XfC K C
/-- the class named x is an own error with the field f -/
def Er1 (P : Program) (w : World) (K : Fg) (mg : Str → Option Value) (base : Heap) (x : Str) (C : Addr) (f : Str) : Prop := ErC K mg x C ∧ PySem.W.findIn K (.ref C) f = some none ∧ ∃ fI fd ps, PySem.W.findIn K (.ref C) "__init__" = some (some (.ref fI)) ∧ PySem.W.typeIn K (.ref fI) = some (.type "function") ∧ FnOk P w K mg base CX0 1 fI fd ps (spE1 K C f) ∧ Binds K fd ps []
section
variable {X : Cx} {W : Wd} {e : Expr} {τs : TMA} {x : Str} {C : Addr} {f : Str} {k : Nat} {p pos pos2 : Pos}
theorem XRep.one {K : Fg} {H Hf : Hp} {d : Addr} {f : Str} {y : V} {dy : D} (sub : ∀ b o, Hf b = some o → H b = some o) (hn : H d = none) (r : Rep K Hf y dy) : Ext H (upd H d (.xd [(f, y)])) Hf (upd Hf d (.xd [(f, y)])) ∧ XRep K (upd Hf d (.xd [(f, y)])) (some d) [(f, dy)] := by
  have x := Ext.add sub (.xd [(f, y)]) hn
  exact ⟨x, .inr ⟨d, _, rfl, upd_same, .cons (r.mono x.grow) .nil⟩⟩
/-- raise C(e) -/
def mRaise1 (C : Addr) (f : Str) (τs : TMA) : TMS := fun ω PD ρ h => τs ω ρ h fun ds h1 => ∃ d, ds = [d] ∧ ω ⟨C, [(f, d)]⟩ ρ h1
theorem ms_raise1 (E : Er1 X.prog X.w X.K X.mg X.base x C f) (hc : X.calm = true) (tk : Takes X W.x) (hr : Room k X.A) (hk : 2 ≤ k) (hg : Gl X x) (ha : MA X W [e] τs) (hdb : (x == ("__debug__" : Str)) = false := by decide) (he : starEach [e] X.env = (false, eval e X.env) :: starEach [] X.env := by rfl) :
    MS X W (.Raise (some (.Call (.Name x p) [e] [] pos)) none pos2) (mRaise1 C f τs) := by
  obtain ⟨T, hno, fI, fd, ps, iC, tI, F, hb⟩ := E
  refine MS.of (ps_raise hc tk (pmk_oex T.cl iC tI F (hr.mono hk) hb .nil (fun _ _ _ _ _ _ _ z => z.elim) hg T.nm ha.pa hdb he rfl)) fun D σ H Hf R ρ h PD s q l => ?_
  refine ⟨R, Hf, ρ, h, _, s, q, fun vs H1 Hf1 ds h1 e1 m1 r1 _ ⟨d, hd, q1⟩ => ?_⟩
  subst hd
  cases r1 with
  | @cons y _ _ _ ry rr =>
    cases rr
    refine ⟨by show (1 : Nat) ≤ 1000; omega, fun a na => ⟨a, y, rfl, upd_same, fun dx hdx hne => ⟨rfl, dx, [(f, y)], upd_same, ?_, ?_, ?_⟩⟩⟩
    · rw [upd_ne hne, upd_same]
    · have z : upd H1 a (exo a C none) dx = none := hdx
      rw [upd_ne hne] at z
      exact z
    · have z : upd H1 a (exo a C none) dx = none := hdx
      rw [upd_ne hne] at z
      have eq : upd (del (upd (upd (upd H1 a (exo a C none)) dx (exd dx [(f, y)])) a (exo a C (some dx))) a) dx (.xd [(f, y)]) = upd H1 dx (.xd [(f, y)]) := by
        funext b
        by_cases hb1 : b = dx
        · subst hb1; rw [upd_same, upd_same]
        · rw [upd_ne hb1, upd_ne hb1]
          by_cases hb2 : b = a
          · subst hb2; rw [del_same, na]
          · rw [del_ne hb2, upd_ne hb2, upd_ne hb1, upd_ne hb2]
      rw [eq]
      obtain ⟨x1, xr⟩ := XRep.one (f := f) e1.hs.sub z ry
      exact e1.out (e1.hs.ext x1) (Mo.ext x1) xr q1
/-- what the code says but no way leads to -/
def mNever : TMS := fun _ _ _ _ => False
theorem ms_never {st : Stmt} : MS X W st mNever := ⟨⟨fun pins s σ H D I ⟨_, _, _, _, _, _, q, _⟩ => q.elim⟩⟩
theorem mss_never {sts : List Stmt} : MSs X W sts mNever := ⟨⟨fun pins s σ H D I ⟨_, _, _, _, _, _, q, _⟩ => q.elim⟩⟩
end
/-! ### try -/
section
variable {X : Cx} {W : Wd} {x n : Str} {c : Value} {i : Nat} {body suite : List Stmt} {b0 : Stmt} {np pos pos' : Pos} {τb : TMS} {τs : Addr → Ex → TMS}
/-- the ends of a suite, the name in slot i gone -/
def gone (i : Nat) (PD : MEnds) : MEnds := { nx := fun ρ h => PD.nx (ρ.set i none) h, rt := PD.rt, bk := fun ρ h => PD.bk (ρ.set i none) h, ct := fun ρ h => PD.ct (ρ.set i none) h }
/-- Cs: the classes that are caught; Ns: those that are not -/
def mTry (Cs Ns : List Addr) (i : Nat) (τb : TMS) (τs : Addr → Ex → TMS) : TMS := fun ω PD ρ h => τb (fun x ρ' h' => (x.C ∈ Cs ∧ ∀ a, τs a x ωF (gone i PD) (ρ'.set i (some (.raw (.ref a)))) h') ∨ (x.C ∈ Ns ∧ ω x ρ' h')) PD ρ h
/-- the wish of a suite -/
abbrev WSu (K : Fg) (d : Option Addr) (fs : List (Str × D)) : Wd := ⟨fun _ _ _ _ => False, fun Hf => XRep K Hf d fs, fun Hf Hf' g h => by
  rcases h with h | ⟨a, gs, h1, h2, h3⟩
  · exact .inl h
  · exact .inr ⟨a, gs, h1, g _ _ h2, h3.mono g⟩⟩
theorem Sd.drop {K : Fg} {Hf : Hp} {σ : St} {ρ : Me} (s : Sd K Hf σ ρ) (i : Nat) {v : Option V} : Sd K Hf (σ.set i v) (ρ.set i none) := ⟨fun j e q => by
  rw [set_getM] at q
  by_cases hj : i = j
  · rw [if_pos hj] at q
    split at q <;> cases q
  · rw [if_neg hj] at q
    rw [List.getElem?_set, if_neg hj]
    exact s.at_ j e q, by rw [List.length_set, List.length_set]; exact s.len⟩
theorem RE.as {K : Fg} {W W' : Wd} {R R' : Rg} {H H1 Hf Hf1 : Hp} {σ σ1 σ2 : St} {ρ ρ1 ρ2 : Me} {h h1 : Hd} (e : RE K W R H Hf σ ρ h) (e1 : RE K W' R' H1 Hf1 σ1 ρ1 h1) (hR : R'.H0 = H ∧ R'.Hf0 = Hf ∧ R'.h0 = h) (s : Sd K Hf1 σ2 ρ2) : RE K W R H1 Hf1 σ2 ρ2 h1 := by
  obtain ⟨r1, r2, r3⟩ := hR
  have m := e1.mv
  rw [r1, r2, r3] at m
  exact ⟨e.ok, W.mono _ _ m.grow e.gh, s, e1.hs, e.mv.trans m⟩
theorem ms_try {Cs Ns : List Addr} (hcs : ∀ C ∈ Cs, PySem.W.exmOne X.K (.ref C) c = some true) (hns : ∀ C ∈ Ns, PySem.W.exmOne X.K (.ref C) c = some false) (hs : X.stack = X.env :: X.outer) (hf : X.env.frame = some X.env.locals) (hN : X.N.Nodup) (hi : X.N[i]? = some n) (hln : X.env.kindOf n = some .local) (hc : Names X x c) (tk : Takes X W.x)
    (hb : ∀ (W' : WX) (pn : List (Addr × Obj)) (xe : Value → Shared → Prop), Takes (X.tr pn xe) W' → PassesOwn (model X.prog X.w) X.A X.env xe → MSs (X.tr pn xe) ⟨W', W.g, W.mono⟩ body τb)
    (hsu : ∀ (a C : Addr) (oe : Obj) (d : Option Addr) (fs : List (Str × D)) (pn : List (Addr × Obj)), Zc (.ref C) d oe → (∃ vs, oe.data = .fields vs) → MSs (X.suite a ((a, oe) :: pn)) (WSu X.K d fs) (b0 :: suite) (τs a ⟨C, fs⟩)) :
    MS X W (.Try body [.ExceptHandler (some (.Name x np)) (some n) (b0 :: suite) pos'] [] [] pos) (mTry Cs Ns i τb τs) := by
  refine MS.of (ps_try_as (Wout := W.x) (tb := fun W' => canMS X.K ⟨W', W.g, W.mono⟩ τb) (ts := fun a cls d D σ H => ∃ C fs, cls = .ref C ∧ canMS X.K (WSu X.K d fs) (τs a ⟨C, fs⟩) D σ H) hs hf hN hi hln hc tk
    (fun W' pn xe tk' po => (hb W' pn xe tk' po).pss)
    (fun a oe cls d pn hz hv => ⟨fun pins s σ H D I ⟨C, fs, ec, q⟩ => by subst ec; exact (hsu a C oe d fs pn hz hv).pss.run pins s σ H D I q⟩)) fun D σ H Hf R ρ h PD e q l => ?_
  let R' : Rg := ⟨H, Hf, h, fun x ρ' h' => (x.C ∈ Cs ∧ ∀ a, τs a x ωF (gone i PD) (ρ'.set i (some (.raw (.ref a)))) h') ∨ (x.C ∈ Ns ∧ R.ω x ρ' h')⟩
  refine ⟨R', Hf, ρ, h, PD, ⟨?_, e.gh, e.sl, e.hs, Mo.refl ..⟩, q, ⟨fun σ1 H1 Hf1 ρ1 h1 e1 q1 => l.nx σ1 H1 Hf1 ρ1 h1 (e.as e1 ⟨rfl, rfl, rfl⟩ e1.sl) q1, fun v σ1 H1 Hf1 ρ1 h1 r e1 ok q1 => l.rt v σ1 H1 Hf1 ρ1 h1 r (e.as e1 ⟨rfl, rfl, rfl⟩ e1.sl) (ok.back e.mv.live) q1, fun σ1 H1 Hf1 ρ1 h1 e1 q1 => l.bk σ1 H1 Hf1 ρ1 h1 (e.as e1 ⟨rfl, rfl, rfl⟩ e1.sl) q1, fun σ1 H1 Hf1 ρ1 h1 e1 q1 => l.ct σ1 H1 Hf1 ρ1 h1 (e.as e1 ⟨rfl, rfl, rfl⟩ e1.sl) q1⟩⟩
  rintro cls d σ1 H1 ⟨C, fs, Hf1, ρ1, h1, rfl, xr, s1, s2, m1, hy⟩
  rcases hy with ⟨hm, hy⟩ | ⟨hm, hn⟩
  rotate_left
  · exact ⟨false, hns C hm, fun z => (nomatch z), fun _ => e.ok _ _ _ _ ⟨C, fs, Hf1, ρ1, h1, rfl, xr, s1, s2, e.mv.trans m1, hn⟩⟩
  refine ⟨true, hcs C hm, fun hbt a na => ⟨C, fs, rfl, ⟨H1, Hf1, h1, ωF⟩, Hf1, ρ1.set i (some (.raw (.ref a))), h1, gone i PD, ⟨fun cls d σ H ⟨_, _, _, _, _, _, _, _, _, _, z⟩ => z, xr, s1.set i (Rep.raw _), s2, Mo.refl ..⟩, hy a, ?_⟩, fun hbf => (nomatch hbf)⟩
  · have e1 : RE X.K W R H1 Hf1 σ1 ρ1 h1 := ⟨e.ok, W.mono _ _ m1.grow e.gh, s1, s2, e.mv.trans m1⟩
    exact ⟨fun σ2 H2 Hf2 ρ2 h2 e2 q2 => l.nx _ H2 Hf2 _ h2 (e1.as e2 ⟨rfl, rfl, rfl⟩ (e2.sl.drop i)) q2, fun v σ2 H2 Hf2 ρ2 h2 r e2 ok q2 => l.rt v σ2 H2 Hf2 ρ2 h2 r (e1.as e2 ⟨rfl, rfl, rfl⟩ e2.sl) (ok.back e1.mv.live) q2, fun σ2 H2 Hf2 ρ2 h2 e2 q2 => l.bk _ H2 Hf2 _ h2 (e1.as e2 ⟨rfl, rfl, rfl⟩ (e2.sl.drop i)) q2, fun σ2 H2 Hf2 ρ2 h2 e2 q2 => l.ct _ H2 Hf2 _ h2 (e1.as e2 ⟨rfl, rfl, rfl⟩ (e2.sl.drop i)) q2⟩
/-- err.f within the suite -/
def mXf (a C : Addr) (fs : List (Str × D)) (C0 : Addr) (f : Str) (τ : TM) : TM := fun ω ρ h P => τ ω ρ h fun r h1 => r.dat = .raw (.ref a) ∧ C = C0 ∧ ∃ v, fs.lookup f = some v ∧ P (.fz v) h1
theorem me_xf {a C C0 : Addr} {oe : Obj} {d : Option Addr} {fs : List (Str × D)} {pn : List (Addr × Obj)} {e : Expr} {τ : TM} {f : Str} (T : XfC X.K C0) (hno : PySem.W.findIn X.K (.ref C0) f = some none) (hz : Zc (.ref C) d oe) (hv : ∃ vs, oe.data = .fields vs)
    (he : ME (X.suite a ((a, oe) :: pn)) (WSu X.K d fs) e τ) (hb : attributeBase e f X.env (eval e X.env) = eval e X.env := by rfl) : ME (X.suite a ((a, oe) :: pn)) (WSu X.K d fs) (.Attribute e f pos) (mXf a C fs C0 f τ) := by
  obtain ⟨t, pe, se⟩ := he.fz
  refine ME.of (pe_xf T hno hz hv pe hb) fun σ H Hf ρ h R P Q e q k => se σ H Hf ρ h R (fun r h1 => r = .raw (.ref a) ∧ C = C0 ∧ ∃ v, fs.lookup f = some v ∧ P (.fz v) h1) _ e q fun v H1 Hf1 d1 h1 e1 m1 r1 ⟨g1, g2, w, g3, p1⟩ => ?_
  subst g1 g2
  cases r1
  rcases e1.gh with ⟨_, z⟩ | ⟨dd, gs, z1, z2, z3⟩
  · rw [z] at g3; cases g3
  · obtain ⟨u, l1, ru⟩ := (RepF.get z3).1 w g3
    exact ⟨rfl, rfl, dd, gs, u, z1, e1.hs.sub _ _ z2, l1, k u H1 Hf1 (.fz w) h1 e1 m1 ru p1⟩
end
end ML
/-! The second data layer, 8: short words; zip, enumerate; str. -/
namespace ML
open PySem L2 DL
section
variable {X : Cx} {W : Wd} {pos p apos : Pos} {a b c e : Expr} {es : List Expr} {τa τb τc : TM} {τs : TMA} {k : Nat}
theorem me_add (ha : ME X W a τa) (hb : ME X W b τb) : ME X W (.BinOp a .Add b pos) (mBin addD τa τb) := me_bin op_addD opS_add ha hb
theorem me_sub (ha : ME X W a τa) (hb : ME X W b τb) : ME X W (.BinOp a .Sub b pos) (mBin subD τa τb) := me_bin op_sub opS_sub ha hb
theorem me_mul (ha : ME X W a τa) (hb : ME X W b τb) : ME X W (.BinOp a .Mult b pos) (mBin mulD τa τb) := me_bin op_mulD opS_mul ha hb
theorem me_fdiv (ha : ME X W a τa) (hb : ME X W b τb) : ME X W (.BinOp a .FloorDiv b pos) (mBin fdivD τa τb) := me_bin op_fdiv opS_fdiv ha hb
theorem me_mod (ha : ME X W a τa) (hb : ME X W b τb) : ME X W (.BinOp a .Mod b pos) (mBin modD τa τb) := me_bin op_mod opS_mod ha hb
theorem me_pow (ha : ME X W a τa) (hb : ME X W b τb) : ME X W (.BinOp a .Pow b pos) (mBin powD τa τb) := me_bin op_pow opS_pow ha hb
theorem me_eq (hr : Room k X.A) (ha : ME X W a τa) (hb : ME X W b τb) : ME X W (.Compare a [.Eq] [b] pos) (mBin eqD τa τb) := me_cmp (op_eqD' hr.units) opS_eq ha hb (nomark _)
theorem mt_eq (hr : Room k X.A) (ha : ME X W a τa) (hb : ME X W b τb) : MT X W (.Compare a [.Eq] [b] pos) (mT (mBin eqD τa τb)) := mt_cmp (op_eqD' hr.units) opS_eq ha hb (nomark _)
theorem me_eqV (hr : Room k X.A) (ha : ME X W a τa) (hb : ME X W b τb) : ME X W (.Compare a [.Eq] [b] pos) (mBinV eqD τa τb) := me_cmpV (op_eqD' hr.units) opS_eq ha hb (nomark _)
theorem mt_eqV (hr : Room k X.A) (ha : ME X W a τa) (hb : ME X W b τb) : MT X W (.Compare a [.Eq] [b] pos) (mT (mBinV eqD τa τb)) := mt_cmpV (op_eqD' hr.units) opS_eq ha hb (nomark _)
theorem me_ne (hr : Room k X.A) (ha : ME X W a τa) (hb : ME X W b τb) : ME X W (.Compare a [.NotEq] [b] pos) (mBin neD τa τb) := me_cmp (op_neD' hr.units) opS_ne ha hb (nomark _)
theorem mt_ne (hr : Room k X.A) (ha : ME X W a τa) (hb : ME X W b τb) : MT X W (.Compare a [.NotEq] [b] pos) (mT (mBin neD τa τb)) := mt_cmp (op_neD' hr.units) opS_ne ha hb (nomark _)
theorem me_neV (hr : Room k X.A) (ha : ME X W a τa) (hb : ME X W b τb) : ME X W (.Compare a [.NotEq] [b] pos) (mBinV neD τa τb) := me_cmpV (op_neD' hr.units) opS_ne ha hb (nomark _)
theorem mt_neV (hr : Room k X.A) (ha : ME X W a τa) (hb : ME X W b τb) : MT X W (.Compare a [.NotEq] [b] pos) (mT (mBinV neD τa τb)) := mt_cmpV (op_neD' hr.units) opS_ne ha hb (nomark _)
theorem me_lt (ha : ME X W a τa) (hb : ME X W b τb) : ME X W (.Compare a [.Lt] [b] pos) (mBin ltD τa τb) := me_cmp op_lt opS_lt ha hb (nomark _)
theorem mt_lt (ha : ME X W a τa) (hb : ME X W b τb) : MT X W (.Compare a [.Lt] [b] pos) (mT (mBin ltD τa τb)) := mt_cmp op_lt opS_lt ha hb (nomark _)
theorem me_le (ha : ME X W a τa) (hb : ME X W b τb) : ME X W (.Compare a [.LtE] [b] pos) (mBin leD τa τb) := me_cmp op_le opS_le ha hb (nomark _)
theorem mt_le (ha : ME X W a τa) (hb : ME X W b τb) : MT X W (.Compare a [.LtE] [b] pos) (mT (mBin leD τa τb)) := mt_cmp op_le opS_le ha hb (nomark _)
theorem me_gt (ha : ME X W a τa) (hb : ME X W b τb) : ME X W (.Compare a [.Gt] [b] pos) (mBin gtD τa τb) := me_cmp op_gt opS_gt ha hb (nomark _)
theorem mt_gt (ha : ME X W a τa) (hb : ME X W b τb) : MT X W (.Compare a [.Gt] [b] pos) (mT (mBin gtD τa τb)) := mt_cmp op_gt opS_gt ha hb (nomark _)
theorem me_ge (ha : ME X W a τa) (hb : ME X W b τb) : ME X W (.Compare a [.GtE] [b] pos) (mBin geD τa τb) := me_cmp op_ge opS_ge ha hb (nomark _)
theorem mt_ge (ha : ME X W a τa) (hb : ME X W b τb) : MT X W (.Compare a [.GtE] [b] pos) (mT (mBin geD τa τb)) := mt_cmp op_ge opS_ge ha hb (nomark _)
theorem me_is (ha : ME X W a τa) (hb : ME X W b τb) : ME X W (.Compare a [.Is] [b] pos) (mBin isD τa τb) := me_cmp op_isN opS_is ha hb (nomark _)
theorem mt_is (ha : ME X W a τa) (hb : ME X W b τb) : MT X W (.Compare a [.Is] [b] pos) (mT (mBin isD τa τb)) := mt_cmp op_isN opS_is ha hb (nomark _)
theorem me_isnt (ha : ME X W a τa) (hb : ME X W b τb) : ME X W (.Compare a [.IsNot] [b] pos) (mBin isntD τa τb) := me_cmp op_notN opS_isnt ha hb (nomark _)
theorem mt_isnt (ha : ME X W a τa) (hb : ME X W b τb) : MT X W (.Compare a [.IsNot] [b] pos) (mT (mBin isntD τa τb)) := mt_cmp op_notN opS_isnt ha hb (nomark _)
theorem me_in (ha : ME X W a τa) (hb : ME X W b τb) (hm : behindInMarks .In b = false := by rfl) : ME X W (.Compare a [.In] [b] pos) (mBin inD τa τb) := me_cmp op_inD opS_in ha hb hm
theorem mt_in (ha : ME X W a τa) (hb : ME X W b τb) (hm : behindInMarks .In b = false := by rfl) : MT X W (.Compare a [.In] [b] pos) (mT (mBin inD τa τb)) := mt_cmp op_inD opS_in ha hb hm
theorem me_inV (ha : ME X W a τa) (hb : ME X W b τb) (hm : behindInMarks .In b = false := by rfl) : ME X W (.Compare a [.In] [b] pos) (mBinV inD τa τb) := me_cmpV op_inD opS_in ha hb hm
theorem mt_inV (ha : ME X W a τa) (hb : ME X W b τb) (hm : behindInMarks .In b = false := by rfl) : MT X W (.Compare a [.In] [b] pos) (mT (mBinV inD τa τb)) := mt_cmpV op_inD opS_in ha hb hm
theorem me_notin (ha : ME X W a τa) (hb : ME X W b τb) (hm : behindInMarks .NotIn b = false := by rfl) : ME X W (.Compare a [.NotIn] [b] pos) (mBin notinD τa τb) := me_cmp op_notinD opS_notin ha hb hm
theorem mt_notin (ha : ME X W a τa) (hb : ME X W b τb) (hm : behindInMarks .NotIn b = false := by rfl) : MT X W (.Compare a [.NotIn] [b] pos) (mT (mBin notinD τa τb)) := mt_cmp op_notinD opS_notin ha hb hm
theorem me_notinV (ha : ME X W a τa) (hb : ME X W b τb) (hm : behindInMarks .NotIn b = false := by rfl) : ME X W (.Compare a [.NotIn] [b] pos) (mBinV notinD τa τb) := me_cmpV op_notinD opS_notin ha hb hm
theorem mt_notinV (ha : ME X W a τa) (hb : ME X W b τb) (hm : behindInMarks .NotIn b = false := by rfl) : MT X W (.Compare a [.NotIn] [b] pos) (mT (mBinV notinD τa τb)) := mt_cmpV op_notinD opS_notin ha hb hm
theorem me_lele (ha : ME X W a τa) (hb : ME X W b τb) (hc : ME X W c τc) (hm : lastMarks [.LtE, .LtE] [b, c] = false := by with_unfolding_all rfl) : ME X W (.Compare a [.LtE, .LtE] [b, c] pos) (mChn leD leD τa τb τc) := me_chn op_le opS_le op_le opS_le ha hb hc hm
theorem me_ltle (ha : ME X W a τa) (hb : ME X W b τb) (hc : ME X W c τc) (hm : lastMarks [.Lt, .LtE] [b, c] = false := by with_unfolding_all rfl) : ME X W (.Compare a [.Lt, .LtE] [b, c] pos) (mChn ltD leD τa τb τc) := me_chn op_lt opS_lt op_le opS_le ha hb hc hm
theorem mt_lele (ha : ME X W a τa) (hb : ME X W b τb) (hc : ME X W c τc) (hm : lastMarks [.LtE, .LtE] [b, c] = false := by with_unfolding_all rfl) : MT X W (.Compare a [.LtE, .LtE] [b, c] pos) (mT (mChn leD leD τa τb τc)) := mt_chn op_le opS_le op_le opS_le ha hb hc hm
theorem mt_ltle (ha : ME X W a τa) (hb : ME X W b τb) (hc : ME X W c τc) (hm : lastMarks [.Lt, .LtE] [b, c] = false := by with_unfolding_all rfl) : MT X W (.Compare a [.Lt, .LtE] [b, c] pos) (mT (mChn ltD leD τa τb τc)) := mt_chn op_lt opS_lt op_le opS_le ha hb hc hm
theorem me_len (hg : Gl X "len") (hm : X.mg "len" = none) (ha : MA X W (e :: es) τs) (he : starEach (e :: es) X.env = (false, eval e X.env) :: starEach es X.env := by rfl) (hpl : (backTo pos (starEach es X.env)).any (·.1) = false := by rfl) : ME X W (.Call (.Name "len" p) (e :: es) [] pos) (mCallG lenD τs) := me_callB call_len callS_len hg hm PySem.boot_len ha (he := he) (hpl := hpl)
theorem me_isi (hg : Gl X "isinstance") (hm : X.mg "isinstance" = none) (ha : MA X W (e :: es) τs) (he : starEach (e :: es) X.env = (false, eval e X.env) :: starEach es X.env := by rfl) (hpl : (backTo pos (starEach es X.env)).any (·.1) = false := by rfl) : ME X W (.Call (.Name "isinstance" p) (e :: es) [] pos) (mCallG isiD τs) := me_callB call_isi callS_isi hg hm (by decide +kernel) ha (he := he) (hpl := hpl)
theorem me_max2 (hc : X.calm = true) (hg : Gl X "max") (hm : X.mg "max" = none) (ha : MA X W (e :: es) τs) (he : starEach (e :: es) X.env = (false, eval e X.env) :: starEach es X.env := by rfl) (hpl : (backTo pos (starEach es X.env)).any (·.1) = false := by rfl) : ME X W (.Call (.Name "max" p) (e :: es) [] pos) (mCallG max2D τs) := me_callB (call_max2 hc) callS_max2 hg hm (by decide +kernel) ha (he := he) (hpl := hpl)
theorem me_min2 (hc : X.calm = true) (hg : Gl X "min") (hm : X.mg "min" = none) (ha : MA X W (e :: es) τs) (he : starEach (e :: es) X.env = (false, eval e X.env) :: starEach es X.env := by rfl) (hpl : (backTo pos (starEach es X.env)).any (·.1) = false := by rfl) : ME X W (.Call (.Name "min" p) (e :: es) [] pos) (mCallG min2D τs) := me_callB (call_min2 hc) callS_min2 hg hm (by decide +kernel) ha (he := he) (hpl := hpl)
theorem me_sum (hc : X.calm = true) (hg : Gl X "sum") (hm : X.mg "sum" = none) (ha : MA X W (e :: es) τs) (he : starEach (e :: es) X.env = (false, eval e X.env) :: starEach es X.env := by rfl) (hpl : (backTo pos (starEach es X.env)).any (·.1) = false := by rfl) : ME X W (.Call (.Name "sum" p) (e :: es) [] pos) (mCallG sumD τs) := me_callB (cr_sum hc) callS_sum hg hm (by decide +kernel) ha (he := he) (hpl := hpl)
theorem me_all (hc : X.calm = true) (hg : Gl X "all") (hm : X.mg "all" = none) (ha : MA X W (e :: es) τs) (he : starEach (e :: es) X.env = (false, eval e X.env) :: starEach es X.env := by rfl) (hpl : (backTo pos (starEach es X.env)).any (·.1) = false := by rfl) : ME X W (.Call (.Name "all" p) (e :: es) [] pos) (mCallG allD τs) := me_callB (cr_all hc) callS_all hg hm (by decide +kernel) ha (he := he) (hpl := hpl)
theorem me_any (hc : X.calm = true) (hg : Gl X "any") (hm : X.mg "any" = none) (ha : MA X W (e :: es) τs) (he : starEach (e :: es) X.env = (false, eval e X.env) :: starEach es X.env := by rfl) (hpl : (backTo pos (starEach es X.env)).any (·.1) = false := by rfl) : ME X W (.Call (.Name "any" p) (e :: es) [] pos) (mCallG anyD τs) := me_callB (cr_any hc) callS_any hg hm (by decide +kernel) ha (he := he) (hpl := hpl)
theorem me_list (hc : X.calm = true) (hg : Gl X "list") (hm : X.mg "list" = none) (ha : MA X W (e :: es) τs) (he : starEach (e :: es) X.env = (false, eval e X.env) :: starEach es X.env := by rfl) (hpl : (backTo pos (starEach es X.env)).any (·.1) = false := by rfl) : ME X W (.Call (.Name "list" p) (e :: es) [] pos) (mCallG listD τs) := me_callTy (callR_list hc) callS_list hg hm (by decide +kernel) ha (he := he) (hpl := hpl)
theorem me_tuple (hg : Gl X "tuple") (hm : X.mg "tuple" = none) (ha : MA X W (e :: es) τs) (he : starEach (e :: es) X.env = (false, eval e X.env) :: starEach es X.env := by rfl) (hpl : (backTo pos (starEach es X.env)).any (·.1) = false := by rfl) : ME X W (.Call (.Name "tuple" p) (e :: es) [] pos) (mCallG tupleD τs) := me_callTy call_tuple_of callS_tuple hg hm (by decide +kernel) ha (he := he) (hpl := hpl)
theorem me_intc (hg : Gl X "int") (hm : X.mg "int" = none) (ha : MA X W (e :: es) τs) (he : starEach (e :: es) X.env = (false, eval e X.env) :: starEach es X.env := by rfl) (hpl : (backTo pos (starEach es X.env)).any (·.1) = false := by rfl) : ME X W (.Call (.Name "int" p) (e :: es) [] pos) (mCallG intOfD τs) := me_callTy call_int1 callS_int hg hm (by decide +kernel) ha (he := he) (hpl := hpl)
theorem me_lenV (hg : Gl X "len") (hm : X.mg "len" = none) (ha : MA X W (e :: es) τs) (he : starEach (e :: es) X.env = (false, eval e X.env) :: starEach es X.env := by rfl) (hpl : (backTo pos (starEach es X.env)).any (·.1) = false := by rfl) : ME X W (.Call (.Name "len" p) (e :: es) [] pos) (mCallGV lenD τs) := me_callBV call_len callS_len hg hm PySem.boot_len ha (he := he) (hpl := hpl)
/-- str(int), str(text) -/
def strD : List D → Option Res
  | [.int i] => if decide (i.natAbs < 2 ^ 1900) = true then some (.fz (.str (toString i))) else none
  | _ => none
theorem callS_str {K : Fg} : CallS K (fun xs H Q => ∃ i, xs = [.int i] ∧ i.natAbs.log2 < 1920 ∧ Q (.str (toString i)) H) strD := by
  intro H Hf xs ds c Q hf r hg k
  match ds, hg with
  | [.int i], hg =>
    cases r with
    | cons ra rs =>
      cases rs
      cases ra
      simp only [strD] at hg
      split at hg
      · rename_i hz
        cases hg
        have hz' := of_decide_eq_true hz
        refine ⟨i, rfl, ?_, k _ _ _ (Ext.refl hf) (.str _)⟩
        by_cases h0 : i.natAbs = 0
        · rw [h0]; decide
        · have h1 : 2 ^ i.natAbs.log2 ≤ i.natAbs := Nat.log2_self_le h0
          have h2 : 2 ^ i.natAbs.log2 < 2 ^ 1900 := Nat.lt_of_le_of_lt h1 hz'
          have h3 : i.natAbs.log2 < 1900 := (Nat.pow_lt_pow_iff_right (by decide : 1 < 2)).mp h2
          omega
      · cases hg
theorem me_strc (hg : Gl X "str") (hm : X.mg "str" = none) (ha : MA X W (e :: es) τs) (he : starEach (e :: es) X.env = (false, eval e X.env) :: starEach es X.env := by rfl) (hpl : (backTo pos (starEach es X.env)).any (·.1) = false := by rfl) : ME X W (.Call (.Name "str" p) (e :: es) [] pos) (mCallG strD τs) := me_callTy call_str_int callS_str hg hm (by decide +kernel) ha (he := he) (hpl := hpl)
/-- int(text): one that is a number -/
def intTxtD : List D → Option Res
  | [.str a] => if decide (a.length ≤ 640) = true then (PySem.intText? a).map fun n => .fz (.int n) else none
  | _ => none
theorem callS_intTxt {K : Fg} : CallS K (fun xs H Q => ∃ a n, xs = [.str a] ∧ PySem.intText? a = some n ∧ a.length ≤ 640 ∧ Q (.int n) H) intTxtD := by
  intro H Hf xs ds c Q hf r hg k
  match ds, hg with
  | [.str a], hg =>
    cases r with
    | cons ra rs =>
      cases rs
      cases ra
      simp only [intTxtD] at hg
      split at hg
      · rename_i hz
        cases e : PySem.intText? a with
        | none => rw [e] at hg; cases hg
        | some n =>
          rw [e] at hg
          cases hg
          exact ⟨a, n, rfl, e, of_decide_eq_true hz, k _ _ _ (Ext.refl hf) (.int _)⟩
      · cases hg
theorem me_intT (hg : Gl X "int") (hm : X.mg "int" = none) (ha : MA X W (e :: es) τs) (he : starEach (e :: es) X.env = (false, eval e X.env) :: starEach es X.env := by rfl) (hpl : (backTo pos (starEach es X.env)).any (·.1) = false := by rfl) : ME X W (.Call (.Name "int" p) (e :: es) [] pos) (mCallG intTxtD τs) := me_callTy call_int_str callS_intTxt hg hm (by decide +kernel) ha (he := he) (hpl := hpl)
/-! ### zip, enumerate -/
def zipD : List D → List D → List D
  | a :: as, b :: bs => .tup [a, b] :: zipD as bs
  | _, _ => []
theorem zipD_len : ∀ as bs : List D, (zipD as bs).length = min as.length bs.length
  | [], bs => by simp [zipD]
  | a :: as, [] => by simp [zipD]
  | a :: as, b :: bs => by simp only [zipD, List.length_cons, zipD_len as bs]; omega
theorem zipD_get : ∀ (as bs : List D) (i : Nat) (d : D), (zipD as bs)[i]? = some d → ∃ a b, as[i]? = some a ∧ bs[i]? = some b ∧ d = .tup [a, b]
  | [], bs, i, d, h => by simp [zipD] at h
  | a :: as, [], i, d, h => by simp [zipD] at h
  | a :: as, b :: bs, 0, d, h => by simp [zipD] at h; exact ⟨a, b, rfl, rfl, h.symm⟩
  | a :: as, b :: bs, i + 1, d, h => by
    obtain ⟨x, y, h1, h2, h3⟩ := zipD_get as bs i d (by simpa [zipD] using h)
    exact ⟨x, y, by simpa using h1, by simpa using h2, h3⟩
theorem itz_it {K : Fg} {Hf : Hp} {p q : Addr} {vs ws : List V} {as bs : List D} (h1 : SqL K Hf p vs) (h2 : SqL K Hf q ws) (r1 : RepL K Hf vs as) (r2 : RepL K Hf ws bs) : DIt K (Itz K p q) Hf (zipD as bs) where
  item := fun i d H' Hf' sub grow hd => by
    obtain ⟨a, b, g1, g2, rfl⟩ := zipD_get as bs i d hd
    obtain ⟨v, k1, k2⟩ := r1.get g1
    obtain ⟨u, l1, l2⟩ := r2.get g2
    have s1 : SqL K H' p vs := sqL_same (fun b o h => sub b o (grow b o h)) h1
    have s2 : SqL K H' q ws := sqL_same (fun b o h => sub b o (grow b o h)) h2
    refine ⟨⟨vs, ws, v, u, s1, s2, k1, l1⟩, fun x H'' y => ?_⟩
    obtain ⟨T, x1, y1, rfl, hT, rfl, z1, z2⟩ := y
    have e1 := z1 vs s1
    have e2 := z2 ws s2
    rw [k1] at e1
    rw [l1] at e2
    cases e1
    cases e2
    obtain ⟨x2, ok⟩ := new_tup sub hT (.cons (k2.mono grow) (.cons (l2.mono grow) .nil))
    exact ⟨_, x2, ok⟩
  stop := fun i H' Hf' sub grow hl _ => by
    rw [zipD_len] at hl
    exact ⟨vs, ws, sqL_same (fun b o h => sub b o (grow b o h)) h1, sqL_same (fun b o h => sub b o (grow b o h)) h2, by rw [r1.length, r2.length]; omega⟩
theorem itzT_it {K : Fg} {Hf : Hp} {p q : Addr} {vs ws : List V} {as bs : List D} (h1 : SqT K Hf p vs) (h2 : SqT K Hf q ws) (r1 : RepL K Hf vs as) (r2 : RepL K Hf ws bs) : DIt K (RZ.ItzT K p q) Hf (zipD as bs) where
  item := fun i d H' Hf' sub grow hd => by
    obtain ⟨a, b, g1, g2, rfl⟩ := zipD_get as bs i d hd
    obtain ⟨v, k1, k2⟩ := r1.get g1
    obtain ⟨u, l1, l2⟩ := r2.get g2
    have s1 : SqT K H' p vs := sqT_same (fun b o h => sub b o (grow b o h)) h1
    have s2 : SqT K H' q ws := sqT_same (fun b o h => sub b o (grow b o h)) h2
    refine ⟨⟨vs, ws, v, u, s1, s2, k1, l1⟩, fun x H'' y => ?_⟩
    obtain ⟨T, x1, y1, rfl, hT, rfl, z1, z2⟩ := y
    have e1 := z1 vs s1
    have e2 := z2 ws s2
    rw [k1] at e1
    rw [l1] at e2
    cases e1
    cases e2
    obtain ⟨x2, ok⟩ := new_tup sub hT (.cons (k2.mono grow) (.cons (l2.mono grow) .nil))
    exact ⟨_, x2, ok⟩
  stop := fun i H' Hf' sub grow hl _ => by
    rw [zipD_len] at hl
    exact ⟨vs, ws, sqT_same (fun b o h => sub b o (grow b o h)) h1, sqT_same (fun b o h => sub b o (grow b o h)) h2, by rw [r1.length, r2.length]; omega⟩
def zipItems : List D → Option (List D)
  | [.lst as, .lst bs] => some (zipD as bs)
  | [.tup as, .tup bs] => some (zipD as bs)
  | _ => none
def mZip (τ : TMA) : TMI := fun ω ρ h P => τ ω ρ h fun ds h1 => ∃ zs, zipItems ds = some zs ∧ P zs h1
theorem mi_zip {e2 : Expr} {elts : List Expr} {kk : Nat} {tpos : Pos} (hg : Gl X "zip") (hm : X.mg "zip" = none) (ha : MA X W [e, e2] τs) (hs : starEach [e, e2] X.env = (false, eval e X.env) :: starEach [e2] X.env := by rfl) (hpl : (backTo pos (starEach [e2] X.env)).any (·.1) = false := by rfl) :
    MI X W (.Tuple elts kk tpos) (.Call (.Name "zip" p) [e, e2] [] pos) (mZip τs) :=
  MI.of (RZ.pi_zipA hg hm ha.pa hs hpl) fun σ H Hf ρ h R P Q e q k => ⟨R, Hf, ρ, h, _, e, q, fun vs H1 Hf1 ds h1 e1 m1 r1 _ ⟨zs, hz, p1⟩ => by
    match ds, hz with
    | [.lst as, .lst bs], hz =>
      cases hz
      cases r1 with
      | cons ra rr =>
        cases rr with
        | cons rb rr =>
          cases rr
          cases ra with
          | lst ha ra =>
            cases rb with
            | lst hb rb => exact ⟨_, _, _, _, rfl, .inl ⟨.inl (.inl (e1.hs.sub _ _ ha)), .inl (.inl (e1.hs.sub _ _ hb)), k _ H1 Hf1 _ h1 e1 m1 (itz_it (.inl (.inl ha)) (.inl (.inl hb)) ra rb) p1⟩⟩
    | [.tup as, .tup bs], hz =>
      cases hz
      cases r1 with
      | cons ra rr =>
        cases rr with
        | cons rb rr =>
          cases rr
          cases ra with
          | tup ha ra =>
            cases rb with
            | tup hb rb => exact ⟨_, _, _, _, rfl, .inr ⟨sqT_same e1.hs.sub ha, sqT_same e1.hs.sub hb, k _ H1 Hf1 _ h1 e1 m1 (itzT_it ha hb ra rb) p1⟩⟩⟩
def enumD (n : Nat) : List D → List D
  | [] => []
  | d :: ds => .tup [.int (n : Nat), d] :: enumD (n + 1) ds
theorem enumD_len : ∀ (n : Nat) (ds : List D), (enumD n ds).length = ds.length
  | _, [] => rfl
  | n, d :: ds => by simp [enumD, enumD_len (n + 1) ds]
theorem enumD_get : ∀ (n : Nat) (ds : List D) (i : Nat) (d : D), (enumD n ds)[i]? = some d → ∃ a, ds[i]? = some a ∧ d = .tup [.int ((n + i : Nat) : Int), a]
  | _, [], i, d, h => by simp [enumD] at h
  | n, a :: ds, 0, d, h => by simp [enumD] at h; exact ⟨a, rfl, h.symm⟩
  | n, a :: ds, i + 1, d, h => by
    obtain ⟨x, h1, h2⟩ := enumD_get (n + 1) ds i d (by simpa [enumD] using h)
    exact ⟨x, by simpa using h1, by rw [h2, show n + 1 + i = n + (i + 1) by omega]⟩
theorem ite_it {K : Fg} {Hf : Hp} {p : Addr} {vs : List V} {as : List D} (h1 : SqL K Hf p vs) (r1 : RepL K Hf vs as) : DIt K (Ite K p) Hf (enumD 0 as) where
  item := fun i d H' Hf' sub grow hd => by
    obtain ⟨a, g1, rfl⟩ := enumD_get 0 as i d hd
    obtain ⟨v, k1, k2⟩ := r1.get g1
    have s1 : SqL K H' p vs := sqL_same (fun b o h => sub b o (grow b o h)) h1
    refine ⟨⟨vs, v, s1, k1⟩, fun x H'' y => ?_⟩
    obtain ⟨T, x1, rfl, hT, rfl, z1⟩ := y
    have e1 := z1 vs s1
    rw [k1] at e1
    cases e1
    rw [Nat.zero_add]
    obtain ⟨x2, ok⟩ := new_tup sub hT (.cons (.int _) (.cons (k2.mono grow) .nil))
    exact ⟨_, x2, ok⟩
  stop := fun i H' Hf' sub grow hl _ => by
    rw [enumD_len] at hl
    exact ⟨vs, sqL_same (fun b o h => sub b o (grow b o h)) h1, by rw [r1.length]; exact hl⟩
def mEnum (τ : TMA) : TMI := fun ω ρ h P => τ ω ρ h fun ds h1 => ∃ as, ds = [.lst as] ∧ P (enumD 0 as) h1
theorem mi_enum {elts : List Expr} {kk : Nat} {tpos : Pos} (hg : Gl X "enumerate") (hm : X.mg "enumerate" = none) (ha : MA X W [e] τs) (hs : starEach [e] X.env = [(false, eval e X.env)] := by rfl) :
    MI X W (.Tuple elts kk tpos) (.Call (.Name "enumerate" p) [e] [] pos) (mEnum τs) :=
  MI.of (pi_enum hg hm ha.pa hs) fun σ H Hf ρ h R P Q e q k => ⟨R, Hf, ρ, h, _, e, q, fun vs H1 Hf1 ds h1 e1 m1 r1 _ ⟨as, hd, p1⟩ => by
    subst hd
    cases r1 with
    | cons ra rr =>
      cases rr
      cases ra with
      | lst ha ra => exact ⟨_, _, rfl, .inl (.inl (e1.hs.sub _ _ ha)), k _ H1 Hf1 _ h1 e1 m1 (ite_it (.inl (.inl ha)) ra) p1⟩⟩
end
/-! ### loops by what holds ahead of a turn -/
theorem loopM_inv {ω : Wω} {γ : TMG} {τb : TMS} {PD : MEnds} (I : List D → Me → Hd → Prop) : ∀ (ds : List D) (ρ : Me) (h : Hd), I ds ρ h → (∀ d es ρ h (R : Me → Hd → Prop), I (d :: es) ρ h → (∀ ρ' h', I es ρ' h' → R ρ' h') → γ d ρ fun ρ1 => τb ω { PD with nx := R, ct := R, bk := PD.nx } ρ1 h) → (∀ ρ h, I [] ρ h → PD.nx ρ h) → loopM ω γ τb PD ds ρ h
  | [], ρ, h, i, _, q => by rw [loopM_nil]; exact q ρ h i
  | d :: ds, ρ, h, i, t, q => by rw [loopM_cons]; exact t d ds ρ h _ i fun ρ' h' i' => loopM_inv I ds ρ' h' i' t q
theorem lcM_inv {γ : TMG} {τt : TMT} {τe : TM} {ρ : Me} {P : List D → Hd → Prop} (I : List D → Hd → List D → Prop) : ∀ (ds : List D) (h : Hd) (acc : List D), I ds h acc →
    (∀ d es h acc (R : Hd → List D → Prop), I (d :: es) h acc → (∀ h' acc', I es h' acc' → R h' acc') → γ d ρ fun ρ1 => τt ωF ρ1 h fun b h1 => if b = true then τe ωF ρ1 h1 fun r h2 => acc.length < 16000 ∧ R h2 (acc ++ [r.dat]) else R h1 acc) →
    (∀ h acc, I [] h acc → P acc h) → lcM γ τt τe ρ P ds h acc
  | [], h, acc, i, _, q => by rw [lcM_nil]; exact q h acc i
  | d :: ds, h, acc, i, t, q => by rw [lcM_cons]; exact t d ds h acc (fun h' acc' => lcM γ τt τe ρ P ds h' acc') i fun h' acc' i' => lcM_inv I ds h' acc' i' t q
/-- a comprehension without changes: f of those that pass b -/
theorem lcM_pure {α : Type} {φ : α → D} {b : α → Bool} {f : α → D} {γ : TMG} {τt : TMT} {τe : TM} {ρ : Me} {P : List D → Hd → Prop} {h : Hd} : ∀ (l : List α) (acc : List D),
    (∀ a ∈ l, ∀ (R1 : D → Hd → Prop) (R2 : Hd → Prop), (b a = true → R1 (f a) h) → (b a = false → R2 h) → γ (φ a) ρ fun ρ1 => τt ωF ρ1 h fun bb h1 => if bb = true then τe ωF ρ1 h1 fun r h2 => R1 r.dat h2 else R2 h1) →
    acc.length + l.length ≤ 16000 → P (acc ++ (l.filter b).map f) h → lcM γ τt τe ρ P (l.map φ) h acc
  | [], acc, _, _, q => by rw [List.map_nil, lcM_nil]; simpa using q
  | a :: l, acc, t, hl, q => by
    rw [List.map_cons, lcM_cons]
    refine t a (List.mem_cons_self ..) (fun d h2 => acc.length < 16000 ∧ lcM γ τt τe ρ P (l.map φ) h2 (acc ++ [d])) (fun h1 => lcM γ τt τe ρ P (l.map φ) h1 acc) (fun hb => ?_) (fun hb => ?_)
    · refine ⟨by simp at hl; omega, lcM_pure l _ (fun x hx => t x (List.mem_cons_of_mem _ hx)) (by simp at hl ⊢; omega) ?_⟩
      rw [List.filter_cons, if_pos hb] at q
      simpa using q
    · refine lcM_pure l _ (fun x hx => t x (List.mem_cons_of_mem _ hx)) (by simp at hl ⊢; omega) ?_
      rw [List.filter_cons, if_neg (by rw [hb]; decide)] at q
      exact q
/-- .. f of each -/
theorem lcM_map {α : Type} {φ : α → D} {f : α → D} {γ : TMG} {τe : TM} {ρ : Me} {P : List D → Hd → Prop} {h : Hd} (l : List α) (t : ∀ a ∈ l, ∀ (R1 : D → Hd → Prop), R1 (f a) h → γ (φ a) ρ fun ρ1 => τe ωF ρ1 h fun r h2 => R1 r.dat h2)
    (hl : l.length ≤ 16000) (q : P (l.map f) h) : lcM γ mYes τe ρ P (l.map φ) h [] :=
  lcM_pure (b := fun _ => true) l [] (fun a ha R1 R2 h1 _ => by
    have := t a ha R1 (h1 rfl)
    exact this) (by simpa using hl) (by rw [List.filter_eq_self.mpr (fun _ _ => rfl)]; exact q)
theorem lcM_mapD {f : D → D} {γ : TMG} {τe : TM} {ρ : Me} {P : List D → Hd → Prop} {h : Hd} (l : List D) (t : ∀ d ∈ l, ∀ (R1 : D → Hd → Prop), R1 (f d) h → γ d ρ fun ρ1 => τe ωF ρ1 h fun r h2 => R1 r.dat h2)
    (hl : l.length ≤ 16000) (q : P (l.map f) h) : lcM γ mYes τe ρ P l h [] := by
  have := lcM_map (φ := fun d : D => d) (f := f) (γ := γ) (τe := τe) (ρ := ρ) (P := P) (h := h) l t hl q
  rwa [List.map_id''] at this
  intro x; rfl
end ML
/-! The second data layer, 9: where defs and methods stand; what is forgotten at the end of a def. -/
namespace ML
open PySem L2 DL
section
variable {P : Program} {w : World} {K : Fg} {mg : Str → Option Value} {base : Heap} {x m qual : Str} {st : Stmt} {f C : Addr} {fd : FuncData} {N ps : List Str} {k n : Nat}
theorem _root_.DL.At.fnM {g : FM} (A : At K mg x ps st f fd) (h : FnOk P w K mg base (L2.CX P w) k f fd ps (spM K n g)) : FnM P w K mg base x k n g := ⟨f, fd, ps, h, A.mg, A.fn.kp, A.bd⟩
/-- where a method stands -/
structure AtM (K : Fg) (C : Addr) (m qual : Str) (ps : List Str) (st : Stmt) (f : Addr) (fd : FuncData) : Prop where
  fn : Fun K m qual st f fd
  cl : Cls K C
  me : Meth K C m f
  bd : Binds K fd ps []
theorem AtM.mth {g : FM} (A : AtM K C m qual ps st f fd) (h : FnOk P w K mg base (L2.CX P w) k f fd ps (spM K n g)) : MthM P w K mg base C m k n g := ⟨f, fd, ps, h, A.cl, A.me, A.bd⟩
/-- where an __init__ stands -/
structure AtI (K : Fg) (mg : Str → Option Value) (C : Addr) (x qual : Str) (ps : List Str) (st : Stmt) (f : Addr) (fd : FuncData) : Prop where
  fn : Fun K "__init__" qual st f fd
  mkC : Mk K C f
  nm : mg x = some (.ref C)
  bd : Binds K fd ps []
theorem AtI.mkM {g : FM} (A : AtI K mg C x qual ps st f fd) (h : FnOk P w K mg base (L2.CX P w) k f fd ps (spM K n g)) : MkM P w K mg base x C k n g := ⟨f, fd, ps, h, A.mkC, A.nm, A.bd⟩
/-! ### less is told at the end -/
def Le (h' h : Hd) : Prop := ∀ a o, h' a = some o → h a = some o
theorem Le.refl (h : Hd) : Le h h := fun _ _ q => q
theorem le_put {h : Hd} {a : Addr} {o : Ob} (n : h a = none) : Le h (put h a o) := fun b u q => by rw [put_ne (hd_ne q n)]; exact q
theorem Le.trans {a b c : Hd} (x : Le a b) (y : Le b c) : Le a c := fun p o q => y p o (x p o q)
theorem RO.less {K : Fg} {H H' Hf' : Hp} {h' h'' : Hd} {v : V} {r : Res} (l : Le h'' h') (k : RO K H H' Hf' h' v r) : RO K H H' Hf' h'' v r := by
  cases r with
  | fz d => exact k
  | fr xs =>
    obtain ⟨a, ys, e1, e2, e3, e4, e5, e6⟩ := k
    refine ⟨a, ys, e1, e2, e3, ?_, e5, e6⟩
    cases z : h'' a with
    | none => rfl
    | some o => rw [l a o z] at e4; cases e4
theorem spM.less {g g' : FM} (i : ∀ ds h P E, g' ds h P E → g ds h (fun r h1 => ∃ h2, Le h2 h1 ∧ P r h2) (fun x h1 => ∃ h2, Le h2 h1 ∧ E x h2)) {vs : List V} {H : Hp} {Q : VK} {E : XK} (h : spM K n g' vs H Q E) : spM K n g vs H Q E := by
  obtain ⟨Hf, h, ds, P, PE, h1, h2, h3, h4, h5, h6⟩ := h
  refine ⟨Hf, h, ds, _, _, h1, h2, h3, i _ _ _ _ h4, fun v H' Hf' r h' s m ok ⟨h'', l, q⟩ => ?_, fun C d fs H' Hf' h' s m x ⟨h'', l, q⟩ => ?_⟩
  · exact h5 v H' Hf' r h'' (s.less l) (m.less l) (ok.less l) q
  · exact h6 C d fs H' Hf' h'' (s.less l) (m.less l) x q
theorem FnM.less {g g' : FM} (h : FnM P w K mg base x k n g) (i : ∀ ds h P E, g' ds h P E → g ds h (fun r h1 => ∃ h2, Le h2 h1 ∧ P r h2) (fun x h1 => ∃ h2, Le h2 h1 ∧ E x h2)) : FnM P w K mg base x k n g' := let ⟨f, fd, ps, a, b⟩ := h; ⟨f, fd, ps, a.imp fun vs H Q E q => q.less i, b⟩
theorem MthM.less {g g' : FM} (h : MthM P w K mg base C m k n g) (i : ∀ ds h P E, g' ds h P E → g ds h (fun r h1 => ∃ h2, Le h2 h1 ∧ P r h2) (fun x h1 => ∃ h2, Le h2 h1 ∧ E x h2)) : MthM P w K mg base C m k n g' := let ⟨f, fd, ps, a, b⟩ := h; ⟨f, fd, ps, a.imp fun vs H Q E q => q.less i, b⟩
end
/-- a promise shown with more told at the end -/
def lessC (g : FM) : FM := fun ds h P E => ∃ P0 E0, g ds h P0 E0 ∧ (∀ r h1 h2, Le h2 h1 → P0 r h2 → P r h1) ∧ (∀ x h1 h2, Le h2 h1 → E0 x h2 → E x h1)
section
variable {P : Program} {w : World} {K : Fg} {mg : Str → Option Value} {base : Heap} {x m : Str} {C : Addr} {k n : Nat} {g : FM}
theorem lessC_i (ds : List D) (h : Hd) (P : Res → Hd → Prop) (E : Ex → Hd → Prop) (q : g ds h P E) : lessC g ds h (fun r h1 => ∃ h2, Le h2 h1 ∧ P r h2) (fun x h1 => ∃ h2, Le h2 h1 ∧ E x h2) := ⟨P, E, q, fun r h1 h2 l q => ⟨h2, l, q⟩, fun x h1 h2 l q => ⟨h2, l, q⟩⟩
theorem FnM.of_less (h : FnM P w K mg base x k n (lessC g)) : FnM P w K mg base x k n g := h.less lessC_i
theorem MthM.of_less (h : MthM P w K mg base C m k n (lessC g)) : MthM P w K mg base C m k n g := h.less lessC_i
end
theorem put_comm {h : Hd} {a b : Addr} {x y : Ob} (e : a ≠ b) : put (put h a x) b y = put (put h b y) a x := by
  funext c
  unfold put
  by_cases h1 : c = b
  · subst h1
    rw [if_pos rfl, if_neg (fun z => e z.symm), if_pos rfl]
  · rw [if_neg h1, if_neg h1]
/-- nothing is asked of such a method -/
theorem AtM.none {P : Program} {w : World} {K : Fg} {mg : Str → Option Value} {base : Heap} {C : Addr} {m qual : Str} {ps : List Str} {st : Stmt} {f : Addr} {fd : FuncData} {k n : Nat} {g : FM} (A : AtM K C m qual ps st f fd) (h : ∀ ds hd Q E, ¬ g ds hd Q E) : MthM P w K mg base C m k n g :=
  A.mth ⟨fun vs H Q E ⟨_, _, ds, P, PE, _, _, _, hg, _⟩ => absurd hg (h ds _ P PE), fun _ _ _ _ _ _ _ _ _ _ _ _ _ ⟨_, _, ds, P, PE, _, _, _, hg, _⟩ => absurd hg (h ds _ P PE)⟩
theorem _root_.DL.At.noneM {P : Program} {w : World} {K : Fg} {mg : Str → Option Value} {base : Heap} {x : Str} {ps : List Str} {st : Stmt} {f : Addr} {fd : FuncData} {k n : Nat} {g : FM} (A : At K mg x ps st f fd) (h : ∀ ds hd Q E, ¬ g ds hd Q E) : FnM P w K mg base x k n g :=
  A.fnM ⟨fun vs H Q E ⟨_, _, ds, P, PE, _, _, _, hg, _⟩ => absurd hg (h ds _ P PE), fun _ _ _ _ _ _ _ _ _ _ _ _ _ ⟨_, _, ds, P, PE, _, _, _, hg, _⟩ => absurd hg (h ds _ P PE)⟩
end ML
/-! The second data layer, 10: more rules. -/
namespace ML
open PySem L2 DL
section
variable {X : Cx} {W : Wd} {pos p apos : Pos} {a b c e : Expr} {es : List Expr} {τa τb τc : TM} {τs : TMA} {k : Nat}
/-- is, of bools -/
def isBD : D → D → Option Res
  | .bl x, .bl y => some (.fz (.bl (decide (x = y))))
  | _, _ => none
def isntBD : D → D → Option Res
  | .bl x, .bl y => some (.fz (.bl (!decide (x = y))))
  | _, _ => none
theorem opS_isB {K : Fg} : OpS K (fun x y H Q => ∃ a b, x = .bl a ∧ y = .bl b ∧ Q (.bl (decide (a = b))) H) isBD := by
  intro H Hf x y a b c Q hf ra rb hg k
  cases ra <;> first | (simp [isBD] at hg; done) | skip
  cases rb <;> first | (simp [isBD] at hg; done) | skip
  simp only [isBD, Option.some.injEq] at hg
  subst hg
  exact ⟨_, _, rfl, rfl, k _ _ _ (Ext.refl hf) (.bl _)⟩
theorem opS_isntB {K : Fg} : OpS K (fun x y H Q => ∃ a b, x = .bl a ∧ y = .bl b ∧ Q (.bl (!decide (a = b))) H) isntBD := by
  intro H Hf x y a b c Q hf ra rb hg k
  cases ra <;> first | (simp [isntBD] at hg; done) | skip
  cases rb <;> first | (simp [isntBD] at hg; done) | skip
  simp only [isntBD, Option.some.injEq] at hg
  subst hg
  exact ⟨_, _, rfl, rfl, k _ _ _ (Ext.refl hf) (.bl _)⟩
theorem me_isB (ha : ME X W a τa) (hb : ME X W b τb) : ME X W (.Compare a [.Is] [b] pos) (mBin isBD τa τb) := me_cmp op_is_bl opS_isB ha hb (nomark _)
theorem mt_isB (ha : ME X W a τa) (hb : ME X W b τb) : MT X W (.Compare a [.Is] [b] pos) (mT (mBin isBD τa τb)) := mt_cmp op_is_bl opS_isB ha hb (nomark _)
theorem me_isntB (ha : ME X W a τa) (hb : ME X W b τb) : ME X W (.Compare a [.IsNot] [b] pos) (mBin isntBD τa τb) := me_cmp op_isnot_bl opS_isntB ha hb (nomark _)
theorem mt_isntB (ha : ME X W a τa) (hb : ME X W b τb) : MT X W (.Compare a [.IsNot] [b] pos) (mT (mBin isntBD τa τb)) := mt_cmp op_isnot_bl opS_isntB ha hb (nomark _)
end
end ML
/-! The second data layer, 11: a cut between two statements. -/
namespace ML
open PySem L2 DL
theorem seq_cut {τ υ : TMS} {ω : Wω} {PD : MEnds} {ρ : Me} {h : Hd} (I : Me → Hd → Prop) (h1 : ∀ R : Me → Hd → Prop, (∀ ρ' h', I ρ' h' → R ρ' h') → τ ω { PD with nx := R } ρ h) (h2 : ∀ ρ' h', I ρ' h' → υ ω PD ρ' h') : mSeq τ υ ω PD ρ h := h1 _ h2
section
variable {X : Cx} {W : Wd} {x n : Str} {c : Value} {i : Nat} {body suite : List Stmt} {b0 : Stmt} {np pos pos' : Pos} {τb : TMS}
/-- try, the suite's reading told by what is caught -/
theorem ms_try' {τs : Addr → Addr → List (Str × D) → TMS} {Cs Ns : List Addr} (hcs : ∀ C ∈ Cs, PySem.W.exmOne X.K (.ref C) c = some true) (hns : ∀ C ∈ Ns, PySem.W.exmOne X.K (.ref C) c = some false) (hs : X.stack = X.env :: X.outer) (hf : X.env.frame = some X.env.locals) (hN : X.N.Nodup) (hi : X.N[i]? = some n) (hln : X.env.kindOf n = some .local) (hc : Names X x c) (tk : Takes X W.x)
    (hb : ∀ (W' : WX) (pn : List (Addr × Obj)) (xe : Value → Shared → Prop), Takes (X.tr pn xe) W' → PassesOwn (model X.prog X.w) X.A X.env xe → MSs (X.tr pn xe) ⟨W', W.g, W.mono⟩ body τb)
    (hsu : ∀ (a C : Addr) (oe : Obj) (d : Option Addr) (fs : List (Str × D)) (pn : List (Addr × Obj)), Zc (.ref C) d oe → (∃ vs, oe.data = .fields vs) → MSs (X.suite a ((a, oe) :: pn)) (WSu X.K d fs) (b0 :: suite) (τs a C fs)) :
    MS X W (.Try body [.ExceptHandler (some (.Name x np)) (some n) (b0 :: suite) pos'] [] [] pos) (mTry Cs Ns i τb fun a e => τs a e.C e.fs) := ms_try (τs := fun a e => τs a e.C e.fs) hcs hns hs hf hN hi hln hc tk hb hsu
end
end ML
/-! The second data layer, 12: isinstance of a caught error that has fields. -/
namespace ML
open PySem PySem.W PySem.Spec PySem.Calls PyProof.Rows
section
variable {K : Frag} {D x : Addr} {ob : Obj} {od : Option Obj}
theorem find_dd {n : Str} {v g : Value} (c : (clsIn K D).isSome = true) (f : findIn K (.ref D) n = some (some v)) (s : specialIn K v "__get__" = some (some g)) (t : takesIn K v = some true) : findObj K D od n = some (.bind g v) := by
  unfold findObj
  cases e : clsIn K D with
  | none => rw [e] at c; cases c
  | some cd => rw [Option.bind_some, f, Option.bind_some]; simp [s, t]
/-- err.__class__, whatever fields it has -/
theorem cls_of {prog : Program} {w : World} {A : Around} {E : Value → Shared → Prop} {Q : Option Value → Shared → Prop} {s : Shared} (C : L2.ExcC K D) (k : K.In s.heap) (i : PySem.W.InstAt s.heap x ob D od) (q : Q (some (.ref D)) { s with toks := s.toks + 1 }) :
    wpAny (model prog w) A (getAttr? (.ref x) "__class__") Q E s := by
  have c0 : (clsIn K D).isSome = true := by obtain ⟨cd, e, _⟩ := any_some C.hd; rw [e]; rfl
  obtain ⟨hp, g, d, t, os⟩ := s
  have ty := i.type (M := model prog w)
  have ga := looks_findIn (M := model prog w) k C.hg
  have gt := looks_findIn (M := model prog w) k C.hk
  have fd := looks_find (M := model prog w) k i (find_dd c0 C.ha C.hn C.ht)
  have no : (Value.builtin "BaseException.__getattribute__" == Value.builtin "object.__getattribute__") = false := by decide +kernel
  unfold getAttr? getAttrBy? getAttrBy
  refine wpAny_bind (wpAny_mkText ?_)
  refine wpAny_bind (wpAny_attempt ?_)
  refine wpAny_holding (wpAny_bind ?_)
  refine ty.at (wpAny_bind ?_)
  refine ga.at ?_
  dsimp only
  rw [no, Bool.and_false, if_neg Bool.false_ne_true]
  unfold getAttrByItsOwn hookBefore
  refine wpAny_bind ?_
  have on : onTheHeap (Value.ref D) = true := rfl
  rw [if_pos on]
  refine gt.at (wpAny_bind ?_)
  refine wpAny_attempt (wpAny_holding ?_)
  unfold callGetattribute
  rw [Bool.false_and, if_neg Bool.false_ne_true]
  unfold boundAndCalled
  rw [PySem.F.excAttr_ValueError.ga.bind (.ref x)]
  refine wpAny_bind (wpAny_pure (wpAny_call ?_))
  refine codeAny_call_builtin PySem.F.excAttr_ValueError.ga.plain PySem.F.entry_bexc_ga ?_
  refine @check_slot (model prog w) _ _ ⟨hp, g, d, t + 1, os⟩ "BaseException.__getattribute__" "BaseException" "__getattribute__" (.ref x) [.str "__class__" t] [] _ (by decide +kernel) (by decide +kernel) (ty.andThen (looks_subIn k C.hs)) (PySem.F.args_bexc_ga (.ref x) (.str "__class__" t)) ?_
  unfold Builtin.«object.__getattribute__»
  refine wpAny_bind (wpAny_of_eq (a := ((Value.ref x : Value), [Value.str "__class__" t])) rfl ?_)
  refine wpAny_bind (wpAny_pure (wpAny_bind ?_))
  refine ty.at (wpAny_bind (fd.at ?_))
  refine wpAny_bind (wpAny_holding ?_)
  refine wpAny_call (class_get (s := ⟨hp, g, d, t + 1, os⟩) k i C.hm ?_)
  refine wpAny_pure ?_
  dsimp only
  rw [handedOut_of (v := .ref D) rfl]
  first
    | exact wpAny_pure (wpAny_pure q)
    | exact wpAny_pure q
    | exact wpAny_pure (wpAny_bind (wpAny_pure (wpAny_pure q)))
theorem cls_at (C : L2.ExcC K D) : ∃ c d cd sl, K.lookup D = some ⟨c, d, .cls cd, sl⟩ := by
  obtain ⟨cd, e, _⟩ := any_some C.hd
  unfold clsIn at e
  split at e
  · rename_i h; exact ⟨_, _, _, _, h⟩
  · cases e
theorem kit_exc (C : L2.ExcC K D) : KitX K (.ref x) (.ref D) (fun h => PySem.W.InstAt h x ob D od) := by
  obtain ⟨c, d, cd, sl, lk⟩ := cls_at C
  refine ⟨fun _ _ _ i => i.type, fun _ _ k _ => ?_, fun h tp dd its n sl k e => ?_, fun k i q => cls_of C k i q⟩
  · intro A Q E s grow q
    unfold isType loadHead
    refine wpAny_bind ?_
    exact wpAny_loadPart (grow _ _ (k _ _ lk)) (wpAny_pure q)
  · by_cases z : D = tp
    · subst z
      have w := (k _ _ lk).symm.trans e
      cases w
    · exact beq_eq_false_iff_ne.mpr fun w => z (Value.ref.inj w)
end
end ML
namespace ML
open PySem L2 DL
/-- isinstance(err, c) within a suite -/
def rIsx (K : Fg) (D a : Addr) (d : Option Addr) : List V → Hp → VK → Prop := fun xs H Q => ∃ (c : V) (cv : Value) (b : Bool), xs = [.ref a, c] ∧ (d = none ∨ ∃ dd fs, d = some dd ∧ H dd = some (.xd fs)) ∧ (∀ u, RelV c u → u = cv) ∧ PySem.W.kitOne K (.ref D) cv = some b ∧ Q (.bl b) H
theorem call_isx {X : Cx} {a D : Addr} {oe : Obj} {d : Option Addr} {pn : List (Addr × Obj)} (C : ExcC X.K D) (hz : Zc (.ref D) d oe) (hf : ∃ vs, oe.data = .fields vs) : CallR (X.suite a ((a, oe) :: pn)) (.builtin "isinstance") (rIsx X.K D a d) := by
  rintro pins s σ H xs us Q I r ⟨c, cv, b, rfl, hd, hcv, e, q⟩
  cases r with
  | cons ra rr =>
    cases rr with
    | cons rc rr =>
      cases rr
      cases ra
      obtain rfl := hcv _ rc
      obtain ⟨at_, _⟩ := I.pin (a, oe) (List.mem_append_left _ List.mem_cons_self)
      obtain ⟨vs, hv⟩ := hf
      have nc : PySem.W.notCls oe = true := by unfold PySem.W.notCls; rw [hv]
      obtain ⟨od, J⟩ : ∃ od, PySem.W.InstAt s.heap a oe D od := by
        rcases hd with rfl | ⟨dd, fs, rfl, hx⟩
        · exact ⟨none, at_, hz.1, nc, by rw [hz.2]; trivial⟩
        · obtain ⟨mA, ns, _⟩ := (I.hok dd _ hx : ObjOk X.prog X.w H s.heap dd (.xd fs))
          obtain ⟨od, ho, _⟩ := lookIn_ns ns
          exact ⟨some od, at_, hz.1, nc, by rw [hz.2]; exact ho⟩
      exact PySem.W.kia_one (kit_exc C) I.kIn J e (fun z => nomatch z) fun tk => ⟨.bl b, H, I.kept (t' := tk) fun _ _ z => z, rfl, q⟩
theorem call_isx' {X : Cx} {a C C0 : Addr} {oe : Obj} {d : Option Addr} {pn : List (Addr × Obj)} (t : ExcC X.K C0) (hz : Zc (.ref C) d oe) (hf : ∃ vs, oe.data = .fields vs) : CallR (X.suite a ((a, oe) :: pn)) (.builtin "isinstance") (fun xs H Q => C = C0 ∧ rIsx X.K C a d xs H Q) :=
  fun pins s σ H xs us Q I r ⟨e, h⟩ => by subst e; exact call_isx t hz hf pins s σ H xs us Q I r h
/-- what isinstance answers for the class C0 -/
structure IsT (K : Fg) (C0 : Addr) (T : D → Bool → Prop) : Prop where
  ex : ExcC K C0
  an : ∀ d b, T d b → ∃ cv, (∀ H v, Rep K H v d → ∀ u, RelV v u → u = cv) ∧ PySem.W.kitOne K (.ref C0) cv = some b
def mIsx (a C C0 : Addr) (T : D → Bool → Prop) (τs : TMA) : TM := fun ω ρ h P => τs ω ρ h fun ds h1 => ∃ c b, ds = [.raw (.ref a), c] ∧ C = C0 ∧ T c b ∧ P (.fz (.bl b)) h1
theorem me_isx {X : Cx} {a C C0 : Addr} {oe : Obj} {d : Option Addr} {fs : List (Str × D)} {pn : List (Addr × Obj)} {es : List Expr} {e : Expr} {τs : TMA} {T : D → Bool → Prop} {p pos : Pos} (t : IsT X.K C0 T) (hz : Zc (.ref C) d oe) (hv : ∃ vs, oe.data = .fields vs) (hg : Gl (X.suite a ((a, oe) :: pn)) "isinstance") (hm : X.mg "isinstance" = none)
    (ha : MA (X.suite a ((a, oe) :: pn)) (WSu X.K d fs) (e :: es) τs) (he : starEach (e :: es) X.env = (false, eval e X.env) :: starEach es X.env := by rfl) (hpl : (backTo pos (starEach es X.env)).any (·.1) = false := by rfl) :
    ME (X.suite a ((a, oe) :: pn)) (WSu X.K d fs) (.Call (.Name "isinstance" p) (e :: es) [] pos) (mIsx a C C0 T τs) := by
  refine ME.of (pe_callB (call_isx' t.ex hz hv) hg hm rfl ha.pa (by decide) (by decide) he hpl) fun σ H Hf ρ h R P Q e q k => ⟨R, Hf, ρ, h, _, e, q, fun vs H1 Hf1 ds h1 e1 m1 r1 hds ⟨c, b, hd, hC, hT, p1⟩ => ?_⟩
  subst hd hC
  obtain ⟨cv, u1, u2⟩ := t.an c b hT
  cases r1 with
  | cons ra rr =>
    cases rr with
    | cons rc rr =>
      cases rr
      cases ra
      refine ⟨rfl, _, cv, b, rfl, ?_, fun u hu => u1 _ _ rc u hu, u2, k (.bl b) H1 Hf1 (.fz (.bl b)) h1 e1 m1 (Rep.bl b) p1⟩
      rcases e1.gh with z | ⟨dd, gs, z1, z2, z3⟩
      · exact .inl z.1
      · exact .inr ⟨dd, gs, z1, e1.hs.sub _ _ z2⟩
theorem loop_step {ω : Wω} {γ : TMG} {τb : TMS} {PD : MEnds} {d : D} {ds : List D} {ρ : Me} {h : Hd} (q : γ d ρ fun ρ1 => τb ω { PD with nx := loopM ω γ τb PD ds, ct := loopM ω γ τb PD ds, bk := PD.nx } ρ1 h) : loopM ω γ τb PD (d :: ds) ρ h := by
  rw [loopM_cons]
  exact q
theorem loop_end {ω : Wω} {γ : TMG} {τb : TMS} {PD : MEnds} {ρ : Me} {h : Hd} (q : PD.nx ρ h) : loopM ω γ τb PD [] ρ h := by
  rw [loopM_nil]
  exact q
/-! ### == where one side is not deep -/
def rEqE (K : Fg) : R2 := fun x y H Q => ∃ d e, Dp K H x d ∧ Dp K H y e ∧ d.canLay0 = true ∧ e.canLay0 = true ∧ min d.depth e.depth ≤ 64 ∧ Q (.bl (PyData.eqv d e)) H
theorem op_eqE {X : Cx} (hu : X.A.units + 64 < cLine) : OpR X (compareOp .Eq) (rEqE X.K) := by
  rintro pins s σ H x y v u Q I rx ry ⟨d, e, hd, he, l1, l2, hm, q⟩
  obtain ⟨as, r1⟩ := Dp.reads I d x v hd rx
  obtain ⟨bs, r2⟩ := Dp.reads I e y u he ry
  exact PySem.SeqAt.compareEq_reads r1 r2 l1 l2 (by omega) ⟨.bl _, H, I, rfl, q⟩
def layE (a : D) : Bool := a.okP && a.py.canLay0
def eqE (a b : D) : Option Res := if (layE a && (layE b && decide (min a.py.depth b.py.depth ≤ 64))) = true then some (.fz (.bl (eqvD a b))) else none
theorem opS_eqE {K : Fg} : OpS K (rEqE K) eqE := by
  intro H Hf x y a b c Q hf ra rb hg k
  unfold eqE at hg
  split at hg
  · rename_i hz
    cases hg
    obtain ⟨h1, hz⟩ := Bool.and_eq_true_iff.mp hz
    obtain ⟨h2, h3⟩ := Bool.and_eq_true_iff.mp hz
    obtain ⟨o1, c1⟩ := Bool.and_eq_true_iff.mp h1
    obtain ⟨o2, c2⟩ := Bool.and_eq_true_iff.mp h2
    exact ⟨_, _, (ra.mono hf).dp o1, (rb.mono hf).dp o2, c1, c2, of_decide_eq_true h3, k _ _ _ (Ext.refl hf) (.bl _)⟩
  · cases hg
theorem mt_eqVE {X : Cx} {W : Wd} {a b : Expr} {τa τb : TM} {k : Nat} {pos : Pos} (hr : Room k X.A) (ha : ME X W a τa) (hb : ME X W b τb) : MT X W (.Compare a [.Eq] [b] pos) (mT (mBinV eqE τa τb)) := mt_cmpV (op_eqE hr.units) opS_eqE ha hb (nomark _)
end ML
/-! sorted(d) of a dict whose keys are ints, any number; y = {k: v for ..} -/
namespace L2
open PySem PySem.Spec PyProof.Rows
section
variable {X : Cx}
theorem ints_atJ : ∀ {us : List Value} {ks : List Int}, us.length = ks.length → (∀ (j : Nat) (v : Value), us[j]? = some v → ∃ (x : Int) (t : Tok), ks[j]? = some x ∧ v = Value.int x t) → IntsAre us ks
  | [], [], _, _ => .nil
  | u :: us, k :: ks, hl, h => by
    obtain ⟨x, t, e1, e2⟩ := h 0 u rfl
    have e1' : k = x := Option.some.inj e1
    subst e1'
    subst e2
    refine .cons _ _ (ints_atJ (by simpa using hl) fun j v e => ?_)
    obtain ⟨x, t, a, b⟩ := h (j + 1) v (by simpa using e)
    exact ⟨x, t, by simpa using a, b⟩
  | [], _ :: _, hl, _ => by simp at hl
  | _ :: _, [], hl, _ => by simp at hl
/-- sorted(d) of a dict with keys that are ints -/
theorem call_sortedDJ (hcalm : X.calm = true) : CallR X (.builtin "sorted") (fun xs H Q => ∃ (a : Addr) (kvs : List (Key × V)) (ks : List Int), xs = [.ref a] ∧ Rd H a (.dK kvs) ∧ kvs.map (·.1) = ks.map Sum.inl ∧
    ∀ (ys : List Int) (p : Addr), ys.Perm ks → ys.Pairwise (· ≤ ·) → H p = none → Q (.ref p) (upd H p (.lst (ys.map V.int)))) := by
  intro pins s σ H xs us Q I r q
  obtain ⟨a, kvs, ks, ex, hd, hks, q⟩ := q
  subst ex
  obtain ⟨u, eu, rx⟩ := vals1 r
  subst eu
  cases rx
  obtain ⟨z, lo, vs, rel, dd⟩ := dk_rd I.hok hd
  obtain ⟨ep, hat⟩ := dd.dictAt
  have hkeys : vs.map (·.1) = ks.map Sum.inl := rel.keys.symm.trans hks
  have hl : vs.length = ks.length := by
    have e := congrArg List.length hkeys
    rw [List.length_map, List.length_map] at e
    exact e
  have h16 : vs.length ≤ sizeLine := by rw [← rel.length]; exact z
  refine Calls.call_function_entry PyProof.Rows.kind_sorted PyProof.Rows.plain_sorted PyProof.Rows.entry_sorted (PyProof.Rows.args_sorted1 _) ?_
  unfold Builtin.«sorted»
  refine wpAny_bind (m := checkCount "sorted" 1 1 _) (wpAny_pure ?_)
  refine wpAny_bind (PySem.W.kdu_collect (A := X.A.in1) (PySem.W.kdl_dict (knd := mixKind X.prog X.w) (kvs := vs) (ep := ep) lo) (I.ok.hd hcalm) hat h16 fun h' tk acc hk hacc => ?_)
  have hal : acc.toList.length = ks.length := by rw [Array.length_toList, hacc.1, hl]
  have hS : IntsAre acc.toList ks := ints_atJ hal fun j v e => by
    obtain ⟨k, x, e1, e2⟩ := hacc.2 j v (by rw [← Array.getElem?_toList]; exact e)
    have e3 : (vs.map (·.1))[j]? = some k := by rw [List.getElem?_map, e1]; all_goals rfl
    rw [hkeys, List.getElem?_map] at e3
    cases e4 : ks[j]? with
    | none => rw [e4] at e3; cases e3
    | some y =>
      rw [e4] at e3
      have e5 : Sum.inl y = k := Option.some.inj e3
      subst e5
      rcases keyIs_shape (show keyIs (Sum.inl y) v = true from e2) with ⟨i, t, ek, ev⟩ | ⟨z, t, ek, ev⟩
      · cases ek
        exact ⟨y, t, rfl, ev⟩
      · cases ek
  have I1 : Inv X pins σ H { s with heap := h', toks := tk } := I.kept hk
  have hz2 : acc.toList.length ≤ sizeLine := by rw [hal, ← hl]; exact h16
  refine wpAny_bind (wpAny_newList ?_ hz2)
  have hoL : (h'.push (seqObj "list" acc.toList.toArray 0)).get? h'.objs.size = some (seqObj "list" acc.toList.toArray 0) := Heap.get?_push_size _ rfl
  show wpAny _ _ _ _ _ { s with heap := h'.push (seqObj "list" acc.toList.toArray 0), toks := tk }
  refine wpAny_bind (wpAny_holding (wpAny_call_entry PyProof.Rows.slot_list_sort ⟨_, hoL, rfl⟩ PyProof.Rows.entry_list_sort
    (SrtO.list_sort_ord (s := { s with heap := h'.push (seqObj "list" acc.toList.toArray 0), toks := tk }) SrtO.swo_int hoL hz2 (fun h2 => SrtO.ints_sortable hS h2) fun out h1 h2 => ⟨_, rfl, ?_⟩)
    (PyProof.Rows.args_list_sort _)))
  obtain ⟨k1, k2, k3⟩ := SrtO.ints_out hS h1 h2
  obtain ⟨e', he'⟩ := PyProof.Rows.sortedHeap_at (vs := acc.toList) (out := out.toArray) hoL
  have hlen : ((out.map SrtO.iv).map V.int).length ≤ sizeLine := by
    rw [List.length_map, k2.length_eq, ← hl]
    exact h16
  refine wpAny_pure ⟨_, rfl, .ref h'.objs.size, upd H h'.objs.size (.lst ((out.map SrtO.iv).map V.int)), I1.laid (t' := tk) (fun b u e => ?_) (Nat.le_refl _)
    (show ObjOk X.prog X.w _ _ _ (.lst ((out.map SrtO.iv).map V.int)) from ⟨hlen, out, e', vals_of_ints k1, he'⟩), rfl, q _ _ k2 k3 (I1.hok.fresh (Nat.le_refl _))⟩
  have hb : b < h'.objs.size := Heap.lt_size e
  rw [PyProof.Rows.sortedHeap_old (Nat.ne_of_lt hb) (by rw [size_push']; exact Nat.lt_succ_of_lt hb)]
  exact Heap.get?_push_of_some _ e
/-- y = {k: v for ..} -/
theorem ps_setDc {i : Nat} {y : Str} {py : Pos} {kx vx tg iter : Expr} {ifs : List Expr} {scope : Scope} {own : List (Str × Nat)} {pos spos : Pos} {wi : TI} {g : TG} {tt : TT} {tk tv : TE} (hc : X.calm = true) (hN : X.N.Nodup) (hy : X.N[i]? = some y) (hyl : X.env.scope.names.lookup y = some .local)
    (hsw : swapsWith (.DictComp kx vx [⟨tg, iter, ifs, 0⟩] scope pos) (some (.Name y py)) spos.line X.env = pure true) (hi : PI X tg iter wi) (ok : BlkOk X.N X.env.scope scope own)
    (hg : ∀ (s : Shared) (H : Hp) (C : Addr) (cl : List (Str × Addr)) (fp : List Addr), PG (X.blk s H scope (compEnvC scope cl C X.env) fp) tg g) (ht : ∀ (s : Shared) (H : Hp) (C : Addr) (cl : List (Str × Addr)) (fp : List Addr), PTs (X.blk s H scope (compEnvC scope cl C X.env) fp) ifs tt)
    (hk : ∀ (s : Shared) (H : Hp) (C : Addr) (cl : List (Str × Addr)) (fp : List Addr), PE (X.blk s H scope (compEnvC scope cl C X.env) fp) kx tk)
    (he : ∀ (s : Shared) (H : Hp) (C : Addr) (cl : List (Str × Addr)) (fp : List Addr), PE (X.blk s H scope (compEnvC scope cl C X.env) fp) vx tv) (hs : ∀ x, foldedSetIterable iter X.env x = pure x := by intro _; rfl) :
    PS X (.Assign [.Name y py] (.DictComp kx vx [⟨tg, iter, ifs, 0⟩] scope pos) spos) (tAsg (tDc wi g tt tk tv (own.map (·.2))) (gName i)) := by
  refine ⟨fun pins s σ H D I h => ?_⟩
  rw [exec_Assign_Name_used _ _ _ _ hsw]
  refine wpAny_bind (wpAny_standAt (wpAny_bind ?_))
  show wpAny _ X.A (do let _ ← comprehension (.DictComp kx vx [⟨tg, iter, ifs, 0⟩] scope pos) scope X.env (firstIterPos [⟨tg, iter, ifs, 0⟩] pos) newDict false (eval iter X.env) (some (assign (.Name y py) X.env))) _ _ s
  have h : tDc wi g tt tk tv (own.map (·.2)) σ H (fun x H1 => gName i x σ H1 D.nx) := h
  refine wpAny_bind (thn (dc_core (Qf := fun _ s' => SP X pins D .next s') hc hN I hi ok hg ht hk he hs h fun L C s' m H' I' q hn f => ?_) fun _ s' hq => wpAny_pure (wpAny_pure hq))
  show wpAny _ _ (assign (.Name y py) X.env (.ref L)) _ _ _
  refine wpAny_assign_Name (store_ok2 (v := V.ref L) I' hN hy (.inl hyl) rfl (fun s2 I2 ⟨a, sb, ha⟩ => ?_) (.inr hyl))
  obtain ⟨f0, f1, f2, f3, f4, f5⟩ := f
  have haC : C ≠ a := by
    rcases ha with z | z
    · rw [z]; exact f1
    · exact fun e => f4 y a z e.symm
  refine ⟨m, hn.sameBut sb haC, fun h3 sb3 => ?_⟩
  exact ⟨_, H', I2.turned (t' := s2.toks) (fun b o hb e => (sb3.2 b hb).trans e) f0 f1 f3 f4 f5, q⟩
theorem sw_dict {kx vx : Expr} {gs : List Comprehension} {scope : Scope} {pos py : Pos} {y : Str} {l : Nat} {env : Env} (hk : env.scope.kind = .function) (hy : env.scope.names.lookup y = some .local) (hl : (py.line == pos.line) = true)
    (ha : (scope.names.any fun (n, k) => n == y && (k == .local || k == .cell)) = false) : swapsWith (.DictComp kx vx gs scope pos) (some (.Name y py)) l env = pure true := by
  have ky : env.kindOf y = some .local := hy
  have hb : env.blockKind = .function := by unfold Env.blockKind; rw [hk]; rfl
  unfold swapsWith
  simp only [hb, ky, ha, Expr.pos, hl]
  rfl
end
end L2
/-! The second data layer, 13: dicts whose keys are ints and texts. -/
namespace ML
open PySem L2 DL
def keyD : D → Option Key
  | .int i => some (.inl i)
  | .str x => some (.inr x)
  | _ => none
theorem keyD_rep {K : Fg} {Hf : Hp} {v : V} {d : D} {k : Key} (h : keyD d = some k) (r : Rep K Hf v d) : v = kV k := by
  cases r <;> simp [keyD] at h <;> subst h <;> rfl
section
variable {κ : Type} [DecidableEq κ]
def valD (kvs : List (κ × D)) (k : κ) : Option D := match kvs with
  | [] => none
  | p :: r => if p.1 = k then some p.2 else valD r k
def putKD (kvs : List (κ × D)) (k : κ) (d : D) : List (κ × D) := if (kvs.any fun p => decide (p.1 = k)) = true then kvs.map fun p => if p.1 = k then (p.1, d) else p else kvs ++ [(k, d)]
theorem valD_any (kvs : List (κ × D)) (k : κ) : (kvs.any fun p => decide (p.1 = k)) = (valD kvs k).isSome := by
  induction kvs with
  | nil => rfl
  | cons p r ih =>
    by_cases h : p.1 = k
    · simp [valD, h]
    · simp [valD, h, ← ih]
theorem valD_none {kvs : List (κ × D)} {k : κ} (h : valD kvs k = none) : ∀ p ∈ kvs, ¬ p.1 = k := by
  intro p hp e
  have := valD_any kvs k
  rw [h] at this
  have h2 : (kvs.any fun p => decide (p.1 = k)) = true := List.any_eq_true.mpr ⟨p, hp, decide_eq_true e⟩
  rw [h2] at this
  cases this
theorem putKD_new {kvs : List (κ × D)} {k : κ} (d : D) (h : valD kvs k = none) : putKD kvs k d = kvs ++ [(k, d)] := by
  unfold putKD
  rw [valD_any, h]
  rfl
theorem valD_append (kvs ls : List (κ × D)) (k : κ) : valD (kvs ++ ls) k = match valD kvs k with | some d => some d | none => valD ls k := by
  induction kvs with
  | nil => rfl
  | cons p r ih =>
    by_cases h : p.1 = k
    · simp [valD, h]
    · simp [valD, h, ih]
theorem valD_map (kvs : List (κ × D)) (k j : κ) (d : D) : valD (kvs.map fun p => if p.1 = k then (p.1, d) else p) j = (valD kvs j).map fun x => if j = k then d else x := by
  induction kvs with
  | nil => rfl
  | cons p r ih =>
    rw [List.map_cons]
    by_cases e : p.1 = k
    · rw [if_pos e]
      by_cases h : p.1 = j
      · simp [valD, h, ← e]
      · simp [valD, h, ih]
    · rw [if_neg e]
      by_cases h : p.1 = j
      · have : ¬ j = k := fun z => e (h.trans z)
        simp [valD, h, this]
      · simp [valD, h, ih]
theorem valD_put (kvs : List (κ × D)) (k j : κ) (d : D) : valD (putKD kvs k d) j = if j = k then some d else valD kvs j := by
  unfold putKD
  rw [valD_any]
  cases h : valD kvs k with
  | none =>
    rw [Option.isSome_none, if_neg (by decide), valD_append]
    by_cases e : j = k
    · subst e; rw [h]; simp [valD]
    · rw [if_neg e]
      cases valD kvs j with
      | none => simp [valD, Ne.symm e]
      | some x => rfl
  | some x =>
    rw [Option.isSome_some, if_pos rfl, valD_map]
    by_cases e : j = k
    · subst e; rw [h]; simp
    · rw [if_neg e]
      cases valD kvs j with
      | none => rfl
      | some x => simp [e]
theorem putKD_len (kvs : List (κ × D)) (k : κ) (d : D) : (putKD kvs k d).length ≤ kvs.length + 1 := by
  unfold putKD
  split
  · rw [List.length_map]; omega
  · simp
end
theorem RepK.one {K : Fg} {Hf : Hp} {p : Key × V} {r : List (Key × V)} {q : Key × D} {s : List (Key × D)} : RepK K Hf (p :: r) (q :: s) ↔ p.1 = q.1 ∧ Rep K Hf p.2 q.2 ∧ RepK K Hf r s := by
  constructor
  · rintro ⟨h1, h2⟩
    rw [List.map_cons, List.map_cons] at h1 h2
    injection h1 with h1 h3
    cases h2 with
    | cons a b => exact ⟨h1, a, h3, b⟩
  · rintro ⟨h1, h2, h3, h4⟩
    exact ⟨by rw [List.map_cons, List.map_cons, h1, h3], by rw [List.map_cons, List.map_cons]; exact .cons h2 h4⟩
theorem RepK.val {K : Fg} {Hf : Hp} (k : Key) : ∀ {kws : List (Key × V)} {kvs : List (Key × D)}, RepK K Hf kws kvs → (∀ d, valD kvs k = some d → ∃ v, valV kws k = some v ∧ Rep K Hf v d) ∧ (valD kvs k = none → valV kws k = none)
  | [], [], _ => ⟨fun d h => (nomatch h), fun _ => rfl⟩
  | [], q :: s, ⟨h, _⟩ => by simp at h
  | p :: r, [], ⟨h, _⟩ => by simp at h
  | p :: r, q :: s, h => by
    obtain ⟨h1, h2, h3⟩ := RepK.one.mp h
    by_cases e : q.1 = k
    · rw [valV_pos (h1.trans e), valD, if_pos e]
      exact ⟨fun d h => by cases h; exact ⟨p.2, rfl, h2⟩, fun h => by cases h⟩
    · rw [valV_neg (fun z => e (h1.symm.trans z)), valD, if_neg e]
      exact RepK.val k h3
theorem RepK.any {K : Fg} {Hf : Hp} (k : Key) {kws : List (Key × V)} {kvs : List (Key × D)} (h : RepK K Hf kws kvs) : (kws.any fun p => decide (p.1 = k)) = kvs.any fun p => decide (p.1 = k) := by
  have e : ∀ {α : Type} (l : List (Key × α)), (l.any fun p => decide (p.1 = k)) = (l.map (·.1)).any fun x => decide (x = k) := fun l => by rw [List.any_map]; rfl
  rw [e, e, h.1]
theorem RepK.repl {K : Fg} {Hf : Hp} {k : Key} {v : V} {d : D} (r0 : Rep K Hf v d) : ∀ {kws : List (Key × V)} {kvs : List (Key × D)}, RepK K Hf kws kvs → RepK K Hf (kws.map fun kv => if kv.1 = k then (kv.1, v) else kv) (kvs.map fun p => if p.1 = k then (p.1, d) else p)
  | [], [], h => h
  | [], q :: s, ⟨h, _⟩ => by simp at h
  | p :: r, [], ⟨h, _⟩ => by simp at h
  | p :: r, q :: s, h => by
    obtain ⟨h1, h2, h3⟩ := RepK.one.mp h
    rw [List.map_cons, List.map_cons]
    refine RepK.one.mpr ?_
    by_cases e : q.1 = k
    · rw [if_pos e, if_pos (h1.trans e)]
      exact ⟨h1, r0, RepK.repl r0 h3⟩
    · rw [if_neg e, if_neg (fun z => e (h1.symm.trans z))]
      exact ⟨h1, h2, RepK.repl r0 h3⟩
theorem RepK.put {K : Fg} {Hf : Hp} {k : Key} {v : V} {d : D} (r0 : Rep K Hf v d) {kws : List (Key × V)} {kvs : List (Key × D)} (h : RepK K Hf kws kvs) : RepK K Hf (putK kws k v) (putKD kvs k d) := by
  unfold putK putKD
  rw [h.any k]
  split
  · exact h.repl r0
  · exact ⟨by rw [List.map_append, List.map_append, h.1]; rfl, by rw [List.map_append, List.map_append]; exact h.2.append (.cons r0 .nil)⟩
theorem RepK.length {K : Fg} {Hf : Hp} {kws : List (Key × V)} {kvs : List (Key × D)} (h : RepK K Hf kws kvs) : kws.length = kvs.length := by
  have := congrArg List.length h.1
  rw [List.length_map, List.length_map] at this
  exact this
/-! ### rules -/
section
variable {X : Cx} {W : Wd} {pos pos' apos p : Pos} {a b o e f : Expr} {es : List Expr} {τa τb τo τe τk τx : TM} {τs : TMA} {k : Nat}
/-- {} -/
def mDNew : TM := fun ω ρ h P => ∀ a, h a = none → P (.fz (.raw (.ref a))) (put h a (.dic []))
theorem me_dnew : ME X W (.Dict [] [] pos) mDNew := ME.of pe_dnewK fun σ H Hf ρ h R P Q e q k p hp => by
  have s1 := e.hs.upd (a := p) (o := .dic []) (u := .dK []) (.inr hp) fun H' hq => ⟨[], hq, rfl, .nil⟩
  have m1 := Mo.upd (h := h) (H := H) (Hf := Hf) (a := p) (o := .dic []) (u := .dK []) (.inr hp)
  exact k _ _ Hf (.fz (.raw (.ref p))) _ (e.step s1 m1) m1 (Rep.raw _) (q p (e.hs.free hp))
theorem DGet_of {K : Fg} {H Hf : Hp} {h : Hd} (s : Hs K H Hf h) {a : Addr} {kvs : List (Key × D)} {k : Key} (e : h a = some (.dic kvs)) : (∀ d, valD kvs k = some d → ∃ v, DGet H a (kV k) (some v) ∧ Rep K Hf v d) ∧ (valD kvs k = none → DGet H a (kV k) none) := by
  obtain ⟨_, kws, z1, z2⟩ := s.hp a _ e
  obtain ⟨g1, g2⟩ := z2.val k
  refine ⟨fun d hd => ?_, fun hn => ?_⟩
  · obtain ⟨v, w1, w2⟩ := g1 d hd
    exact ⟨v, by rw [← w1]; exact .k z1, w2⟩
  · rw [← g2 hn]; exact .k z1
/-- d[k] -/
def mDGet (τo τk : TM) : TM := fun ω ρ h P => τo ω ρ h fun x h1 => τk ω ρ h1 fun y h2 => ∃ a kvs k d, x.dat = .raw (.ref a) ∧ h2 a = some (.dic kvs) ∧ keyD y.dat = some k ∧ valD kvs k = some d ∧ P (.fz d) h2
theorem me_dget (hr : Room k X.A) (ho : ME X W o τo) (hk : ME X W e τk) (hs : NoSl e) : ME X W (.Subscript o e pos) (mDGet τo τk) := by
  obtain ⟨t, po, so⟩ := ho.fz
  obtain ⟨t2, pk, sk⟩ := hk.fz
  have hu := hr.units
  refine ME.of (pe_dget (by omega) po pk hs) fun σ H Hf ρ h R P Q e q k => ?_
  refine so σ H Hf ρ h R (fun x h1 => τk R.ω ρ h1 fun y h2 => ∃ a kvs k d, x = .raw (.ref a) ∧ h2 a = some (.dic kvs) ∧ keyD y.dat = some k ∧ valD kvs k = some d ∧ P (.fz d) h2) _ e q fun x H1 Hf1 dx h1 e1 m1 r1 q1 => ?_
  refine sk σ H1 Hf1 ρ h1 R (fun y h2 => ∃ a kvs k d, dx = .raw (.ref a) ∧ h2 a = some (.dic kvs) ∧ keyD y = some k ∧ valD kvs k = some d ∧ P (.fz d) h2) _ e1 q1 fun y H2 Hf2 dy h2 e2 m2 r2 ⟨a, kvs, kk, d, g1, g2, g3, g4, g5⟩ => ?_
  subst g1
  cases r1
  obtain ⟨v, w1, w2⟩ := (DGet_of e2.hs g2).1 d g4
  rw [keyD_rep g3 r2]
  exact ⟨a, v, rfl, w1, k v H2 Hf2 (.fz d) h2 e2 (m1.trans m2) w2 g5⟩
/-- k in d, k not in d -/
def mDIn (neg : Bool) (τk τo : TM) : TM := fun ω ρ h P => τk ω ρ h fun y h1 => τo ω ρ h1 fun x h2 => ∃ a kvs k, x.dat = .raw (.ref a) ∧ h2 a = some (.dic kvs) ∧ keyD y.dat = some k ∧ P (.fz (.bl (neg != (valD kvs k).isSome))) h2
theorem din_run {K : Fg} {tk to : TE} (sk : SndF K W tk τk) (so : SndF K W to τo) : SndE K W (tDIn tk to) (mDIn false τk τo) ∧ SndE K W (tDNotIn tk to) (mDIn true τk τo) := by
  have key : ∀ neg : Bool, ∀ (σ : St) (H Hf : Hp) (ρ : Me) (h : Hd) (R : Rg) (P : Res → Hd → Prop) (Q : VK), RE K W R H Hf σ ρ h → mDIn neg τk τo R.ω ρ h P →
      (∀ v H' Hf' r h', RE K W R H' Hf' σ ρ h' → Mo h h' H H' Hf Hf' → RO K H H' Hf' h' v r → P r h' → Q v H') → tk σ H fun y H1 => to σ H1 fun x H2 => ∃ a o, x = .ref a ∧ DGet H2 a y o ∧ Q (.bl (neg != o.isSome)) H2 := by
    intro neg σ H Hf ρ h R P Q e q k
    refine sk σ H Hf ρ h R (fun y h1 => τo R.ω ρ h1 fun x h2 => ∃ a kvs k, x.dat = .raw (.ref a) ∧ h2 a = some (.dic kvs) ∧ keyD y = some k ∧ P (.fz (.bl (neg != (valD kvs k).isSome))) h2) _ e q fun y H1 Hf1 dy h1 e1 m1 r1 q1 => ?_
    refine so σ H1 Hf1 ρ h1 R (fun x h2 => ∃ a kvs k, x = .raw (.ref a) ∧ h2 a = some (.dic kvs) ∧ keyD dy = some k ∧ P (.fz (.bl (neg != (valD kvs k).isSome))) h2) _ e1 q1 fun x H2 Hf2 dx h2 e2 m2 r2 ⟨a, kvs, kk, g1, g2, g3, g5⟩ => ?_
    subst g1
    cases r2
    rw [keyD_rep g3 r1]
    have fin : ∀ b, b = (neg != (valD kvs kk).isSome) → Q (.bl b) H2 := fun b hb => by
      rw [← hb] at g5
      exact k _ H2 Hf2 (.fz (.bl b)) h2 e2 (m1.trans m2) (.bl _) g5
    cases hv : valD kvs kk with
    | none => exact ⟨a, none, rfl, (DGet_of e2.hs g2).2 hv, fin (neg != (none : Option V).isSome) (by rw [hv]; rfl)⟩
    | some d =>
      obtain ⟨v, w1, _⟩ := (DGet_of e2.hs g2).1 d hv
      exact ⟨a, some v, rfl, w1, fin (neg != (some v).isSome) (by rw [hv]; rfl)⟩
  refine ⟨fun σ H Hf ρ h R P Q e q k => ?_, fun σ H Hf ρ h R P Q e q k => ?_⟩
  · have z := key false σ H Hf ρ h R P Q e q k
    simp only [show ∀ b : Bool, (false != b) = b by decide] at z
    exact z
  · have z := key true σ H Hf ρ h R P Q e q k
    simp only [show ∀ b : Bool, (true != b) = !b by decide] at z
    exact z
theorem me_din (hr : Room k X.A) (hk : ME X W a τk) (ho : ME X W b τo) (hm : behindInMarks .In b = false := by rfl) : ME X W (.Compare a [.In] [b] pos) (mDIn false τk τo) := by
  obtain ⟨t, po, so⟩ := ho.fz
  obtain ⟨t2, pk, sk⟩ := hk.fz
  have hu := hr.units
  exact ME.of (pe_cmp (pc_din (by omega) pk po) hm) (din_run sk so).1
theorem me_dnotin (hr : Room k X.A) (hk : ME X W a τk) (ho : ME X W b τo) (hm : behindInMarks .NotIn b = false := by rfl) : ME X W (.Compare a [.NotIn] [b] pos) (mDIn true τk τo) := by
  obtain ⟨t, po, so⟩ := ho.fz
  obtain ⟨t2, pk, sk⟩ := hk.fz
  have hu := hr.units
  exact ME.of (pe_cmp (pc_dnotin (by omega) pk po) hm) (din_run sk so).2
theorem pcT {t : TE} {τ : TM} (s : SndE X.K W t τ) : SndT X.K W (L2.tB t) (mT τ) := fun σ H Hf ρ h R P Q e q k => s.fz σ H Hf ρ h R (fun d h' => ∃ b, d = .bl b ∧ P b h') _ e q fun v H' Hf' d h' e1 m1 r1 ⟨b, hb, p1⟩ => by
  subst hb
  exact ⟨b, r1.bl_inv, k b H' Hf' h' e1 m1 p1⟩
theorem mt_din (hr : Room k X.A) (hk : ME X W a τk) (ho : ME X W b τo) (hm : behindInMarks .In b = false := by rfl) : MT X W (.Compare a [.In] [b] pos) (mT (mDIn false τk τo)) := by
  obtain ⟨t, po, so⟩ := ho.fz
  obtain ⟨t2, pk, sk⟩ := hk.fz
  have hu := hr.units
  exact MT.of (pt_cmp (pc_din (by omega) pk po) hm) (pcT (din_run sk so).1)
theorem mt_dnotin (hr : Room k X.A) (hk : ME X W a τk) (ho : ME X W b τo) (hm : behindInMarks .NotIn b = false := by rfl) : MT X W (.Compare a [.NotIn] [b] pos) (mT (mDIn true τk τo)) := by
  obtain ⟨t, po, so⟩ := ho.fz
  obtain ⟨t2, pk, sk⟩ := hk.fz
  have hu := hr.units
  exact MT.of (pt_cmp (pc_dnotin (by omega) pk po) hm) (pcT (din_run sk so).2)
/-- d[k] = v -/
def mDPut (τe τo τk : TM) : TMS := fun ω PD ρ h => τe ω ρ h fun r h1 => τo ω ρ h1 fun x h2 => τk ω ρ h2 fun y h3 => ∃ a kvs k, x.dat = .raw (.ref a) ∧ h3 a = some (.dic kvs) ∧ keyD y.dat = some k ∧ kvs.length < 16000 ∧ PD.nx ρ (put h3 a (.dic (putKD kvs k r.dat)))
theorem ms_dput {p2 : Pos} (hr : Room k X.A) (he : ME X W e τe) (ho : ME X W o τo) (hk : ME X W f τk) (hs : swapsWith e (some (.Subscript o f p2)) pos.line X.env = pure false := by rfl) : MS X W (.Assign [.Subscript o f p2] e pos) (mDPut τe τo τk) := by
  obtain ⟨t, pe, se⟩ := he.fz
  obtain ⟨t2, po, so⟩ := ho.fz
  obtain ⟨t3, pk, sk⟩ := hk.fz
  have hu := hr.units
  refine MS.of (ps_dput (by omega) po pk pe hs) fun D σ H Hf R ρ h PD s q l => ?_
  refine se σ H Hf ρ h R (fun r h1 => τo R.ω ρ h1 fun x h2 => τk R.ω ρ h2 fun y h3 => ∃ a kvs k, x.dat = .raw (.ref a) ∧ h3 a = some (.dic kvs) ∧ keyD y.dat = some k ∧ kvs.length < 16000 ∧ PD.nx ρ (put h3 a (.dic (putKD kvs k r)))) _ s q fun v H1 Hf1 d h1 e1 m1 r1 q1 => ?_
  refine so σ H1 Hf1 ρ h1 R (fun x h2 => τk R.ω ρ h2 fun y h3 => ∃ a kvs k, x = .raw (.ref a) ∧ h3 a = some (.dic kvs) ∧ keyD y.dat = some k ∧ kvs.length < 16000 ∧ PD.nx ρ (put h3 a (.dic (putKD kvs k d)))) _ e1 q1 fun x H2 Hf2 dx h2 e2 m2 r2 q2 => ?_
  refine sk σ H2 Hf2 ρ h2 R (fun y h3 => ∃ a kvs k, dx = .raw (.ref a) ∧ h3 a = some (.dic kvs) ∧ keyD y = some k ∧ kvs.length < 16000 ∧ PD.nx ρ (put h3 a (.dic (putKD kvs k d)))) _ e2 q2 fun y H3 Hf3 dy h3 e3 m3 r3 ⟨a, kvs, kk, g1, g2, g3, g4, g5⟩ => ?_
  subst g1
  cases r2
  obtain ⟨z0, kws, z1, z2⟩ := e3.hs.hp a _ g2
  rw [keyD_rep g3 r3]
  have hl : kws.length < sizeLine := by rw [z2.length]; exact Nat.lt_of_lt_of_le g4 (by decide)
  refine ⟨a, _, rfl, DPut.k z1 hl, ?_⟩
  have s4 := e3.hs.upd (a := a) (o := .dic (putKD kvs kk d)) (u := .dK (putK kws kk v)) (.inl ⟨_, g2⟩) fun H' hq => ⟨_, hq, z2.put ((r1.mono m2.grow).mono m3.grow)⟩
  exact l.nx σ _ Hf3 ρ _ (e3.step s4 (Mo.upd (.inl ⟨_, g2⟩))) g5
/-- d.setdefault(k, v) -/
def mDSetd (τo τk τx : TM) : TM := fun ω ρ h P => τo ω ρ h fun x h1 => ∃ a kvs0, x.dat = .raw (.ref a) ∧ h1 a = some (.dic kvs0) ∧ τk ω ρ h1 fun y h2 => τx ω ρ h2 fun z h3 => ∃ kvs k, h3 a = some (.dic kvs) ∧ keyD y.dat = some k ∧ kvs.length < 16000 ∧
  (∀ d, valD kvs k = some d → P (.fz d) h3) ∧ (valD kvs k = none → P (.fz z.dat) (put h3 a (.dic (putKD kvs k z.dat))))
theorem me_dsetd {cpos : Pos} (ho : ME X W o τo) (hk : ME X W e τk) (hx : ME X W f τx) (m : M2 X o "setdefault" apos e f cpos := by exact ⟨rfl, rfl, rfl, rfl⟩) : ME X W (.Call (.Attribute o "setdefault" apos) [e, f] [] cpos) (mDSetd τo τk τx) := by
  obtain ⟨t, po, so⟩ := ho.fz
  obtain ⟨t2, pk, sk⟩ := hk.fz
  obtain ⟨t3, px, sx⟩ := hx.fz
  refine ME.of (pe_dsetd po pk px m) fun σ H Hf ρ h R P Q e q k => ?_
  refine so σ H Hf ρ h R (fun x h1 => ∃ a kvs0, x = .raw (.ref a) ∧ h1 a = some (.dic kvs0) ∧ τk R.ω ρ h1 fun y h2 => τx R.ω ρ h2 fun z h3 => ∃ kvs k, h3 a = some (.dic kvs) ∧ keyD y.dat = some k ∧ kvs.length < 16000 ∧ (∀ d, valD kvs k = some d → P (.fz d) h3) ∧ (valD kvs k = none → P (.fz z.dat) (put h3 a (.dic (putKD kvs k z.dat))))) _ e q fun x H1 Hf1 dx h1 e1 m1 r1 ⟨a, kvs0, g1, g2, q1⟩ => ?_
  subst g1
  cases r1
  obtain ⟨_, kws0, y1, _⟩ := e1.hs.hp a _ g2
  refine ⟨a, rfl, .inl ⟨_, .inl y1⟩, ?_⟩
  refine sk σ H1 Hf1 ρ h1 R (fun y h2 => τx R.ω ρ h2 fun z h3 => ∃ kvs k, h3 a = some (.dic kvs) ∧ keyD y = some k ∧ kvs.length < 16000 ∧ (∀ d, valD kvs k = some d → P (.fz d) h3) ∧ (valD kvs k = none → P (.fz z.dat) (put h3 a (.dic (putKD kvs k z.dat))))) _ e1 q1 fun y H2 Hf2 dy h2 e2 m2 r2 q2 => ?_
  refine sx σ H2 Hf2 ρ h2 R (fun z h3 => ∃ kvs k, h3 a = some (.dic kvs) ∧ keyD dy = some k ∧ kvs.length < 16000 ∧ (∀ d, valD kvs k = some d → P (.fz d) h3) ∧ (valD kvs k = none → P (.fz z) (put h3 a (.dic (putKD kvs k z))))) _ e2 q2 fun z H3 Hf3 dz h3 e3 m3 r3 ⟨kvs, kk, w1, w2, w3, w4, w5⟩ => ?_
  obtain ⟨z0, kws, z1, z2⟩ := e3.hs.hp a _ w1
  have m := (m1.trans m2).trans m3
  rw [keyD_rep w2 r2]
  refine ⟨kws, kk, z1, rfl, by rw [z2.length]; exact Nat.lt_of_lt_of_le w3 (by decide), fun v hv => ?_, fun hn => ?_⟩
  · cases hd : valD kvs kk with
    | none => rw [(z2.val kk).2 hd] at hv; cases hv
    | some d =>
      obtain ⟨v', u1, u2⟩ := (z2.val kk).1 d hd
      rw [hv] at u1
      cases u1
      exact k v H3 Hf3 (.fz d) h3 e3 m u2 (w4 d hd)
  · cases hd : valD kvs kk with
    | some d =>
      obtain ⟨v', u1, u2⟩ := (z2.val kk).1 d hd
      rw [hn] at u1; cases u1
    | none =>
      have s4 := e3.hs.upd (a := a) (o := .dic (putKD kvs kk dz)) (u := .dK (putK kws kk z)) (.inl ⟨_, w1⟩) fun H' hq => ⟨_, hq, z2.put r3⟩
      have m4 := Mo.upd (h := h3) (H := H3) (Hf := Hf3) (a := a) (o := .dic (putKD kvs kk dz)) (u := .dK (putK kws kk z)) (.inl ⟨_, w1⟩)
      exact k z _ Hf3 (.fz dz) _ (e3.step s4 m4) (m.trans m4) r3 (w5 hd)
end
end ML
/-! The second data layer, 14: a dict's keys in a row; dict comprehensions; comprehensions with two clauses. -/
namespace ML
open PySem L2 DL
def keyB : Key → D
  | .inl i => .int i
  | .inr x => .str x
theorem keyB_rep {K : Fg} {Hf : Hp} (k : Key) : Rep K Hf (kV k) (keyB k) := by
  cases k with
  | inl i => exact .int i
  | inr x => exact .str x
theorem keyBs_rep {K : Fg} {Hf : Hp} : ∀ {kws : List (Key × V)} {kvs : List (Key × D)}, kws.map (·.1) = kvs.map (·.1) → RepL K Hf (kws.map fun kv => kV kv.1) (kvs.map fun kv => keyB kv.1)
  | [], [], _ => .nil
  | [], _ :: _, h => by simp at h
  | _ :: _, [], h => by simp at h
  | p :: r, q :: s, h => by
    rw [List.map_cons, List.map_cons] at h ⊢
    injection h with h1 h2
    rw [h1]
    exact .cons (keyB_rep _) (keyBs_rep h2)
theorem repl_ints {K : Fg} {Hf : Hp} : ∀ ys : List Int, RepL K Hf (ys.map V.int) (ys.map D.int)
  | [] => .nil
  | y :: ys => .cons (.int y) (repl_ints ys)
section
variable {X : Cx} {W : Wd} {pos p : Pos} {e : Expr} {τs : TMA}
/-- list(d) -/
def mDList (τ : TMA) : TM := fun ω ρ h P => τ ω ρ h fun ds h1 => ∃ a kvs, ds = [.raw (.ref a)] ∧ h1 a = some (.dic kvs) ∧ P (.fr (kvs.map fun kv => keyB kv.1)) h1
/-- sorted(d), keys ints -/
def mDSort (τ : TMA) : TM := fun ω ρ h P => τ ω ρ h fun ds h1 => ∃ a kvs ks, ds = [.raw (.ref a)] ∧ h1 a = some (.dic kvs) ∧ kvs.map (·.1) = ks.map Sum.inl ∧ ∀ ys : List Int, ys.Perm ks → ys.Pairwise (· ≤ ·) → P (.fr (ys.map D.int)) h1
theorem new_fr {K : Fg} {R : Rg} {H Hf : Hp} {σ : St} {ρ : Me} {h : Hd} {q : Addr} {us : List V} {xs : List D} (e : RE K W R H Hf σ ρ h) (hq : H q = none) (r : RepL K Hf us xs) : RE K W R (upd H q (.lst us)) Hf σ ρ h ∧ Mo h h H (upd H q (.lst us)) Hf Hf ∧ RO K H (upd H q (.lst us)) Hf h (.ref q) (.fr xs) := by
  have x := Ext.add' e.hs.sub (.lst us) hq
  exact ⟨e.ext x, Mo.ext x, q, us, rfl, upd_same, e.hs.freeF hq, e.hs.free hq, hq, r⟩
theorem me_dlist (hc : X.calm = true) (hg : Gl X "list") (hm : X.mg "list" = none) (ha : MA X W [e] τs) (he : starEach [e] X.env = (false, eval e X.env) :: starEach [] X.env := by rfl) (hpl : (backTo pos (starEach [] X.env)).any (·.1) = false := by rfl) : ME X W (.Call (.Name "list" p) [e] [] pos) (mDList τs) := by
  refine ME.of (pe_callTy (call_listD hc) hg hm (by decide +kernel) ha.pa (he := he) (hpl := hpl)) fun σ H Hf ρ h R P Q e q k => ⟨R, Hf, ρ, h, _, e, q, fun vs H1 Hf1 ds h1 e1 m1 r1 _ ⟨a, kvs, g1, g2, g3⟩ => ?_⟩
  subst g1
  cases r1 with
  | cons ra rr =>
    cases ra
    cases rr
    obtain ⟨_, kws, z1, z2⟩ := e1.hs.hp a _ g2
    refine ⟨a, kws, rfl, .inl z1, fun q hq => ?_⟩
    obtain ⟨e2, m2, r2⟩ := new_fr e1 hq (keyBs_rep (K := X.K) (Hf := Hf1) z2.1)
    exact k _ _ Hf1 _ h1 e2 (m1.trans m2) (r2.back m1.live) g3
theorem me_dsort (hc : X.calm = true) (hg : Gl X "sorted") (hm : X.mg "sorted" = none) (ha : MA X W [e] τs) (he : starEach [e] X.env = (false, eval e X.env) :: starEach [] X.env := by rfl) (hpl : (backTo pos (starEach [] X.env)).any (·.1) = false := by rfl) : ME X W (.Call (.Name "sorted" p) [e] [] pos) (mDSort τs) := by
  refine ME.of (pe_callB (call_sortedDJ hc) hg hm (by decide +kernel) ha.pa (he := he) (hpl := hpl)) fun σ H Hf ρ h R P Q e q k => ⟨R, Hf, ρ, h, _, e, q, fun vs H1 Hf1 ds h1 e1 m1 r1 _ ⟨a, kvs, ks, g1, g2, g3, g4⟩ => ?_⟩
  subst g1
  cases r1 with
  | cons ra rr =>
    cases ra
    cases rr
    obtain ⟨_, kws, z1, z2⟩ := e1.hs.hp a _ g2
    refine ⟨a, kws, ks, rfl, .inl z1, z2.1.trans g3, fun ys q hp hs hq => ?_⟩
    obtain ⟨e2, m2, r2⟩ := new_fr e1 hq (repl_ints (K := X.K) (Hf := Hf1) ys)
    exact k _ _ Hf1 _ h1 e2 (m1.trans m2) (r2.back m1.live) (g4 ys hp hs)
end
/-! ### {k: v for x in xs if c} -/
def dcM (a : Addr) (γ : TMG) (τt : TMT) (τk τv : TM) (ρ : Me) (P : Hd → Prop) : List D → Hd → Prop
  | [], h => P h
  | d :: ds, h => γ d ρ fun ρ1 => τt ωF ρ1 h fun b h1 => if b = true then τk ωF ρ1 h1 fun y h2 => τv ωF ρ1 h2 fun z h3 => ∃ kvs k, h3 a = some (.dic kvs) ∧ keyD y.dat = some k ∧ kvs.length < 16000 ∧ dcM a γ τt τk τv ρ P ds (put h3 a (.dic (putKD kvs k z.dat))) else dcM a γ τt τk τv ρ P ds h1
theorem dcM_inv {a : Addr} {γ : TMG} {τt : TMT} {τk τv : TM} {ρ : Me} {P : Hd → Prop} (I : List D → Hd → Prop) : ∀ (ds : List D) (h : Hd), I ds h →
    (∀ d es h (R : Hd → Prop), I (d :: es) h → (∀ h', I es h' → R h') → γ d ρ fun ρ1 => τt ωF ρ1 h fun b h1 => if b = true then τk ωF ρ1 h1 fun y h2 => τv ωF ρ1 h2 fun z h3 => ∃ kvs k, h3 a = some (.dic kvs) ∧ keyD y.dat = some k ∧ kvs.length < 16000 ∧ R (put h3 a (.dic (putKD kvs k z.dat))) else R h1) →
    (∀ h, I [] h → P h) → dcM a γ τt τk τv ρ P ds h
  | [], h, i, _, q => q h i
  | d :: ds, h, i, t, q => t d ds h (fun h' => dcM a γ τt τk τv ρ P ds h') i fun h' i' => dcM_inv I ds h' i' t q
def mDc (τi : TMI) (γ : TMG) (τt : TMT) (τk τv : TM) (vs : List Nat) : TM := fun ω ρ h P => τi ω ρ h fun ds h1 => ∀ a, h1 a = none → dcM a γ τt τk τv (wipeM ρ vs) (fun h2 => P (.fz (.raw (.ref a))) h2) ds (put h1 a (.dic []))
section
variable {X : Cx} {W : Wd} {pos : Pos}
theorem dc_readingM {K : Fg} {vs is : List Nat} {τi : TMI} {γ : TMG} {τt : TMT} {τk τv : TM} (hv : ∀ i ∈ is, i ∈ vs) : SndE K W (tDc (canMI K W τi) (canMG K is γ) (canMT K WF τt) (canM K WF τk) (canM K WF τv) vs) (mDc τi γ τt τk τv vs) := fun σ H Hf ρ h R P Q e q k => by
  refine ⟨R, Hf, ρ, h, _, e, q, fun J H1 Hf1 ds h1 e1 m1 it p1 n hn => ?_⟩
  let R' : Rg := ⟨H1, Hf1, h1, ωF⟩
  have okF : ∀ cls d σ H, wishM K R' cls d σ H → WF.x cls d σ H := fun cls d σ H ⟨_, _, _, _, _, _, _, _, _, _, z⟩ => z
  have s0 := e1.hs.upd (a := n) (o := .dic []) (u := .dK []) (.inr hn) fun H' hq => ⟨[], hq, rfl, .nil⟩
  have m0 := Mo.upd (h := h1) (H := H1) (Hf := Hf1) (a := n) (o := .dic []) (u := .dK []) (.inr hn)
  refine ⟨fun i m H' => ∃ Hf' h', Hs K H' Hf' h' ∧ Mo h1 h' H1 H' Hf1 Hf' ∧ dcM n γ τt τk τv (wipeM ρ vs) (fun h2 => P (.fz (.raw (.ref n))) h2) (ds.drop i) h' ∧ m = ds.length - i ∧ i ≤ ds.length,
    ⟨ds.length, Hf1, _, s0, m0, by rw [List.drop_zero]; exact p1 n (e1.hs.free hn), by omega, Nat.zero_le _⟩, ?_⟩
  rintro i m H2 ⟨Hf2, h2, s2, m2, q2, hm, hil⟩
  by_cases hlt : i < ds.length
  · have hd : ds[i]? = some ds[i] := List.getElem?_eq_getElem hlt
    obtain ⟨go, yl⟩ := it.item i ds[i] H2 Hf2 s2.sub m2.grow hd
    rw [List.drop_eq_getElem_cons hlt] at q2
    refine .inr ⟨go, fun H' => ∃ Hf' h', Hs K H' Hf' h' ∧ Mo h1 h' H1 H' Hf1 Hf' ∧ dcM n γ τt τk τv (wipeM ρ vs) (fun h2 => P (.fz (.raw (.ref n))) h2) (ds.drop (i + 1)) h', fun H' ⟨a1, a2, b1, b2, b3⟩ => ⟨ds.length - (i + 1), by omega, a1, a2, b1, b2, b3, rfl, hlt⟩, fun x H3 y => ?_⟩
    obtain ⟨Hf3, x3, r3⟩ := yl x H3 y
    refine ⟨Hf3, wipeM ρ vs, ds[i], _, x3.sub, ((e1.sl.mono m2.grow).mono x3.grow).wipe vs, r3, q2, fun σ4 H4 Hf4 ρ4 e4 x4 t4 p4 => ?_⟩
    refine ⟨wipe_eq (by rw [t4.len, wipe_length]) fun j hj => ((t4.sl j fun z => hj (hv j z)).1).trans (wipe_out σ hj), ?_⟩
    have x34 := x3.trans x4
    have s4 := s2.ext x34
    have m4 : Mo h1 h2 H1 H4 Hf1 Hf4 := m2.trans (Mo.ext x34)
    refine ⟨R', Hf4, ρ4, h2, _, ⟨okF, trivial, e4, s4, m4⟩, p4, fun b H5 Hf5 h5 e5 m5 p5 => ?_⟩
    cases b with
    | false => exact ⟨Hf5, h5, e5.hs, m4.trans m5, p5⟩
    | true =>
      refine ⟨R', Hf5, ρ4, h5, _, e5, p5, fun y H6 Hf6 r h6 e6 m6 r6 p6 => ?_⟩
      obtain ⟨Hf7, s7, m7, r7⟩ := r6.freeze e6.hs m6
      have e7 : RE K WF R' H6 Hf7 σ4 ρ4 h6 := e5.step s7 m7
      refine ⟨R', Hf7, ρ4, h6, _, e7, p6, fun z H8 Hf8 r8 h8 e8 m8 o8 ⟨kvs, kk, g1, g2, g3, g4⟩ => ?_⟩
      obtain ⟨Hf9, s9, m9, r9⟩ := o8.freeze e8.hs m8
      obtain ⟨_, kws, z1, z2⟩ := s9.hp n _ g1
      have hl : kws.length < sizeLine := by rw [z2.length]; exact Nat.lt_of_lt_of_le g3 (by decide)
      have s10 := s9.upd (a := n) (o := .dic (putKD kvs kk r8.dat)) (u := .dK (putK kws kk z)) (.inl ⟨_, g1⟩) fun H' hq => ⟨_, hq, z2.put r9⟩
      have m10 := Mo.upd (h := h8) (H := H8) (Hf := Hf9) (a := n) (o := .dic (putKD kvs kk r8.dat)) (u := .dK (putK kws kk z)) (.inl ⟨_, g1⟩)
      exact ⟨kws, kk, keyD_rep g2 r7, z1, hl, Hf9, _, s10, (((m4.trans m5).trans m7).trans m9).trans m10, g4⟩
  · have ei : i = ds.length := by omega
    subst ei
    rw [List.drop_length] at q2
    exact .inl ⟨it.stop _ H2 Hf2 s2.sub m2.grow (Nat.le_refl _) (Nat.le_refl _), k _ H2 Hf2 (.fz (.raw (.ref n))) h2 (e1.step s2 m2) (m1.trans m2) (Rep.raw _) q2⟩
theorem me_dc {kx vx tg iter : Expr} {ifs : List Expr} {scope : Scope} {own : List (Str × Nat)} {is : List Nat} {τi : TMI} {γ : TMG} {τt : TMT} {τk τv : TM} (hc : X.calm = true) (hN : X.N.Nodup) (hi : MI X W tg iter τi) (ok : BlkOk X.N X.env.scope scope own)
    (hg : ∀ (s : Shared) (H : Hp) (C : Addr) (cl : List (Str × Addr)) (fp : List Addr), MG (X.blk s H scope (compEnvC scope cl C X.env) fp) tg is γ) (ht : ∀ (s : Shared) (H : Hp) (C : Addr) (cl : List (Str × Addr)) (fp : List Addr), MTs (X.blk s H scope (compEnvC scope cl C X.env) fp) WF ifs τt)
    (hk : ∀ (s : Shared) (H : Hp) (C : Addr) (cl : List (Str × Addr)) (fp : List Addr), ME (X.blk s H scope (compEnvC scope cl C X.env) fp) WF kx τk)
    (he : ∀ (s : Shared) (H : Hp) (C : Addr) (cl : List (Str × Addr)) (fp : List Addr), ME (X.blk s H scope (compEnvC scope cl C X.env) fp) WF vx τv) (hv : ∀ i ∈ is, i ∈ own.map (·.2) := by decide) (hs : ∀ x, foldedSetIterable iter X.env x = pure x := by intro _; rfl) :
    ME X W (.DictComp kx vx [⟨tg, iter, ifs, 0⟩] scope pos) (mDc τi γ τt τk τv (own.map (·.2))) :=
  ME.of (pe_dc hc hN hi.pi ok (fun s H C cl fp => (hg s H C cl fp).pg) (fun s H C cl fp => (ht s H C cl fp).pts) (fun s H C cl fp => (hk s H C cl fp).pe) (fun s H C cl fp => (he s H C cl fp).pe) hs) (dc_readingM hv)
/-- y = {k: v for x in xs if c} -/
theorem ms_setDc {i : Nat} {y : Str} {py : Pos} {kx vx tg iter : Expr} {ifs : List Expr} {scope : Scope} {own : List (Str × Nat)} {is : List Nat} {spos : Pos} {τi : TMI} {γ : TMG} {τt : TMT} {τk τv : TM} (hc : X.calm = true) (hN : X.N.Nodup) (hy : X.N[i]? = some y) (hyl : X.env.scope.names.lookup y = some .local)
    (hsw : swapsWith (.DictComp kx vx [⟨tg, iter, ifs, 0⟩] scope pos) (some (.Name y py)) spos.line X.env = pure true) (hi : MI X W tg iter τi) (ok : BlkOk X.N X.env.scope scope own)
    (hg : ∀ (s : Shared) (H : Hp) (C : Addr) (cl : List (Str × Addr)) (fp : List Addr), MG (X.blk s H scope (compEnvC scope cl C X.env) fp) tg is γ) (ht : ∀ (s : Shared) (H : Hp) (C : Addr) (cl : List (Str × Addr)) (fp : List Addr), MTs (X.blk s H scope (compEnvC scope cl C X.env) fp) WF ifs τt)
    (hk : ∀ (s : Shared) (H : Hp) (C : Addr) (cl : List (Str × Addr)) (fp : List Addr), ME (X.blk s H scope (compEnvC scope cl C X.env) fp) WF kx τk)
    (he : ∀ (s : Shared) (H : Hp) (C : Addr) (cl : List (Str × Addr)) (fp : List Addr), ME (X.blk s H scope (compEnvC scope cl C X.env) fp) WF vx τv) (hv : ∀ i ∈ is, i ∈ own.map (·.2) := by decide) (hs : ∀ x, foldedSetIterable iter X.env x = pure x := by intro _; rfl) :
    MS X W (.Assign [.Name y py] (.DictComp kx vx [⟨tg, iter, ifs, 0⟩] scope pos) spos) (mSet i (mDc τi γ τt τk τv (own.map (·.2)))) :=
  MS.of (ps_setDc hc hN hy hyl hsw hi.pi ok (fun s H C cl fp => (hg s H C cl fp).pg) (fun s H C cl fp => (ht s H C cl fp).pts) (fun s H C cl fp => (hk s H C cl fp).pe) (fun s H C cl fp => (he s H C cl fp).pe) hs) fun D σ H Hf R ρ h PD s q l =>
    (dc_readingM hv).fz σ H Hf ρ h R (fun d h1 => PD.nx (ρ.set i (some d)) h1) _ s q fun v H1 Hf1 d h1 e1 m1 r1 p1 => l.nx _ H1 Hf1 _ h1 (e1.set i r1) p1
end
end ML
/-! The second data layer, 15: list comprehensions with two clauses. -/
namespace ML
open PySem L2 DL
def lc2M (γ : TMG) (τt : TMT) (τi1 : TMI) (γ1 : TMG) (τt1 : TMT) (τe : TM) (vs1 : List Nat) (ρ : Me) (P : List D → Hd → Prop) : List D → Hd → List D → Prop
  | [], h, acc => P acc h
  | d :: ds, h, acc => γ d ρ fun ρ1 => τt ωF ρ1 h fun b h1 => if b = true then τi1 ωF ρ1 h1 fun es h2 => lcM γ1 τt1 τe (wipeM ρ1 vs1) (fun acc' h3 => lc2M γ τt τi1 γ1 τt1 τe vs1 ρ P ds h3 acc') es h2 acc else lc2M γ τt τi1 γ1 τt1 τe vs1 ρ P ds h1 acc
def mLc2 (τi : TMI) (γ : TMG) (τt : TMT) (τi1 : TMI) (γ1 : TMG) (τt1 : TMT) (τe : TM) (vs vs1 : List Nat) : TM := fun ω ρ h P => τi ω ρ h fun ds h1 => lc2M γ τt τi1 γ1 τt1 τe vs1 (wipeM ρ vs) (fun acc h2 => P (.fr acc) h2) ds h1 []
section
variable {X : Cx} {W : Wd} {pos : Pos}
theorem lc2_readingM {K : Fg} {vs vs1 is is1 : List Nat} {τi τi1 : TMI} {γ γ1 : TMG} {τt τt1 : TMT} {τe : TM} (hv : ∀ i ∈ is, i ∈ vs) (hv1 : ∀ i ∈ is1, i ∈ vs1) :
    SndE K W (tLc2 (canMI K W τi) (canMG K is γ) (canMT K WF τt) (canMI K WF τi1) (canMG K is1 γ1) (canMT K WF τt1) (canM K WF τe) vs vs1) (mLc2 τi γ τt τi1 γ1 τt1 τe vs vs1) := fun σ H Hf ρ h R P Q e q k => by
  refine ⟨R, Hf, ρ, h, _, e, q, fun J H1 Hf1 ds h1 e1 m1 it p1 n hn => ?_⟩
  have x0 := Ext.add' e1.hs.sub (.lst []) hn
  let R' : Rg := ⟨H1, Hf1, h1, ωF⟩
  have okF : ∀ cls d σ H, wishM K R' cls d σ H → WF.x cls d σ H := fun cls d σ H ⟨_, _, _, _, _, _, _, _, _, _, z⟩ => z
  refine ⟨fun i m H' => ∃ Hf' h' accV acc, Hs K H' Hf' h' ∧ Mo h1 h' H1 H' Hf1 Hf' ∧ H' n = some (.lst accV) ∧ Hf' n = none ∧ h' n = none ∧ RepL K Hf' accV acc ∧ lc2M γ τt τi1 γ1 τt1 τe vs1 (wipeM ρ vs) (fun acc h2 => P (.fr acc) h2) (ds.drop i) h' acc ∧ m = ds.length - i ∧ i ≤ ds.length,
    ⟨ds.length, Hf1, h1, [], [], e1.hs.ext x0, Mo.ext x0, upd_same, e1.hs.freeF hn, e1.hs.free hn, .nil, by rw [List.drop_zero]; exact p1, by omega, Nat.zero_le _⟩, ?_⟩
  rintro i m H2 ⟨Hf2, h2, accV, acc, s2, m2, hD, fD, oD, rD, q2, hm, hil⟩
  by_cases hlt : i < ds.length
  · have hd : ds[i]? = some ds[i] := List.getElem?_eq_getElem hlt
    obtain ⟨go, yl⟩ := it.item i ds[i] H2 Hf2 s2.sub m2.grow hd
    rw [List.drop_eq_getElem_cons hlt] at q2
    refine .inr ⟨go, fun H' => ∃ Hf' h' accV acc, Hs K H' Hf' h' ∧ Mo h1 h' H1 H' Hf1 Hf' ∧ H' n = some (.lst accV) ∧ Hf' n = none ∧ h' n = none ∧ RepL K Hf' accV acc ∧ lc2M γ τt τi1 γ1 τt1 τe vs1 (wipeM ρ vs) (fun acc h2 => P (.fr acc) h2) (ds.drop (i + 1)) h' acc, fun H' ⟨a1, a2, a3, a4, b1, b2, b3, b4, b5, b6, b7⟩ => ⟨ds.length - (i + 1), by omega, a1, a2, a3, a4, b1, b2, b3, b4, b5, b6, b7, rfl, hlt⟩, fun x H3 y => ?_⟩
    obtain ⟨Hf3, x3, r3⟩ := yl x H3 y
    refine ⟨Hf3, wipeM ρ vs, ds[i], _, x3.sub, ((e1.sl.mono m2.grow).mono x3.grow).wipe vs, r3, q2, fun σ4 H4 Hf4 ρ4 e4 x4 t4 p4 => ?_⟩
    refine ⟨wipe_eq (by rw [t4.len, wipe_length]) fun j hj => ((t4.sl j fun z => hj (hv j z)).1).trans (wipe_out σ hj), ?_⟩
    have x34 := x3.trans x4
    have s4 := s2.ext x34
    have m4 : Mo h1 h2 H1 H4 Hf1 Hf4 := m2.trans (Mo.ext x34)
    obtain ⟨d4, f4, o4⟩ := (Mo.ext (h := h2) x34).apart hD fD oD
    have rD4 : RepL K Hf4 accV acc := rD.mono fun b o z => x34.grow b o z
    refine ⟨R', Hf4, ρ4, h2, _, ⟨okF, trivial, e4, s4, m4⟩, p4, fun b H5 Hf5 h5 e5 m5 p5 => ?_⟩
    obtain ⟨d5, f5, o5⟩ := m5.apart d4 f4 o4
    have rD5 : RepL K Hf5 accV acc := rD4.mono m5.grow
    have m15 := m4.trans m5
    cases b with
    | false => exact ⟨Hf5, h5, accV, acc, e5.hs, m15, d5, f5, o5, rD5, p5⟩
    | true =>
      refine ⟨R', Hf5, ρ4, h5, _, e5, p5, fun J1 H6 Hf6 es h6 e6 m6 it1 p6 => ?_⟩
      obtain ⟨d6, f6, o6⟩ := m6.apart d5 f5 o5
      have rD6 : RepL K Hf6 accV acc := rD5.mono m6.grow
      have m16 := m15.trans m6
      refine ⟨fun j kk H' => ∃ Hf' h' accV acc, Hs K H' Hf' h' ∧ Mo h1 h' H1 H' Hf1 Hf' ∧ (∀ b o, Hf6 b = some o → Hf' b = some o) ∧ H' n = some (.lst accV) ∧ Hf' n = none ∧ h' n = none ∧ RepL K Hf' accV acc ∧ lcM γ1 τt1 τe (wipeM ρ4 vs1) (fun acc' h3 => lc2M γ τt τi1 γ1 τt1 τe vs1 (wipeM ρ vs) (fun acc h2 => P (.fr acc) h2) (ds.drop (i + 1)) h3 acc') (es.drop j) h' acc ∧ kk = es.length - j ∧ j ≤ es.length,
        ⟨es.length, Hf6, h6, accV, acc, e6.hs, m16, fun _ _ z => z, d6, f6, o6, rD6, by rw [List.drop_zero]; exact p6, by omega, Nat.zero_le _⟩, ?_⟩
      rintro j kk H7 ⟨Hf7, h7, accV, acc, s7, m7, g7, d7, f7, o7, rD7, q7, hk, hjl⟩
      by_cases hlt1 : j < es.length
      · have hd1 : es[j]? = some es[j] := List.getElem?_eq_getElem hlt1
        obtain ⟨go1, yl1⟩ := it1.item j es[j] H7 Hf7 s7.sub g7 hd1
        rw [List.drop_eq_getElem_cons hlt1, lcM_cons] at q7
        refine .inr ⟨go1, fun H' => ∃ Hf' h' accV acc, Hs K H' Hf' h' ∧ Mo h1 h' H1 H' Hf1 Hf' ∧ (∀ b o, Hf6 b = some o → Hf' b = some o) ∧ H' n = some (.lst accV) ∧ Hf' n = none ∧ h' n = none ∧ RepL K Hf' accV acc ∧ lcM γ1 τt1 τe (wipeM ρ4 vs1) (fun acc' h3 => lc2M γ τt τi1 γ1 τt1 τe vs1 (wipeM ρ vs) (fun acc h2 => P (.fr acc) h2) (ds.drop (i + 1)) h3 acc') (es.drop (j + 1)) h' acc, fun H' ⟨a1, a2, a3, a4, b1, b2, b3, b4, b5, b6, b7, b8⟩ => ⟨es.length - (j + 1), by omega, a1, a2, a3, a4, b1, b2, b3, b4, b5, b6, b7, b8, rfl, hlt1⟩, fun x H8 y => ?_⟩
        obtain ⟨Hf8, x8, r8⟩ := yl1 x H8 y
        refine ⟨Hf8, wipeM ρ4 vs1, es[j], _, x8.sub, ((e6.sl.mono g7).mono x8.grow).wipe vs1, r8, q7, fun σ9 H9 Hf9 ρ9 e9 x9 t9 p9 => ?_⟩
        refine ⟨wipe_eq (by rw [t9.len, wipe_length]) fun j hj => ((t9.sl j fun z => hj (hv1 j z)).1).trans (wipe_out σ4 hj), ?_⟩
        have x89 := x8.trans x9
        have s9 := s7.ext x89
        have m9 : Mo h1 h7 H1 H9 Hf1 Hf9 := m7.trans (Mo.ext x89)
        obtain ⟨d9, f9, o9⟩ := (Mo.ext (h := h7) x89).apart d7 f7 o7
        have g9 : ∀ b o, Hf6 b = some o → Hf9 b = some o := fun b o z => x89.grow b o (g7 b o z)
        refine ⟨R', Hf9, ρ9, h7, _, ⟨okF, trivial, e9, s9, m9⟩, p9, fun b H10 Hf10 h10 e10 m10 p10 => ?_⟩
        obtain ⟨d10, f10, o10⟩ := m10.apart d9 f9 o9
        have rD10 : RepL K Hf10 accV acc := rD7.mono fun b o z => m10.grow b o (x89.grow b o z)
        cases b with
        | false => exact ⟨Hf10, h10, accV, acc, e10.hs, m9.trans m10, fun b o z => m10.grow b o (g9 b o z), d10, f10, o10, rD10, p10⟩
        | true =>
          refine ⟨R', Hf10, ρ9, h10, _, e10, p10, fun y H11 Hf11 r h11 e11 m11 r11 ⟨hz, p11⟩ => ?_⟩
          obtain ⟨Hf12, s12, m12, r12⟩ := r11.freeze e11.hs m11
          obtain ⟨d12, f12, o12⟩ := m12.apart d10 f10 o10
          have rD12 : RepL K Hf12 accV acc := rD10.mono m12.grow
          refine ⟨accV, d12, by rw [rD12.length]; exact Nat.lt_of_lt_of_le hz (by decide), ?_⟩
          have m13 := (m9.trans m10).trans m12
          refine ⟨Hf12, h11, accV ++ [y], acc ++ [r.dat], s12.aside f12 o12, ⟨fun b o z hb => ?_, fun b z => ?_, m13.grow, m13.new, m13.own⟩, fun b o z => m12.grow b o (m10.grow b o (g9 b o z)), upd_same, f12, o12, rD12.append (.cons r12 .nil), p11⟩
          · rw [upd_ne (ne_of_none z hn)]
            exact m13.keep b o z hb
          · by_cases hb : b = n
            · subst hb; exact hn
            · rw [upd_ne hb] at z; exact m13.live b z
      · have ej : j = es.length := by omega
        subst ej
        rw [List.drop_length, lcM_nil] at q7
        exact .inl ⟨it1.stop _ H7 Hf7 s7.sub g7 (Nat.le_refl _) (Nat.le_refl _), Hf7, h7, accV, acc, s7, m7, d7, f7, o7, rD7, q7⟩
  · have ei : i = ds.length := by omega
    subst ei
    rw [List.drop_length] at q2
    exact .inl ⟨it.stop _ H2 Hf2 s2.sub m2.grow (Nat.le_refl _) (Nat.le_refl _), k _ H2 Hf2 (.fr acc) h2 (e1.step s2 m2) (m1.trans m2) ⟨n, accV, rfl, hD, fD, oD, m1.live n hn, rD⟩ q2⟩
theorem me_lc2 {elt tg iter tg1 iter1 : Expr} {ifs ifs1 : List Expr} {scope : Scope} {own : List (Str × Nat)} {vs1 is is1 : List Nat} {τi τi1 : TMI} {γ γ1 : TMG} {τt τt1 : TMT} {τe : TM} (hc : X.calm = true) (hN : X.N.Nodup) (hi : MI X W tg iter τi) (ok : BlkOk X.N X.env.scope scope own)
    (hg : ∀ (s : Shared) (H : Hp) (C : Addr) (cl : List (Str × Addr)) (fp : List Addr), MG (X.blk s H scope (compEnvC scope cl C X.env) fp) tg is γ) (ht : ∀ (s : Shared) (H : Hp) (C : Addr) (cl : List (Str × Addr)) (fp : List Addr), MTs (X.blk s H scope (compEnvC scope cl C X.env) fp) WF ifs τt)
    (hi1 : ∀ (s : Shared) (H : Hp) (C : Addr) (cl : List (Str × Addr)) (fp : List Addr), MI (X.blk s H scope (compEnvC scope cl C X.env) fp) WF tg1 iter1 τi1)
    (hg1 : ∀ (s : Shared) (H : Hp) (C : Addr) (cl : List (Str × Addr)) (fp : List Addr), MG (X.blk s H scope (compEnvC scope cl C X.env) fp) tg1 is1 γ1) (ht1 : ∀ (s : Shared) (H : Hp) (C : Addr) (cl : List (Str × Addr)) (fp : List Addr), MTs (X.blk s H scope (compEnvC scope cl C X.env) fp) WF ifs1 τt1)
    (he : ∀ (s : Shared) (H : Hp) (C : Addr) (cl : List (Str × Addr)) (fp : List Addr), ME (X.blk s H scope (compEnvC scope cl C X.env) fp) WF elt τe) (hvv : ∀ i ∈ vs1, i ∈ own.map (·.2) := by decide) (hv : ∀ i ∈ is, i ∈ own.map (·.2) := by decide) (hv1 : ∀ i ∈ is1, i ∈ vs1 := by decide)
    (hs : ∀ x, foldedSetIterable iter X.env x = pure x := by intro _; rfl) (hs1 : ∀ env x, foldedSetIterable iter1 env x = pure x := by intro _ _; rfl) :
    ME X W (.ListComp elt [⟨tg, iter, ifs, 0⟩, ⟨tg1, iter1, ifs1, 0⟩] scope pos) (mLc2 τi γ τt τi1 γ1 τt1 τe (own.map (·.2)) vs1) :=
  ME.of (pe_lc2 hc hN hi.pi ok hvv (fun s H C cl fp => (hg s H C cl fp).pg) (fun s H C cl fp => (ht s H C cl fp).pts) (fun s H C cl fp => (hi1 s H C cl fp).pi) (fun s H C cl fp => (hg1 s H C cl fp).pg) (fun s H C cl fp => (ht1 s H C cl fp).pts) (fun s H C cl fp => (he s H C cl fp).pe) hs hs1) (lc2_readingM hv hv1)
/-- y = [..], frozen -/
theorem ms_setLc2 {i : Nat} {y : Str} {py : Pos} {elt tg iter tg1 iter1 : Expr} {ifs ifs1 : List Expr} {scope : Scope} {own : List (Str × Nat)} {vs1 is is1 : List Nat} {spos : Pos} {τi τi1 : TMI} {γ γ1 : TMG} {τt τt1 : TMT} {τe : TM} (hc : X.calm = true) (hN : X.N.Nodup) (hy : X.N[i]? = some y) (hyl : X.env.scope.names.lookup y = some .local)
    (hsw : swapsWith (.ListComp elt [⟨tg, iter, ifs, 0⟩, ⟨tg1, iter1, ifs1, 0⟩] scope pos) (some (.Name y py)) spos.line X.env = pure true) (hi : MI X W tg iter τi) (ok : BlkOk X.N X.env.scope scope own)
    (hg : ∀ (s : Shared) (H : Hp) (C : Addr) (cl : List (Str × Addr)) (fp : List Addr), MG (X.blk s H scope (compEnvC scope cl C X.env) fp) tg is γ) (ht : ∀ (s : Shared) (H : Hp) (C : Addr) (cl : List (Str × Addr)) (fp : List Addr), MTs (X.blk s H scope (compEnvC scope cl C X.env) fp) WF ifs τt)
    (hi1 : ∀ (s : Shared) (H : Hp) (C : Addr) (cl : List (Str × Addr)) (fp : List Addr), MI (X.blk s H scope (compEnvC scope cl C X.env) fp) WF tg1 iter1 τi1)
    (hg1 : ∀ (s : Shared) (H : Hp) (C : Addr) (cl : List (Str × Addr)) (fp : List Addr), MG (X.blk s H scope (compEnvC scope cl C X.env) fp) tg1 is1 γ1) (ht1 : ∀ (s : Shared) (H : Hp) (C : Addr) (cl : List (Str × Addr)) (fp : List Addr), MTs (X.blk s H scope (compEnvC scope cl C X.env) fp) WF ifs1 τt1)
    (he : ∀ (s : Shared) (H : Hp) (C : Addr) (cl : List (Str × Addr)) (fp : List Addr), ME (X.blk s H scope (compEnvC scope cl C X.env) fp) WF elt τe) (hvv : ∀ i ∈ vs1, i ∈ own.map (·.2) := by decide) (hv : ∀ i ∈ is, i ∈ own.map (·.2) := by decide) (hv1 : ∀ i ∈ is1, i ∈ vs1 := by decide)
    (hs : ∀ x, foldedSetIterable iter X.env x = pure x := by intro _; rfl) (hs1 : ∀ env x, foldedSetIterable iter1 env x = pure x := by intro _ _; rfl) :
    MS X W (.Assign [.Name y py] (.ListComp elt [⟨tg, iter, ifs, 0⟩, ⟨tg1, iter1, ifs1, 0⟩] scope pos) spos) (mSet i (mLc2 τi γ τt τi1 γ1 τt1 τe (own.map (·.2)) vs1)) :=
  MS.of (ps_setLc2 hc hN hy hyl hsw hi.pi ok hvv (fun s H C cl fp => (hg s H C cl fp).pg) (fun s H C cl fp => (ht s H C cl fp).pts) (fun s H C cl fp => (hi1 s H C cl fp).pi) (fun s H C cl fp => (hg1 s H C cl fp).pg) (fun s H C cl fp => (ht1 s H C cl fp).pts) (fun s H C cl fp => (he s H C cl fp).pe) hs hs1) fun D σ H Hf R ρ h PD s q l =>
    (lc2_readingM hv hv1).fz σ H Hf ρ h R (fun d h1 => PD.nx (ρ.set i (some d)) h1) _ s q fun v H1 Hf1 d h1 e1 m1 r1 p1 => l.nx _ H1 Hf1 _ h1 (e1.set i r1) p1
end
end ML
/-! zip and enumerate over lists, tuples and texts, in any mix -/
namespace L2
open PySem PySem.Spec PyProof.Rows
/-- what is drawn from -/
inductive Sc where
  | l (a : Addr) | t (a : Addr) | s (z : Str)
def Sc.v : Sc → V
  | .l a => .ref a
  | .t a => .ref a
  | .s z => .str z
def Sc.has (K : PySem.W.Frag) (H : Hp) : Sc → List V → Prop
  | .l a, xs => SqL K H a xs
  | .t a, xs => SqT K H a xs
  | .s z, xs => xs = z.cps.toList.map fun c => V.str ⟨#[c]⟩
/-- its iterator at it, ahead of turn i -/
def Sc.at (it : Addr) (i : Nat) (h : Heap) : Sc → Prop
  | .l a => h.IsListIter it a i
  | .t a => h.IsTupleIter it a i
  | .s z => ∃ t, h.IsStrIter it (strIterType z) z t i
def Sc.ne (x : Addr) : Sc → Prop
  | .l a => a ≠ x
  | .t a => a ≠ x
  | .s _ => True
def Sc.cells (it : Addr) : Sc → List Addr
  | .l a => [it, a]
  | .t a => [it, a]
  | .s _ => [it]
theorem Sc.at_keep {sc : Sc} {it : Addr} {i : Nat} {h h' : Heap} (x : sc.at it i h) (k : ∀ o, h.get? it = some o → h'.get? it = some o) : sc.at it i h' := by
  cases sc with
  | l a => exact Heap.IsListIter.at x k
  | t a => exact Heap.IsTupleIter.at x k
  | s z => obtain ⟨t, x⟩ := x; obtain ⟨o, ho, r⟩ := x; exact ⟨t, o, k o ho, r⟩
theorem Sc.at_obj {sc : Sc} {it : Addr} {i : Nat} {h : Heap} (x : sc.at it i h) : ∃ o, h.get? it = some o ∧ ∀ v, o.data ≠ .cell v := by
  cases sc with
  | l a => obtain ⟨o, ho, _, hd⟩ := x; exact ⟨o, ho, fun v q => by rw [hd] at q; cases q⟩
  | t a => obtain ⟨o, ho, _, hd⟩ := x; exact ⟨o, ho, fun v q => by rw [hd] at q; cases q⟩
  | s z => obtain ⟨t, o, ho, _, hd⟩ := x; exact ⟨o, ho, fun v q => by rw [hd] at q; cases q⟩
theorem Sc.inj {X : Cx} {pins : List (Addr × Obj)} {σ : St} {H : Hp} {s : Shared} (I : Inv X pins σ H s) {sc : Sc} {xs ys : List V} (h : sc.has X.K H xs) (h' : sc.has X.K H ys) : xs = ys := by
  cases sc with
  | l a => exact I.list_inj h h'
  | t a => exact I.tuple_inj h h'
  | s z => exact h.trans h'.symm
theorem Sc.draw {X : Cx} {pins : List (Addr × Obj)} {σ : St} {H : Hp} {s : Shared} {A : Around} (I : Inv X pins σ H s) {sc : Sc} {xs : List V} (hh : A.handled = none) (hx : sc.has X.K H xs) {it : Addr} {i : Nat} (hit : sc.at it i s.heap) (hne : sc.ne it) :
    ∃ P St, Draws X.prog X.w A it (sc.cells it) xs.length P St ∧ St i s.heap ∧ (∀ j u, P j u → ∃ x, xs[j]? = some x ∧ RelV x u) ∧ ∀ j h', St j h' → sc.at it j h' := by
  cases sc with
  | l a =>
    obtain ⟨its, rv, p, _⟩ := I.list hx
    have hl : its.toArray.size = xs.length := by rw [rv.length]; simp
    have D := Draws.list (prog := X.prog) (w := X.w) hh it a hne its.toArray
    rw [hl] at D
    refine ⟨_, _, D, ⟨hit, p.isList⟩, fun j u hu => ?_, fun j h' st => st.1⟩
    have hu : its[j]? = some u := by simpa using hu
    have : j < xs.length := by rw [rv.length]; exact (List.getElem?_eq_some_iff.mp hu).1
    obtain ⟨u', h1, h2⟩ := rv.get (List.getElem?_eq_getElem this)
    rw [hu] at h1; cases h1
    exact ⟨_, List.getElem?_eq_getElem this, h2⟩
  | t a =>
    obtain ⟨its, rv, p, _⟩ := I.tuple hx
    have hl : its.toArray.size = xs.length := by rw [rv.length]; simp
    have D := Draws.tuple (prog := X.prog) (w := X.w) hh it a hne its.toArray
    rw [hl] at D
    refine ⟨_, _, D, ⟨hit, p⟩, fun j u hu => ?_, fun j h' st => st.1⟩
    have hu : its[j]? = some u := by simpa using hu
    have : j < xs.length := by rw [rv.length]; exact (List.getElem?_eq_some_iff.mp hu).1
    obtain ⟨u', h1, h2⟩ := rv.get (List.getElem?_eq_getElem this)
    rw [hu] at h1; cases h1
    exact ⟨_, List.getElem?_eq_getElem this, h2⟩
  | s z =>
    obtain ⟨t, hit⟩ := hit
    have hx : xs = z.cps.toList.map fun c => V.str ⟨#[c]⟩ := hx
    have D := Draws.text (prog := X.prog) (w := X.w) hh it z t
    have hl : z.cps.size = xs.length := by rw [hx]; simp
    rw [hl] at D
    refine ⟨_, _, D, hit, fun j u hu => ?_, fun j h' st => ⟨t, st⟩⟩
    obtain ⟨c, k, h1, rfl⟩ := hu
    refine ⟨.str ⟨#[c]⟩, ?_, k, rfl⟩
    rw [hx, List.getElem?_map, Array.getElem?_toList, h1]; rfl
/-- how it begins -/
theorem Sc.begins {X : Cx} {pins : List (Addr × Obj)} {σ : St} {H : Hp} {s : Shared} (I : Inv X pins σ H s) {sc : Sc} {xs : List V} (hx : sc.has X.K H xs) {u : Value} (r : RelV sc.v u) : ∃ o B, Begins u o B ∧ B s.heap ∧ (∀ (h' : Heap) (it : Addr), h'.get? it = some o → sc.at it 0 h') ∧ ∀ it, s.heap.objs.size ≤ it → sc.ne it := by
  cases sc with
  | l a =>
    obtain ⟨its, rv, p, _⟩ := I.list hx
    cases r
    exact ⟨_, _, begins_list a its.toArray, p.isList, fun h' it e => ⟨_, e, rfl, rfl⟩, fun it hi => Nat.ne_of_lt (Nat.lt_of_lt_of_le p.lt hi)⟩
  | t a =>
    obtain ⟨its, rv, p, _⟩ := I.tuple hx
    cases r
    refine ⟨_, _, begins_tuple a its.toArray, p, fun h' it e => ⟨_, e, rfl, rfl⟩, fun it hi => Nat.ne_of_lt (Nat.lt_of_lt_of_le ?_ hi)⟩
    obtain ⟨o, ho, _⟩ := p
    exact Heap.lt_size ho
  | s z =>
    obtain ⟨t, rfl⟩ := r
    exact ⟨_, _, begins_text z t, trivial, fun h' it e => ⟨t, _, e, rfl, rfl⟩, fun _ _ => trivial⟩
/-! ### zip -/
def ItZ (K : PySem.W.Frag) (s1 s2 : Sc) : It :=
  ⟨fun i H => ∃ (xs ys : List V) (x y : V), s1.has K H xs ∧ s2.has K H ys ∧ xs[i]? = some x ∧ ys[i]? = some y,
    fun i H v H' => ∃ T x y, v = .ref T ∧ H T = none ∧ H' = upd H T (.tup [x, y]) ∧ (∀ xs, s1.has K H xs → xs[i]? = some x) ∧ ∀ ys, s2.has K H ys → ys[i]? = some y,
    fun i H => ∃ xs ys : List V, s1.has K H xs ∧ s2.has K H ys ∧ i = min xs.length ys.length⟩
theorem turn_Z {P : Program} {w : World} {K : PySem.W.Frag} {elts : List Expr} {kk : Nat} {tpos : Pos} {s1 s2 : Sc} {z TI TO i1 i2 : Addr} (S : ZipSep2 z TI TO i1 i2 (s1.cells i1) (s2.cells i2)) (n1 : s1.ne i1) (n2 : s2.ne i2) :
    Turn P w K (.Tuple elts kk tpos) (ItZ K s1 s2) [z, TI, TO, i1, i2] z (fun i h => IsZip h z TI TO .none ∧ IsTupOf2 h TI (.ref i1) (.ref i2) ∧ (∃ x y, IsTupOf2 h TO x y) ∧ s1.at i1 i h ∧ s2.at i2 i h) where
  mem := by simp
  obj := fun i h st c hc => by
    obtain ⟨hz, hTI, ⟨x, y, hTO⟩, a1, a2⟩ := st
    have e' : c = z ∨ c = TI ∨ c = TO ∨ c = i1 ∨ c = i2 := by simpa using hc
    rcases e' with q | q | q | q | q
    · rw [q]; exact ⟨_, hz, fun v q => nomatch q⟩
    · rw [q]; exact ⟨_, hTI, fun v q => nomatch q⟩
    · rw [q]; exact ⟨_, hTO, fun v q => nomatch q⟩
    · rw [q]; exact (Sc.at_obj (sc := s1) a1)
    · rw [q]; exact (Sc.at_obj (sc := s2) a2)
  keep := fun i h h' st k => by
    obtain ⟨hz, hTI, ⟨x, y, hTO⟩, a1, a2⟩ := st
    exact ⟨k z (by simp) _ hz, k TI (by simp) _ hTI, ⟨x, y, k TO (by simp) _ hTO⟩, Sc.at_keep (sc := s1) a1 fun o q => k i1 (by simp) o q, Sc.at_keep (sc := s2) a2 fun o q => k i2 (by simp) o q⟩
  item := by
    intro X hP hw hK hc i pins s σ H E I hf st hg
    subst hP hw hK
    obtain ⟨hz, hTI, hTO, a1, a2⟩ := st
    obtain ⟨xs, ys, x, y, q1, q2, hx, hy⟩ := hg
    have hh : X.A.in1.handled = none := by rw [Around.in1_handled]; exact I.ok.hd hc
    obtain ⟨P1, St1, D1, b1, g1, c1⟩ := Sc.draw I hh q1 a1 n1
    obtain ⟨P2, St2, D2, b2, g2, c2⟩ := Sc.draw I hh q2 a2 n2
    have W := WalksT.zipD2 S D1 D2
    have hi : i < min xs.length ys.length := by
      have := (List.getElem?_eq_some_iff.mp hx).1
      have := (List.getElem?_eq_some_iff.mp hy).1
      omega
    have lt5 : ∀ c ∈ [z, TI, TO, i1, i2], c < s.heap.objs.size := fun c hcm => by
      obtain ⟨x0, y0, hTO⟩ := hTO
      have e' : c = z ∨ c = TI ∨ c = TO ∨ c = i1 ∨ c = i2 := by simpa using hcm
      rcases e' with q | q | q | q | q
      · rw [q]; exact Heap.lt_size hz
      · rw [q]; exact Heap.lt_size hTI
      · rw [q]; exact Heap.lt_size hTO
      · rw [q]; obtain ⟨_, e1, _⟩ := (Sc.at_obj (sc := s1) a1); exact Heap.lt_size e1
      · rw [q]; obtain ⟨_, e2, _⟩ := (Sc.at_obj (sc := s2) a2); exact Heap.lt_size e2
    refine W.item i s _ _ hi ⟨hz, hTI, hTO, b1, b2⟩ fun T vals h' tk hp hT hT' mid hk => ⟨.ref T, rfl, W.go elts kk tpos i T { s with heap := h', toks := tk } _ _ mid fun h'' st'' hk2 => ?_⟩
    obtain ⟨u1, u2, p1, p2, rfl⟩ := hp
    obtain ⟨v1, e1, r1⟩ := g1 i u1 p1
    obtain ⟨v2, e2, r2⟩ := g2 i u2 p2
    have hT2 : h''.IsTuple T #[u1, u2] := hT'.at fun o e => hk2 T o (W.apart i T h' mid) e
    have new : ObjOk X.prog X.w (upd H T (.tup [v1, v2])) h'' T (.tup [v1, v2]) := ⟨by show 2 ≤ sizeLine; decide, [u1, u2], .cons r1 (.cons r2 .nil), hT2⟩
    have hch : ∀ b, b ∉ [z, TI, TO, i1, i2] → b ∉ [z, TO, i1, i2] := fun b hb hb' => hb (by
      have : b = z ∨ b = TO ∨ b = i1 ∨ b = i2 := by simpa using hb'
      rcases this with q | q | q | q <;> simp [q])
    have I1 : Inv X pins σ (upd H T (.tup [v1, v2])) { s with heap := h'', toks := tk } := I.turnedNew (t' := tk) (ch := [z, TI, TO, i1, i2]) (fun c o hb q => hk2 c o (hch c hb) (hk c o (hch c hb) q)) hf hT new
    obtain ⟨f1, f2, f3, f4, f5⟩ := st''
    refine ⟨.ref T, _, I1, rfl, ⟨T, v1, v2, rfl, I.hok.fresh hT, rfl, fun l hl => by rw [Sc.inj I hl q1]; exact e1, fun l hl => by rw [Sc.inj I hl q2]; exact e2⟩, ⟨f1, f2, f3, c1 _ _ f4, c2 _ _ f5⟩, fun c hcm => ?_⟩
    rw [upd_ne (Nat.ne_of_lt (Nat.lt_of_lt_of_le (lt5 c hcm) hT))]
    exact (hf c hcm).1
  done := by
    intro X hP hw hK hc i pins s σ H E I hf st hg
    subst hP hw hK
    obtain ⟨hz, hTI, hTO, a1, a2⟩ := st
    obtain ⟨xs, ys, q1, q2, hi⟩ := hg
    have hh : X.A.in1.handled = none := by rw [Around.in1_handled]; exact I.ok.hd hc
    obtain ⟨P1, St1, D1, b1, g1, c1⟩ := Sc.draw I hh q1 a1 n1
    obtain ⟨P2, St2, D2, b2, g2, c2⟩ := Sc.draw I hh q2 a2 n2
    have W := WalksT.zipD2 S D1 D2
    rw [← hi] at W
    refine W.done s _ _ ⟨hz, hTI, hTO, b1, b2⟩ fun h' tk hk => ⟨rfl, I.turnedL (t' := tk) (ch := [z, TI, TO, i1, i2]) (fun c o hb q => hk c o (fun hb' => hb (by
      have : c = z ∨ c = TO ∨ c = i1 ∨ c = i2 := by simpa using hb'
      rcases this with q | q | q | q <;> simp [q])) q) hf⟩
  self := fun A i s Q E st h => wpAny_pyIter_zip st.1 h
def iZ (K : PySem.W.Frag) (ta : TA) : TI := fun σ H R => ta σ H fun vs H1 => ∃ s1 s2 xs ys, vs = [Sc.v s1, Sc.v s2] ∧ s1.has K H1 xs ∧ s2.has K H1 ys ∧ R (ItZ K s1 s2) H1
theorem pi_Z {X : Cx} {e e2 : Expr} {ta : TA} {p pos tpos : Pos} {elts : List Expr} {kk : Nat} (hg : Gl X "zip") (hm : X.mg "zip" = none) (ha : PA X [e, e2] ta)
    (hs : starEach [e, e2] X.env = (false, eval e X.env) :: starEach [e2] X.env := by rfl) (hpl : (backTo pos (starEach [e2] X.env)).any (·.1) = false := by rfl) :
    PI X (.Tuple elts kk tpos) (.Call (.Name "zip" p) [e, e2] [] pos) (iZ X.K ta) := by
  refine ⟨fun pins s σ H R I h => ?_⟩
  refine Call_ (ld_blt I hg hm PyProof.Rows.boot_zip (PyProof.Rows.callWith_type1 (thn (ha.run pos pins s σ H _ I h) fun us t1 ⟨vs, H1, I1, r1, q1⟩ => ?_) hs hpl))
  obtain ⟨s1, s2, xs, ys, ex, q1, q2, q⟩ := q1
  subst ex
  cases r1 with
  | cons r rr =>
    cases rr with
    | cons r' rr =>
      cases rr
      obtain ⟨o1, B1, b1, d1, at1, ne1⟩ := Sc.begins I1 q1 r
      obtain ⟨o2, B2, b2, d2, at2, ne2⟩ := Sc.begins I1 q2 r'
      refine zip_begins2 b1 b2 d1 d2 fun h' hz hTI hTO h1 h2 hsz hk => wpAny_pyIter_zip hz ?_
      have I2 : Inv X pins σ H1 { t1 with heap := h' } := I1.kept (t' := t1.toks) hk
      have cl : ∀ (sc : Sc), (∀ it, t1.heap.objs.size ≤ it → sc.ne it) → ∀ it, ∃ fp, sc.cells it = it :: fp ∧ ∀ b ∈ fp, b < t1.heap.objs.size := fun sc hn it => by
        cases sc with
        | l a => exact ⟨[a], rfl, fun b hb => by rw [List.mem_singleton.mp hb]; exact Nat.lt_of_not_le fun z => hn a z rfl⟩
        | t a => exact ⟨[a], rfl, fun b hb => by rw [List.mem_singleton.mp hb]; exact Nat.lt_of_not_le fun z => hn a z rfl⟩
        | s z => exact ⟨[], rfl, fun b hb => nomatch hb⟩
      obtain ⟨f1, e1, l1⟩ := cl s1 ne1 t1.heap.objs.size
      obtain ⟨f2, e2, l2⟩ := cl s2 ne2 (t1.heap.objs.size + 1)
      have S := zip_sep2 l1 l2
      rw [← e1, ← e2] at S
      refine ⟨t1.heap.objs.size + 4, [t1.heap.objs.size + 4, t1.heap.objs.size + 2, t1.heap.objs.size + 3, t1.heap.objs.size, t1.heap.objs.size + 1], _, _, H1, rfl, I2, turn_Z S (ne1 _ (Nat.le_refl _)) (ne2 _ (Nat.le_add_right _ _)), ⟨hz, hTI, ⟨_, _, hTO⟩, at1 _ _ h1, at2 _ _ h2⟩, fun c hcm => ?_, q⟩
      have hle : t1.heap.objs.size ≤ c := by
        have e' : c = t1.heap.objs.size + 4 ∨ c = t1.heap.objs.size + 2 ∨ c = t1.heap.objs.size + 3 ∨ c = t1.heap.objs.size ∨ c = t1.heap.objs.size + 1 := by simpa using hcm
        rcases e' with z | z | z | z | z
        · rw [z]; exact Nat.le_add_right _ _
        · rw [z]; exact Nat.le_add_right _ _
        · rw [z]; exact Nat.le_add_right _ _
        · rw [z]; exact Nat.le_refl _
        · rw [z]; exact Nat.le_add_right _ _
      exact I1.fpOk hle (I1.hok.fresh hle)
/-! ### enumerate -/
theorem new_enum1 {v : Value} {o : Obj} {B : Heap → Prop} (b : Begins v o B) :
    Meets (Builtin.«enumerate.__new__» ⟨[.type "enumerate", v], []⟩) (fun _ R s => B s.heap ∧
      R (.ok (.ret (.ref (s.heap.push o).objs.size))) { s with heap := (s.heap.push o).push { cls := .type "enumerate", data := .fields #[.none, .bool false, .ref s.heap.objs.size, rawInt 0, .none, .none] } }) :=
  .of_wp fun prog w A R s h => by
    obtain ⟨hp, g, d, tk, os⟩ := s
    obtain ⟨h1, h⟩ := h
    have e0 := sub_enumerate
    have q1 : ∀ {A' : Around} {E : Value → Shared → Prop} {Q : Value → Shared → Prop}, Q (.ref hp.objs.size) ⟨hp.push o, g, d, tk, os⟩ → wpAny (model prog w) A' (pyIter v) Q E ⟨hp, g, d, tk, os⟩ := fun q => b.iter prog w _ _ ⟨hp, g, d, tk, os⟩ _ h1 q
    wp_walk using q1
    refine wpAny_stack_any fun st => wpAny_pure ?_
    split
    · rename_i c _ _ _ _ _
      cases (c == Value.type "enumerate") <;> (wp_walk using q1; exact ⟨_, rfl, h⟩)
    · wp_walk using q1
      exact ⟨_, rfl, h⟩
theorem call_enum1 {prog : Program} {w : World} {A : Around} {E : Value → Shared → Prop} {s : Shared} {v : Value} {o : Obj} {B : Heap → Prop} {Q : Value → Shared → Prop} (b : Begins v o B) (h1 : B s.heap)
    (h : ∀ h', IsEnum h' (s.heap.objs.size + 1) s.heap.objs.size 0 .none → h'.get? s.heap.objs.size = some o → (∀ b o, s.heap.get? b = some o → h'.get? b = some o) → Q (.ref (s.heap.objs.size + 1)) { s with heap := h' }) :
    wpAny (model prog w) A (call (.type "enumerate") [v]) Q E s := by
  refine callType_new F.called_enumerate (by decide) (F.typeCall_enumerate_1 _) (F.newCall_enumerate_1 _) (fun obj => F.args_object_init_2 obj _) F.entry_enumerate_new (new_enum1 b) ⟨h1, ?_⟩
  have hz : (s.heap.push o).objs.size = s.heap.objs.size + 1 := Heap.size_push ..
  show _ ∧ _
  rw [hz]
  have he : ((s.heap.push o).push { cls := .type "enumerate", data := .fields #[.none, .bool false, .ref s.heap.objs.size, rawInt 0, .none, .none] }).get? (s.heap.objs.size + 1) = some { cls := .type "enumerate", data := .fields #[.none, .bool false, .ref s.heap.objs.size, rawInt 0, .none, .none] } := by
    rw [← hz]
    exact Heap.get?_push_size _ rfl
  exact ⟨⟨_, he, rfl⟩, h _ he (Heap.get?_push_of_some _ (Heap.get?_push_size _ b.free)) fun b o x => Heap.get?_push_of_some _ (Heap.get?_push_of_some _ x)⟩
def ItE (K : PySem.W.Frag) (sc : Sc) : It :=
  ⟨fun i H => ∃ (xs : List V) (x : V), sc.has K H xs ∧ xs[i]? = some x,
    fun i H v H' => ∃ T x, v = .ref T ∧ H T = none ∧ H' = upd H T (.tup [.int (i : Nat), x]) ∧ ∀ xs, sc.has K H xs → xs[i]? = some x,
    fun i H => ∃ xs : List V, sc.has K H xs ∧ i = xs.length⟩
theorem turn_E {P : Program} {w : World} {K : PySem.W.Frag} {elts : List Expr} {kk : Nat} {tpos : Pos} {sc : Sc} {e it : Addr} (hei : e ≠ it) (hef : e ∉ sc.cells it) (hif : it ∈ sc.cells it) (n1 : sc.ne it) :
    Turn P w K (.Tuple elts kk tpos) (ItE K sc) [e, it] e (fun i h => (∃ old, IsEnum h e it ((0 : Int) + (i : Int)) old) ∧ sc.at it i h) where
  mem := by simp
  obj := fun i h st c hc => by
    obtain ⟨⟨old, he⟩, a1⟩ := st
    have e' : c = e ∨ c = it := by simpa using hc
    rcases e' with q | q
    · rw [q]; exact ⟨_, he, fun v q => nomatch q⟩
    · rw [q]; exact Sc.at_obj (sc := sc) a1
  keep := fun i h h' st k => by
    obtain ⟨⟨old, he⟩, a1⟩ := st
    exact ⟨⟨old, k e (by simp) _ he⟩, Sc.at_keep (sc := sc) a1 fun o q => k it (by simp) o q⟩
  item := by
    intro X hP hw hK hc i pins s σ H E I hf st hg
    subst hP hw hK
    obtain ⟨he, a1⟩ := st
    obtain ⟨xs, x, q1, hx⟩ := hg
    have hh : X.A.in1.handled = none := by rw [Around.in1_handled]; exact I.ok.hd hc
    obtain ⟨P1, St1, D1, b1, g1, c1⟩ := Sc.draw I hh q1 a1 n1
    have W := WalksT.enumFrom 0 D1 e hei hef hif
    have hi : i < xs.length := (List.getElem?_eq_some_iff.mp hx).1
    have lt2 : ∀ c ∈ [e, it], c < s.heap.objs.size := fun c hcm => by
      obtain ⟨old, he⟩ := he
      have e' : c = e ∨ c = it := by simpa using hcm
      rcases e' with q | q
      · rw [q]; exact Heap.lt_size he
      · rw [q]; obtain ⟨_, e1, _⟩ := Sc.at_obj (sc := sc) a1; exact Heap.lt_size e1
    refine W.item i s _ _ hi ⟨he, b1⟩ fun T vals h' tk hp hT hT' mid hk => ⟨.ref T, rfl, W.go elts kk tpos i T { s with heap := h', toks := tk } _ _ mid fun h'' st'' hk2 => ?_⟩
    obtain ⟨t1, u1, p1, rfl⟩ := hp
    obtain ⟨v1, e1, r1⟩ := g1 i u1 p1
    have hT2 : h''.IsTuple T #[.int ((0 : Int) + (i : Int)) t1, u1] := hT'.at fun o e => hk2 T o (W.apart i T h' mid) e
    have new : ObjOk X.prog X.w (upd H T (.tup [.int (i : Nat), v1])) h'' T (.tup [.int (i : Nat), v1]) := ⟨by show 2 ≤ sizeLine; decide, [.int ((0 : Int) + (i : Int)) t1, u1], .cons ⟨t1, by rw [Int.zero_add]⟩ (.cons r1 .nil), hT2⟩
    have I1 : Inv X pins σ (upd H T (.tup [.int (i : Nat), v1])) { s with heap := h'', toks := tk } := I.turnedNew (t' := tk) (ch := [e, it]) (fun c o hb q => hk2 c o hb (hk c o hb q)) hf hT new
    obtain ⟨f1, f2⟩ := st''
    refine ⟨.ref T, _, I1, rfl, ⟨T, v1, rfl, I.hok.fresh hT, rfl, fun l hl => by rw [Sc.inj I hl q1]; exact e1⟩, ⟨f1, c1 _ _ f2⟩, fun c hcm => ?_⟩
    rw [upd_ne (Nat.ne_of_lt (Nat.lt_of_lt_of_le (lt2 c hcm) hT))]
    exact (hf c hcm).1
  done := by
    intro X hP hw hK hc i pins s σ H E I hf st hg
    subst hP hw hK
    obtain ⟨he, a1⟩ := st
    obtain ⟨xs, q1, hi⟩ := hg
    have hh : X.A.in1.handled = none := by rw [Around.in1_handled]; exact I.ok.hd hc
    obtain ⟨P1, St1, D1, b1, g1, c1⟩ := Sc.draw I hh q1 a1 n1
    have W := WalksT.enumFrom 0 D1 e hei hef hif
    rw [← hi] at W
    exact W.done s _ _ ⟨he, b1⟩ fun h' tk hk => ⟨rfl, I.turnedL (t' := tk) (ch := [e, it]) (fun c o hb q => hk c o hb q) hf⟩
  self := fun A i s Q E st h => let ⟨⟨_, he⟩, _⟩ := st; wpAny_pyIter_enum he h
def iE (K : PySem.W.Frag) (ta : TA) : TI := fun σ H R => ta σ H fun vs H1 => ∃ sc xs, vs = [Sc.v sc] ∧ sc.has K H1 xs ∧ R (ItE K sc) H1
theorem pi_E {X : Cx} {e : Expr} {ta : TA} {p pos tpos : Pos} {elts : List Expr} {kk : Nat} (hg : Gl X "enumerate") (hm : X.mg "enumerate" = none) (ha : PA X [e] ta) (hs : starEach [e] X.env = [(false, eval e X.env)] := by rfl) :
    PI X (.Tuple elts kk tpos) (.Call (.Name "enumerate" p) [e] [] pos) (iE X.K ta) := by
  refine ⟨fun pins s σ H R I h => ?_⟩
  refine Call_ (ld_blt I hg hm boot_enumerate (PyProof.Rows.callWith_type1 (thn (ha.run pos pins s σ H _ I h) fun us t1 ⟨vs, H1, I1, r1, q1⟩ => ?_) hs rfl))
  obtain ⟨sc, xs, ex, q1, q⟩ := q1
  subst ex
  cases r1 with
  | cons r rr =>
    cases rr
    obtain ⟨o1, B1, b1, d1, at1, ne1⟩ := Sc.begins I1 q1 r
    refine call_enum1 b1 d1 fun h' he h1 hk => wpAny_pyIter_enum he ?_
    have I2 : Inv X pins σ H1 { t1 with heap := h' } := I1.kept (t' := t1.toks) hk
    have hef : t1.heap.objs.size + 1 ∉ sc.cells t1.heap.objs.size := fun z => by
      have nn := ne1 (t1.heap.objs.size + 1) (Nat.le_add_right _ _)
      cases sc with
      | l a =>
        have z : t1.heap.objs.size + 1 = t1.heap.objs.size ∨ t1.heap.objs.size + 1 = a := by simpa [Sc.cells] using z
        rcases z with z | z
        · exact Nat.succ_ne_self _ z
        · exact nn z.symm
      | t a =>
        have z : t1.heap.objs.size + 1 = t1.heap.objs.size ∨ t1.heap.objs.size + 1 = a := by simpa [Sc.cells] using z
        rcases z with z | z
        · exact Nat.succ_ne_self _ z
        · exact nn z.symm
      | s x =>
        have z : t1.heap.objs.size + 1 = t1.heap.objs.size := by simpa [Sc.cells] using z
        exact Nat.succ_ne_self _ z
    refine ⟨t1.heap.objs.size + 1, [t1.heap.objs.size + 1, t1.heap.objs.size], _, _, H1, rfl, I2, turn_E (Nat.succ_ne_self _) hef (by cases sc <;> simp [Sc.cells]) (ne1 _ (Nat.le_refl _)), ⟨⟨.none, he⟩, at1 _ _ h1⟩, fun c hcm => ?_, q⟩
    have hle : t1.heap.objs.size ≤ c := by
      have e' : c = t1.heap.objs.size + 1 ∨ c = t1.heap.objs.size := by simpa using hcm
      rcases e' with z | z
      · rw [z]; exact Nat.le_add_right _ _
      · rw [z]; exact Nat.le_refl _
    exact I1.fpOk hle (I1.hok.fresh hle)
end L2
/-! The second data layer, 16: zip and enumerate of lists, tuples, texts; extend. -/
namespace ML
open PySem L2 DL
theorem sc_of {K : Fg} {Hf : Hp} {v : V} {d : D} {as : List D} (r : Rep K Hf v d) (h : itemsD d = some as) : ∃ sc xs, v = Sc.v sc ∧ RepL K Hf xs as ∧ ∀ H', (∀ b o, Hf b = some o → H' b = some o) → sc.has K H' xs := by
  cases r with
  | @str x =>
    cases h
    refine ⟨.s x, _, rfl, ?_, fun H' _ => rfl⟩
    unfold signsD
    generalize x.cps.toList = l
    induction l with
    | nil => exact .nil
    | cons c l ih => exact .cons (.str _) ih
  | @scr a ns hs =>
    cases h
    refine ⟨.l a, _, rfl, ?_, fun H' g => sqL_same g hs⟩
    clear hs
    induction ns with
    | nil => exact .nil
    | cons c l ih => exact .cons (.int _) ih
  | @tup a xs ds hs rs => cases h; exact ⟨.t a, xs, rfl, rs, fun H' g => sqT_same g hs⟩
  | @lst a xs ds hs rs => cases h; exact ⟨.l a, xs, rfl, rs, fun H' g => .inl (.inl (g _ _ hs))⟩
  | non => cases h
  | bl => cases h
  | int => cases h
  | ty => cases h
  | raw => cases h
  | obj => cases h
theorem itZ_it {K : Fg} {Hf : Hp} {s1 s2 : Sc} {vs ws : List V} {as bs : List D} (h1 : ∀ H', (∀ b o, Hf b = some o → H' b = some o) → s1.has K H' vs) (h2 : ∀ H', (∀ b o, Hf b = some o → H' b = some o) → s2.has K H' ws) (r1 : RepL K Hf vs as) (r2 : RepL K Hf ws bs) : DIt K (ItZ K s1 s2) Hf (zipD as bs) where
  item := fun i d H' Hf' sub grow hd => by
    obtain ⟨a, b, g1, g2, rfl⟩ := zipD_get as bs i d hd
    obtain ⟨v, k1, k2⟩ := r1.get g1
    obtain ⟨u, l1, l2⟩ := r2.get g2
    have t1 := h1 H' fun b o h => sub b o (grow b o h)
    have t2 := h2 H' fun b o h => sub b o (grow b o h)
    refine ⟨⟨vs, ws, v, u, t1, t2, k1, l1⟩, fun x H'' y => ?_⟩
    obtain ⟨T, x1, y1, rfl, hT, rfl, z1, z2⟩ := y
    have e1 := z1 vs t1
    have e2 := z2 ws t2
    rw [k1] at e1
    rw [l1] at e2
    cases e1
    cases e2
    obtain ⟨x2, ok⟩ := new_tup sub hT (.cons (k2.mono grow) (.cons (l2.mono grow) .nil))
    exact ⟨_, x2, ok⟩
  stop := fun i H' Hf' sub grow hl hl' => by
    rw [zipD_len] at hl hl'
    exact ⟨vs, ws, h1 H' fun b o h => sub b o (grow b o h), h2 H' fun b o h => sub b o (grow b o h), by rw [r1.length, r2.length]; omega⟩
theorem itE_it {K : Fg} {Hf : Hp} {sc : Sc} {vs : List V} {as : List D} (h1 : ∀ H', (∀ b o, Hf b = some o → H' b = some o) → sc.has K H' vs) (r1 : RepL K Hf vs as) : DIt K (ItE K sc) Hf (enumD 0 as) where
  item := fun i d H' Hf' sub grow hd => by
    obtain ⟨a, g1, rfl⟩ := enumD_get 0 as i d hd
    obtain ⟨v, k1, k2⟩ := r1.get g1
    have t1 := h1 H' fun b o h => sub b o (grow b o h)
    refine ⟨⟨vs, v, t1, k1⟩, fun x H'' y => ?_⟩
    obtain ⟨T, x1, rfl, hT, rfl, z1⟩ := y
    have e1 := z1 vs t1
    rw [k1] at e1
    cases e1
    rw [Nat.zero_add]
    obtain ⟨x2, ok⟩ := new_tup sub hT (.cons (.int _) (.cons (k2.mono grow) .nil))
    exact ⟨_, x2, ok⟩
  stop := fun i H' Hf' sub grow hl hl' => by
    rw [enumD_len] at hl hl'
    exact ⟨vs, h1 H' fun b o h => sub b o (grow b o h), by rw [r1.length]; omega⟩
section
variable {X : Cx} {W : Wd} {pos p apos : Pos} {o e : Expr} {τs : TMA} {τo : TM}
def mZipX (τ : TMA) : TMI := fun ω ρ h P => τ ω ρ h fun ds h1 => ∃ a b as bs, ds = [a, b] ∧ itemsD a = some as ∧ itemsD b = some bs ∧ P (zipD as bs) h1
theorem mi_zipX {e2 : Expr} {elts : List Expr} {kk : Nat} {tpos : Pos} (hg : Gl X "zip") (hm : X.mg "zip" = none) (ha : MA X W [e, e2] τs) (hs : starEach [e, e2] X.env = (false, eval e X.env) :: starEach [e2] X.env := by rfl) (hpl : (backTo pos (starEach [e2] X.env)).any (·.1) = false := by rfl) :
    MI X W (.Tuple elts kk tpos) (.Call (.Name "zip" p) [e, e2] [] pos) (mZipX τs) :=
  MI.of (pi_Z hg hm ha.pa hs hpl) fun σ H Hf ρ h R P Q e q k => ⟨R, Hf, ρ, h, _, e, q, fun vs H1 Hf1 ds h1 e1 m1 r1 _ ⟨a, b, as, bs, hd, ga, gb, p1⟩ => by
    subst hd
    cases r1 with
    | cons ra rr =>
      cases rr with
      | cons rb rr =>
        cases rr
        obtain ⟨s1, xs, rfl, ra', ha'⟩ := sc_of ra ga
        obtain ⟨s2, ys, rfl, rb', hb'⟩ := sc_of rb gb
        exact ⟨s1, s2, xs, ys, rfl, ha' H1 e1.hs.sub, hb' H1 e1.hs.sub, k _ H1 Hf1 _ h1 e1 m1 (itZ_it ha' hb' ra' rb') p1⟩⟩
def mEnumX (τ : TMA) : TMI := fun ω ρ h P => τ ω ρ h fun ds h1 => ∃ a as, ds = [a] ∧ itemsD a = some as ∧ P (enumD 0 as) h1
theorem mi_enumX {elts : List Expr} {kk : Nat} {tpos : Pos} (hg : Gl X "enumerate") (hm : X.mg "enumerate" = none) (ha : MA X W [e] τs) (hs : starEach [e] X.env = [(false, eval e X.env)] := by rfl) :
    MI X W (.Tuple elts kk tpos) (.Call (.Name "enumerate" p) [e] [] pos) (mEnumX τs) :=
  MI.of (pi_E hg hm ha.pa hs) fun σ H Hf ρ h R P Q e q k => ⟨R, Hf, ρ, h, _, e, q, fun vs H1 Hf1 ds h1 e1 m1 r1 _ ⟨a, as, hd, ga, p1⟩ => by
    subst hd
    cases r1 with
    | cons ra rr =>
      cases rr
      obtain ⟨s1, xs, rfl, ra', ha'⟩ := sc_of ra ga
      exact ⟨s1, xs, rfl, ha' H1 e1.hs.sub, k _ H1 Hf1 _ h1 e1 m1 (itE_it ha' ra') p1⟩⟩
/-- xs.extend(ys) -/
def mExt (τo : TM) (τs : TMA) : TM := fun ω ρ h P => τo ω ρ h fun x h1 => ∃ a ys, x.dat = .raw (.ref a) ∧ h1 a = some (.lst ys) ∧ τs ω ρ h1 fun ds h2 => ∃ xs zs, h2 a = some (.lst xs) ∧ ds = [.lst zs] ∧ xs.length + zs.length ≤ 16000 ∧ P (.fz .non) (put h2 a (.lst (xs ++ zs)))
theorem me_ext (ho : ME X W o τo) (ha : MA X W [e] τs) (he : starEach [e] X.env = (false, eval e X.env) :: starEach [] X.env := by rfl) (hbase : attributeBase o "extend" X.env (eval o X.env) = eval o X.env := by rfl)
    (hfew : ((backTo pos (starEach [e] X.env)).all (fun x => !x.1) && (backToKw pos (keywordEach [] X.env)).all (fun x => x.1.isSome) && decide ([e].length + ([] : List Keyword).length + (if ([] : List Keyword).isEmpty then 0 else 1) < 30)) = true := by rfl) (hline : (apos.endLine == pos.line) = true := by rfl) :
    ME X W (.Call (.Attribute o "extend" apos) [e] [] pos) (mExt τo τs) := by
  obtain ⟨t, po, so⟩ := ho.fz
  refine ME.of (pe_bm PySem.F.plainAttrs_list PySem.F.slot_list_extend PySem.F.type_list_extend mt_extend po ha.pa hbase hfew hline he rfl) fun σ H Hf ρ h R P Q e q k => ?_
  refine so σ H Hf ρ h R (fun x h1 => ∃ a ys, x = .raw (.ref a) ∧ h1 a = some (.lst ys) ∧ τs R.ω ρ h1 fun ds h2 => ∃ xs zs, h2 a = some (.lst xs) ∧ ds = [.lst zs] ∧ xs.length + zs.length ≤ 16000 ∧ P (.fz .non) (put h2 a (.lst (xs ++ zs)))) _ e q fun x H1 Hf1 dx h1 e1 m1 r1 ⟨a, ys, g1, g2, q1⟩ => ?_
  subst g1
  cases r1
  obtain ⟨z0, zs, z1, z2⟩ := e1.hs.hp a _ g2
  refine ⟨.inl ⟨rfl, zs, .inl (.inl z1)⟩, R, Hf1, ρ, h1, _, e1, q1, fun vs H2 Hf2 ds h2 e2 m2 r2 _ ⟨xs, zs, k1, k2, k3, k4⟩ => ?_⟩
  subst k2
  cases r2 with
  | @cons v _ _ _ ra rr =>
    cases rr
    cases ra with
    | @lst b us ds hb rb =>
      obtain ⟨y0, ws, y1, y2⟩ := e2.hs.hp a _ k1
      have s3 := e2.hs.upd (a := a) (o := .lst (xs ++ zs)) (u := .lst (ws ++ us)) (.inl ⟨_, k1⟩) fun H' hq => ⟨_, hq, y2.append rb⟩
      have m3 := Mo.upd (h := h2) (H := H2) (Hf := Hf2) (a := a) (o := .lst (xs ++ zs)) (u := .lst (ws ++ us)) (.inl ⟨_, k1⟩)
      exact ⟨a, b, ws, us, rfl, rfl, y1, e2.hs.sub _ _ hb, by rw [y2.length, rb.length]; exact Nat.le_trans k3 (by decide), k .non _ Hf2 (.fz .non) _ (e2.step s3 m3) ((m1.trans m2).trans m3) Rep.non k4⟩
end
end ML
/-! The second data layer, 17: dicts whose keys are nested tuples. -/
namespace ML
open PySem L2 DL
def nkT : D → Option NestedKey
  | .tup ds => nkD (.tup ds)
  | _ => none
theorem nkT_D {d : D} {k : NestedKey} (h : nkT d = some k) : nkD d = some k := by
  cases d <;> first | exact h | (exfalso; exact (nomatch h))
theorem nkT_ref {K : Fg} {Hf : Hp} {v : V} {d : D} {k : NestedKey} (h : nkT d = some k) (r : Rep K Hf v d) : ∃ b, v = .ref b := by
  cases r <;> first | exact ⟨_, rfl⟩ | (exfalso; exact (nomatch h))
theorem RepN.ky {K : Fg} {Hf : Hp} {xs : List NkX} {kvs : List (NestedKey × D)} (h : RepN K Hf xs kvs) : ∀ x ∈ xs, KyO K Hf x := by
  induction h with
  | nil => exact fun x hx => nomatch hx
  | @cons x p xs kvs r t ih =>
    intro y hy
    rcases List.mem_cons.mp hy with e | hy
    · rw [e]; exact r.2.1
    · exact ih y hy
theorem KyO.mono {K : Fg} {H H' : Hp} (g : ∀ b u, H b = some u → H' b = some u) {x : NkX} (h : KyO K H x) : KyO K H' x := let ⟨d, h1, h2⟩ := h; ⟨d, h1.mono g, h2⟩
theorem RepN.val {K : Fg} {Hf : Hp} (k : NestedKey) : ∀ {xs : List NkX} {kvs : List (NestedKey × D)}, RepN K Hf xs kvs → (∀ d, valD kvs k = some d → ∃ v, valN xs k = some v ∧ Rep K Hf v d) ∧ (valN xs k).isSome = (valD kvs k).isSome
  | _, _, .nil => ⟨fun d h => (nomatch h), rfl⟩
  | x :: xs, p :: kvs, .cons r t => by
    have ih := RepN.val k t
    rw [valD, valN]
    by_cases e : p.1 = k
    · rw [if_pos e, if_pos (r.1.trans e)]
      exact ⟨fun d h => by cases h; exact ⟨_, rfl, r.2.2⟩, rfl⟩
    · rw [if_neg e, if_neg (fun z => e (r.1.symm.trans z))]
      exact ih
theorem RepN.length {K : Fg} {Hf : Hp} {xs : List NkX} {kvs : List (NestedKey × D)} (h : RepN K Hf xs kvs) : xs.length = kvs.length := Paired.length h
theorem RepN.repl {K : Fg} {Hf : Hp} {k : NestedKey} {v : V} {d : D} (r0 : Rep K Hf v d) : ∀ {xs : List NkX} {kvs : List (NestedKey × D)}, RepN K Hf xs kvs → RepN K Hf (xs.map fun x => if x.1 = k then (x.1, x.2.1, v) else x) (kvs.map fun p => if p.1 = k then (p.1, d) else p)
  | _, _, .nil => .nil
  | x :: xs, p :: kvs, .cons r t => by
    rw [List.map_cons, List.map_cons]
    refine .cons ?_ (RepN.repl r0 t)
    by_cases e : p.1 = k
    · rw [if_pos e, if_pos (r.1.trans e)]; exact ⟨r.1, r.2.1, r0⟩
    · rw [if_neg e, if_neg (fun z => e (r.1.symm.trans z))]; exact r
theorem RepN.put {K : Fg} {Hf : Hp} {k : NestedKey} {b : Addr} {v : V} {d : D} (r0 : Rep K Hf v d) (hk : KyO K Hf (k, b, v)) {xs : List NkX} {kvs : List (NestedKey × D)} (h : RepN K Hf xs kvs) : RepN K Hf (putN xs k b v) (putKD kvs k d) := by
  unfold putN putKD
  rw [(h.val k).2, valD_any]
  split
  · exact h.repl r0
  · exact Paired.snoc h ⟨rfl, hk, r0⟩
section
variable {X : Cx} {W : Wd} {pos pos' apos p : Pos} {a b o e f : Expr} {es : List Expr} {τa τb τo τe τk τx : TM} {τs : TMA} {k : Nat}
/-- {} -/
def mDNewN (w : World) : TM := fun ω ρ h P => ∀ a, h a = none → P (.fz (.raw (.ref a))) (put h a (.dcn w []))
theorem me_dnewN {w : World} (hw : X.w = w := by rfl) : ME X W (.Dict [] [] pos) (mDNewN w) := by
  subst hw
  refine ME.of pe_dnewN fun σ H Hf ρ h R P Q e q k p hp => ?_
  have s1 := e.hs.upd (a := p) (o := .dcn X.w []) (u := DnO X.w p []) (.inr hp) fun H' hq => ⟨[], hq, .nil⟩
  have m1 := Mo.upd (h := h) (H := H) (Hf := Hf) (a := p) (o := .dcn X.w []) (u := DnO X.w p []) (.inr hp)
  exact k _ _ Hf (.fz (.raw (.ref p))) _ (e.step s1 m1) m1 (Rep.raw _) (q p (e.hs.free hp))
/-- d[k] -/
def mDGetN (w : World) (τo τk : TM) : TM := fun ω ρ h P => τo ω ρ h fun x h1 => τk ω ρ h1 fun y h2 => ∃ a kvs k d, x.dat = .raw (.ref a) ∧ h2 a = some (.dcn w kvs) ∧ nkT y.dat = some k ∧ k.depth ≤ 8 ∧ valD kvs k = some d ∧ P (.fz d) h2
theorem dn_at {K : Fg} {w : World} {H Hf : Hp} {h : Hd} (s : Hs K H Hf h) {a : Addr} {kvs : List (NestedKey × D)} {k : NestedKey} {v : V} {d : D} (e : h a = some (.dcn w kvs)) (hk : nkT d = some k) (hl : k.depth ≤ 8) (r : Rep K Hf v d) : ∃ xs b, DnAt K w H a xs v k b ∧ RepN K Hf xs kvs ∧ v = .ref b ∧ KyO K Hf (k, b, v) := by
  obtain ⟨_, xs, z1, z2⟩ := s.hp a _ e
  obtain ⟨b, rfl⟩ := nkT_ref hk r
  exact ⟨xs, b, ⟨z1, fun x hx => KyO.mono s.sub (z2.ky x hx), rfl, ⟨d, r.mono s.sub, nkT_D hk⟩, hl⟩, z2, rfl, d, r, nkT_D hk, hl⟩
theorem me_dgetN {w : World} (hr : Room k X.A) (ho : ME X W o τo) (hk : ME X W e τk) (hs : NoSl e) (hw : X.w = w := by rfl) : ME X W (.Subscript o e pos) (mDGetN w τo τk) := by
  subst hw
  obtain ⟨t, po, so⟩ := ho.fz
  obtain ⟨t2, pk, sk⟩ := hk.fz
  refine ME.of (pe_dgetN hr.units po pk hs) fun σ H Hf ρ h R P Q e q k => ?_
  refine so σ H Hf ρ h R (fun x h1 => τk R.ω ρ h1 fun y h2 => ∃ a kvs k d, x = .raw (.ref a) ∧ h2 a = some (.dcn X.w kvs) ∧ nkT y.dat = some k ∧ k.depth ≤ 8 ∧ valD kvs k = some d ∧ P (.fz d) h2) _ e q fun x H1 Hf1 dx h1 e1 m1 r1 q1 => ?_
  refine sk σ H1 Hf1 ρ h1 R (fun y h2 => ∃ a kvs k d, dx = .raw (.ref a) ∧ h2 a = some (.dcn X.w kvs) ∧ nkT y = some k ∧ k.depth ≤ 8 ∧ valD kvs k = some d ∧ P (.fz d) h2) _ e1 q1 fun y H2 Hf2 dy h2 e2 m2 r2 ⟨a, kvs, kk, d, g1, g2, g3, g4, g5, g6⟩ => ?_
  subst g1
  cases r1
  obtain ⟨xs, b, y1, y2, y3, y4⟩ := dn_at e2.hs g2 g3 g4 r2
  obtain ⟨v, w1, w2⟩ := (y2.val kk).1 d g5
  exact ⟨a, xs, kk, b, v, rfl, y1, w1, k v H2 Hf2 (.fz d) h2 e2 (m1.trans m2) w2 g6⟩
/-- k in d, k not in d -/
def mDInN (w : World) (neg : Bool) (τk τo : TM) : TM := fun ω ρ h P => τk ω ρ h fun y h1 => τo ω ρ h1 fun x h2 => ∃ a kvs k, x.dat = .raw (.ref a) ∧ h2 a = some (.dcn w kvs) ∧ nkT y.dat = some k ∧ k.depth ≤ 8 ∧ P (.fz (.bl (neg != (valD kvs k).isSome))) h2
theorem dinN_run {K : Fg} {w : World} {tk to : TE} (sk : SndF K W tk τk) (so : SndF K W to τo) (neg : Bool) : SndE K W (tDInN K w neg tk to) (mDInN w neg τk τo) := by
  intro σ H Hf ρ h R P Q e q k
  refine sk σ H Hf ρ h R (fun y h1 => τo R.ω ρ h1 fun x h2 => ∃ a kvs k, x.dat = .raw (.ref a) ∧ h2 a = some (.dcn w kvs) ∧ nkT y = some k ∧ k.depth ≤ 8 ∧ P (.fz (.bl (neg != (valD kvs k).isSome))) h2) _ e q fun y H1 Hf1 dy h1 e1 m1 r1 q1 => ?_
  refine so σ H1 Hf1 ρ h1 R (fun x h2 => ∃ a kvs k, x = .raw (.ref a) ∧ h2 a = some (.dcn w kvs) ∧ nkT dy = some k ∧ k.depth ≤ 8 ∧ P (.fz (.bl (neg != (valD kvs k).isSome))) h2) _ e1 q1 fun x H2 Hf2 dx h2 e2 m2 r2 ⟨a, kvs, kk, g1, g2, g3, g4, g5⟩ => ?_
  subst g1
  cases r2
  obtain ⟨xs, b, y1, y2, y3, y4⟩ := dn_at e2.hs g2 g3 g4 (r1.mono m2.grow)
  refine ⟨a, xs, kk, b, rfl, y1, ?_⟩
  rw [(y2.val kk).2]
  exact k _ H2 Hf2 (.fz (.bl _)) h2 e2 (m1.trans m2) (.bl _) g5
theorem me_dinN {w : World} (hr : Room k X.A) (hk : ME X W a τk) (ho : ME X W b τo) (hm : behindInMarks .In b = false := by rfl) (hw : X.w = w := by rfl) : ME X W (.Compare a [.In] [b] pos) (mDInN w false τk τo) := by
  subst hw
  obtain ⟨t, po, so⟩ := ho.fz
  obtain ⟨t2, pk, sk⟩ := hk.fz
  exact ME.of (pe_cmp (pc_dinN' hr.units pk po) hm) (dinN_run sk so false)
theorem me_dnotinN {w : World} (hr : Room k X.A) (hk : ME X W a τk) (ho : ME X W b τo) (hm : behindInMarks .NotIn b = false := by rfl) (hw : X.w = w := by rfl) : ME X W (.Compare a [.NotIn] [b] pos) (mDInN w true τk τo) := by
  subst hw
  obtain ⟨t, po, so⟩ := ho.fz
  obtain ⟨t2, pk, sk⟩ := hk.fz
  exact ME.of (pe_cmp (pc_dnotinN' hr.units pk po) hm) (dinN_run sk so true)
theorem mt_dinN {w : World} (hr : Room k X.A) (hk : ME X W a τk) (ho : ME X W b τo) (hm : behindInMarks .In b = false := by rfl) (hw : X.w = w := by rfl) : MT X W (.Compare a [.In] [b] pos) (mT (mDInN w false τk τo)) := by
  subst hw
  obtain ⟨t, po, so⟩ := ho.fz
  obtain ⟨t2, pk, sk⟩ := hk.fz
  exact MT.of (pt_cmp (pc_dinN' hr.units pk po) hm) (pcT (dinN_run sk so false))
theorem mt_dnotinN {w : World} (hr : Room k X.A) (hk : ME X W a τk) (ho : ME X W b τo) (hm : behindInMarks .NotIn b = false := by rfl) (hw : X.w = w := by rfl) : MT X W (.Compare a [.NotIn] [b] pos) (mT (mDInN w true τk τo)) := by
  subst hw
  obtain ⟨t, po, so⟩ := ho.fz
  obtain ⟨t2, pk, sk⟩ := hk.fz
  exact MT.of (pt_cmp (pc_dnotinN' hr.units pk po) hm) (pcT (dinN_run sk so true))
/-- d[k] = v -/
def mDPutN (w : World) (τe τo τk : TM) : TMS := fun ω PD ρ h => τe ω ρ h fun r h1 => τo ω ρ h1 fun x h2 => τk ω ρ h2 fun y h3 => ∃ a kvs k, x.dat = .raw (.ref a) ∧ h3 a = some (.dcn w kvs) ∧ nkT y.dat = some k ∧ k.depth ≤ 8 ∧ kvs.length < 16000000 ∧ PD.nx ρ (put h3 a (.dcn w (putKD kvs k r.dat)))
theorem ms_dputN {w : World} {p2 : Pos} (hr : Room k X.A) (he : ME X W e τe) (ho : ME X W o τo) (hk : ME X W f τk) (hs : swapsWith e (some (.Subscript o f p2)) pos.line X.env = pure false := by rfl) (hw : X.w = w := by rfl) : MS X W (.Assign [.Subscript o f p2] e pos) (mDPutN w τe τo τk) := by
  subst hw
  obtain ⟨t, pe, se⟩ := he.fz
  obtain ⟨t2, po, so⟩ := ho.fz
  obtain ⟨t3, pk, sk⟩ := hk.fz
  refine MS.of (ps_dputN hr.units po pk pe hs) fun D σ H Hf R ρ h PD s q l => ?_
  refine se σ H Hf ρ h R (fun r h1 => τo R.ω ρ h1 fun x h2 => τk R.ω ρ h2 fun y h3 => ∃ a kvs k, x.dat = .raw (.ref a) ∧ h3 a = some (.dcn X.w kvs) ∧ nkT y.dat = some k ∧ k.depth ≤ 8 ∧ kvs.length < 16000000 ∧ PD.nx ρ (put h3 a (.dcn X.w (putKD kvs k r)))) _ s q fun v H1 Hf1 d h1 e1 m1 r1 q1 => ?_
  refine so σ H1 Hf1 ρ h1 R (fun x h2 => τk R.ω ρ h2 fun y h3 => ∃ a kvs k, x = .raw (.ref a) ∧ h3 a = some (.dcn X.w kvs) ∧ nkT y.dat = some k ∧ k.depth ≤ 8 ∧ kvs.length < 16000000 ∧ PD.nx ρ (put h3 a (.dcn X.w (putKD kvs k d)))) _ e1 q1 fun x H2 Hf2 dx h2 e2 m2 r2 q2 => ?_
  refine sk σ H2 Hf2 ρ h2 R (fun y h3 => ∃ a kvs k, dx = .raw (.ref a) ∧ h3 a = some (.dcn X.w kvs) ∧ nkT y = some k ∧ k.depth ≤ 8 ∧ kvs.length < 16000000 ∧ PD.nx ρ (put h3 a (.dcn X.w (putKD kvs k d)))) _ e2 q2 fun y H3 Hf3 dy h3 e3 m3 r3 ⟨a, kvs, kk, g1, g2, g3, g4, g5, g6⟩ => ?_
  subst g1
  cases r2
  obtain ⟨xs, b, y1, y2, y3, d', w1, w2, w3⟩ := dn_at e3.hs g2 g3 g4 r3
  subst y3
  refine ⟨a, xs, kk, b, rfl, y1, by rw [y2.length, sizeLine_eq]; omega, ?_⟩
  have s4 := e3.hs.upd (a := a) (o := .dcn X.w (putKD kvs kk d)) (u := DnO X.w a (putN xs kk b v)) (.inl ⟨_, g2⟩) fun H' hq => ⟨_, hq, y2.put ((r1.mono m2.grow).mono m3.grow) ⟨d', w1, w2, w3⟩⟩
  exact l.nx σ _ Hf3 ρ _ (e3.step s4 (Mo.upd (.inl ⟨_, g2⟩))) g6
end
end ML
/-! Languages of patterns; ways through edges; fragments. Plain Lean. -/
namespace Cut
open PySem L2 DL
abbrev Tx := List Nat
abbrev Lan := Tx → Prop
def Lc (A B : Lan) : Lan := fun w => ∃ u v, w = u ++ v ∧ A u ∧ B v
def Lp (A : Lan) : Nat → Lan
  | 0 => fun w => w = []
  | n + 1 => Lc (Lp A n) A
mutual
def Lg : Rx → Lan
  | .set s => fun w => ∃ c, w = [c] ∧ c ∈ s.cps.toList
  | .row ps => LgR ps
  | .any ps => LgO ps
  | .all ps => LgA ps
  | .no p => fun w => ¬ Lg p w
  | .again p lo hi => fun w => ∃ n : Nat, lo ≤ (n : Int) ∧ (∀ h, hi = some h → (n : Int) ≤ h) ∧ Lp (Lg p) n w
def LgR : List Rx → Lan
  | [] => fun w => w = []
  | p :: ps => Lc (Lg p) (LgR ps)
def LgO : List Rx → Lan
  | [] => fun _ => False
  | p :: ps => fun w => Lg p w ∨ LgO ps w
def LgA : List Rx → Lan
  | [] => fun _ => True
  | p :: ps => fun w => Lg p w ∧ LgA ps w
end
theorem Lc_assoc (A B C : Lan) (w : Tx) : Lc (Lc A B) C w ↔ Lc A (Lc B C) w := by
  constructor
  · rintro ⟨_, z, rfl, ⟨x, y, rfl, a, b⟩, c⟩
    exact ⟨x, y ++ z, by simp, a, y, z, rfl, b, c⟩
  · rintro ⟨x, _, rfl, a, y, z, rfl, b, c⟩
    exact ⟨x ++ y, z, by simp, ⟨x, y, rfl, a, b⟩, c⟩
theorem Lc_congr {A B A' B' : Lan} (h1 : ∀ w, A w ↔ A' w) (h2 : ∀ w, B w ↔ B' w) (w : Tx) : Lc A B w ↔ Lc A' B' w := by
  constructor
  · rintro ⟨u, v, e, a, b⟩; exact ⟨u, v, e, (h1 u).mp a, (h2 v).mp b⟩
  · rintro ⟨u, v, e, a, b⟩; exact ⟨u, v, e, (h1 u).mpr a, (h2 v).mpr b⟩
theorem Lc_nil_l (A : Lan) (w : Tx) : Lc (fun w => w = []) A w ↔ A w := by
  constructor
  · rintro ⟨u, v, rfl, rfl, a⟩; exact a
  · intro a; exact ⟨[], w, rfl, rfl, a⟩
theorem Lc_nil_r (A : Lan) (w : Tx) : Lc A (fun w => w = []) w ↔ A w := by
  constructor
  · rintro ⟨u, v, rfl, a, rfl⟩; simpa using a
  · intro a; exact ⟨w, [], by simp, a, rfl⟩
theorem Lp_congr {A B : Lan} (h : ∀ w, A w ↔ B w) : ∀ n w, Lp A n w ↔ Lp B n w
  | 0, w => Iff.rfl
  | n + 1, w => Lc_congr (Lp_congr h n) h w
theorem Lp_front (A : Lan) : ∀ n w, Lp A (n + 1) w ↔ Lc A (Lp A n) w
  | 0, w => by
    show Lc (fun w => w = []) A w ↔ Lc A (fun w => w = []) w
    rw [Lc_nil_l, Lc_nil_r]
  | n + 1, w => by
    show Lc (Lp A (n + 1)) A w ↔ Lc A (Lc (Lp A n) A) w
    rw [Lc_congr (Lp_front A n) (fun _ => Iff.rfl) w, Lc_assoc]
theorem Lp_add (A : Lan) (m : Nat) : ∀ n w, Lp A (m + n) w ↔ Lc (Lp A m) (Lp A n) w
  | 0, w => (Lc_nil_r _ _).symm
  | n + 1, w => by
    show Lc (Lp A (m + n)) A w ↔ Lc (Lp A m) (Lc (Lp A n) A) w
    rw [Lc_congr (Lp_add A m n) (fun _ => Iff.rfl) w, Lc_assoc]
/-! ### ways -/
abbrev Eds := Nat → Tx → Nat → Prop
inductive Pth (S : Eds) : Nat → Tx → Nat → Prop
  | nil (p : Nat) : Pth S p [] p
  | eps {p q r : Nat} {w : Tx} : S p [] q → Pth S q w r → Pth S p w r
  | chr {p q r c : Nat} {cs w : Tx} : S p cs q → c ∈ cs → Pth S q w r → Pth S p (c :: w) r
theorem Pth.mono {S T : Eds} (h : ∀ p c q, S p c q → T p c q) {p q : Nat} {w : Tx} (x : Pth S p w q) : Pth T p w q := by
  induction x with
  | nil p => exact .nil p
  | eps e _ ih => exact .eps (h _ _ _ e) ih
  | chr e m _ ih => exact .chr (h _ _ _ e) m ih
theorem Pth.trans {S : Eds} {p q r : Nat} {u v : Tx} (x : Pth S p u q) (y : Pth S q v r) : Pth S p (u ++ v) r := by
  induction x with
  | nil p => exact y
  | eps e _ ih => exact .eps e (ih y)
  | chr e m _ ih => exact .chr e m (ih y)
/-- a way whose every edge out of G is one of T that stays in G -/
theorem Pth.stay {S T : Eds} {G : Nat → Prop} (h : ∀ p c q, G p → S p c q → T p c q ∧ G q) {p q : Nat} {w : Tx} (x : Pth S p w q) (hp : G p) : Pth T p w q ∧ G q := by
  induction x with
  | nil p => exact ⟨.nil p, hp⟩
  | eps e _ ih =>
    obtain ⟨a, b⟩ := h _ _ _ hp e
    obtain ⟨c, d⟩ := ih b
    exact ⟨.eps a c, d⟩
  | chr e m _ ih =>
    obtain ⟨a, b⟩ := h _ _ _ hp e
    obtain ⟨c, d⟩ := ih b
    exact ⟨.chr a m c, d⟩
theorem Pth.stuck {S : Eds} {p q : Nat} {w : Tx} (x : Pth S p w q) (h : ∀ c r, ¬ S p c r) : w = [] ∧ q = p := by
  cases x with
  | nil => exact ⟨rfl, rfl⟩
  | eps e _ => exact absurd e (h _ _)
  | chr e _ _ => exact absurd e (h _ _)
theorem Pth.inv {S : Eds} {p q : Nat} {w : Tx} (x : Pth S p w q) : (w = [] ∧ q = p) ∨ (∃ q', S p [] q' ∧ Pth S q' w q) ∨ ∃ c cs w' q', w = c :: w' ∧ S p cs q' ∧ c ∈ cs ∧ Pth S q' w' q := by
  cases x with
  | nil => exact .inl ⟨rfl, rfl⟩
  | eps z y => exact .inr (.inl ⟨_, z, y⟩)
  | chr z m y => exact .inr (.inr ⟨_, _, _, _, rfl, z, m, y⟩)
def Un2 (S T : Eds) : Eds := fun p c q => S p c q ∨ T p c q
def Ed1 (a b : Nat) : Eds := fun p c q => p = a ∧ c = [] ∧ q = b
def EdsTo (as : List Nat) (b : Nat) : Eds := fun p c q => p ∈ as ∧ c = [] ∧ q = b
/-- a fragment: edges from s and from the new places n .. n', into new places alone; the language from s to e -/
structure Frg (S : Eds) (n n' s e : Nat) (L : Lan) : Prop where
  nn : n ≤ n'
  sn : s < n
  src : ∀ p c q, S p c q → p = s ∨ (n ≤ p ∧ p < n')
  tgt : ∀ p c q, S p c q → n ≤ q ∧ q < n'
  out : ∀ c q, ¬ S e c q
  en : e = s ∨ (n ≤ e ∧ e < n')
  lan : ∀ w, Pth S s w e ↔ L w
theorem Frg.nil {n s : Nat} (h : s < n) : Frg (fun _ _ _ => False) n n s s (fun w => w = []) :=
  ⟨Nat.le_refl _, h, fun _ _ _ z => z.elim, fun _ _ _ z => z.elim, fun _ _ z => z, .inl rfl, fun w => ⟨fun x => (x.stuck fun _ _ z => z).1, fun h => by rw [h]; exact .nil _⟩⟩
theorem Frg.congr {S : Eds} {n n' s e : Nat} {L L' : Lan} (f : Frg S n n' s e L) (h : ∀ w, L w ↔ L' w) : Frg S n n' s e L' := ⟨f.nn, f.sn, f.src, f.tgt, f.out, f.en, fun w => (f.lan w).trans (h w)⟩
theorem Frg.eds {S T : Eds} {n n' s e : Nat} {L : Lan} (f : Frg S n n' s e L) (h : ∀ p c q, S p c q ↔ T p c q) : Frg T n n' s e L :=
  ⟨f.nn, f.sn, fun p c q z => f.src p c q ((h p c q).mpr z), fun p c q z => f.tgt p c q ((h p c q).mpr z), fun c q z => f.out c q ((h _ _ _).mpr z), f.en, fun w => ⟨fun x => (f.lan w).mp (x.mono fun p c q => (h p c q).mpr), fun x => ((f.lan w).mpr x).mono fun p c q => (h p c q).mp⟩⟩
section
variable {S1 S2 : Eds} {n n1 n2 s e1 e2 : Nat} {L1 L2 : Lan}
/-- a way through a row of two: within the first, or across e1 -/
theorem cross (f1 : Frg S1 n n1 s e1 L1) (f2 : Frg S2 n1 n2 e1 e2 L2) {p q : Nat} {w : Tx} (x : Pth (Un2 S1 S2) p w q) : (p = s ∨ (n ≤ p ∧ p < n1)) → (Pth S1 p w q ∧ (q = s ∨ (n ≤ q ∧ q < n1))) ∨ ∃ u v, w = u ++ v ∧ Pth S1 p u e1 ∧ Pth S2 e1 v q ∧ n1 ≤ q := by
  have nn := f1.nn
  have sn := f1.sn
  have back : ∀ {p q : Nat} {w : Tx}, Pth (Un2 S1 S2) p w q → n1 ≤ p → Pth S2 p w q ∧ n1 ≤ q := fun x h => x.stay (fun p c q hp z => by
    rcases z with z | z
    · have := f1.src p c q z
      omega
    · exact ⟨z, (f2.tgt p c q z).1⟩) h
  induction x with
  | nil p => intro hp; exact .inl ⟨.nil p, hp⟩
  | @eps p q r w e y ih =>
    intro hp
    rcases e with e | e
    · rcases ih (.inr (f1.tgt _ _ _ e)) with ⟨a, b⟩ | ⟨u, v, h1, h2, h3, h4⟩
      · exact .inl ⟨.eps e a, b⟩
      · exact .inr ⟨u, v, h1, .eps e h2, h3, h4⟩
    · have hs := f2.src _ _ _ e
      have : p = e1 := by omega
      subst this
      obtain ⟨a, b⟩ := back y (f2.tgt _ _ _ e).1
      exact .inr ⟨[], w, rfl, .nil _, .eps e a, b⟩
  | @chr p q r c cs w e m y ih =>
    intro hp
    rcases e with e | e
    · rcases ih (.inr (f1.tgt _ _ _ e)) with ⟨a, b⟩ | ⟨u, v, h1, h2, h3, h4⟩
      · exact .inl ⟨.chr e m a, b⟩
      · exact .inr ⟨c :: u, v, by rw [h1]; rfl, .chr e m h2, h3, h4⟩
    · have hs := f2.src _ _ _ e
      have : p = e1 := by omega
      subst this
      obtain ⟨a, b⟩ := back y (f2.tgt _ _ _ e).1
      exact .inr ⟨[], c :: w, rfl, .nil _, .chr e m a, b⟩
theorem Frg.seq (f1 : Frg S1 n n1 s e1 L1) (f2 : Frg S2 n1 n2 e1 e2 L2) : Frg (Un2 S1 S2) n n2 s e2 (Lc L1 L2) := by
  have nn1 := f1.nn
  have nn2 := f2.nn
  have sn := f1.sn
  have en1 := f1.en
  have en2 := f2.en
  refine ⟨by omega, sn, fun p c q z => ?_, fun p c q z => ?_, fun c q z => ?_, by omega, fun w => ⟨fun x => ?_, ?_⟩⟩
  · rcases z with z | z
    · have := f1.src p c q z; omega
    · have := f2.src p c q z; omega
  · rcases z with z | z
    · have := f1.tgt p c q z; omega
    · have := f2.tgt p c q z; omega
  · rcases z with z | z
    · rcases en2 with h | h
      · rw [h] at z; exact f1.out c q z
      · have := f1.src _ c q z; omega
    · exact f2.out c q z
  · rcases cross f1 f2 x (.inl rfl) with ⟨a, b⟩ | ⟨u, v, h1, h2, h3, _⟩
    · rcases en2 with h | h
      · rw [h] at a
        exact ⟨w, [], by simp, (f1.lan w).mp a, (f2.lan []).mp (by rw [h]; exact .nil _)⟩
      · omega
    · exact ⟨u, v, h1, (f1.lan u).mp h2, (f2.lan v).mp h3⟩
  · rintro ⟨u, v, rfl, a, b⟩
    exact (((f1.lan u).mpr a).mono fun _ _ _ z => .inl z).trans (((f2.lan v).mpr b).mono fun _ _ _ z => .inr z)
/-- what the first part reaches is not changed by the second -/
theorem Frg.keep (f1 : Frg S1 n n1 s e1 L1) (f2 : Frg S2 n1 n2 e1 e2 L2) {q : Nat} (hq : q = s ∨ (n ≤ q ∧ q < n1)) (w : Tx) : Pth (Un2 S1 S2) s w q ↔ Pth S1 s w q := by
  have sn := f1.sn
  have nn := f1.nn
  refine ⟨fun x => ?_, fun x => x.mono fun _ _ _ z => .inl z⟩
  rcases cross f1 f2 x (.inl rfl) with ⟨a, _⟩ | ⟨u, v, h1, h2, h3, h4⟩
  · exact a
  · omega
end
/-! ### a new entry; ways that come together at a new end -/
theorem Frg.entry {S : Eds} {n n' s e : Nat} {L : Lan} (hs : s < n) (f : Frg S (n + 1) n' n e L) : Frg (Un2 (Ed1 s n) S) n n' s e L := by
  have nn := f.nn
  have en := f.en
  refine ⟨by omega, hs, fun p c q z => ?_, fun p c q z => ?_, fun c q z => ?_, .inr (by omega), fun w => ?_⟩
  · rcases z with ⟨z, _⟩ | z
    · exact .inl z
    · have := f.src p c q z; omega
  · rcases z with ⟨_, _, z⟩ | z
    · omega
    · have := f.tgt p c q z; omega
  · rcases z with ⟨z, _⟩ | z
    · omega
    · exact f.out c q z
  · rw [← f.lan w]
    have stay : ∀ {p q : Nat} {w : Tx}, Pth (Un2 (Ed1 s n) S) p w q → n ≤ p → Pth S p w q := fun x h => (x.stay (G := fun p => n ≤ p) (fun p c q hp z => by
      rcases z with ⟨z, _⟩ | z
      · omega
      · exact ⟨z, by have := (f.tgt p c q z).1; omega⟩) h).1
    refine ⟨fun x => ?_, fun x => .eps (.inl ⟨rfl, rfl, rfl⟩) (x.mono fun _ _ _ z => .inr z)⟩
    cases x with
    | nil => omega
    | eps z y =>
      rcases z with ⟨_, _, z⟩ | z
      · subst z; exact stay y (Nat.le_refl _)
      · have := f.src _ _ _ z; omega
    | chr z m y =>
      rcases z with ⟨_, z, _⟩ | z
      · rw [z] at m; cases m
      · have := f.src _ _ _ z; omega
/-- edges from s and new places into new places; ways to the ends -/
structure Fan (S : Eds) (n n' s : Nat) (es : List Nat) (L : Lan) : Prop where
  nn : n ≤ n'
  sn : s < n
  src : ∀ p c q, S p c q → p = s ∨ (n ≤ p ∧ p < n')
  tgt : ∀ p c q, S p c q → n ≤ q ∧ q < n'
  en : ∀ e ∈ es, e = s ∨ (n ≤ e ∧ e < n')
  lan : ∀ w, (∃ e ∈ es, Pth S s w e) ↔ L w
theorem Fan.nil {n s : Nat} (h : s < n) : Fan (fun _ _ _ => False) n n s [] (fun _ => False) :=
  ⟨Nat.le_refl _, h, fun _ _ _ z => z.elim, fun _ _ _ z => z.elim, fun _ z => (nomatch z), fun w => ⟨fun ⟨_, z, _⟩ => (nomatch z), fun z => z.elim⟩⟩
theorem Fan.eds {S T : Eds} {n n' s : Nat} {es : List Nat} {L : Lan} (f : Fan S n n' s es L) (h : ∀ p c q, S p c q ↔ T p c q) : Fan T n n' s es L :=
  ⟨f.nn, f.sn, fun p c q z => f.src p c q ((h p c q).mpr z), fun p c q z => f.tgt p c q ((h p c q).mpr z), f.en, fun w => ⟨fun ⟨e, he, x⟩ => (f.lan w).mp ⟨e, he, x.mono fun p c q => (h p c q).mpr⟩, fun x => let ⟨e, he, y⟩ := (f.lan w).mpr x; ⟨e, he, y.mono fun p c q => (h p c q).mp⟩⟩⟩
theorem Fan.add {S1 S2 : Eds} {n n1 n2 s e : Nat} {es : List Nat} {L1 L2 : Lan} (f1 : Fan S1 n n1 s es L1) (f2 : Frg S2 n1 n2 s e L2) : Fan (Un2 S1 S2) n n2 s (es ++ [e]) (fun w => L1 w ∨ L2 w) := by
  have nn1 := f1.nn
  have nn2 := f2.nn
  have sn := f1.sn
  have en := f2.en
  have st1 : ∀ {p q : Nat} {w : Tx}, Pth (Un2 S1 S2) p w q → (n ≤ p ∧ p < n1) → Pth S1 p w q ∧ (n ≤ q ∧ q < n1) := fun x h => x.stay (G := fun p => n ≤ p ∧ p < n1) (fun p c q hp z => by
    rcases z with z | z
    · exact ⟨z, f1.tgt p c q z⟩
    · have := f2.src p c q z; omega) h
  have st2 : ∀ {p q : Nat} {w : Tx}, Pth (Un2 S1 S2) p w q → (n1 ≤ p ∧ p < n2) → Pth S2 p w q ∧ (n1 ≤ q ∧ q < n2) := fun x h => x.stay (G := fun p => n1 ≤ p ∧ p < n2) (fun p c q hp z => by
    rcases z with z | z
    · have := f1.src p c q z; omega
    · exact ⟨z, f2.tgt p c q z⟩) h
  have split : ∀ {q : Nat} {w : Tx}, Pth (Un2 S1 S2) s w q → (q = s ∧ w = []) ∨ (Pth S1 s w q ∧ (n ≤ q ∧ q < n1)) ∨ (Pth S2 s w q ∧ (n1 ≤ q ∧ q < n2)) := fun {q w} x => by
    cases x with
    | nil => exact .inl ⟨rfl, rfl⟩
    | eps z y =>
      rcases z with z | z
      · obtain ⟨a, b⟩ := st1 y (f1.tgt _ _ _ z); exact .inr (.inl ⟨.eps z a, b⟩)
      · obtain ⟨a, b⟩ := st2 y (f2.tgt _ _ _ z); exact .inr (.inr ⟨.eps z a, b⟩)
    | chr z m y =>
      rcases z with z | z
      · obtain ⟨a, b⟩ := st1 y (f1.tgt _ _ _ z); exact .inr (.inl ⟨.chr z m a, b⟩)
      · obtain ⟨a, b⟩ := st2 y (f2.tgt _ _ _ z); exact .inr (.inr ⟨.chr z m a, b⟩)
  refine ⟨by omega, sn, fun p c q z => ?_, fun p c q z => ?_, fun x hx => ?_, fun w => ⟨?_, ?_⟩⟩
  · rcases z with z | z
    · have := f1.src p c q z; omega
    · have := f2.src p c q z; omega
  · rcases z with z | z
    · have := f1.tgt p c q z; omega
    · have := f2.tgt p c q z; omega
  · rcases List.mem_append.mp hx with hx | hx
    · have := f1.en x hx; omega
    · rw [List.mem_singleton.mp hx]; omega
  · rintro ⟨x, hx, y⟩
    rcases List.mem_append.mp hx with hx | hx
    · refine .inl ((f1.lan w).mp ⟨x, hx, ?_⟩)
      rcases split y with ⟨h1, h2⟩ | ⟨h1, _⟩ | ⟨_, h2⟩
      · rw [h1, h2]; exact .nil _
      · exact h1
      · have := f1.en x hx; omega
    · have hx := List.mem_singleton.mp hx
      subst hx
      refine .inr ((f2.lan w).mp ?_)
      rcases split y with ⟨h1, h2⟩ | ⟨_, h2⟩ | ⟨h1, _⟩
      · rw [h1, h2]; exact .nil _
      · omega
      · exact h1
  · rintro (h | h)
    · obtain ⟨x, hx, y⟩ := (f1.lan w).mpr h
      exact ⟨x, List.mem_append_left _ hx, y.mono fun _ _ _ z => .inl z⟩
    · exact ⟨e, List.mem_append_right _ (List.mem_singleton.mpr rfl), ((f2.lan w).mpr h).mono fun _ _ _ z => .inr z⟩
/-- all ends lead to a new place -/
theorem Fan.close {S : Eds} {n n' s : Nat} {es : List Nat} {L : Lan} (f : Fan S n n' s es L) : Frg (Un2 S (EdsTo es n')) n (n' + 1) s n' L := by
  have nn := f.nn
  have sn := f.sn
  have lst : ∀ {p q : Nat} {w : Tx}, Pth (Un2 S (EdsTo es n')) p w q → q = n' → p < n' → ∃ e ∈ es, Pth S p w e := fun x => by
    have stuck : ∀ {q : Nat} {w : Tx}, Pth (Un2 S (EdsTo es n')) n' w q → w = [] := fun x => (x.stuck fun c r z => by
      rcases z with z | z
      · have := f.src _ _ _ z; omega
      · have := f.en _ z.1; omega).1
    induction x with
    | nil p => intro h1 h2; omega
    | eps z y ih =>
      intro h1 h2
      rcases z with z | z
      · obtain ⟨e, he, a⟩ := ih h1 (f.tgt _ _ _ z).2
        exact ⟨e, he, .eps z a⟩
      · obtain ⟨z1, _, z3⟩ := z
        subst z3
        rw [stuck y]
        exact ⟨_, z1, .nil _⟩
    | chr z m y ih =>
      intro h1 h2
      rcases z with z | z
      · obtain ⟨e, he, a⟩ := ih h1 (f.tgt _ _ _ z).2
        exact ⟨e, he, .chr z m a⟩
      · rw [z.2.1] at m; cases m
  refine ⟨by omega, sn, fun p c q z => ?_, fun p c q z => ?_, fun c q z => ?_, .inr (by omega), fun w => ?_⟩
  · rcases z with z | z
    · have := f.src p c q z; omega
    · have := f.en _ z.1; omega
  · rcases z with z | z
    · have := f.tgt p c q z; omega
    · have := z.2.2; omega
  · rcases z with z | z
    · have := f.src _ _ _ z; omega
    · have := f.en _ z.1; omega
  · rw [← f.lan w]
    refine ⟨fun x => lst x rfl (by omega), fun ⟨e, he, x⟩ => ?_⟩
    have := (x.mono fun _ _ _ z => .inl z : Pth (Un2 S (EdsTo es n')) s w e).trans (.eps (.inr ⟨he, rfl, rfl⟩) (.nil n'))
    simpa using this
/-! ### copies one behind another; a loop -/
structure Chn (S : Eds) (n n' s e : Nat) (es : List Nat) (L : Lan) (lo k : Nat) : Prop where
  fr : Frg S n n' s e (Lp L k)
  en : ∀ x ∈ es, x = s ∨ (n ≤ x ∧ x < n')
  lan : ∀ w, (∃ x ∈ es, Pth S s w x) ↔ ∃ j, lo ≤ j ∧ j ≤ k ∧ Lp L j w
theorem Chn.nil {n s lo : Nat} {L : Lan} (h : s < n) : Chn (fun _ _ _ => False) n n s s (if lo = 0 then [s] else []) L lo 0 := by
  refine ⟨Frg.nil h, fun x hx => ?_, fun w => ?_⟩
  · split at hx
    · exact .inl (List.mem_singleton.mp hx)
    · cases hx
  · constructor
    · rintro ⟨x, hx, y⟩
      split at hx
      · rename_i h0
        refine ⟨0, by omega, Nat.le_refl _, ?_⟩
        exact (y.stuck fun _ _ z => z).1
      · cases hx
    · rintro ⟨j, h1, h2, h3⟩
      have : j = 0 := by omega
      subst this
      have h3 : w = [] := h3
      rw [if_pos (by omega), h3]
      exact ⟨s, List.mem_singleton.mpr rfl, .nil _⟩
theorem Chn.add {S1 S2 : Eds} {n n1 n2 s e1 e2 lo k : Nat} {es : List Nat} {L : Lan} (c : Chn S1 n n1 s e1 es L lo k) (f2 : Frg S2 n1 n2 e1 e2 L) : Chn (Un2 S1 S2) n n2 s e2 (es ++ (if lo ≤ k + 1 then [e2] else [])) L lo (k + 1) := by
  have F := c.fr.seq f2
  have nn2 := f2.nn
  refine ⟨F, fun x hx => ?_, fun w => ?_⟩
  · rcases List.mem_append.mp hx with hx | hx
    · have := c.en x hx; omega
    · split at hx
      · rw [List.mem_singleton.mp hx]; exact F.en
      · cases hx
  · constructor
    · rintro ⟨x, hx, y⟩
      rcases List.mem_append.mp hx with hx | hx
      · obtain ⟨j, h1, h2, h3⟩ := (c.lan w).mp ⟨x, hx, (c.fr.keep f2 (c.en x hx) w).mp y⟩
        exact ⟨j, h1, by omega, h3⟩
      · split at hx
        · rename_i hlo
          rw [List.mem_singleton.mp hx] at y
          exact ⟨k + 1, hlo, Nat.le_refl _, (F.lan w).mp y⟩
        · cases hx
    · rintro ⟨j, h1, h2, h3⟩
      by_cases hj : j = k + 1
      · subst hj
        rw [if_pos h1]
        exact ⟨e2, List.mem_append_right _ (List.mem_singleton.mpr rfl), (F.lan w).mpr h3⟩
      · obtain ⟨x, hx, y⟩ := (c.lan w).mpr ⟨j, h1, by omega, h3⟩
        exact ⟨x, List.mem_append_left _ hx, y.mono fun _ _ _ z => .inl z⟩
theorem Chn.fan {S : Eds} {n n' s e lo k : Nat} {es : List Nat} {L : Lan} (c : Chn S n n' s e es L lo k) : Fan S n n' s es (fun w => ∃ j, lo ≤ j ∧ j ≤ k ∧ Lp L j w) := ⟨c.fr.nn, c.fr.sn, c.fr.src, c.fr.tgt, c.en, c.lan⟩
/-- P, a part from P, and back -/
theorem loop_lan {S : Eds} {n n' P e : Nat} {L : Lan} (f : Frg S n n' P e L) (w : Tx) : Pth (Un2 S (Ed1 e P)) P w P ↔ ∃ j, Lp L j w := by
  have sn := f.sn
  have go : ∀ {p q : Nat} {w : Tx}, Pth (Un2 S (Ed1 e P)) p w q → q = P → (p = P ∧ w = []) ∨ ∃ u v j, w = u ++ v ∧ Pth S p u e ∧ Lp L j v := fun x => by
    induction x with
    | nil p => intro h; exact .inl ⟨h, rfl⟩
    | @eps p q r w z y ih =>
      intro h
      rcases z with z | z
      · rcases ih h with ⟨h1, _⟩ | ⟨u, v, j, h1, h2, h3⟩
        · have := f.tgt _ _ _ z; omega
        · exact .inr ⟨u, v, j, h1, .eps z h2, h3⟩
      · obtain ⟨z1, _, z3⟩ := z
        subst z1
        rcases ih h with ⟨_, h2⟩ | ⟨u, v, j, h1, h2, h3⟩
        · exact .inr ⟨[], [], 0, by rw [h2]; rfl, .nil _, rfl⟩
        · rw [z3] at h2
          exact .inr ⟨[], w, j + 1, rfl, .nil _, (Lp_front L j w).mpr ⟨u, v, h1, (f.lan u).mp h2, h3⟩⟩
    | @chr p q r c cs w z m y ih =>
      intro h
      rcases z with z | z
      · rcases ih h with ⟨h1, _⟩ | ⟨u, v, j, h1, h2, h3⟩
        · have := f.tgt _ _ _ z; omega
        · exact .inr ⟨c :: u, v, j, by rw [h1]; rfl, .chr z m h2, h3⟩
      · rw [z.2.1] at m; cases m
  constructor
  · intro x
    rcases go x rfl with ⟨_, h⟩ | ⟨u, v, j, h1, h2, h3⟩
    · exact ⟨0, h⟩
    · exact ⟨j + 1, (Lp_front L j w).mpr ⟨u, v, h1, (f.lan u).mp h2, h3⟩⟩
  · rintro ⟨j, h⟩
    induction j generalizing w with
    | zero =>
      have h : w = [] := h
      rw [h]; exact .nil _
    | succ j ih =>
      obtain ⟨u, v, rfl, a, b⟩ := h
      have y : Pth (Un2 S (Ed1 e P)) P v e := ((f.lan v).mpr b).mono fun _ _ _ z => .inl z
      have z := y.trans (.eps (.inr ⟨rfl, rfl, rfl⟩) (.nil P))
      rw [List.append_nil] at z
      exact (ih u a).trans z
/-- s to a new place n, around there, and on to a new end -/
theorem Frg.around {S : Eds} {n n' s e : Nat} {L : Lan} (hs : s < n) (f : Frg S (n + 1) n' n e L) : Frg (Un2 (Ed1 s n) (Un2 (Un2 S (Ed1 e n)) (Ed1 n n'))) n (n' + 1) s n' (fun w => ∃ j, Lp L j w) := by
  have nn := f.nn
  have en := f.en
  refine ⟨by omega, hs, fun p c q z => ?_, fun p c q z => ?_, fun c q z => ?_, .inr (by omega), fun w => ?_⟩
  · rcases z with ⟨z, _⟩ | (z | ⟨z, _⟩) | ⟨z, _⟩
    · exact .inl z
    · have := f.src p c q z; omega
    · omega
    · omega
  · rcases z with ⟨_, _, z⟩ | (z | ⟨_, _, z⟩) | ⟨_, _, z⟩
    · omega
    · have := f.tgt p c q z; omega
    · omega
    · omega
  · rcases z with ⟨z, _⟩ | (z | ⟨z, _⟩) | ⟨z, _⟩
    · omega
    · have := f.src _ _ _ z; omega
    · omega
    · omega
  · rw [← loop_lan f w]
    have stuck : ∀ {q : Nat} {w : Tx}, Pth (Un2 (Ed1 s n) (Un2 (Un2 S (Ed1 e n)) (Ed1 n n'))) n' w q → w = [] := fun x => (x.stuck fun c r z => by
      rcases z with ⟨z, _⟩ | (z | ⟨z, _⟩) | ⟨z, _⟩
      · omega
      · have := f.src _ _ _ z; omega
      · omega
      · omega).1
    have go : ∀ {p q : Nat} {w : Tx}, Pth (Un2 (Ed1 s n) (Un2 (Un2 S (Ed1 e n)) (Ed1 n n'))) p w q → q = n' → n ≤ p → p < n' → Pth (Un2 S (Ed1 e n)) p w n := fun x => by
      induction x with
      | nil p => intro h1 h2 h3; omega
      | @eps p q r w z y ih =>
        intro h1 h2 h3
        rcases z with ⟨z, _⟩ | z | ⟨z1, _, z3⟩
        · omega
        · have hq : n ≤ q ∧ q < n' := by
            rcases z with z | ⟨_, _, z⟩
            · have := f.tgt _ _ _ z; exact ⟨by omega, this.2⟩
            · rw [z]; exact ⟨Nat.le_refl _, by omega⟩
          exact .eps z (ih h1 hq.1 hq.2)
        · subst z1 z3
          rw [stuck y]; exact .nil _
      | @chr p q r c cs w z m y ih =>
        intro h1 h2 h3
        rcases z with ⟨z, _⟩ | z | ⟨_, z, _⟩
        · omega
        · have hq : n ≤ q ∧ q < n' := by
            rcases z with z | ⟨_, z, _⟩
            · have := f.tgt _ _ _ z; exact ⟨by omega, this.2⟩
            · rw [z] at m; cases m
          exact .chr z m (ih h1 hq.1 hq.2)
        · rw [z] at m; cases m
    refine ⟨fun x => ?_, fun x => ?_⟩
    · cases x with
      | nil => omega
      | eps z y =>
        rcases z with ⟨_, _, z⟩ | (z | ⟨z, _⟩) | ⟨z, _⟩
        · rw [z] at y; exact go y rfl (Nat.le_refl _) (by omega)
        · have := f.src _ _ _ z; omega
        · omega
        · omega
      | chr z m y =>
        rcases z with ⟨_, z, _⟩ | (z | ⟨z, _⟩) | ⟨z, _⟩
        · rw [z] at m; cases m
        · have := f.src _ _ _ z; omega
        · omega
        · omega
    · have y : Pth (Un2 (Ed1 s n) (Un2 (Un2 S (Ed1 e n)) (Ed1 n n'))) n w n := x.mono fun _ _ _ z => .inr (.inl z)
      have z := Pth.eps (.inl ⟨rfl, rfl, rfl⟩) (y.trans (.eps (.inr (.inr ⟨rfl, rfl, rfl⟩)) (.nil n')))
      rw [List.append_nil] at z
      exact z
end Cut
/-! The moves of a plain pattern, as the program adds them. Plain Lean. -/
namespace Cut
open PySem L2 DL
abbrev Mvs := List (List (Str × Nat))
def addE (M : Mvs) (p : Nat) (t : Str) (q : Nat) : Mvs := M.modify p fun l => l ++ [(t, q)]
def addA (M : Mvs) (es : List Nat) (q : Nat) : Mvs := es.foldl (fun M e => addE M e Str.empty q) M
def copies (f : Mvs → Nat → Mvs × Nat) (lo : Nat) : Nat → Mvs → Nat → Mvs × Nat × List Nat
  | 0, M, s => (M, s, if lo = 0 then [s] else [])
  | k + 1, M, s =>
    let r := copies f lo k M s
    let t := f r.1 r.2.1
    (t.1, t.2, r.2.2 ++ if lo ≤ k + 1 then [t.2] else [])
def around (f : Mvs → Nat → Mvs × Nat) (M : Mvs) (s : Nat) : Mvs × Nat :=
  let t := f (addE (M ++ [[]]) s Str.empty M.length) M.length
  (addE t.1 t.2 Str.empty M.length, M.length)
def closeA (M : Mvs) (es : List Nat) : Mvs × Nat := (addA (M ++ [[]]) es M.length, M.length)
mutual
def addM : Rx → Mvs → Nat → Mvs × Nat
  | .set t, M, s => ((if t = Str.empty then addE (M ++ [[]]) s Str.empty M.length ++ [[]] else addE (addE (M ++ [[]]) s Str.empty M.length ++ [[]]) M.length t (M.length + 1)), M.length + 1)
  | .row ps, M, s => addR ps M s
  | .any ps, M, s =>
    let r := addO ps (addE (M ++ [[]]) s Str.empty M.length) M.length
    closeA r.1 r.2
  | .all _, M, s => (M, s)
  | .no _, M, s => (M, s)
  | .again p lo hi, M, s =>
    match hi with
    | some h =>
      let r := copies (addM p) lo.toNat h.toNat (addE (M ++ [[]]) s Str.empty M.length) M.length
      closeA r.1 r.2.2
    | none =>
      let r := copies (addM p) lo.toNat lo.toNat (addE (M ++ [[]]) s Str.empty M.length) M.length
      let t := around (addM p) r.1 r.2.1
      closeA t.1 [t.2]
def addR : List Rx → Mvs → Nat → Mvs × Nat
  | [], M, s => (M, s)
  | p :: ps, M, s => addR ps (addM p M s).1 (addM p M s).2
def addO : List Rx → Mvs → Nat → Mvs × List Nat
  | [], M, _ => (M, [])
  | p :: ps, M, s => ((addO ps (addM p M s).1 s).1, (addM p M s).2 :: (addO ps (addM p M s).1 s).2)
end
/-- the edges of a table of moves -/
def EM (M : Mvs) : Eds := fun p c q => ∃ l t, M[p]? = some l ∧ (t, q) ∈ l ∧ t.cps.toList = c
theorem EM_snoc (M : Mvs) (p : Nat) (c : Tx) (q : Nat) : EM (M ++ [[]]) p c q ↔ EM M p c q := by
  constructor
  · rintro ⟨l, t, h1, h2, h3⟩
    rw [List.getElem?_append] at h1
    split at h1
    · exact ⟨l, t, h1, h2, h3⟩
    · have := List.mem_of_getElem? h1
      rw [List.mem_singleton.mp this] at h2
      cases h2
  · rintro ⟨l, t, h1, h2, h3⟩
    obtain ⟨hp, _⟩ := List.getElem?_eq_some_iff.mp h1
    exact ⟨l, t, by rw [List.getElem?_append_left hp]; exact h1, h2, h3⟩
theorem addE_len (M : Mvs) (p : Nat) (t : Str) (q : Nat) : (addE M p t q).length = M.length := by unfold addE; rw [List.length_modify]
theorem EM_addE {M : Mvs} {a : Nat} (ha : a < M.length) (t : Str) (b p : Nat) (c : Tx) (q : Nat) : EM (addE M a t b) p c q ↔ EM M p c q ∨ (p = a ∧ c = t.cps.toList ∧ q = b) := by
  unfold EM addE
  rw [List.getElem?_modify]
  constructor
  · rintro ⟨l, u, h1, h2, h3⟩
    obtain ⟨l0, h4, h5⟩ := Option.map_eq_some_iff.mp h1
    by_cases e : a = p
    · rw [if_pos e] at h5
      subst h5
      rcases List.mem_append.mp h2 with h2 | h2
      · exact .inl ⟨l0, u, h4, h2, h3⟩
      · have h2 := List.mem_singleton.mp h2
        injection h2 with h6 h7
        exact .inr ⟨e.symm, by rw [← h3, h6], h7⟩
    · rw [if_neg e] at h5
      have h5 : l0 = l := h5
      subst h5
      exact .inl ⟨l0, u, h4, h2, h3⟩
  · rintro (⟨l, u, h1, h2, h3⟩ | ⟨rfl, rfl, rfl⟩)
    · refine ⟨_, u, by rw [h1]; rfl, ?_, h3⟩
      show (u, q) ∈ if a = p then l ++ [(t, b)] else l
      by_cases e : a = p
      · rw [if_pos e]; exact List.mem_append_left _ h2
      · rw [if_neg e]; exact h2
    · exact ⟨_, t, by rw [List.getElem?_eq_getElem ha]; rfl, by show (t, q) ∈ if p = p then _ ++ [(t, q)] else _; rw [if_pos rfl]; exact List.mem_append_right _ (List.mem_singleton.mpr rfl), rfl⟩
theorem addA_len : ∀ (es : List Nat) (M : Mvs) (q : Nat), (addA M es q).length = M.length
  | [], M, q => rfl
  | e :: es, M, q => by
    show (addA (addE M e Str.empty q) es q).length = _
    rw [addA_len es, addE_len]
theorem EM_addA : ∀ (es : List Nat) (M : Mvs) (b : Nat), (∀ e ∈ es, e < M.length) → ∀ p c q, EM (addA M es b) p c q ↔ EM M p c q ∨ EdsTo es b p c q
  | [], M, b, _, p, c, q => ⟨fun h => .inl h, fun h => by rcases h with h | ⟨h, _⟩; exact h; cases h⟩
  | e :: es, M, b, h, p, c, q => by
    show EM (addA (addE M e Str.empty b) es b) p c q ↔ _
    rw [EM_addA es _ b (fun x hx => by rw [addE_len]; exact h x (List.mem_cons_of_mem _ hx)) p c q, EM_addE (h e (List.mem_cons_self ..))]
    have hn : (Str.empty).cps.toList = [] := rfl
    rw [hn]
    unfold EdsTo
    rw [List.mem_cons]
    constructor
    · rintro ((h | ⟨h1, h2, h3⟩) | ⟨h1, h2, h3⟩)
      · exact .inl h
      · exact .inr ⟨.inl h1, h2, h3⟩
      · exact .inr ⟨.inr h1, h2, h3⟩
    · rintro (h | ⟨h1 | h1, h2, h3⟩)
      · exact .inl (.inl h)
      · exact .inl (.inr ⟨h1, h2, h3⟩)
      · exact .inr ⟨h1, h2, h3⟩
/-- a table that has grown by a fragment -/
def Grw (M M' : Mvs) (s e : Nat) (L : Lan) : Prop := ∃ S, Frg S M.length M'.length s e L ∧ ∀ p c q, EM M' p c q ↔ EM M p c q ∨ S p c q
def GrwF (M M' : Mvs) (s : Nat) (es : List Nat) (L : Lan) : Prop := ∃ S, Fan S M.length M'.length s es L ∧ ∀ p c q, EM M' p c q ↔ EM M p c q ∨ S p c q
def GrwC (M M' : Mvs) (s e : Nat) (es : List Nat) (L : Lan) (lo k : Nat) : Prop := ∃ S, Chn S M.length M'.length s e es L lo k ∧ ∀ p c q, EM M' p c q ↔ EM M p c q ∨ S p c q
theorem Grw.nil {M : Mvs} {s : Nat} (h : s < M.length) : Grw M M s s (fun w => w = []) := ⟨_, Frg.nil h, fun _ _ _ => ⟨.inl, fun h => h.elim id False.elim⟩⟩
theorem Grw.seq {M M1 M2 : Mvs} {s e1 e2 : Nat} {L1 L2 : Lan} (a : Grw M M1 s e1 L1) (b : Grw M1 M2 e1 e2 L2) : Grw M M2 s e2 (Lc L1 L2) := by
  obtain ⟨S1, f1, h1⟩ := a
  obtain ⟨S2, f2, h2⟩ := b
  refine ⟨_, f1.seq f2, fun p c q => ?_⟩
  rw [h2, h1]
  exact or_assoc
theorem Grw.lt {M M' : Mvs} {s e : Nat} {L : Lan} (a : Grw M M' s e L) : e < M'.length ∧ M.length ≤ M'.length := by
  obtain ⟨S, f, _⟩ := a
  have := f.en
  have := f.sn
  have := f.nn
  omega
theorem Grw.congr {M M' : Mvs} {s e : Nat} {L L' : Lan} (a : Grw M M' s e L) (h : ∀ w, L w ↔ L' w) : Grw M M' s e L' := let ⟨S, f, e⟩ := a; ⟨S, f.congr h, e⟩
theorem Grw.entry {M M' : Mvs} {s e : Nat} {L : Lan} (hs : s < M.length) (a : Grw (addE (M ++ [[]]) s Str.empty M.length) M' M.length e L) : Grw M M' s e L := by
  obtain ⟨S, f, h⟩ := a
  rw [addE_len, List.length_append, List.length_singleton] at f
  refine ⟨_, f.entry hs, fun p c q => ?_⟩
  rw [h, EM_addE (by rw [List.length_append, List.length_singleton]; omega), EM_snoc]
  exact or_assoc
theorem GrwF.close {M M' : Mvs} {s : Nat} {es : List Nat} {L : Lan} (a : GrwF M M' s es L) : Grw M (closeA M' es).1 s (closeA M' es).2 L := by
  obtain ⟨S, f, h⟩ := a
  have nn := f.nn
  have sn := f.sn
  have hes : ∀ e ∈ es, e < M'.length := fun e he => by have := f.en e he; omega
  refine ⟨Un2 S (EdsTo es M'.length), ?_, fun p c q => ?_⟩
  · show Frg _ _ (addA _ _ _).length _ _ _
    rw [addA_len, List.length_append, List.length_singleton]
    exact f.close
  · show EM (addA (M' ++ [[]]) es M'.length) p c q ↔ _
    rw [EM_addA es _ _ (fun e he => by rw [List.length_append, List.length_singleton]; have := hes e he; omega), EM_snoc, h]
    exact or_assoc
theorem GrwC.nil {M : Mvs} {s lo : Nat} {L : Lan} (h : s < M.length) : GrwC M M s s (if lo = 0 then [s] else []) L lo 0 := ⟨_, Chn.nil h, fun _ _ _ => ⟨.inl, fun h => h.elim id False.elim⟩⟩
theorem GrwC.add {M M1 M2 : Mvs} {s e1 e2 lo k : Nat} {es : List Nat} {L : Lan} (a : GrwC M M1 s e1 es L lo k) (b : Grw M1 M2 e1 e2 L) : GrwC M M2 s e2 (es ++ if lo ≤ k + 1 then [e2] else []) L lo (k + 1) := by
  obtain ⟨S1, f1, h1⟩ := a
  obtain ⟨S2, f2, h2⟩ := b
  refine ⟨_, f1.add f2, fun p c q => ?_⟩
  rw [h2, h1]
  exact or_assoc
theorem GrwC.fan {M M1 : Mvs} {s e lo k : Nat} {es : List Nat} {L : Lan} (a : GrwC M M1 s e es L lo k) : GrwF M M1 s es (fun w => ∃ j, lo ≤ j ∧ j ≤ k ∧ Lp L j w) := let ⟨S, f, h⟩ := a; ⟨S, f.fan, h⟩
theorem GrwC.grw {M M1 : Mvs} {s e lo k : Nat} {es : List Nat} {L : Lan} (a : GrwC M M1 s e es L lo k) : Grw M M1 s e (Lp L k) := let ⟨S, f, h⟩ := a; ⟨S, f.fr, h⟩
theorem copies_ok {f : Mvs → Nat → Mvs × Nat} {L : Lan} (hf : ∀ M s, s < M.length → Grw M (f M s).1 s (f M s).2 L) (lo : Nat) : ∀ (k : Nat) (M : Mvs) (s : Nat), s < M.length → GrwC M (copies f lo k M s).1 s (copies f lo k M s).2.1 (copies f lo k M s).2.2 L lo k
  | 0, M, s, h => GrwC.nil h
  | k + 1, M, s, h => by
    have ih := copies_ok hf lo k M s h
    exact ih.add (hf _ _ ih.grw.lt.1)
theorem around_ok {f : Mvs → Nat → Mvs × Nat} {L : Lan} (hf : ∀ M s, s < M.length → Grw M (f M s).1 s (f M s).2 L) {M : Mvs} {s : Nat} (h : s < M.length) : Grw M (closeA (around f M s).1 [(around f M s).2]).1 s (closeA (around f M s).1 [(around f M s).2]).2 (fun w => ∃ j, Lp L j w) := by
  have hl : (addE (M ++ [[]]) s Str.empty M.length).length = M.length + 1 := by rw [addE_len, List.length_append, List.length_singleton]
  have g := hf (addE (M ++ [[]]) s Str.empty M.length) M.length (by omega)
  obtain ⟨lt1, lt2⟩ := g.lt
  obtain ⟨S, fr, he⟩ := g
  rw [hl] at fr lt2
  have nn := fr.nn
  refine ⟨_, by
    show Frg _ _ (addA (addE _ _ _ _ ++ [[]]) _ _).length _ (addE _ _ _ _).length _
    rw [addA_len, List.length_append, List.length_singleton, addE_len]
    exact fr.around h, fun p c q => ?_⟩
  show EM (addA (addE (f _ _).1 (f _ _).2 Str.empty M.length ++ [[]]) [M.length] (addE (f _ _).1 (f _ _).2 Str.empty M.length).length) p c q ↔ _
  rw [EM_addA _ _ _ (fun e hx => by rw [List.mem_singleton.mp hx, List.length_append, List.length_singleton, addE_len]; omega), EM_snoc, EM_addE lt1, he, EM_addE (by rw [List.length_append, List.length_singleton]; omega), EM_snoc, addE_len]
  have hn : (Str.empty).cps.toList = [] := rfl
  unfold Un2 Ed1 EdsTo
  rw [hn, List.mem_singleton]
  constructor
  · rintro ((((h | h) | h) | h) | h)
    · exact .inl h
    · exact .inr (.inl h)
    · exact .inr (.inr (.inl (.inl h)))
    · exact .inr (.inr (.inl (.inr h)))
    · exact .inr (.inr (.inr h))
  · rintro (h | h | (h | h) | h)
    · exact .inl (.inl (.inl (.inl h)))
    · exact .inl (.inl (.inl (.inr h)))
    · exact .inl (.inl (.inr h))
    · exact .inl (.inr h)
    · exact .inr h
theorem set_ok {M : Mvs} {s : Nat} (t : Str) (h : s < M.length) : Grw M (addM (.set t) M s).1 s (addM (.set t) M s).2 (Lg (.set t)) := by
  refine Grw.entry h ?_
  rw [addM]
  generalize hM : addE (M ++ [[]]) s Str.empty M.length = M1
  have hl : M1.length = M.length + 1 := by rw [← hM, addE_len, List.length_append, List.length_singleton]
  by_cases ht : t = Str.empty
  · refine ⟨fun _ _ _ => False, ?_, fun p c q => ?_⟩
    · rw [if_pos ht, List.length_append, List.length_singleton, hl]
      refine ⟨by omega, by omega, fun _ _ _ z => z.elim, fun _ _ _ z => z.elim, fun _ _ z => z, .inr (by omega), fun w => ⟨fun x => ?_, fun ⟨c, _, z⟩ => ?_⟩⟩
      · have := (x.stuck fun _ _ z => z).2; omega
      · rw [ht] at z; cases z
    · rw [if_pos ht, EM_snoc]; exact ⟨.inl, fun h => h.elim id False.elim⟩
  · have htn : t.cps.toList ≠ [] := fun z => ht (str_ext z)
    refine ⟨fun p c q => p = M.length ∧ c = t.cps.toList ∧ q = M.length + 1, ?_, fun p c q => ?_⟩
    · rw [if_neg ht, addE_len, List.length_append, List.length_singleton, hl]
      refine ⟨by omega, by omega, fun _ _ _ z => .inl z.1, fun _ _ _ z => by omega, fun _ _ z => by omega, .inr (by omega), fun w => ⟨fun x => ?_, fun ⟨c, hc, z⟩ => ?_⟩⟩
      · rcases x.inv with ⟨_, z⟩ | ⟨q, z, _⟩ | ⟨c, cs, w', q, rfl, z, m, y⟩
        · omega
        · exact absurd z.2.1.symm htn
        · have hq := z.2.2
          subst hq
          obtain ⟨h1, _⟩ := y.stuck fun _ _ z => by omega
          rw [h1]
          exact ⟨_, rfl, by rw [z.2.1] at m; exact m⟩
      · rw [hc]
        exact .chr ⟨rfl, rfl, rfl⟩ z (.nil _)
    · rw [if_neg ht, EM_addE (by rw [List.length_append, List.length_singleton]; omega), EM_snoc]
mutual
theorem addM_ok : ∀ (r : Rx), plain r = true → okR r = true → ∀ (M : Mvs) (s : Nat), s < M.length → Grw M (addM r M s).1 s (addM r M s).2 (Lg r)
  | .set t, _, _, M, s, h => set_ok t h
  | .row ps, hp, ho, M, s, h => by
    rw [plain] at hp
    rw [okR, Bool.and_eq_true] at ho
    rw [addM]
    exact addR_ok ps hp ho.2 M s h
  | .any ps, hp, ho, M, s, h => by
    rw [plain] at hp
    rw [okR, Bool.and_eq_true] at ho
    rw [addM]
    refine Grw.entry h ?_
    have g := addO_ok ps hp ho.2 (addE (M ++ [[]]) s Str.empty M.length) M.length (by rw [addE_len, List.length_append, List.length_singleton]; omega) (addE (M ++ [[]]) s Str.empty M.length) [] (fun _ => False) ⟨_, Fan.nil (by rw [addE_len, List.length_append, List.length_singleton]; omega), fun _ _ _ => ⟨.inl, fun h => h.elim id False.elim⟩⟩
    exact g.close.congr fun w => ⟨fun h => h.elim False.elim id, .inr⟩
  | .all _, hp, _, _, _, _ => by rw [plain] at hp; cases hp
  | .no _, hp, _, _, _, _ => by rw [plain] at hp; cases hp
  | .again p lo hi, hp, ho, M, s, h => by
    rw [plain] at hp
    rw [okR, Bool.and_eq_true, Bool.and_eq_true, Bool.and_eq_true] at ho
    obtain ⟨⟨⟨ho1, ho2⟩, ho3⟩, ho4⟩ := ho
    have l0 : 0 ≤ lo := of_decide_eq_true ho2
    have ih := addM_ok p hp ho1
    have hs : M.length < (addE (M ++ [[]]) s Str.empty M.length).length := by rw [addE_len, List.length_append, List.length_singleton]; omega
    cases hi with
    | some v =>
      rw [hiOk, Bool.and_eq_true] at ho4
      have h1 : lo ≤ v := of_decide_eq_true ho4.1
      rw [addM]
      refine Grw.entry h ?_
      refine (copies_ok ih lo.toNat v.toNat _ _ hs).fan.close.congr fun w => ⟨fun ⟨j, a, b, c⟩ => ⟨j, by omega, fun u hu => by cases hu; omega, c⟩, fun ⟨j, a, b, c⟩ => ⟨j, by omega, ?_, c⟩⟩
      have := b v rfl
      omega
    | none =>
      rw [addM]
      refine Grw.entry h ?_
      have g := copies_ok ih lo.toNat lo.toNat _ _ hs
      refine (g.grw.seq (around_ok ih g.grw.lt.1)).congr fun w => ⟨?_, ?_⟩
      · rintro ⟨u, v, e, a, j, b⟩
        exact ⟨lo.toNat + j, by omega, (fun u hu => by cases hu), (Lp_add _ _ _ _).mpr ⟨u, v, e, a, b⟩⟩
      · rintro ⟨n, a, _, b⟩
        obtain ⟨j, rfl⟩ : ∃ j, n = lo.toNat + j := ⟨n - lo.toNat, by omega⟩
        obtain ⟨u, v, e, x, y⟩ := (Lp_add _ _ _ _).mp b
        exact ⟨u, v, e, x, j, y⟩
theorem addR_ok : ∀ (ps : List Rx), (plainL ps).all id = true → okRL ps = true → ∀ (M : Mvs) (s : Nat), s < M.length → Grw M (addR ps M s).1 s (addR ps M s).2 (LgR ps)
  | [], _, _, M, s, h => Grw.nil h
  | p :: ps, hp, ho, M, s, h => by
    rw [plainL, List.all_cons, Bool.and_eq_true] at hp
    rw [okRL, Bool.and_eq_true] at ho
    rw [addR]
    have g := addM_ok p hp.1 ho.1 M s h
    exact g.seq (addR_ok ps hp.2 ho.2 _ _ g.lt.1)
theorem addO_ok : ∀ (ps : List Rx), (plainL ps).all id = true → okRL ps = true → ∀ (M0 : Mvs) (s : Nat), s < M0.length → ∀ (M : Mvs) (es : List Nat) (L : Lan), GrwF M0 M s es L → GrwF M0 (addO ps M s).1 s (es ++ (addO ps M s).2) (fun w => L w ∨ LgO ps w)
  | [], _, _, M0, s, h, M, es, L, g => by
    rw [addO, List.append_nil]
    obtain ⟨S, f, e⟩ := g
    exact ⟨S, ⟨f.nn, f.sn, f.src, f.tgt, f.en, fun w => (f.lan w).trans ⟨.inl, fun h => h.elim id False.elim⟩⟩, e⟩
  | p :: ps, hp, ho, M0, s, h, M, es, L, g => by
    rw [plainL, List.all_cons, Bool.and_eq_true] at hp
    rw [okRL, Bool.and_eq_true] at ho
    rw [addO]
    obtain ⟨S, f, e⟩ := g
    have hsM : s < M.length := by have := f.sn; have := f.nn; omega
    obtain ⟨S2, f2, e2⟩ := addM_ok p hp.1 ho.1 M s hsM
    have g2 : GrwF M0 (addM p M s).1 s (es ++ [(addM p M s).2]) (fun w => L w ∨ Lg p w) := ⟨_, f.add f2, fun p c q => by rw [e2, e]; exact or_assoc⟩
    have g3 := addO_ok ps hp.2 ho.2 M0 s h _ _ _ g2
    rw [List.append_assoc] at g3
    obtain ⟨S3, f3, e3⟩ := g3
    exact ⟨S3, ⟨f3.nn, f3.sn, f3.src, f3.tgt, f3.en, fun w => (f3.lan w).trans or_assoc⟩, e3⟩
end
/-- the table of a plain pattern -/
def tab (r : Rx) : Mvs := (addM r [[]] 0).1
def gol (r : Rx) : Nat := (addM r [[]] 0).2
theorem tab_lan {r : Rx} (hp : plain r = true) (ho : okR r = true) (w : Tx) : Pth (EM (tab r)) 0 w (gol r) ↔ Lg r w := by
  obtain ⟨S, f, e⟩ := addM_ok r hp ho [[]] 0 (by decide)
  rw [← f.lan w]
  have h0 : ∀ p c q, ¬ EM [[]] p c q := fun p c q ⟨l, t, h1, h2, _⟩ => by
    have := List.mem_of_getElem? h1
    rw [List.mem_singleton.mp this] at h2
    cases h2
  have e' : ∀ p c q, EM (tab r) p c q ↔ S p c q := fun p c q => (e p c q).trans ⟨fun h => h.elim (fun z => absurd z (h0 _ _ _)) id, .inr⟩
  exact ⟨fun x => x.mono fun p c q => (e' p c q).mp, fun x => x.mono fun p c q => (e' p c q).mpr⟩
theorem tab_lt {r : Rx} (hp : plain r = true) (ho : okR r = true) : gol r < (tab r).length ∧ 0 < (tab r).length ∧ ∀ p c q, EM (tab r) p c q → p < (tab r).length ∧ q < (tab r).length := by
  have g := addM_ok r hp ho [[]] 0 (by decide)
  obtain ⟨l1, l2⟩ := g.lt
  obtain ⟨S, f, e⟩ := g
  have l3 : ([[]] : Mvs).length = 1 := rfl
  refine ⟨l1, by have : 1 ≤ (tab r).length := l2; omega, fun p c q z => ?_⟩
  rcases (e p c q).mp z with ⟨l, t, h1, h2, _⟩ | z
  · have := List.mem_of_getElem? h1
    rw [List.mem_singleton.mp this] at h2
    cases h2
  · have h1 := f.src p c q z
    have h2 := f.tgt p c q z
    have h3 := f.nn
    have h4 : ([[]] : Mvs).length ≤ (tab r).length := l2
    exact ⟨by unfold tab; omega, h2.2⟩
end Cut
/-! How many places and moves a pattern adds. Plain Lean. -/
namespace Cut
open PySem L2 DL
def tot (M : Mvs) : Nat := M.length + (M.map List.length).sum
theorem tot_snoc (M : Mvs) : tot (M ++ [[]]) = tot M + 1 := by unfold tot; simp; omega
theorem sum_modify : ∀ (l : Mvs) (p : Nat) (e : Str × Nat), ((l.modify p fun x => x ++ [e]).map List.length).sum ≤ (l.map List.length).sum + 1
  | [], p, e => by simp
  | x :: l, 0, e => by simp; omega
  | x :: l, p + 1, e => by
    have := sum_modify l p e
    simp only [List.modify_succ_cons, List.map_cons, List.sum_cons]
    omega
theorem tot_addE (M : Mvs) (p : Nat) (t : Str) (q : Nat) : tot (addE M p t q) ≤ tot M + 1 := by
  have := sum_modify M p (t, q)
  have h2 := addE_len M p t q
  unfold tot
  unfold addE at *
  omega
theorem tot_addA : ∀ (es : List Nat) (M : Mvs) (q : Nat), tot (addA M es q) ≤ tot M + es.length
  | [], M, q => Nat.le_refl _
  | e :: es, M, q => by
    have h1 := tot_addA es (addE M e Str.empty q) q
    have h2 := tot_addE M e Str.empty q
    show tot (addA (addE M e Str.empty q) es q) ≤ _
    rw [List.length_cons]
    omega
theorem tot_close (M : Mvs) (es : List Nat) : tot (closeA M es).1 ≤ tot M + 1 + es.length := by
  have := tot_addA es (M ++ [[]]) M.length
  rw [tot_snoc] at this
  exact this
/-- how often an again's part is copied -/
def cps (lo : Int) (hi : Option Int) : Nat := match hi with
  | some h => h.toNat
  | none => lo.toNat + 1
mutual
def cost : Rx → Nat
  | .set _ => 4
  | .row ps => costL ps
  | .any ps => 3 + ps.length + costL ps
  | .all _ => 0
  | .no _ => 0
  | .again p lo hi => 7 + cps lo hi + cps lo hi * cost p
def costL : List Rx → Nat
  | [] => 0
  | p :: ps => cost p + costL ps
end
theorem costL_mem : ∀ {ps : List Rx} {p : Rx}, p ∈ ps → cost p ≤ costL ps
  | q :: qs, p, h => by
    rw [costL]
    rcases List.mem_cons.mp h with e | e
    · rw [e]; omega
    · have := costL_mem e; omega
theorem copies_tot {f : Mvs → Nat → Mvs × Nat} {c : Nat} (hf : ∀ M s, tot (f M s).1 ≤ tot M + c) (lo : Nat) : ∀ (k : Nat) (M : Mvs) (s : Nat), tot (copies f lo k M s).1 ≤ tot M + k * c ∧ (copies f lo k M s).2.2.length ≤ k + 1
  | 0, M, s => by
    refine ⟨by simp [copies], ?_⟩
    show (if lo = 0 then [s] else []).length ≤ 1
    split <;> simp
  | k + 1, M, s => by
    obtain ⟨h1, h2⟩ := copies_tot hf lo k M s
    have h3 := hf (copies f lo k M s).1 (copies f lo k M s).2.1
    refine ⟨?_, ?_⟩
    · show tot (f _ _).1 ≤ _
      rw [Nat.succ_mul]
      omega
    · show (_ ++ if lo ≤ k + 1 then [_] else []).length ≤ _
      rw [List.length_append]
      split <;> simp <;> omega
mutual
theorem addM_tot : ∀ (r : Rx) (M : Mvs) (s : Nat), tot (addM r M s).1 ≤ tot M + cost r
  | .set t, M, s => by
    have h1 := tot_addE (M ++ [[]]) s Str.empty M.length
    have h2 := tot_addE (addE (M ++ [[]]) s Str.empty M.length ++ [[]]) M.length t (M.length + 1)
    rw [tot_snoc] at h1 h2
    rw [addM, cost]
    try dsimp only
    split
    · rw [tot_snoc]; omega
    · omega
  | .row ps, M, s => by rw [addM, cost]; exact addR_tot ps M s
  | .any ps, M, s => by
    have h1 := tot_addE (M ++ [[]]) s Str.empty M.length
    rw [tot_snoc] at h1
    obtain ⟨h2, h3⟩ := addO_tot ps (addE (M ++ [[]]) s Str.empty M.length) M.length
    have h4 := tot_close (addO ps (addE (M ++ [[]]) s Str.empty M.length) M.length).1 (addO ps (addE (M ++ [[]]) s Str.empty M.length) M.length).2
    rw [addM, cost]
    try dsimp only
    omega
  | .all _, M, s => by rw [addM, cost]; exact Nat.le_refl _
  | .no _, M, s => by rw [addM, cost]; exact Nat.le_refl _
  | .again p lo (some h), M, s => by
    have h1 := tot_addE (M ++ [[]]) s Str.empty M.length
    rw [tot_snoc] at h1
    obtain ⟨h2, h3⟩ := copies_tot (addM_tot p) lo.toNat h.toNat (addE (M ++ [[]]) s Str.empty M.length) M.length
    have h4 := tot_close (copies (addM p) lo.toNat h.toNat (addE (M ++ [[]]) s Str.empty M.length) M.length).1 (copies (addM p) lo.toNat h.toNat (addE (M ++ [[]]) s Str.empty M.length) M.length).2.2
    rw [addM, cost, cps]
    try dsimp only
    omega
  | .again p lo none, M, s => by
    have h1 := tot_addE (M ++ [[]]) s Str.empty M.length
    rw [tot_snoc] at h1
    obtain ⟨h2, h3⟩ := copies_tot (addM_tot p) lo.toNat lo.toNat (addE (M ++ [[]]) s Str.empty M.length) M.length
    rw [addM, cost, cps]
    try dsimp only
    generalize copies (addM p) lo.toNat lo.toNat (addE (M ++ [[]]) s Str.empty M.length) M.length = r at h2 h3
    have h4 := tot_addE (r.1 ++ [[]]) r.2.1 Str.empty r.1.length
    rw [tot_snoc] at h4
    have h5 := addM_tot p (addE (r.1 ++ [[]]) r.2.1 Str.empty r.1.length) r.1.length
    have h6 := tot_addE (addM p (addE (r.1 ++ [[]]) r.2.1 Str.empty r.1.length) r.1.length).1 (addM p (addE (r.1 ++ [[]]) r.2.1 Str.empty r.1.length) r.1.length).2 Str.empty r.1.length
    have h7 := tot_close (around (addM p) r.1 r.2.1).1 [(around (addM p) r.1 r.2.1).2]
    have h8 : tot (around (addM p) r.1 r.2.1).1 ≤ tot r.1 + 1 + 1 + cost p + 1 := by
      show tot (addE _ _ _ _) ≤ _
      omega
    rw [Nat.succ_mul]
    rw [List.length_singleton] at h7
    omega
theorem addR_tot : ∀ (ps : List Rx) (M : Mvs) (s : Nat), tot (addR ps M s).1 ≤ tot M + costL ps
  | [], M, s => by rw [addR, costL]; exact Nat.le_refl _
  | p :: ps, M, s => by
    have h1 := addM_tot p M s
    have h2 := addR_tot ps (addM p M s).1 (addM p M s).2
    rw [addR, costL]
    omega
theorem addO_tot : ∀ (ps : List Rx) (M : Mvs) (s : Nat), tot (addO ps M s).1 ≤ tot M + costL ps ∧ (addO ps M s).2.length = ps.length
  | [], M, s => by rw [addO, costL]; exact ⟨Nat.le_refl _, rfl⟩
  | p :: ps, M, s => by
    have h1 := addM_tot p M s
    obtain ⟨h2, h3⟩ := addO_tot ps (addM p M s).1 s
    rw [addO, costL]
    exact ⟨by dsimp only; omega, by rw [List.length_cons, h3, List.length_cons]⟩
end
theorem tot_len (M : Mvs) : M.length ≤ tot M := by unfold tot; omega
theorem sum_mem : ∀ {l : List Nat} {x : Nat}, x ∈ l → x ≤ l.sum
  | y :: l, x, h => by
    rw [List.sum_cons]
    rcases List.mem_cons.mp h with e | e
    · rw [e]; omega
    · have := sum_mem e; omega
theorem tot_row {M : Mvs} {l : List (Str × Nat)} {p : Nat} (h : M[p]? = some l) : l.length ≤ tot M := by
  have := sum_mem (List.mem_map.mpr ⟨l, List.mem_of_getElem? h, rfl⟩ : l.length ∈ M.map List.length)
  unfold tot
  omega
end Cut
/-! What is reached; states of a matcher. Plain Lean. -/
namespace Cut
open PySem L2 DL
/-- a truth as a bool -/
noncomputable def tru (p : Prop) : Bool := @decide p (Classical.propDecidable p)
theorem tru_iff {p : Prop} : tru p = true ↔ p := @decide_eq_true_iff p (Classical.propDecidable p)
theorem tru_congr {p q : Prop} (h : p ↔ q) : tru p = tru q := by rw [propext h]
/-- the places that are reached, ascending -/
noncomputable def rch (M : Mvs) (R : Nat → Prop) : List Nat := (List.range M.length).filter fun x => tru (R x)
theorem mem_rch {M : Mvs} {R : Nat → Prop} {x : Nat} : x ∈ rch M R ↔ x < M.length ∧ R x := by
  unfold rch
  rw [List.mem_filter, List.mem_range, tru_iff]
theorem rch_sorted (M : Mvs) (R : Nat → Prop) : (rch M R).Pairwise (· < ·) := (List.pairwise_lt_range).filter _
theorem rch_congr {M : Mvs} {R R' : Nat → Prop} (h : ∀ x, x < M.length → (R x ↔ R' x)) : rch M R = rch M R' := by
  unfold rch
  refine List.filter_congr fun x hx => ?_
  exact tru_congr (h x (List.mem_range.mp hx))
theorem sorted_eq : ∀ {xs ys : List Nat}, xs.Pairwise (· < ·) → ys.Pairwise (· < ·) → (∀ x, x ∈ xs ↔ x ∈ ys) → xs = ys
  | [], [], _, _, _ => rfl
  | [], y :: ys, _, _, h => absurd ((h y).mpr (List.mem_cons_self ..)) (by simp)
  | x :: xs, [], _, _, h => absurd ((h x).mp (List.mem_cons_self ..)) (by simp)
  | x :: xs, y :: ys, h1, h2, h => by
    rw [List.pairwise_cons] at h1 h2
    have exy : x = y := by
      rcases List.mem_cons.mp ((h x).mp (List.mem_cons_self ..)) with e | e
      · exact e
      · rcases List.mem_cons.mp ((h y).mpr (List.mem_cons_self ..)) with e' | e'
        · exact e'.symm
        · have := h1.1 y e'
          have := h2.1 x e
          omega
    subst exy
    rw [sorted_eq h1.2 h2.2 fun z => ?_]
    constructor
    · intro hz
      rcases List.mem_cons.mp ((h z).mp (List.mem_cons_of_mem _ hz)) with e | e
      · have := h1.1 z hz; omega
      · exact e
    · intro hz
      rcases List.mem_cons.mp ((h z).mpr (List.mem_cons_of_mem _ hz)) with e | e
      · have := h2.1 z hz; omega
      · exact e
/-- a list of places, sorted -/
theorem sorted_rch {M : Mvs} {R : Nat → Prop} {ks : List Nat} {ys : List Int} (nd : ks.Nodup) (hk : ∀ x, x ∈ ks ↔ x < M.length ∧ R x) (hp : ys.Perm (ks.map fun k : Nat => (k : Int))) (hs : ys.Pairwise (· ≤ ·)) : ys = (rch M R).map fun k : Nat => (k : Int) := by
  have h1 : ys = (ys.map Int.toNat).map fun k : Nat => (k : Int) := by
    rw [List.map_map]
    conv => lhs; rw [← List.map_id ys]
    refine List.map_congr_left fun y hy => ?_
    obtain ⟨k, _, rfl⟩ := List.mem_map.mp (hp.mem_iff.mp hy)
    simp
  have hp2 : (ys.map Int.toNat).Perm ks := by
    have := hp.map Int.toNat
    rw [List.map_map] at this
    have e : ks.map (Int.toNat ∘ fun k : Nat => (k : Int)) = ks := by
      conv => rhs; rw [← List.map_id ks]
      refine List.map_congr_left fun y hy => ?_
      simp
    rw [e] at this
    exact this
  rw [h1]
  congr 1
  refine sorted_eq ?_ (rch_sorted M R) fun x => ?_
  · have nd2 : (ys.map Int.toNat).Nodup := hp2.nodup_iff.mpr nd
    have hs2 : (ys.map Int.toNat).Pairwise (· ≤ ·) := by
      rw [List.pairwise_map]
      exact hs.imp fun {a b} h => by omega
    exact (hs2.and nd2).imp fun {a b} h => by omega
  · rw [hp2.mem_iff, hk, mem_rch]
/-- the closure of some places -/
noncomputable def clo (M : Mvs) (ps : List Nat) : List Nat := rch M fun x => ∃ p ∈ ps, Pth (EM M) p [] x
/-- behind a text -/
noncomputable def run (M : Mvs) (w : Tx) : List Nat := rch M fun x => Pth (EM M) 0 w x
/-- where a character leads from some places -/
def stp (M : Mvs) (xs : List Nat) (c : Nat) : List Nat := xs.flatMap fun x => ((M.getD x []).filter fun e => decide (e.1 ≠ Str.empty) && decide (c ∈ e.1.cps.toList)).map (·.2)
theorem Pth.split {S : Eds} {p q : Nat} {w : Tx} {c : Nat} (x : Pth S p (w ++ [c]) q) : ∃ a cs b, Pth S p w a ∧ S a cs b ∧ c ∈ cs ∧ Pth S b [] q := by
  generalize e : w ++ [c] = v at x
  induction x generalizing w with
  | nil p => simp at e
  | eps z y ih =>
    obtain ⟨a, cs, b, h1, h2, h3, h4⟩ := ih e
    exact ⟨a, cs, b, .eps z h1, h2, h3, h4⟩
  | chr z m y ih =>
    cases w with
    | nil =>
      simp at e
      obtain ⟨rfl, rfl⟩ := e
      exact ⟨_, _, _, .nil _, z, m, y⟩
    | cons d w =>
      simp at e
      obtain ⟨rfl, e⟩ := e
      obtain ⟨a, cs, b, h1, h2, h3, h4⟩ := ih e
      exact ⟨a, cs, b, .chr z m h1, h2, h3, h4⟩
theorem mem_stp {M : Mvs} {xs : List Nat} {c q : Nat} : q ∈ stp M xs c ↔ ∃ x ∈ xs, ∃ cs, EM M x cs q ∧ c ∈ cs := by
  unfold stp
  rw [List.mem_flatMap]
  constructor
  · rintro ⟨x, hx, h⟩
    obtain ⟨e, he, rfl⟩ := List.mem_map.mp h
    obtain ⟨he, hc⟩ := List.mem_filter.mp he
    rw [Bool.and_eq_true] at hc
    cases hm : M[x]? with
    | none => rw [List.getD_eq_getElem?_getD, hm] at he; cases he
    | some l =>
      rw [List.getD_eq_getElem?_getD, hm] at he
      exact ⟨x, hx, e.1.cps.toList, ⟨l, e.1, hm, he, rfl⟩, of_decide_eq_true hc.2⟩
  · rintro ⟨x, hx, cs, ⟨l, t, h1, h2, rfl⟩, hc⟩
    refine ⟨x, hx, List.mem_map.mpr ⟨(t, q), List.mem_filter.mpr ⟨by rw [List.getD_eq_getElem?_getD, h1]; exact h2, ?_⟩, rfl⟩⟩
    rw [Bool.and_eq_true]
    exact ⟨decide_eq_true (fun (z : t = Str.empty) => by rw [z] at hc; cases hc), decide_eq_true hc⟩
theorem run_nil (M : Mvs) : clo M [0] = run M [] := rch_congr fun x _ => ⟨fun ⟨p, hp, h⟩ => by rw [List.mem_singleton.mp hp] at h; exact h, fun h => ⟨0, List.mem_singleton.mpr rfl, h⟩⟩
theorem run_snoc {M : Mvs} (hl : ∀ p c q, EM M p c q → p < M.length ∧ q < M.length) (w : Tx) (c : Nat) : clo M (stp M (run M w) c) = run M (w ++ [c]) := by
  refine rch_congr fun x _ => ⟨?_, fun h => ?_⟩
  · rintro ⟨p, hp, h⟩
    obtain ⟨y, hy, cs, h1, h2⟩ := mem_stp.mp hp
    have h3 := (mem_rch.mp hy).2
    exact h3.trans (.chr h1 h2 h)
  · obtain ⟨a, cs, b, h1, h2, h3, h4⟩ := h.split
    exact ⟨b, mem_stp.mpr ⟨a, mem_rch.mpr ⟨(hl _ _ _ h2).1, h1⟩, cs, h2, h3⟩, h4⟩
end Cut
/-! Costs of valid patterns. Plain Lean. -/
namespace Cut
open PySem L2 DL
mutual
def costA : Rx → Nat
  | .set s => cost (.set s)
  | .row ps => cost (.row ps)
  | .again p lo hi => cost (.again p lo hi)
  | .any ps => cost (.any ps) + costAL ps
  | .all ps => costAL ps
  | .no p => costA p
def costAL : List Rx → Nat
  | [] => 0
  | p :: ps => costA p + costAL ps
end
theorem costAL_mem : ∀ {ps : List Rx} {p : Rx}, p ∈ ps → costA p ≤ costAL ps
  | q :: qs, p, h => by
    rw [costAL]
    rcases List.mem_cons.mp h with e | e
    · rw [e]; omega
    · have := costAL_mem e; omega
theorem costA_plain {r : Rx} (h : plain r = true) : cost r ≤ costA r := by
  cases r with
  | set s => exact Nat.le_refl _
  | row ps => exact Nat.le_refl _
  | again p lo hi => exact Nat.le_refl _
  | any ps => rw [costA]; omega
  | all ps => rw [plain] at h; cases h
  | no p => rw [plain] at h; cases h
theorem costA_parts {r : Rx} (h : plain r = false) (hh : hasP r = true) : ∀ p ∈ r.parts, costA p ≤ costA r ∧ hasP p = true := by
  intro p hp
  cases r with
  | set s => rw [plain] at h; cases h
  | row ps => rw [plain] at h; rw [hasP, h] at hh; cases hh
  | again p lo hi => rw [plain] at h; rw [hasP, h] at hh; cases hh
  | any ps =>
    have := costAL_mem (show p ∈ ps from hp)
    rw [hasP, hasPL_map, List.all_eq_true] at hh
    exact ⟨by rw [costA]; omega, hh _ (List.mem_map.mpr ⟨p, hp, rfl⟩)⟩
  | all ps =>
    have := costAL_mem (show p ∈ ps from hp)
    rw [hasP, hasPL_map, List.all_eq_true] at hh
    exact ⟨by rw [costA]; exact this, hh _ (List.mem_map.mpr ⟨p, hp, rfl⟩)⟩
  | no q =>
    rw [hasP] at hh
    rw [List.mem_singleton.mp (show p ∈ [q] from hp)]
    exact ⟨by rw [costA]; exact Nat.le_refl _, hh⟩
end Cut
/-! Truths of patterns; the sum of the moves of some places. Plain Lean. -/
namespace Cut
open PySem L2 DL
theorem tru_not (p : Prop) : (!tru p) = tru (¬ p) := by
  rw [Bool.eq_iff_iff, tru_iff, Bool.not_eq_true', Bool.eq_false_iff]
  exact not_congr tru_iff
theorem tru_or (p q : Prop) : (tru p || tru q) = tru (p ∨ q) := by
  rw [Bool.eq_iff_iff, Bool.or_eq_true, tru_iff, tru_iff, tru_iff]
theorem tru_and (p q : Prop) : (tru p && tru q) = tru (p ∧ q) := by
  rw [Bool.eq_iff_iff, Bool.and_eq_true, tru_iff, tru_iff, tru_iff]
theorem tru_any (w : Tx) : ∀ ps : List Rx, (ps.map fun p => tru (Lg p w)).any id = tru (LgO ps w)
  | [] => by rw [LgO]; exact (Bool.eq_false_iff.mpr fun z => tru_iff.mp z).symm
  | p :: ps => by
    rw [List.map_cons, List.any_cons, tru_any w ps, LgO, ← tru_or]; rfl
theorem tru_all (w : Tx) : ∀ ps : List Rx, (ps.map fun p => tru (Lg p w)).all id = tru (LgA ps w)
  | [] => by rw [LgA]; exact (tru_iff.mpr trivial).symm
  | p :: ps => by
    rw [List.map_cons, List.all_cons, tru_all w ps, LgA, ← tru_and]; rfl
theorem tru_dec {p : Prop} [h : Decidable p] : tru p = decide p := by
  rw [Bool.eq_iff_iff, tru_iff, decide_eq_true_iff]
def lens (M : Mvs) (xs : List Nat) : Nat := (xs.map fun x => (M.getD x []).length).sum
theorem sum_filter_le (f : Nat → Nat) (p : Nat → Bool) : ∀ l : List Nat, ((l.filter p).map f).sum ≤ (l.map f).sum
  | [] => Nat.le_refl _
  | x :: l => by
    have := sum_filter_le f p l
    rw [List.filter_cons]
    split
    · rw [List.map_cons, List.sum_cons, List.map_cons, List.sum_cons]; omega
    · rw [List.map_cons, List.sum_cons]; omega
theorem range_lens (M : Mvs) : (List.range M.length).map (fun x => (M.getD x []).length) = M.map List.length := by
  refine List.ext_getElem (by simp) fun i h1 h2 => ?_
  simp at h1 h2
  simp [h1]
theorem lens_rch (M : Mvs) (R : Nat → Prop) : lens M (rch M R) ≤ tot M := by
  have := sum_filter_le (fun x => (M.getD x []).length) (fun x => tru (R x)) (List.range M.length)
  rw [range_lens] at this
  unfold lens rch tot
  omega
/-- the first character that is not in an alphabet -/
def bad (A S : Tx) : Option Nat := S.findIdx? fun c => decide (c ∉ A)
end Cut
namespace Cut
open PySem L2 DL ML
local macro_rules | `(tactic| walk_at "m") => `(tactic| repeat (first | with_reducible refine ⟨_, rfl, ?_⟩ | refine ⟨_, rfl, ?_⟩ | refine ⟨rfl, ?_⟩ | refine ⟨_, _, rfl, rfl, ?_⟩ | refine ⟨_, _, rfl, ?_⟩ | refine iteT ?_ | refine iteF ?_ | refine ⟨⟨_, rfl⟩, ?_⟩ | refine ⟨Nat.le_of_ble_eq_true rfl, ?_⟩ | refine ⟨(by decide), ?_⟩ | refine ⟨_, ix_t0 _ _, ?_⟩ | refine ⟨_, ix_l0 _ _, ?_⟩))
abbrev s_add_row : Stmt := top 7
abbrev N_add_row : List Str := ["moves", "start", "parts", "place", "part"]
theorem sc_add_row : FnScope N_add_row ["moves", "start", "parts"] (defScope s_add_row) := ⟨rfl, rfl, rfl, by decide +kernel, rfl, by decide +kernel, by decide +kernel⟩
abbrev s_add_any : Stmt := top 8
abbrev N_add_any : List Str := ["moves", "start", "parts", "ends", "part", "end"]
theorem sc_add_any : FnScope N_add_any ["moves", "start", "parts"] (defScope s_add_any) := ⟨rfl, rfl, rfl, by decide +kernel, rfl, by decide +kernel, by decide +kernel⟩
abbrev s_add_again : Stmt := top 9
abbrev N_add_again : List Str := ["moves", "start", "expression", "word", "part", "low", "high", "place", "ends", "count", "end"]
theorem sc_add_again : FnScope N_add_again ["moves", "start", "expression"] (defScope s_add_again) := ⟨rfl, rfl, rfl, by decide +kernel, rfl, by decide +kernel, by decide +kernel⟩
abbrev s_add_moves : Stmt := top 10
abbrev N_add_moves : List Str := ["moves", "start", "expression", "word", "parts", "entry"]
theorem sc_add_moves : FnScope N_add_moves ["moves", "start", "expression"] (defScope s_add_moves) := ⟨rfl, rfl, rfl, by decide +kernel, rfl, by decide +kernel, by decide +kernel⟩
def edD (e : Str × Nat) : D := .tup [.str e.1, .int (e.2 : Nat)]
abbrev rw1 (a : Addr) : D := .raw (.ref a)
/-- the table of moves as lists of one's own -/
structure MvO (h : Hd) (m : Addr) (as : List Addr) (M : Mvs) : Prop where
  top : h m = some (.lst (as.map rw1))
  len : as.length = M.length
  row : ∀ (i : Nat) (a : Addr) (l : List (Str × Nat)), as[i]? = some a → M[i]? = some l → h a = some (.lst (l.map edD))
  nm : m ∉ as
  nd : as.Nodup
structure Grh (m : Addr) (h h' : Hd) (as as' : List Addr) : Prop where
  fr : ∀ b o, h b = some o → b ≠ m → b ∉ as → h' b = some o
  nw : ∀ a ∈ as', a ∈ as ∨ h a = none
  kp : ∀ a ∈ as, a ∈ as'
theorem Grh.refl (m : Addr) (h : Hd) (as : List Addr) : Grh m h h as as := ⟨fun _ _ q _ _ => q, fun _ q => .inl q, fun _ q => q⟩
theorem MvO.known {h : Hd} {m : Addr} {as : List Addr} {M : Mvs} (x : MvO h m as M) {a : Addr} (ha : a ∈ as) : ∃ o, h a = some o := by
  obtain ⟨i, hi⟩ := List.mem_iff_getElem?.mp ha
  have : i < M.length := by rw [← x.len]; exact (List.getElem?_eq_some_iff.mp hi).1
  exact ⟨_, x.row i a _ hi (List.getElem?_eq_getElem this)⟩
theorem Grh.trans {m : Addr} {h h1 h2 : Hd} {as as1 as2 : List Addr} {M1 : Mvs} (g1 : Grh m h h1 as as1) (o1 : MvO h1 m as1 M1) (g2 : Grh m h1 h2 as1 as2) : Grh m h h2 as as2 := by
  refine ⟨fun b o q hb hn => g2.fr b o (g1.fr b o q hb hn) hb fun z => ?_, fun a ha => ?_, fun a ha => g2.kp a (g1.kp a ha)⟩
  · rcases g1.nw b z with z | z
    · exact hn z
    · rw [q] at z; cases z
  · rcases g2.nw a ha with z | z
    · exact g1.nw a z
    · cases e : h a with
      | none => exact .inr rfl
      | some o =>
        by_cases hm : a = m
        · rw [hm, o1.top] at z; cases z
        · by_cases hi : a ∈ as
          · exact .inl hi
          · rw [g1.fr a o e hm hi] at z; cases z
theorem Grh.gone {m : Addr} {h h1 : Hd} {as as1 : List Addr} {M1 : Mvs} (g1 : Grh m h h1 as as1) (o1 : MvO h1 m as1 M1) {b : Addr} (hb : h1 b = none) : h b = none := by
  cases e : h b with
  | none => rfl
  | some o =>
    by_cases hm : b = m
    · rw [hm, o1.top] at hb; cases hb
    · by_cases hi : b ∈ as
      · obtain ⟨o, z⟩ := o1.known (g1.kp b hi)
        rw [hb] at z; cases z
      · rw [g1.fr b o e hm hi] at hb; cases hb
/-- moves.append([]) -/
theorem MvO.snoc {h : Hd} {m a : Addr} {as : List Addr} {M : Mvs} (x : MvO h m as M) (ha : h a = none) : MvO (put (put h a (.lst [])) m (.lst (as.map rw1 ++ [rw1 a]))) m (as ++ [a]) (M ++ [[]]) ∧ Grh m h (put (put h a (.lst [])) m (.lst (as.map rw1 ++ [rw1 a]))) as (as ++ [a]) := by
  have ham : a ≠ m := fun z => by rw [z, x.top] at ha; cases ha
  have haa : a ∉ as := fun z => by obtain ⟨o, e⟩ := x.known z; rw [ha] at e; cases e
  refine ⟨⟨?_, ?_, fun i b l h1 h2 => ?_, ?_, ?_⟩, fun b o q hb hn => ?_, fun b hb => ?_, fun b hb => List.mem_append_left _ hb⟩
  · rw [put_same, List.map_append]; rfl
  · simp [x.len]
  · rw [List.getElem?_append] at h1
    split at h1
    · rename_i hi
      rw [List.getElem?_append_left (by rw [← x.len]; exact hi)] at h2
      have hb : b ∈ as := List.mem_of_getElem? h1
      rw [put_ne (fun (z : b = m) => x.nm (z ▸ hb)), put_ne (fun (z : b = a) => haa (z ▸ hb))]
      exact x.row i b l h1 h2
    · rename_i hi
      rw [List.getElem?_append_right (by rw [← x.len]; omega)] at h2
      have e1 := List.mem_singleton.mp (List.mem_of_getElem? h1)
      have e2 := List.mem_singleton.mp (List.mem_of_getElem? h2)
      rw [e1, e2, put_ne ham, put_same]
      rfl
  · intro z
    rcases List.mem_append.mp z with z | z
    · exact x.nm z
    · exact ham (List.mem_singleton.mp z).symm
  · exact List.nodup_append.mpr ⟨x.nd, by simp, fun b hb c hc z => haa (by rw [← List.mem_singleton.mp hc, ← z]; exact hb)⟩
  · rw [put_ne hb, put_ne (hd_ne q ha)]; exact q
  · rcases List.mem_append.mp hb with hb | hb
    · exact .inl hb
    · rw [List.mem_singleton.mp hb]; exact .inr ha
/-- moves[p].append((t, q)) -/
theorem MvO.edge {h : Hd} {m a : Addr} {as : List Addr} {M : Mvs} {p : Nat} {l : List (Str × Nat)} (x : MvO h m as M) (h1 : as[p]? = some a) (h2 : M[p]? = some l) (t : Str) (q : Nat) : MvO (put h a (.lst (l.map edD ++ [edD (t, q)]))) m as (addE M p t q) ∧ Grh m h (put h a (.lst (l.map edD ++ [edD (t, q)]))) as as := by
  have ha : a ∈ as := List.mem_of_getElem? h1
  refine ⟨⟨?_, ?_, fun i b k g1 g2 => ?_, x.nm, x.nd⟩, fun b o z hb hn => ?_, fun b hb => .inl hb, fun b hb => hb⟩
  · rw [put_ne (fun (z : m = a) => x.nm (z ▸ ha))]; exact x.top
  · rw [addE_len]; exact x.len
  · unfold addE at g2
    rw [List.getElem?_modify] at g2
    obtain ⟨k0, e1, e2⟩ := Option.map_eq_some_iff.mp g2
    by_cases hp : p = i
    · subst hp
      rw [h1] at g1
      cases g1
      rw [h2] at e1
      cases e1
      rw [if_pos rfl] at e2
      rw [put_same, ← e2]
      simp
    · rw [if_neg hp] at e2
      have e2 : k0 = k := e2
      subst e2
      have hba : b ≠ a := fun z => by
        subst z
        obtain ⟨l1, e1'⟩ := List.getElem?_eq_some_iff.mp h1
        obtain ⟨l2, e2'⟩ := List.getElem?_eq_some_iff.mp g1
        rcases Nat.lt_or_gt_of_ne hp with hlt | hlt
        · exact List.pairwise_iff_getElem.mp x.nd p i l1 l2 hlt (e1'.trans e2'.symm)
        · exact List.pairwise_iff_getElem.mp x.nd i p l2 l1 hlt (e2'.trans e1'.symm)
      rw [put_ne hba]
      exact x.row i b k0 g1 e1
  · rw [put_ne (fun (y : b = a) => hn (y ▸ ha))]; exact z
theorem MvO.get {h : Hd} {m : Addr} {as : List Addr} {M : Mvs} {p : Nat} (x : MvO h m as M) (hp : p < M.length) : ∃ a l, as[p]? = some a ∧ M[p]? = some l ∧ h a = some (.lst (l.map edD)) ∧ atI (as.map rw1) (p : Nat) = some (rw1 a) ∧ l.length ≤ tot M := by
  have hp' : p < as.length := by rw [x.len]; exact hp
  refine ⟨as[p], M[p], List.getElem?_eq_getElem hp', List.getElem?_eq_getElem hp, x.row p _ _ (List.getElem?_eq_getElem hp') (List.getElem?_eq_getElem hp), ?_, tot_row (List.getElem?_eq_getElem hp)⟩
  rw [atI_get (by omega) (by rw [List.length_map]; omega), Int.toNat_natCast, List.getElem?_map, List.getElem?_eq_getElem hp']
  rfl
theorem rangeD_succ (lo : Int) (n : Nat) : rangeD lo (n + 1) = .int lo :: rangeD (lo + 1) n := by
  unfold rangeD
  rw [List.range_succ_eq_map, List.map_cons, List.map_map]
  congr 1
  · simp
  · refine List.map_congr_left fun i _ => ?_
    show D.int (lo + ((i + 1 : Nat) : Int)) = D.int (lo + 1 + (i : Nat))
    congr 1; omega
def wq (a b : Str) : Bool := eqS a b
def endsD (es : List Nat) : List D := es.map fun e => .int (e : Nat)
/-- what an again adds behind its entry -/
def agn (p : Rx) (lo : Int) (hi : Option Int) (M : Mvs) (s : Nat) : Mvs × Nat := match hi with
  | some h => closeA (copies (addM p) lo.toNat h.toNat M s).1 (copies (addM p) lo.toNat h.toNat M s).2.2
  | none => closeA (around (addM p) (copies (addM p) lo.toNat lo.toNat M s).1 (copies (addM p) lo.toNat lo.toNat M s).2.1).1 [(around (addM p) (copies (addM p) lo.toNat lo.toNat M s).1 (copies (addM p) lo.toNat lo.toNat M s).2.1).2]
theorem addM_again (p : Rx) (lo : Int) (hi : Option Int) (M : Mvs) (s : Nat) : addM (.again p lo hi) M s = agn p lo hi (addE (M ++ [[]]) s Str.empty M.length) M.length := by
  cases hi <;> rw [addM] <;> rfl
section
variable {P : Program} {w : World} {K : Fg} {mg : Str → Option Value} {base : Heap} {f f2 f3 f4 : Addr} {fd fd2 fd3 fd4 : FuncData}
def g_mv (n : Nat) : FM := fun ds h Q _ => ∃ m as M s r, ds = [rw1 m, .int (s : Nat), toD r] ∧ MvO h m as M ∧ s < M.length ∧ plain r = true ∧ okR r = true ∧ rdep r < n ∧ tot M + cost r ≤ 15000 ∧ ∀ h' as', MvO h' m as' (addM r M s).1 → Grh m h h' as as' → Q (.fz (.int ((addM r M s).2 : Nat))) h'
def g_mvr (n : Nat) : FM := fun ds h Q _ => ∃ m as M s ps, ds = [rw1 m, .int (s : Nat), .lst (toDL ps)] ∧ MvO h m as M ∧ s < M.length ∧ (plainL ps).all id = true ∧ okRL ps = true ∧ rdepL ps < n ∧ tot M + costL ps ≤ 15000 ∧ ∀ h' as', MvO h' m as' (addR ps M s).1 → Grh m h h' as as' → Q (.fz (.int ((addR ps M s).2 : Nat))) h'
theorem ok_addrow (n : Nat) (A : At K mg "add_row" ["moves", "start", "parts"] s_add_row f fd) (c_add_moves : FnM P w K mg base "add_moves" (2 * n + 1) 3 (g_mv n)) : FnM P w K mg base "add_row" (2 * n + 2) 3 (g_mvr n) := by
  refine A.fnM (okM (k := 2 * n + 1) A.fn sc_add_row (by decide) (fun cdv A outer s H E hr tk po => (mss_cons (ms_set 3 sc_add_row.nd rfl (by first | exact Or.inl rfl | exact Or.inr rfl) (me_v 1))
      (mss_cons (ms_for po rfl (mi_seq (me_v 2)) (mg_n 4 sc_add_row.nd rfl (by first | exact Or.inl rfl | exact Or.inr rfl)) (mss_one (ms_set 3 sc_add_row.nd rfl (by first | exact Or.inl rfl | exact Or.inr rfl) (me_cM c_add_moves tk (hr.mono (by omega)) (by rfl) (ma_cons (me_v 0) (ma_cons (me_v 3) (ma_cons (me_v 4) ma_nil)))))))
      (mss_one (ms_ret (me_v 3)))))) ?_)
  rintro ds h Q E hl ⟨m, as, M, s, ps, rfl, hM, hs, hp, ho, hd, ht, q⟩
  walk_at "m"
  refine loopM_inv (fun ds ρ h' => ∃ ps' as' M' s' x, ds = toDL ps' ∧ ρ = [some (rw1 m), some (.int (s : Nat)), some (.lst (toDL ps)), some (.int ((s' : Nat) : Int)), x] ∧ MvO h' m as' M' ∧ s' < M'.length ∧ (plainL ps').all id = true ∧ okRL ps' = true ∧ rdepL ps' < n ∧ tot M' + costL ps' ≤ 15000 ∧ Grh m h h' as as' ∧ addR ps' M' s' = addR ps M s) _ _ _ ⟨ps, as, M, s, none, rfl, rfl, hM, hs, hp, ho, hd, ht, Grh.refl _ _ _, rfl⟩ ?_ ?_
  rotate_left
  · rintro ρ h' ⟨ps', as', M', s', x, e, rfl, y1, y2, y3, y4, y5, y6, y7, y8⟩
    cases ps' with
    | cons _ _ => cases e
    | nil =>
      rw [addR] at y8
      walk_at "m"
      have e1 : (addR ps M s).1 = M' := by rw [← y8]
      have e2 : (addR ps M s).2 = s' := by rw [← y8]
      have := q h' as' (by rw [e1]; exact y1) y7
      rw [e2] at this
      exact this
  rintro d es ρ h' R ⟨ps', as', M', s', x, e, rfl, y1, y2, y3, y4, y5, y6, y7, y8⟩ hR
  cases ps' with
  | nil => cases e
  | cons p ps2 =>
    rw [toDL] at e
    injection e with e1 e2
    subst e1 e2
    rw [plainL, List.all_cons, Bool.and_eq_true] at y3
    rw [okRL, Bool.and_eq_true] at y4
    rw [rdepL] at y5
    rw [costL] at y6
    rw [addR] at y8
    walk_at "m"
    refine ⟨m, as', M', s', p, rfl, y1, y2, y3.1, y4.1, by omega, by omega, fun h'' as'' z1 z2 => ?_⟩
    have g := addM_ok p y3.1 y4.1 M' s' y2
    have hc := addM_tot p M' s'
    exact hR _ _ ⟨ps2, as'', _, _, _, rfl, rfl, z1, g.lt.1, y3.2, y4.2, by omega, by omega, y7.trans y1 z2, y8⟩
def g_mva (n : Nat) : FM := fun ds h Q _ => ∃ m as M s ps, ds = [rw1 m, .int (s : Nat), .lst (toDL ps)] ∧ MvO h m as M ∧ s < M.length ∧ (plainL ps).all id = true ∧ okRL ps = true ∧ rdepL ps < n ∧ ps.length ≤ 9999 ∧ tot M + costL ps + ps.length + 1 ≤ 15000 ∧ ∀ h' as', MvO h' m as' (closeA (addO ps M s).1 (addO ps M s).2).1 → Grh m h h' as as' → Q (.fz (.int ((closeA (addO ps M s).1 (addO ps M s).2).2 : Nat))) h'
theorem len_v {h : Hd} {m : Addr} {as : List Addr} {M : Mvs} (x : MvO h m as M) : lenD ([rw1 m].map (vw h)) = some (.fz (.int (M.length : Nat))) := by
  have e : vw h (.raw (.ref m)) = .lst (as.map rw1) := by
    show (match h m with | some (.lst xs) => D.lst xs | _ => D.raw (.ref m)) = _
    rw [x.top]
  show lenD [vw h (.raw (.ref m))] = _
  rw [e]
  show some (Res.fz (.int ((as.map rw1).length : Nat))) = _
  rw [List.length_map, x.len]
theorem addO_lt {ps : List Rx} {M : Mvs} {s : Nat} (hp : (plainL ps).all id = true) (ho : okRL ps = true) (hs : s < M.length) : M.length ≤ (addO ps M s).1.length ∧ ∀ e ∈ (addO ps M s).2, e < (addO ps M s).1.length := by
  obtain ⟨S, f, _⟩ := addO_ok ps hp ho M s hs M [] (fun _ => False) ⟨_, Fan.nil hs, fun _ _ _ => ⟨.inl, fun h => h.elim id False.elim⟩⟩
  rw [List.nil_append] at f
  have nn := f.nn
  have sn := f.sn
  exact ⟨nn, fun e he => by have := f.en e he; omega⟩
/-- the end of an any and of an again: all ends lead to the last place -/
def τEnd (i j : Nat) : TMS := mFor (mSeqI (mV i)) (gM j) (mDrop (mApp (mIxO (mV 0) (mV j)) (mACons (mTup (mACons (mK (.str "")) (mACons (mBin subD (mCallGV lenD (mACons (mV 0) mANil)) (mK (.int 1))) mANil))) mANil)))
theorem end_loop {ω : Wω} {j : Nat} {PD : MEnds} {m : Addr} {h0 : Hd} {as0 : List Addr} {fi : Nat} (ρ0 : Me → Prop) (hρ : ∀ ρ x, ρ0 ρ → ρ0 (ρ.set j x)) (h0m : ∀ ρ, ρ0 ρ → j ≠ 0 ∧ ρ[0]? = some (some (rw1 m)) ∧ j < ρ.length) :
    ∀ (es : List Nat) (M : Mvs) (as : List Addr) (ρ : Me) (h : Hd), ρ0 ρ → MvO h m as M → Grh m h0 h as0 as → M.length = fi + 1 → (∀ e ∈ es, e < M.length) → tot M + es.length ≤ 15000 →
    (∀ ρ' h' as', ρ0 ρ' → MvO h' m as' (addA M es fi) → Grh m h0 h' as0 as' → PD.nx ρ' h') →
    loopM ω (gM j) (mDrop (mApp (mIxO (mV 0) (mV j)) (mACons (mTup (mACons (mK (.str "")) (mACons (mBin subD (mCallGV lenD (mACons (mV 0) mANil)) (mK (.int 1))) mANil))) mANil))) PD (es.map fun e => .int (e : Nat)) ρ h
  | [], M, as, ρ, h, r0, hM, hG, hl, he, ht, q => by rw [List.map_nil]; exact loop_end (q ρ h as r0 hM hG)
  | e :: es, M, as, ρ, h, r0, hM, hG, hl, he, ht, q => by
    rw [List.map_cons]
    refine loop_step ?_
    obtain ⟨hj, hm, hjl⟩ := h0m ρ r0
    obtain ⟨a, l, g1, g2, g3, g4, g5⟩ := hM.get (he e (List.mem_cons_self ..))
    rw [List.length_cons] at ht
    have hm' : (ρ.set j (some (.int (e : Nat))))[0]? = some (some (rw1 m)) := by rw [List.getElem?_set_ne hj]; exact hm
    show mDrop _ _ _ _ _
    refine ⟨_, hm', _, by rw [List.getElem?_set_self hjl], m, _, _, _, rfl, hM.top, rfl, g4, a, _, rfl, g3, ?_⟩
    refine ⟨_, hm', _, len_v hM, rfl, ?_⟩
    refine ⟨_, rfl, by show 2 ≤ 16000; decide, _, _, g3, rfl, by rw [List.length_map]; omega, ?_⟩
    obtain ⟨k1, k2⟩ := hM.edge g1 g2 Str.empty fi
    have ee : (D.tup [.str "", .int ((M.length : Nat) - 1)]) = edD (Str.empty, fi) := by rw [hl]; exact congrArg (fun z : Int => D.tup [.str Str.empty, .int z]) (show ((fi + 1 : Nat) : Int) - 1 = (fi : Nat) by omega)
    show loopM ω _ _ PD _ _ (put h a (.lst (l.map edD ++ [D.tup [.str "", .int ((M.length : Nat) - 1)]])))
    rw [ee]
    have ht2 := tot_addE M e Str.empty fi
    refine end_loop ρ0 hρ h0m es _ as _ _ (hρ _ _ r0) k1 (hG.trans hM k2) (by rw [addE_len]; exact hl) (fun x hx => by rw [addE_len]; exact he x (List.mem_cons_of_mem _ hx)) (by omega) fun ρ' h' as' z1 z2 z3 => q ρ' h' as' z1 z2 z3
theorem ok_addany (n : Nat) (A : At K mg "add_any" ["moves", "start", "parts"] s_add_any f fd) (m_len : mg "len" = none) (c_add_moves : FnM P w K mg base "add_moves" (2 * n + 1) 3 (g_mv n)) : FnM P w K mg base "add_any" (2 * n + 2) 3 (g_mva n) := by
  refine A.fnM (okM (k := 2 * n + 1) A.fn sc_add_any (by decide) (fun cdv A outer s H E hr tk po => (mss_cons (ms_setLc (i := 3) (own := [("part", 4)]) rfl sc_add_any.nd rfl rfl (sw_true rfl rfl rfl (by decide +kernel)) (mi_seq (me_v 2)) (blkOk_by (N := N_add_any) (sc := defScope s_add_any) (own := [("part", 4)]) (by decide +kernel)) (fun _ _ _ _ _ => (mg_n 4 sc_add_any.nd rfl (by first | exact Or.inl rfl | exact Or.inr rfl))) (fun _ _ _ _ _ => mts_nil) (fun _ _ _ _ _ => (me_cM c_add_moves takes0 (hr.mono (by omega)) (by rfl) (ma_cons (me_v 0) (ma_cons (me_v 1) (ma_cons (me_v 4) ma_nil))))))
      (mss_cons (ms_expr (me_app (me_v 0) (ma_cons (me_own (me_lst ma_nil)) ma_nil)))
      (mss_cons (ms_for po rfl (mi_seq (me_v 3)) (mg_n 5 sc_add_any.nd rfl (by first | exact Or.inl rfl | exact Or.inr rfl)) (mss_one (ms_expr (me_app (me_ixO (me_v 0) (me_v 5) (fun _ _ => rfl)) (ma_cons (me_tup (ma_cons me_str (ma_cons (me_sub (me_lenV (by rfl) m_len (ma_cons (me_v 0) ma_nil)) me_int) ma_nil))) ma_nil)))))
      (mss_one (ms_ret (me_sub (me_lenV (by rfl) m_len (ma_cons (me_v 0) ma_nil)) me_int))))))) ?_)
  rintro ds h Q E hl ⟨m, as, M, s, ps, rfl, hM, hs, hp, ho, hd, hn, ht, q⟩
  walk_at "m"
  refine lcM_inv (fun ds h' acc => ∃ ps' as' M' es, ds = toDL ps' ∧ MvO h' m as' M' ∧ s < M'.length ∧ (plainL ps').all id = true ∧ okRL ps' = true ∧ rdepL ps' < n ∧ tot M' + costL ps' + ps.length + 1 ≤ 15000 ∧ Grh m h h' as as' ∧ acc = es.map (fun e : Nat => D.int e) ∧ es.length + ps'.length = ps.length ∧ (addO ps' M' s).1 = (addO ps M s).1 ∧ es ++ (addO ps' M' s).2 = (addO ps M s).2) _ _ _ ⟨ps, as, M, [], rfl, hM, hs, hp, ho, hd, ht, Grh.refl _ _ _, rfl, by simp, rfl, by simp⟩ ?_ ?_
  · rintro d es0 h' acc R ⟨ps', as', M', es, e, y1, y2, y3, y4, y5, y6, y7, rfl, y8, y9, y10⟩ hR
    cases ps' with
    | nil => cases e
    | cons p ps2 =>
      rw [toDL] at e
      injection e with e1 e2
      subst e1 e2
      rw [plainL, List.all_cons, Bool.and_eq_true] at y3
      rw [okRL, Bool.and_eq_true] at y4
      rw [rdepL] at y5
      rw [costL] at y6
      rw [addO] at y9 y10
      rw [List.length_cons] at y8
      walk_at "m"
      refine ⟨m, as', M', s, p, rfl, y1, y2, y3.1, y4.1, by omega, by omega, fun h'' as'' z1 z2 => ⟨by rw [List.length_map]; omega, ?_⟩⟩
      have g := addM_ok p y3.1 y4.1 M' s y2
      have hc := addM_tot p M' s
      refine hR _ _ ⟨ps2, as'', _, es ++ [(addM p M' s).2], rfl, z1, by have := g.lt.2; omega, y3.2, y4.2, by omega, by omega, y7.trans y1 z2, by rw [List.map_append]; rfl, by rw [List.length_append, List.length_singleton]; omega, y9, ?_⟩
      rw [List.append_assoc]; exact y10
  rintro h' acc ⟨ps', as', M', es, e, y1, y2, y3, y4, y5, y6, y7, rfl, y8, y9, y10⟩
  cases ps' with
  | cons _ _ => cases e
  | nil =>
    rw [addO] at y9 y10
    rw [List.append_nil] at y10
    have y9 : M' = (addO ps M s).1 := y9
    subst y9 y10
    obtain ⟨l1, l2⟩ := addO_lt hp ho hs
    have t1 := addO_tot ps M s
    walk_at "m"
    refine ⟨m, _, rfl, y1.top, ?_⟩
    walk_at "m"
    intro a ha
    have ham : a ≠ m := fun z => by rw [z, y1.top] at ha; cases ha
    refine ⟨_, _, by rw [put_ne (Ne.symm ham)]; exact y1.top, rfl, by have := y1.len; have := tot_len (addO ps M s).1; rw [List.length_map]; omega, ?_⟩
    obtain ⟨k1, k2⟩ := y1.snoc ha
    have t2 := tot_snoc (addO ps M s).1
    walk_at "m"
    refine end_loop (j := 5) (fi := (addO ps M s).1.length) (fun ρ => ∃ x y, ρ = [some (rw1 m), some (.int (s : Nat)), some (.lst (toDL ps)), some (.lst ((addO ps M s).2.map fun e : Nat => D.int e)), x, y]) ?_ ?_ (addO ps M s).2 ((addO ps M s).1 ++ [[]]) _ _ _ ⟨_, _, rfl⟩ k1 (y7.trans y1 k2) (by simp) (fun e he => by have := l2 e he; rw [List.length_append, List.length_singleton]; omega) (by omega) ?_
    · rintro ρ x ⟨u, v, rfl⟩; exact ⟨u, x, rfl⟩
    · rintro ρ ⟨u, v, rfl⟩; exact ⟨by decide, rfl, by show 5 < 6; decide⟩
    · rintro ρ h'' as'' ⟨u, v, rfl⟩ z1 z2
      walk_at "m"
      refine ⟨_, len_v z1, rfl, ?_⟩
      walk_at "m"
      have e3 : (addA ((addO ps M s).1 ++ [[]]) (addO ps M s).2 (addO ps M s).1.length).length = (addO ps M s).1.length + 1 := by rw [addA_len]; simp
      have q2 := q h'' as'' z1 z2
      rw [e3]
      show Q (.fz (.int (((addO ps M s).1.length + 1 : Nat) - 1))) h''
      rw [show (((addO ps M s).1.length + 1 : Nat) : Int) - 1 = (((addO ps M s).1.length : Nat) : Int) by omega]
      exact q2
theorem MvO.apart {h : Hd} {m b : Addr} {as : List Addr} {M : Mvs} {o : Ob} (x : MvO h m as M) (hb : b ≠ m ∧ b ∉ as) : MvO (put h b o) m as M := by
  refine ⟨?_, x.len, fun i a l h1 h2 => ?_, x.nm, x.nd⟩
  · rw [put_ne (Ne.symm hb.1)]; exact x.top
  · rw [put_ne (fun (z : a = b) => hb.2 (z ▸ List.mem_of_getElem? h1))]; exact x.row i a l h1 h2
theorem MvO.off {h : Hd} {m b : Addr} {as : List Addr} {M : Mvs} (x : MvO h m as M) (hb : b ≠ m ∧ b ∉ as) : MvO (off h b) m as M := by
  refine ⟨?_, x.len, fun i a l h1 h2 => ?_, x.nm, x.nd⟩
  · rw [off_ne (Ne.symm hb.1)]; exact x.top
  · rw [off_ne (fun (z : a = b) => hb.2 (z ▸ List.mem_of_getElem? h1))]; exact x.row i a l h1 h2
theorem MvO.free {h : Hd} {m b : Addr} {as : List Addr} {M : Mvs} (x : MvO h m as M) (hb : h b = none) : b ≠ m ∧ b ∉ as :=
  ⟨fun z => (by rw [z, x.top] at hb; cases hb), fun z => (by obtain ⟨o, e⟩ := x.known z; rw [hb] at e; cases e)⟩
theorem Grh.apart {m b : Addr} {h h1 : Hd} {as as1 : List Addr} {o : Ob} (g : Grh m h h1 as as1) (hb : h b = none) : Grh m h (put h1 b o) as as1 := ⟨fun c u q hm hn => by rw [put_ne (hd_ne q hb)]; exact g.fr c u q hm hn, g.nw, g.kp⟩
theorem Grh.offp {m b : Addr} {h h1 : Hd} {as as1 : List Addr} (g : Grh m h h1 as as1) (hb : h b = none) : Grh m h (off h1 b) as as1 := ⟨fun c u q hm hn => by rw [off_ne (hd_ne q hb)]; exact g.fr c u q hm hn, g.nw, g.kp⟩
/-- a list aside stays -/
theorem Grh.aside {m b : Addr} {h h1 : Hd} {as as1 : List Addr} {o : Ob} (g : Grh m h h1 as as1) (q : h b = some o) (hb : b ≠ m ∧ b ∉ as) : h1 b = some o ∧ b ∉ as1 := ⟨g.fr b o q hb.1 hb.2, fun z => by
  rcases g.nw b z with z | z
  · exact hb.2 z
  · rw [q] at z; cases z⟩
def g_mvg (n : Nat) : FM := fun ds h Q _ => ∃ m as M s p lo hi, ds = [rw1 m, .int (s : Nat), toD (.again p lo hi)] ∧ MvO h m as M ∧ s < M.length ∧ plain p = true ∧ okR (.again p lo hi) = true ∧ rdep p < n ∧ tot M + cost (.again p lo hi) ≤ 15002 ∧
  ∀ h' as', MvO h' m as' (agn p lo hi M s).1 → Grh m h h' as as' → Q (.fz (.int ((agn p lo hi M s).2 : Nat))) h'
theorem cps_le {p : Rx} {lo : Int} {hi : Option Int} (ho : okR (.again p lo hi) = true) : cps lo hi ≤ 5 := by
  rw [okR, Bool.and_eq_true, Bool.and_eq_true, Bool.and_eq_true] at ho
  obtain ⟨⟨⟨_, ho2⟩, ho3⟩, ho4⟩ := ho
  have l0 : 0 ≤ lo := of_decide_eq_true ho2
  have l4 : lo ≤ 4 := of_decide_eq_true ho3
  cases hi with
  | none => show lo.toNat + 1 ≤ 5; omega
  | some v =>
    rw [hiOk, Bool.and_eq_true] at ho4
    have h4 : v ≤ 4 := of_decide_eq_true ho4.2
    show v.toNat ≤ 5
    omega
theorem ok_addagain (n : Nat) (A : At K mg "add_again" ["moves", "start", "expression"] s_add_again f fd) (m_len : mg "len" = none) (m_range : mg "range" = none) (m_int : mg "int" = none) (c_add_moves : FnM P w K mg base "add_moves" (2 * n + 1) 3 (g_mv n)) : FnM P w K mg base "add_again" (2 * n + 2) 3 (g_mvg n) := by
  refine A.fnM (okM (k := 2 * n + 1) A.fn sc_add_again (by decide) (fun cdv A outer s H E hr tk po => (mss_cons (ms_asg (me_v 2) (mg_tup (n := 4) rfl (mgs_cons (mg_n 3 sc_add_again.nd rfl (by first | exact Or.inl rfl | exact Or.inr rfl)) (mgs_cons (mg_n 4 sc_add_again.nd rfl (by first | exact Or.inl rfl | exact Or.inr rfl)) (mgs_cons (mg_n 5 sc_add_again.nd rfl (by first | exact Or.inl rfl | exact Or.inr rfl)) (mgs_cons (mg_n 6 sc_add_again.nd rfl (by first | exact Or.inl rfl | exact Or.inr rfl)) mgs_nil))))))
      (mss_cons (ms_set 7 sc_add_again.nd rfl (by first | exact Or.inl rfl | exact Or.inr rfl) (me_v 1))
      (mss_cons (ms_set 8 sc_add_again.nd rfl (by first | exact Or.inl rfl | exact Or.inr rfl) (me_own (me_mul (me_lst (ma_cons (me_v 7) ma_nil)) (me_intc (by rfl) m_int (ma_cons (me_eq hr (me_v 5) me_int) ma_nil)))))
      (mss_cons (ms_for po rfl (mi_range2 (by rfl) m_range (ma_cons me_int (ma_cons (me_if (mt_is (me_v 6) me_non) (me_add (me_v 5) me_int) (me_add (me_v 6) me_int)) ma_nil))) (mg_n 9 sc_add_again.nd rfl (by first | exact Or.inl rfl | exact Or.inr rfl)) (mss_cons (ms_set 7 sc_add_again.nd rfl (by first | exact Or.inl rfl | exact Or.inr rfl) (me_cM c_add_moves tk (hr.mono (by omega)) (by rfl) (ma_cons (me_v 0) (ma_cons (me_v 7) (ma_cons (me_v 4) ma_nil)))))
      (mss_one (ms_if (mt_ge (me_v 9) (me_v 5)) (mss_one (ms_expr (me_app (me_v 8) (ma_cons (me_v 7) ma_nil)))) mss_nil))))
      (mss_cons (ms_if (mt_is (me_v 6) me_non) (mss_cons (ms_expr (me_app (me_v 0) (ma_cons (me_own (me_lst ma_nil)) ma_nil)))
      (mss_cons (ms_expr (me_app (me_ixO (me_v 0) (me_v 7) (fun _ _ => rfl)) (ma_cons (me_tup (ma_cons me_str (ma_cons (me_sub (me_lenV (by rfl) m_len (ma_cons (me_v 0) ma_nil)) me_int) ma_nil))) ma_nil)))
      (mss_cons (ms_set 7 sc_add_again.nd rfl (by first | exact Or.inl rfl | exact Or.inr rfl) (me_sub (me_lenV (by rfl) m_len (ma_cons (me_v 0) ma_nil)) me_int))
      (mss_cons (ms_expr (me_app (me_ixO (me_v 0) (me_cM c_add_moves tk (hr.mono (by omega)) (by rfl) (ma_cons (me_v 0) (ma_cons (me_v 7) (ma_cons (me_v 4) ma_nil)))) (fun _ _ => rfl)) (ma_cons (me_tup (ma_cons me_str (ma_cons (me_v 7) ma_nil))) ma_nil)))
      (mss_one (ms_set 8 sc_add_again.nd rfl (by first | exact Or.inl rfl | exact Or.inr rfl) (me_own (me_lst (ma_cons (me_v 7) ma_nil))))))))) mss_nil)
      (mss_cons (ms_expr (me_app (me_v 0) (ma_cons (me_own (me_lst ma_nil)) ma_nil)))
      (mss_cons (ms_fzs 8 (ms_for po rfl (mi_seq (me_v 8)) (mg_n 10 sc_add_again.nd rfl (by first | exact Or.inl rfl | exact Or.inr rfl)) (mss_one (ms_expr (me_app (me_ixO (me_v 0) (me_v 10) (fun _ _ => rfl)) (ma_cons (me_tup (ma_cons me_str (ma_cons (me_sub (me_lenV (by rfl) m_len (ma_cons (me_v 0) ma_nil)) me_int) ma_nil))) ma_nil))))))
      (mss_one (ms_ret (me_sub (me_lenV (by rfl) m_len (ma_cons (me_v 0) ma_nil)) me_int))))))))))) ?_)
  rintro ds h Q E hl ⟨m, as, M, s, p, lo, hi, rfl, hM, hs, hp, ho, hd, ht, q⟩
  have hcp := cps_le ho
  rw [okR, Bool.and_eq_true, Bool.and_eq_true, Bool.and_eq_true] at ho
  obtain ⟨⟨⟨ho1, ho2⟩, ho3⟩, ho4⟩ := ho
  have l0 : 0 ≤ lo := of_decide_eq_true ho2
  have l4 : lo ≤ 4 := of_decide_eq_true ho3
  rw [cost] at ht
  have hf := fun M s => addM_ok p hp ho1 M s
  refine ⟨_, rfl, _, rfl, rfl, _, _, rfl, _, _, rfl, _, _, rfl, _, _, rfl, rfl, ?_⟩
  walk_at "m"
  have hmul : ∀ b : Bool, mulD (.lst [.int (s : Nat)]) (.int (if b = true then 1 else 0)) = some (.fr (if b = true then [.int (s : Nat)] else [])) := fun b => by cases b <;> rfl
  refine ⟨_, hmul _, _, rfl, fun b hb => ?_⟩
  have he0 : (if eqB (.int lo) (.int 0) = true then [D.int (s : Nat)] else []) = endsD (if lo.toNat = 0 then [s] else []) := by
    by_cases hz : lo = 0
    · rw [if_pos (show eqB (.int lo) (.int 0) = true from decide_eq_true hz), if_pos (by omega)]; rfl
    · rw [if_neg (show ¬ eqB (.int lo) (.int 0) = true from fun z => hz (of_decide_eq_true z)), if_neg (by omega)]; rfl
  have loop : ∀ (Kc : Nat) (PD : MEnds) (e2 e3 e6 x0 y : Option D), Kc ≤ 5 → tot M + Kc * cost p ≤ 14995 →
      (∀ h' as' x, MvO h' m as' (copies (addM p) lo.toNat Kc M s).1 → Grh m h h' as as' → b ∉ as' → h' b = some (.lst (endsD (copies (addM p) lo.toNat Kc M s).2.2)) → PD.nx [some (rw1 m), some (.int (s : Nat)), e2, e3, some (toD p), some (.int lo), e6, some (.int ((copies (addM p) lo.toNat Kc M s).2.1 : Nat)), some (rw1 b), x, y] h') →
      loopM (fun x _ h => E x h) (gM 9) (mSeq (mSet 7 (mCallM (g_mv n) (mACons (mV 0) (mACons (mV 7) (mACons (mV 4) mANil))))) (mIf (mT (mBin geD (mV 9) (mV 5))) (mDrop (mApp (mV 8) (mACons (mV 7) mANil))) mNext)) PD (rangeD 1 Kc)
        [some (rw1 m), some (.int (s : Nat)), e2, e3, some (toD p), some (.int lo), e6, some (.int (s : Nat)), some (rw1 b), x0, y] (put h b (.lst (endsD (if lo.toNat = 0 then [s] else [])))) := by
    intro Kc PD e2 e3 e6 x0 y hK htt fin
    refine loopM_inv (fun ds ρ h' => ∃ k as' x, ds = rangeD (1 + (k : Nat)) (Kc - k) ∧ k ≤ Kc ∧ ρ = [some (rw1 m), some (.int (s : Nat)), e2, e3, some (toD p), some (.int lo), e6, some (.int ((copies (addM p) lo.toNat k M s).2.1 : Nat)), some (rw1 b), x, y] ∧ MvO h' m as' (copies (addM p) lo.toNat k M s).1 ∧ Grh m h h' as as' ∧ b ∉ as' ∧ h' b = some (.lst (endsD (copies (addM p) lo.toNat k M s).2.2))) _ _ _ ⟨0, as, x0, by rw [Nat.sub_zero]; rfl, Nat.zero_le _, rfl, hM.apart (hM.free hb), (Grh.refl _ _ _).apart hb, (hM.free hb).2, put_same⟩ ?_ ?_
    · rintro d es ρ h' R ⟨k, as', x, e1, hk, rfl, z1, z2, z4, z3⟩ hR
      obtain ⟨j, hj⟩ : ∃ j, Kc - k = j + 1 := by
        cases hkk : Kc - k with
        | zero => rw [hkk] at e1; cases e1
        | succ j => exact ⟨j, rfl⟩
      rw [hj, rangeD_succ] at e1
      injection e1 with e1 e4
      subst e1
      obtain ⟨c1, c2⟩ := copies_tot (addM_tot p) lo.toNat k M s
      have hkc : k * cost p + cost p ≤ Kc * cost p := by
        rw [← Nat.succ_mul]; exact Nat.mul_le_mul_right _ (by omega)
      have G := copies_ok hf lo.toNat k M s hs
      walk_at "m"
      refine ⟨m, as', _, _, p, rfl, z1, G.grw.lt.1, hp, ho1, hd, by omega, fun h2 as2 w1 w2 => ?_⟩
      have hb2 : b ≠ m ∧ b ∉ as' := ⟨(hM.free hb).1, z4⟩
      obtain ⟨w3, w4⟩ := w2.aside z3 hb2
      walk_at "m"
      refine ifd (p := lo.toNat ≤ k + 1) (decide_eq_decide.mpr (by omega)) (fun hle => ?_) (fun hle => ?_)
      · walk_at "m"
        refine ⟨b, _, rfl, w3, ?_⟩
        walk_at "m"
        refine ⟨_, _, w3, rfl, by unfold endsD; rw [List.length_map]; omega, ?_⟩
        refine hR _ _ ⟨k + 1, as2, _, by rw [e4, show Kc - (k + 1) = j by omega]; congr 1, by omega, rfl, w1.apart ⟨hb2.1, w4⟩, ((z2.trans z1 w2).apart hb), w4, ?_⟩
        rw [put_same, copies, if_pos hle]
        unfold endsD
        rw [List.map_append]
        rfl
      · refine hR _ _ ⟨k + 1, as2, _, by rw [e4, show Kc - (k + 1) = j by omega]; congr 1, by omega, rfl, w1, z2.trans z1 w2, w4, ?_⟩
        rw [w3, copies, if_neg hle, List.append_nil]
    · rintro ρ h' ⟨k, as', x, e1, hk, rfl, z1, z2, z4, z3⟩
      have : k = Kc := by
        cases hkk : Kc - k with
        | zero => omega
        | succ j => rw [hkk, rangeD_succ] at e1; cases e1
      subst this
      exact fin h' as' x z1 z2 z4 z3
  have fin : ∀ (M1 : Mvs) (as1 : List Addr) (es : List Nat) (b' : Addr) (h1 : Hd) (e2 e3 e4 e5 e6 e7 x y : Option D), MvO h1 m as1 M1 → Grh m h h1 as as1 → h b' = none → b' ≠ m ∧ b' ∉ as1 → h1 b' = some (.lst (endsD es)) → (∀ e ∈ es, e < M1.length) → tot M1 + 1 + es.length ≤ 15000 → closeA M1 es = agn p lo hi M s →
      mSeq (mDrop (mApp (mV 0) (mACons (mOwn (mLst mANil)) mANil))) (mSeq (mFzS 8 (τEnd 8 10)) (mRet (mBin subD (mCallGV lenD (mACons (mV 0) mANil)) (mK (.int 1))))) (fun x _ h => E x h) { nx := fun _ h => Q (.fz .non) h, rt := fun r h => Q r h }
        [some (rw1 m), some (.int (s : Nat)), e2, e3, e4, e5, e6, e7, some (rw1 b'), x, y] h1 := by
    intro M1 as1 es b' h1 e2 e3 e4 e5 e6 e7 x y y1 y2 y3 y4 y5 y6 y7 y8
    walk_at "m"
    refine ⟨m, _, rfl, y1.top, ?_⟩
    walk_at "m"
    intro a ha
    have ham : a ≠ m := fun z => by rw [z, y1.top] at ha; cases ha
    have t0 := tot_len M1
    refine ⟨_, _, by rw [put_ne (Ne.symm ham)]; exact y1.top, rfl, by have := y1.len; rw [List.length_map]; omega, ?_⟩
    obtain ⟨k1, k2⟩ := y1.snoc ha
    have t2 := tot_snoc M1
    have hba : b' ≠ a := fun z => by rw [← z, y5] at ha; cases ha
    have hb1 : b' ∉ as1 ++ [a] := fun z => by
      rcases List.mem_append.mp z with z | z
      · exact y4.2 z
      · exact hba (List.mem_singleton.mp z)
    refine ⟨b', _, rfl, by rw [put_ne y4.1, put_ne hba]; exact y5, ?_⟩
    refine ⟨_, rfl, _, rfl, ?_⟩
    refine end_loop (j := 10) (fi := M1.length) (fun ρ => ∃ y, ρ = [some (rw1 m), some (.int (s : Nat)), e2, e3, e4, e5, e6, e7, some (.lst (endsD es)), x, y]) ?_ ?_ es (M1 ++ [[]]) (as1 ++ [a]) _ _ ⟨_, rfl⟩ (k1.off ⟨y4.1, hb1⟩) ((y2.trans y1 k2).offp y3) (by simp) (fun e he => by have := y6 e he; rw [List.length_append, List.length_singleton]; omega) (by omega) ?_
    · rintro ρ x ⟨v, rfl⟩; exact ⟨x, rfl⟩
    · rintro ρ ⟨v, rfl⟩; exact ⟨by decide, rfl, by show 10 < 11; decide⟩
    · rintro ρ h'' as'' ⟨v, rfl⟩ z1 z2
      walk_at "m"
      refine ⟨_, len_v z1, rfl, ?_⟩
      walk_at "m"
      have q2 := q h'' as'' (by rw [← y8]; exact z1) z2
      rw [← y8] at q2
      have e3 : (addA (M1 ++ [[]]) es M1.length).length = M1.length + 1 := by rw [addA_len]; simp
      rw [e3]
      show Q (.fz (.int ((M1.length + 1 : Nat) - 1))) h''
      rw [show ((M1.length + 1 : Nat) : Int) - 1 = ((M1.length : Nat) : Int) by omega]
      exact q2
  have hap := hM.free hb
  cases hi with
  | some v =>
    rw [hiOk, Bool.and_eq_true] at ho4
    have h1 : lo ≤ v := of_decide_eq_true ho4.1
    have h4 : v ≤ 4 := of_decide_eq_true ho4.2
    have hcv : cps lo (some v) = v.toNat := rfl
    rw [hcv] at ht
    walk_at "m"
    refine ⟨⟨by omega, by omega, by omega, by omega⟩, ?_⟩
    rw [show ((v + 1 - 1 : Int)).toNat = v.toNat by omega]
    show loopM _ _ _ _ _ _ (put h b (.lst (if eqB (.int lo) (.int 0) = true then [D.int (s : Nat)] else [])))
    rw [he0]
    refine loop v.toNat _ _ _ _ _ _ (by omega) (by omega) fun h' as' x z1 z2 z4 z3 => ?_
    have G := copies_ok hf lo.toNat v.toNat M s hs
    obtain ⟨c1, c2⟩ := copies_tot (addM_tot p) lo.toNat v.toNat M s
    refine ⟨_, rfl, _, rfl, _, rfl, iteF ?_⟩
    refine fin _ as' _ b h' _ _ _ _ _ _ _ _ z1 z2 hb ⟨hap.1, z4⟩ z3 (fun e he => ?_) (by omega) rfl
    obtain ⟨S, fr, _⟩ := G
    have := fr.en e he
    have := fr.fr.nn
    have := fr.fr.sn
    omega
  | none =>
    have hcv : cps lo none = lo.toNat + 1 := rfl
    rw [hcv, Nat.succ_mul] at ht
    walk_at "m"
    refine ⟨⟨by omega, by omega, by omega, by omega⟩, ?_⟩
    rw [show ((lo + 1 - 1 : Int)).toNat = lo.toNat by omega]
    show loopM _ _ _ _ _ _ (put h b (.lst (if eqB (.int lo) (.int 0) = true then [D.int (s : Nat)] else [])))
    rw [he0]
    refine loop lo.toNat _ _ _ _ _ _ (by omega) (by omega) fun h' as' x z1 z2 z4 z3 => ?_
    have G := copies_ok hf lo.toNat lo.toNat M s hs
    obtain ⟨c1, c2⟩ := copies_tot (addM_tot p) lo.toNat lo.toNat M s
    have hgl := G.grw.lt.1
    have hag : agn p lo none M s = closeA (around (addM p) (copies (addM p) lo.toNat lo.toNat M s).1 (copies (addM p) lo.toNat lo.toNat M s).2.1).1 [(around (addM p) (copies (addM p) lo.toNat lo.toNat M s).1 (copies (addM p) lo.toNat lo.toNat M s).2.1).2] := rfl
    generalize copies (addM p) lo.toNat lo.toNat M s = r at z1 z3 c1 c2 hgl hag
    clear loop G
    have t0 := tot_len r.1
    walk_at "m"
    refine ⟨m, _, rfl, z1.top, ?_⟩
    walk_at "m"
    intro a ha
    have ham : a ≠ m := fun z => by rw [z, z1.top] at ha; cases ha
    refine ⟨_, _, by rw [put_ne (Ne.symm ham)]; exact z1.top, rfl, by have := z1.len; rw [List.length_map]; omega, ?_⟩
    obtain ⟨k1, k2⟩ := z1.snoc ha
    have t2 := tot_snoc r.1
    have hll : (r.1 ++ [[]]).length = r.1.length + 1 := by simp
    obtain ⟨a3, l3, g1, g2, g3, g4, g5⟩ := k1.get (p := r.2.1) (by omega)
    walk_at "m"
    refine ⟨m, _, _, _, rfl, k1.top, rfl, g4, a3, _, rfl, g3, ?_⟩
    refine ⟨_, rfl, _, len_v k1, rfl, _, rfl, by show 2 ≤ 16000; decide, _, _, g3, rfl, by rw [List.length_map]; omega, ?_⟩
    obtain ⟨k3, k4⟩ := k1.edge g1 g2 Str.empty r.1.length
    have ee : (D.tup [.str "", .int (((r.1 ++ [[]]).length : Nat) - 1)]) = edD (Str.empty, r.1.length) := by rw [hll]; exact congrArg (fun z : Int => D.tup [.str Str.empty, .int z]) (show ((r.1.length + 1 : Nat) : Int) - 1 = (r.1.length : Nat) by omega)
    dsimp only [dat_fz]
    rw [ee]
    have hl4 : (addE (r.1 ++ [[]]) r.2.1 Str.empty r.1.length).length = r.1.length + 1 := by rw [addE_len]; exact hll
    have t3 := tot_addE (r.1 ++ [[]]) r.2.1 Str.empty r.1.length
    refine ⟨_, rfl, _, len_v k3, rfl, _, rfl, ?_⟩
    dsimp only [dat_fz, List.set]
    rw [show (((addE (r.1 ++ [[]]) r.2.1 Str.empty r.1.length).length : Nat) : Int) - 1 = (r.1.length : Nat) by rw [hl4]; omega]
    refine ⟨_, rfl, _, rfl, _, rfl, _, rfl, m, as' ++ [a], _, r.1.length, p, rfl, k3, by omega, hp, ho1, hd, by omega, fun h5 as5 w1 w2 => ?_⟩
    have G5 := hf (addE (r.1 ++ [[]]) r.2.1 Str.empty r.1.length) r.1.length (by omega)
    have t5 := addM_tot p (addE (r.1 ++ [[]]) r.2.1 Str.empty r.1.length) r.1.length
    obtain ⟨a6, l6, f1, f2, f3, f4, f5⟩ := w1.get G5.lt.1
    refine ⟨m, _, _, _, rfl, w1.top, rfl, f4, a6, _, rfl, f3, ?_⟩
    refine ⟨_, rfl, by show 2 ≤ 16000; decide, _, _, f3, rfl, by rw [List.length_map]; omega, ?_⟩
    obtain ⟨k5, k6⟩ := w1.edge f1 f2 Str.empty r.1.length
    have k7 := (z2.trans z1 ((k2.trans k1 k4).trans k3 w2)).trans w1 k6
    have bb1 : b ≠ a := fun z => by rw [← z, z3] at ha; cases ha
    refine ⟨_, rfl, by show 1 ≤ 16000; decide, _, rfl, fun b2 hb2 => ?_⟩
    have hb3 := k5.free hb2
    rw [hag] at fin
    have t6 := tot_addE (addM p (addE (r.1 ++ [[]]) r.2.1 Str.empty r.1.length) r.1.length).1 (addM p (addE (r.1 ++ [[]]) r.2.1 Str.empty r.1.length) r.1.length).2 Str.empty r.1.length
    refine fin _ as5 [r.1.length] b2 _ _ _ _ _ _ _ _ _ (k5.apart hb3) (k7.apart (k7.gone k5 hb2)) (k7.gone k5 hb2) hb3 put_same (fun e he => ?_) ?_ rfl
    · rw [List.mem_singleton.mp he, addE_len]
      have := G5.lt.2
      omega
    · rw [List.length_singleton]; omega
theorem ne_str (a b : Str) : neD (.str a) (.str b) = some (.fz (.bl (decide (a ≠ b)))) := by
  show some (Res.fz (.bl (!eqS a b))) = _
  rw [eqS_eq]
  by_cases h : a = b <;> simp [h]
theorem okR_tl {r : Rx} (h : okR r = true) : r.tail.length ≤ 9999 := by
  cases r with
  | set s => show 1 ≤ 9999; decide
  | no p => show 1 ≤ 9999; decide
  | again p lo hi => show 3 ≤ 9999; decide
  | row ps => rw [okR, Bool.and_eq_true] at h; have := of_decide_eq_true h.1; show (toDL ps).length ≤ 9999; rw [toDL_len]; omega
  | any ps => rw [okR, Bool.and_eq_true] at h; have := of_decide_eq_true h.1; show (toDL ps).length ≤ 9999; rw [toDL_len]; omega
  | all ps => rw [okR, Bool.and_eq_true] at h; have := of_decide_eq_true h.1; show (toDL ps).length ≤ 9999; rw [toDL_len]; omega
theorem word_ne : eqS "set" "row" = false ∧ eqS "set" "any" = false ∧ eqS "set" "again" = false ∧ eqS "again" "row" = false ∧ eqS "again" "any" = false ∧ eqS "any" "row" = false := by
  refine ⟨?_, ?_, ?_, ?_, ?_, ?_⟩ <;> (rw [eqS_eq]; decide +kernel)
theorem word_eq (x : Str) : eqS x x = true := by rw [eqS_eq]; exact decide_eq_true rfl
theorem ok_addmoves1 (n : Nat) (A : At K mg "add_moves" ["moves", "start", "expression"] s_add_moves f fd) (m_len : mg "len" = none) (c_add_row : FnM P w K mg base "add_row" (2 * n + 2) 3 (g_mvr n)) (c_add_any : FnM P w K mg base "add_any" (2 * n + 2) 3 (g_mva n)) (c_add_again : FnM P w K mg base "add_again" (2 * n + 2) 3 (g_mvg n)) :
    FnM P w K mg base "add_moves" (2 * (n + 1) + 1) 3 (g_mv (n + 1)) := by
  refine A.fnM (okM (k := 2 * n + 2) A.fn sc_add_moves (by decide) (fun cdv A outer s H E hr tk po => (mss_cons (ms_asg (me_v 2) (mg_star (i := 1) rfl (mgs_cons (mg_n 3 sc_add_moves.nd rfl (by first | exact Or.inl rfl | exact Or.inr rfl)) (mgs_star (mg_n 4 sc_add_moves.nd rfl (by first | exact Or.inl rfl | exact Or.inr rfl))))))
      (mss_cons (ms_if (mt_eq hr (me_v 3) me_str) (mss_one (ms_ret (me_cM c_add_row tk (hr.mono (by omega)) (by rfl) (ma_cons (me_v 0) (ma_cons (me_v 1) (ma_cons (me_v 4) ma_nil)))))) mss_nil)
      (mss_cons (ms_expr (me_app (me_v 0) (ma_cons (me_own (me_lst ma_nil)) ma_nil)))
      (mss_cons (ms_set 5 sc_add_moves.nd rfl (by first | exact Or.inl rfl | exact Or.inr rfl) (me_sub (me_lenV (by rfl) m_len (ma_cons (me_v 0) ma_nil)) me_int))
      (mss_cons (ms_expr (me_app (me_ixO (me_v 0) (me_v 1) (fun _ _ => rfl)) (ma_cons (me_tup (ma_cons me_str (ma_cons (me_v 5) ma_nil))) ma_nil)))
      (mss_cons (ms_if (mt_eq hr (me_v 3) me_str) (mss_one (ms_ret (me_cM c_add_any tk (hr.mono (by omega)) (by rfl) (ma_cons (me_v 0) (ma_cons (me_v 5) (ma_cons (me_v 4) ma_nil)))))) mss_nil)
      (mss_cons (ms_if (mt_eq hr (me_v 3) me_str) (mss_one (ms_ret (me_cM c_add_again tk (hr.mono (by omega)) (by rfl) (ma_cons (me_v 0) (ma_cons (me_v 5) (ma_cons (me_v 2) ma_nil)))))) mss_nil)
      (mss_cons (ms_expr (me_app (me_v 0) (ma_cons (me_own (me_lst ma_nil)) ma_nil)))
      (mss_cons (ms_if (mt_ne hr (me_ix (me_v 4) me_int (fun _ _ => rfl)) me_str) (mss_one (ms_expr (me_app (me_ixO (me_v 0) (me_v 5) (fun _ _ => rfl)) (ma_cons (me_tup (ma_cons (me_ix (me_v 4) me_int (fun _ _ => rfl)) (ma_cons (me_add (me_v 5) me_int) ma_nil))) ma_nil)))) mss_nil)
      (mss_one (ms_ret (me_add (me_v 5) me_int))))))))))))) ?_)
  rintro ds h Q E hl ⟨m, as, M, s, r, rfl, hM, hs, hp, ho, hd, ht, q⟩
  have htl := okR_tl ho
  obtain ⟨w1, w2, w3, w4, w5, w6⟩ := word_ne
  have t0 := tot_len M
  have head : ∀ (rest : TMS) (PD : MEnds) (e2 e3 e4 x : Option D), (∀ h' as', MvO h' m as' (addE (M ++ [[]]) s Str.empty M.length) → Grh m h h' as as' → rest (fun x _ h => E x h) PD [some (rw1 m), some (.int (s : Nat)), e2, e3, e4, some (.int (M.length : Nat))] h') →
      mSeq (mDrop (mApp (mV 0) (mACons (mOwn (mLst mANil)) mANil))) (mSeq (mSet 5 (mBin subD (mCallGV lenD (mACons (mV 0) mANil)) (mK (.int 1)))) (mSeq (mDrop (mApp (mIxO (mV 0) (mV 1)) (mACons (mTup (mACons (mK (.str "")) (mACons (mV 5) mANil))) mANil))) rest)) (fun x _ h => E x h) PD [some (rw1 m), some (.int (s : Nat)), e2, e3, e4, x] h := by
    intro rest PD e2 e3 e4 x fin
    refine ⟨_, rfl, m, _, rfl, hM.top, by show 0 ≤ 16000; decide, _, rfl, fun a ha => ?_⟩
    have ham : a ≠ m := fun z => by rw [z, hM.top] at ha; cases ha
    refine ⟨_, _, by rw [put_ne (Ne.symm ham)]; exact hM.top, rfl, by have := hM.len; rw [List.length_map]; omega, ?_⟩
    obtain ⟨k1, k2⟩ := hM.snoc ha
    have hll : (M ++ [[]]).length = M.length + 1 := by simp
    have t1 := tot_snoc M
    obtain ⟨a3, l3, g1, g2, g3, g4, g5⟩ := k1.get (p := s) (by omega)
    refine ⟨_, rfl, _, len_v k1, rfl, _, rfl, ?_⟩
    dsimp only [dat_fz, List.set]
    have e9 : ((List.length (M ++ [[]]) : Nat) : Int) - 1 = ((M.length : Nat) : Int) := by rw [hll]; omega
    rw [e9]
    refine ⟨_, rfl, _, rfl, m, _, _, _, rfl, k1.top, rfl, g4, a3, _, rfl, g3, ?_⟩
    have hcs : 1 ≤ cost r ∨ tot M + 2 ≤ 16000 := .inr (by omega)
    refine ⟨_, rfl, by show 2 ≤ 16000; decide, _, _, g3, rfl, by rw [List.length_map]; omega, ?_⟩
    obtain ⟨k3, k4⟩ := k1.edge g1 g2 Str.empty M.length
    exact fin _ _ k3 (k2.trans k1 k4)
  have t1 := tot_snoc M
  have t2 := tot_addE (M ++ [[]]) s Str.empty M.length
  have hl4 : (addE (M ++ [[]]) s Str.empty M.length).length = M.length + 1 := by rw [addE_len]; simp
  rw [toD_eq]
  refine ⟨_, rfl, [.str r.word], r.tail, .inl rfl, rfl, by rw [List.length_append, List.length_singleton]; omega, ?_⟩
  refine ⟨_, _, rfl, _, _, rfl, rfl, ?_⟩
  cases r with
  | row ps =>
    rw [plain] at hp
    rw [okR, Bool.and_eq_true] at ho
    rw [rdep] at hd
    rw [cost] at ht
    walk_at "m"
    refine ifT (word_eq _) ?_
    walk_at "m"
    refine ⟨m, as, M, s, ps, rfl, hM, hs, hp, ho.2, by omega, by omega, fun h' as' z1 z2 => ?_⟩
    have := q h' as' (by rw [addM]; exact z1) z2
    rw [addM] at this
    exact this
  | all ps => rw [plain] at hp; cases hp
  | no p => rw [plain] at hp; cases hp
  | any ps =>
    have hp' := hp
    rw [plain] at hp
    rw [okR, Bool.and_eq_true] at ho
    have hlen : ps.length ≤ 9999 := of_decide_eq_true ho.1
    rw [rdep] at hd
    rw [cost] at ht
    refine ⟨_, rfl, _, rfl, _, rfl, ifF w6 ?_⟩
    refine head _ _ _ _ _ _ fun h' as' z1 z2 => ?_
    refine ⟨_, rfl, _, rfl, _, rfl, ifT (word_eq _) ?_⟩
    walk_at "m"
    refine ⟨m, as', _, M.length, ps, rfl, z1, by omega, hp, ho.2, by omega, hlen, by omega, fun h2 as2 y1 y2 => ?_⟩
    have := q h2 as2 (by rw [addM]; exact y1) (z2.trans z1 y2)
    rw [addM] at this
    exact this
  | again p lo hi =>
    have ho' := ho
    rw [plain] at hp
    rw [okR, Bool.and_eq_true, Bool.and_eq_true, Bool.and_eq_true] at ho
    rw [rdep] at hd
    refine ⟨_, rfl, _, rfl, _, rfl, ifF w4 ?_⟩
    refine head _ _ _ _ _ _ fun h' as' z1 z2 => ?_
    refine ⟨_, rfl, _, rfl, _, rfl, ifF w5 ?_⟩
    refine ⟨_, rfl, _, rfl, _, rfl, ifT (word_eq _) ?_⟩
    walk_at "m"
    refine ⟨m, as', _, M.length, p, lo, hi, by rw [toD_eq]; rfl, z1, by omega, hp, ho', by omega, by omega, fun h2 as2 y1 y2 => ?_⟩
    have := q h2 as2 (by rw [addM_again]; exact y1) (z2.trans z1 y2)
    rw [addM_again] at this
    exact this
  | set t =>
    rw [cost] at ht
    refine ⟨_, rfl, _, rfl, _, rfl, ifF w1 ?_⟩
    refine head _ _ _ _ _ _ fun h' as' z1 z2 => ?_
    refine ⟨_, rfl, _, rfl, _, rfl, ifF w2 ?_⟩
    refine ⟨_, rfl, _, rfl, _, rfl, ifF w3 ?_⟩
    generalize hN : addE (M ++ [[]]) s Str.empty M.length = N at z1 hl4 t2
    refine ⟨_, rfl, m, _, rfl, z1.top, by show 0 ≤ 16000; decide, _, rfl, fun a ha => ?_⟩
    have ham : a ≠ m := fun z => by rw [z, z1.top] at ha; cases ha
    have t3 := tot_len N
    refine ⟨_, _, by rw [put_ne (Ne.symm ham)]; exact z1.top, rfl, by have := z1.len; rw [List.length_map]; omega, ?_⟩
    obtain ⟨k1, k2⟩ := z1.snoc ha
    have hll : (N ++ [[]]).length = M.length + 2 := by rw [List.length_append, List.length_singleton]; omega
    have t4 := tot_snoc N
    have fin : ∀ h3, (MvO h3 m (as' ++ [a]) (if t = Str.empty then N ++ [[]] else addE (N ++ [[]]) M.length t (M.length + 1))) → Grh m h h3 as (as' ++ [a]) → Q (.fz (.int ((M.length : Nat) + 1))) h3 := fun h3 y1 y2 => by
      have e1 : addM (.set t) M s = ((if t = Str.empty then N ++ [[]] else addE (N ++ [[]]) M.length t (M.length + 1)), M.length + 1) := by rw [addM, hN]
      rw [e1] at q
      have := q h3 _ y1 y2
      exact this
    refine ⟨_, rfl, _, rfl, _, ne_str t Str.empty, _, rfl, ?_⟩
    refine ifd (p := t ≠ Str.empty) rfl (fun hne => ?_) (fun hne => ?_)
    · obtain ⟨a3, l3, g1, g2, g3, g4, g5⟩ := k1.get (p := M.length) (by omega)
      refine ⟨_, rfl, _, rfl, m, _, _, _, rfl, k1.top, rfl, g4, a3, _, rfl, g3, ?_⟩
      refine ⟨_, rfl, _, rfl, _, rfl, _, rfl, by show 2 ≤ 16000; decide, _, _, g3, rfl, by rw [List.length_map]; omega, ?_⟩
      obtain ⟨k3, k4⟩ := k1.edge g1 g2 t (M.length + 1)
      rw [if_neg hne] at fin
      walk_at "m"
      exact fin _ k3 ((z2.trans z1 k2).trans k1 k4)
    · rw [if_pos (Decidable.not_not.mp hne)] at fin
      walk_at "m"
      exact fin _ k1 (z2.trans z1 k2)
theorem ok_addmoves (A : At K mg "add_moves" ["moves", "start", "expression"] s_add_moves f fd) (A2 : At K mg "add_row" ["moves", "start", "parts"] s_add_row f2 fd2) (A3 : At K mg "add_any" ["moves", "start", "parts"] s_add_any f3 fd3) (A4 : At K mg "add_again" ["moves", "start", "expression"] s_add_again f4 fd4)
    (m_len : mg "len" = none) (m_range : mg "range" = none) (m_int : mg "int" = none) : ∀ n, FnM P w K mg base "add_moves" (2 * n + 1) 3 (g_mv n)
  | 0 => A.noneM fun ds h Q E ⟨_, _, _, _, _, _, _, _, _, _, hd, _⟩ => by omega
  | n + 1 => by
    have ih := ok_addmoves A A2 A3 A4 m_len m_range m_int n
    exact ok_addmoves1 n A m_len (ok_addrow n A2 ih) (ok_addany n A3 m_len ih) (ok_addagain n A4 m_len m_range m_int ih)
end
end Cut
namespace Cut
open PySem L2 DL ML
local macro_rules | `(tactic| walk_at "m") => `(tactic| repeat (first | with_reducible refine ⟨_, rfl, ?_⟩ | refine ⟨_, rfl, ?_⟩ | refine ⟨rfl, ?_⟩ | refine ⟨_, _, rfl, rfl, ?_⟩ | refine ⟨_, _, rfl, ?_⟩ | refine iteT ?_ | refine iteF ?_ | refine ⟨⟨_, rfl⟩, ?_⟩ | refine ⟨Nat.le_of_ble_eq_true rfl, ?_⟩ | refine ⟨(by decide), ?_⟩ | refine ⟨_, ix_t0 _ _, ?_⟩ | refine ⟨_, ix_l0 _ _, ?_⟩))
abbrev s_closure : Stmt := top 11
abbrev N_closure : List Str := ["moves", "places", "found", "place", "waiting", "characters"]
theorem sc_closure : FnScope N_closure ["moves", "places"] (defScope s_closure) := ⟨rfl, rfl, rfl, by decide +kernel, rfl, by decide +kernel, by decide +kernel⟩
/-- the table of moves as data -/
def mvD (M : Mvs) : D := .lst (M.map fun l => .lst (l.map edD))
def intsD (xs : List Nat) : List D := xs.map fun x => .int (x : Nat)
theorem intsD_map (xs : List Nat) : intsD xs = (xs.map fun x : Nat => (x : Int)).map D.int := by unfold intsD; rw [List.map_map]; rfl
/-- the dict of what is found -/
def fdD (ks : List Nat) : List (Key × D) := ks.map fun (k : Nat) => ((Sum.inl (k : Int) : Key), D.bl true)
theorem fd_val (ks : List Nat) (k : Nat) : valD (fdD ks) (.inl (k : Int)) = if k ∈ ks then some (.bl true) else none := by
  induction ks with
  | nil => rfl
  | cons x xs ih =>
    show (if (Sum.inl (x : Int) : Key) = .inl (k : Int) then some (D.bl true) else valD (fdD xs) (.inl (k : Int))) = _
    by_cases h : x = k
    · subst h; simp
    · have h2 : ¬ (Sum.inl (x : Int) : Key) = .inl (k : Int) := fun z => h (by injection z with z; omega)
      rw [if_neg h2, ih]
      by_cases h3 : k ∈ xs
      · rw [if_pos h3, if_pos (List.mem_cons_of_mem _ h3)]
      · rw [if_neg h3, if_neg (fun z => by rcases List.mem_cons.mp z with z | z; exact h z.symm; exact h3 z)]
theorem fd_put (ks : List Nat) (k : Nat) : putKD (fdD ks) (.inl (k : Int)) (.bl true) = fdD (if k ∈ ks then ks else ks ++ [k]) := by
  by_cases h : k ∈ ks
  · rw [if_pos h]
    unfold putKD
    rw [valD_any, fd_val, if_pos h, if_pos (by rfl)]
    unfold fdD
    rw [List.map_map]
    refine List.map_congr_left fun x _ => ?_
    show (if (Sum.inl (x : Int) : Key) = .inl (k : Int) then _ else _) = _
    split <;> rfl
  · rw [if_neg h, putKD_new _ (by rw [fd_val, if_neg h])]
    unfold fdD
    rw [List.map_append]
    rfl
theorem fd_keys (ks : List Nat) : (fdD ks).map (·.1) = (ks.map fun k : Nat => (k : Int)).map Sum.inl := by unfold fdD; rw [List.map_map, List.map_map]; rfl
theorem fd_list (ks : List Nat) : (fdD ks).map (fun kv => keyB kv.1) = intsD ks := by unfold fdD intsD; rw [List.map_map]; rfl
theorem len_own {h : Hd} {a : Addr} {xs : List D} (e : h a = some (.lst xs)) : lenD ([rw1 a].map (vw h)) = some (.fz (.int (xs.length : Nat))) := by
  have e1 : vw h (.raw (.ref a)) = .lst xs := by
    show (match h a with | some (.lst xs) => D.lst xs | _ => D.raw (.ref a)) = _
    rw [e]
  show lenD [vw h (.raw (.ref a))] = _
  rw [e1]
  rfl
section
variable {P : Program} {w : World} {K : Fg} {mg : Str → Option Value} {base : Heap} {f : Addr} {fd : FuncData}
def g_clos : FM := fun ds h Q _ => ∃ M ps, ds = [mvD M, .lst (intsD ps)] ∧ (∀ p ∈ ps, p < M.length) ∧ (∀ p c q, EM M p c q → p < M.length ∧ q < M.length) ∧ tot M ≤ 15000 ∧ ps.length ≤ 15000 ∧ ∀ h', Le h h' → Q (.fz (.tup (intsD (clo M ps)))) h'
theorem ok_clos (A : At K mg "closure" ["moves", "places"] s_closure f fd) (m_len : mg "len" = none) (m_list : mg "list" = none) (m_tuple : mg "tuple" = none) (m_sorted : mg "sorted" = none) : FnM P w K mg base "closure" 1 2 g_clos := by
  refine A.fnM (okM (k := 0) A.fn sc_closure (by decide) (fun cdv A outer s H E hr tk po => (mss_cons (ms_setDc (i := 2) (own := [("place", 3)]) rfl sc_closure.nd rfl rfl (sw_dict rfl rfl rfl (by decide +kernel)) (mi_seq (me_v 1)) (blkOk_by (N := N_closure) (sc := defScope s_closure) (own := [("place", 3)]) (by decide +kernel)) (fun _ _ _ _ _ => (mg_n 3 sc_closure.nd rfl (by first | exact Or.inl rfl | exact Or.inr rfl))) (fun _ _ _ _ _ => mts_nil) (fun _ _ _ _ _ => (me_v 3)) (fun _ _ _ _ _ => me_bl))
      (mss_cons (ms_set 4 sc_closure.nd rfl (by first | exact Or.inl rfl | exact Or.inr rfl) (me_own (me_dlist rfl (by rfl) m_list (ma_cons (me_v 2) ma_nil))))
      (mss_cons (ms_while po (mt_gt (me_lenV (by rfl) m_len (ma_cons (me_v 4) ma_nil)) me_int) (mss_one (ms_for po rfl (mi_seq (me_ix (me_v 0) (me_pop (me_v 4)) (fun _ _ => rfl))) (mg_tup (n := 2) rfl (mgs_cons (mg_n 5 sc_closure.nd rfl (by first | exact Or.inl rfl | exact Or.inr rfl)) (mgs_cons (mg_n 3 sc_closure.nd rfl (by first | exact Or.inl rfl | exact Or.inr rfl)) mgs_nil))) (mss_one (ms_if (MW.mt (mw_and (mt_eq hr (me_v 5) me_str) (mw_and1 (mt_dnotin hr (me_v 3) (me_v 2))))) (mss_cons (ms_dput hr me_bl (me_v 2) (me_v 3))
      (mss_one (ms_expr (me_app (me_v 4) (ma_cons (me_v 3) ma_nil))))) mss_nil)))))
      (mss_one (ms_ret (me_tuple (by rfl) m_tuple (ma_cons (me_dsort rfl (by rfl) m_sorted (ma_cons (me_v 2) ma_nil)) ma_nil)))))))) ?_)
  rintro ds h Q E hl ⟨M, ps, rfl, hps, hE, ht, hpl, q⟩
  have hMl := tot_len M
  walk_at "m"
  intro d hd
  refine dcM_inv (fun ds h' => ∃ rs ks, ds = intsD rs ∧ h' = put h d (.dic (fdD ks)) ∧ ks.Nodup ∧ (∀ x, x ∈ ks ∨ x ∈ rs ↔ x ∈ ps) ∧ ks.length + rs.length ≤ 15000) _ _ ⟨ps, [], rfl, rfl, by simp, fun x => by simp, by simpa using hpl⟩ ?_ ?_
  · rintro x es h' R ⟨rs, ks, e, rfl, nd, hm, hc⟩ hR
    cases rs with
    | nil => cases e
    | cons r rs =>
      injection e with e1 e2
      subst e1 e2
      rw [List.length_cons] at hc
      walk_at "m"
      refine ⟨_, _, put_same, rfl, by unfold fdD; rw [List.length_map]; omega, ?_⟩
      dsimp only [dat_fz]
      rw [put_put, fd_put]
      refine hR _ ⟨rs, _, rfl, rfl, ?_, fun x => ?_, ?_⟩
      · split
        · exact nd
        · rename_i hn
          exact List.nodup_append.mpr ⟨nd, by simp, fun a ha b hb z => hn (by rw [← List.mem_singleton.mp hb, ← z]; exact ha)⟩
      · rw [← hm x]
        split
        · rename_i hn
          constructor
          · rintro (h | h)
            · exact .inl h
            · exact .inr (List.mem_cons_of_mem _ h)
          · rintro (h | h)
            · exact .inl h
            · rcases List.mem_cons.mp h with h | h
              · rw [h]; exact .inl hn
              · exact .inr h
        · simp only [List.mem_append, List.mem_cons, List.not_mem_nil, or_false]
          constructor
          · rintro ((h | h) | h)
            · exact .inl h
            · exact .inr (.inl h)
            · exact .inr (.inr h)
          · rintro (h | h | h)
            · exact .inl (.inl h)
            · exact .inl (.inr h)
            · exact .inr h
      · split
        · omega
        · rw [List.length_append, List.length_singleton]; omega
  rintro h' ⟨rs, ks, e, rfl, nd, hm, hc⟩
  cases rs with
  | cons _ _ => cases e
  | nil =>
    clear e hc
    have hm : ∀ x, x ∈ ks ↔ x ∈ ps := fun x => by rw [← hm x]; simp
    walk_at "m"
    refine ⟨d, _, rfl, put_same, _, rfl, fun b hb => ?_⟩
    have hbd : b ≠ d := fun z => by rw [z, put_same] at hb; cases hb
    rw [fd_list]
    have ndl : ∀ {ks : List Nat}, ks.Nodup → (∀ x ∈ ks, x < M.length ∧ ∃ p ∈ ps, Pth (EM M) p [] x) → ks.length ≤ M.length := fun {ks} nd hk => by
      have := nd.length_le_of_subset (l₂ := List.range M.length) fun x hx => List.mem_range.mpr (hk x hx).1
      rwa [List.length_range] at this
    refine ⟨fun n ρ h' => ∃ ks ws x3 x5, ρ = [some (mvD M), some (.lst (intsD ps)), some (rw1 d), x3, some (rw1 b), x5] ∧ h' = put (put h d (.dic (fdD ks))) b (.lst (intsD ws)) ∧ ks.Nodup ∧ (∀ x ∈ ks, x < M.length ∧ ∃ p ∈ ps, Pth (EM M) p [] x) ∧ (∀ p ∈ ps, p ∈ ks) ∧ (∀ x ∈ ws, x ∈ ks) ∧ (∀ x ∈ ks, x ∉ ws → ∀ q, EM M x [] q → q ∈ ks) ∧ ws.length + 2 * (M.length - ks.length) ≤ n ∧ ws.length ≤ ks.length,
      ⟨_, ks, ks, none, none, rfl, rfl, nd, fun x hx => ⟨hps x ((hm x).mp hx), x, (hm x).mp hx, .nil _⟩, fun p hp => (hm p).mpr hp, fun _ h => h, fun x hx hn => absurd hx hn, Nat.le_refl _, Nat.le_refl _⟩, ?_⟩
    rintro n ρ h' ⟨ks, ws, x3, x5, rfl, rfl, y1, y2, y3, y4, y5, y6, y7⟩
    have hkl := ndl y1 y2
    walk_at "m"
    refine ⟨_, len_own put_same, rfl, ?_⟩
    walk_at "m"
    have hwl : (intsD ws).length = ws.length := by unfold intsD; rw [List.length_map]
    refine ifd (p := 0 < ws.length) (by rw [hwl]; exact decide_eq_decide.mpr (by omega)) (fun hlt => ?_) (fun hlt => ?_)
    · obtain ⟨ws', x, rfl⟩ : ∃ ws' x, ws = ws' ++ [x] := ⟨ws.dropLast, ws.getLast (by intro z; rw [z] at hlt; simp at hlt), (List.dropLast_concat_getLast _).symm⟩
      have hx := y4 x (List.mem_append_right _ (List.mem_singleton.mpr rfl))
      obtain ⟨hxl, p0, hp0, hpx⟩ := y2 x hx
      rw [List.length_append, List.length_singleton] at y6 y7
      walk_at "m"
      refine ⟨b, intsD ws', .int (x : Nat), rfl, by rw [put_same]; unfold intsD; rw [List.map_append]; rfl, ?_⟩
      rw [put_put]
      have hat : ixD (mvD M) (.int (x : Nat)) = some (.fz (.lst ((M[x]).map edD))) := by
        refine ix_lst ?_
        rw [atI_get (by omega) (by rw [List.length_map]; omega), Int.toNat_natCast, List.getElem?_map, List.getElem?_eq_getElem hxl]
        rfl
      refine ⟨_, hat, _, rfl, ?_⟩
      refine loopM_inv (fun ds ρ h' => ∃ es ks' ws2 x3 x5, ds = es.map edD ∧ (∃ pre, M[x] = pre ++ es ∧ ∀ q, (Str.empty, q) ∈ pre → q ∈ ks') ∧ ρ = [some (mvD M), some (.lst (intsD ps)), some (rw1 d), x3, some (rw1 b), x5] ∧ h' = put (put h d (.dic (fdD ks'))) b (.lst (intsD ws2)) ∧ ks'.Nodup ∧ (∀ x ∈ ks', x < M.length ∧ ∃ p ∈ ps, Pth (EM M) p [] x) ∧ (∀ p ∈ ps, p ∈ ks') ∧ (∀ z ∈ ws2, z ∈ ks') ∧ (∀ z ∈ ks', z ∉ ws2 → z ≠ x → ∀ q, EM M z [] q → q ∈ ks') ∧ x ∈ ks' ∧ ws2.length + 2 * (M.length - ks'.length) + 1 ≤ n ∧ ws2.length + 1 ≤ ks'.length) _ _ _ ⟨M[x], ks, ws', x3, x5, rfl, ⟨[], rfl, fun q z => nomatch z⟩, rfl, rfl, y1, y2, y3, fun z hz => y4 z (List.mem_append_left _ hz), fun z hz hn hne => y5 z hz fun w => by rcases List.mem_append.mp w with w | w; exact hn w; exact hne (List.mem_singleton.mp w), hx, by omega, by omega⟩ ?_ ?_
      · rintro e es0 ρ h' R ⟨es, ks', ws2, x3, x5, e1, ⟨pre, hpre, hpe⟩, rfl, rfl, z1, z2, z3, z4, z5, z6, z7, z8⟩ hR
        cases es with
        | nil => cases e1
        | cons e2 es =>
          injection e1 with e3 e4
          subst e3 e4
          obtain ⟨t, qn⟩ := e2
          have hkl2 := ndl z1 z2
          have hmem : (t, qn) ∈ M[x] := by rw [hpre]; exact List.mem_append_right _ (List.mem_cons_self ..)
          have hEq : EM M x t.cps.toList qn := ⟨M[x], t, List.getElem?_eq_getElem hxl, hmem, rfl⟩
          have hpre2 : M[x] = (pre ++ [(t, qn)]) ++ es := by rw [hpre]; simp
          refine ⟨_, rfl, rfl, _, _, rfl, _, _, rfl, rfl, ?_⟩
          walk_at "m"
          refine ifd (p := t = Str.empty) (eqS_eq t "") (fun hte => ?_) (fun hte => ?_)
          · subst hte
            walk_at "m"
            refine ⟨d, _, _, rfl, by rw [put_ne (Ne.symm hbd)]; exact put_same, rfl, ?_⟩
            rw [fd_val]
            by_cases hin : qn ∈ ks'
            · rw [if_pos hin]
              refine ⟨_, rfl, iteF ?_⟩
              exact hR _ _ ⟨es, ks', ws2, _, _, rfl, ⟨pre ++ [(Str.empty, qn)], hpre2, fun q hq => by rcases List.mem_append.mp hq with hq | hq; exact hpe q hq; rw [show q = qn by injection List.mem_singleton.mp hq]; exact hin⟩, rfl, rfl, z1, z2, z3, z4, z5, z6, z7, z8⟩
            · rw [if_neg hin]
              refine ⟨_, rfl, iteT ?_⟩
              walk_at "m"
              refine ⟨d, _, _, rfl, by rw [put_ne (Ne.symm hbd)]; exact put_same, rfl, by unfold fdD; rw [List.length_map]; omega, ?_⟩
              dsimp only [dat_fz]
              rw [fd_put, if_neg hin]
              walk_at "m"
              refine ⟨b, _, rfl, by rw [put_ne hbd]; exact put_same, ?_⟩
              walk_at "m"
              refine ⟨_, _, by rw [put_ne hbd]; exact put_same, rfl, by unfold intsD; rw [List.length_map]; omega, ?_⟩
              have hq2 := hE _ _ _ hEq
              have hreach : ∃ p ∈ ps, Pth (EM M) p [] qn := ⟨p0, hp0, hpx.trans (.eps hEq (.nil _))⟩
              have hnd2 : (ks' ++ [qn]).Nodup := List.nodup_append.mpr ⟨z1, by simp, fun a ha c hc z => hin (by rw [← List.mem_singleton.mp hc, ← z]; exact ha)⟩
              have hall2 : ∀ x ∈ ks' ++ [qn], x < M.length ∧ ∃ p ∈ ps, Pth (EM M) p [] x := fun z hz => by
                rcases List.mem_append.mp hz with hz | hz
                · exact z2 z hz
                · rw [List.mem_singleton.mp hz]; exact ⟨hq2.2, hreach⟩
              have hk3 := ndl hnd2 hall2
              rw [List.length_append, List.length_singleton] at hk3
              refine hR _ _ ⟨es, ks' ++ [qn], ws2 ++ [qn], _, _, rfl, ⟨pre ++ [(Str.empty, qn)], hpre2, fun q hq => ?_⟩, rfl, ?_, hnd2, hall2, fun p hp => List.mem_append_left _ (z3 p hp), fun z hz => ?_, fun z hz hn hne q hq => ?_, List.mem_append_left _ z6, ?_, ?_⟩
              · rcases List.mem_append.mp hq with hq | hq
                · exact List.mem_append_left _ (hpe q hq)
                · rw [show q = qn by injection List.mem_singleton.mp hq]; exact List.mem_append_right _ (List.mem_singleton.mpr rfl)
              · rw [show intsD (ws2 ++ [qn]) = intsD ws2 ++ [.int (qn : Nat)] by unfold intsD; rw [List.map_append]; rfl]
                funext c
                unfold put
                by_cases hc1 : c = b
                · simp [hc1]
                · by_cases hc2 : c = d
                  · simp [hc2, Ne.symm hbd, hc1]
                  · simp [hc1, hc2]
              · rcases List.mem_append.mp hz with hz | hz
                · exact List.mem_append_left _ (z4 z hz)
                · exact List.mem_append_right _ hz
              · rcases List.mem_append.mp hz with hz | hz
                · exact List.mem_append_left _ (z5 z hz (fun w => hn (List.mem_append_left _ w)) hne q hq)
                · exact absurd (List.mem_append_right ws2 hz) hn
              · rw [List.length_append, List.length_append, List.length_singleton]; omega
              · rw [List.length_append, List.length_append, List.length_singleton]; omega
          · refine hR _ _ ⟨es, ks', ws2, _, _, rfl, ⟨pre ++ [(t, qn)], hpre2, fun q hq => ?_⟩, rfl, rfl, z1, z2, z3, z4, z5, z6, z7, z8⟩
            rcases List.mem_append.mp hq with hq | hq
            · exact hpe q hq
            · injection List.mem_singleton.mp hq with h1 h2
              exact absurd h1.symm hte
      · rintro ρ h' ⟨es, ks', ws2, x3, x5, e1, ⟨pre, hpre, hpe⟩, rfl, rfl, z1, z2, z3, z4, z5, z6, z7, z8⟩
        cases es with
        | cons _ _ => cases e1
        | nil =>
          rw [List.append_nil] at hpre
          refine ⟨n - 1, by omega, ks', ws2, x3, x5, rfl, rfl, z1, z2, z3, z4, fun z hz hn q hq => ?_, by omega, by omega⟩
          by_cases hzx : z = x
          · subst hzx
            obtain ⟨l, t, h1, h2, h3⟩ := hq
            rw [List.getElem?_eq_getElem hxl] at h1
            cases h1
            have : t = Str.empty := str_ext h3
            subst this
            exact hpe q (by rw [← hpre]; exact h2)
          · exact z5 z hz hn hzx q hq
    · have hw0 : ws = [] := by cases ws with
        | nil => rfl
        | cons _ _ => simp at hlt
      subst hw0
      walk_at "m"
      refine ⟨d, _, _, rfl, by rw [put_ne (Ne.symm hbd)]; exact put_same, fd_keys ks, fun ys hp hs => ?_⟩
      have hcl : ∀ {p q : Nat} {v : Tx}, Pth (EM M) p v q → v = [] → p ∈ ks → q ∈ ks := fun x => by
        induction x with
        | nil => intro _ h; exact h
        | eps z _ ih => intro e h; exact ih e (y5 _ h (by simp) _ z)
        | chr _ _ _ _ => intro e; cases e
      have e1 := sorted_rch (M := M) (R := fun x => ∃ p ∈ ps, Pth (EM M) p [] x) y1 (fun x => ⟨y2 x, fun ⟨_, p, hp, h⟩ => hcl h rfl (y3 p hp)⟩) hp hs
      subst e1
      walk_at "m"
      have e2 : ((rch M fun x => ∃ p ∈ ps, Pth (EM M) p [] x).map fun k : Nat => (k : Int)).map D.int = intsD (clo M ps) := by unfold clo; rw [intsD_map]
      rw [e2]
      refine q _ ?_
      intro c o hc
      rw [put_ne (fun z => by rw [← z, put_ne (hd_ne hc hd), hc] at hb; cases hb), put_ne (hd_ne hc hd)]
      exact hc
end
end Cut
namespace Cut
open PySem L2 DL ML
local macro_rules | `(tactic| walk_at "m") => `(tactic| repeat (first | with_reducible refine ⟨_, rfl, ?_⟩ | refine ⟨_, rfl, ?_⟩ | refine ⟨rfl, ?_⟩ | refine ⟨_, _, rfl, rfl, ?_⟩ | refine ⟨_, _, rfl, ?_⟩ | refine iteT ?_ | refine iteF ?_ | refine ⟨⟨_, rfl⟩, ?_⟩ | refine ⟨Nat.le_of_ble_eq_true rfl, ?_⟩ | refine ⟨(by decide), ?_⟩ | refine ⟨_, ix_t0 _ _, ?_⟩ | refine ⟨_, ix_l0 _ _, ?_⟩))
abbrev s_Matcher_init : Stmt := inClass (top 12) 0
abbrev N_Matcher_init : List Str := ["self", "pattern", "part"]
theorem sc_Matcher_init : FnScope N_Matcher_init ["self", "pattern"] (defScope s_Matcher_init) := ⟨rfl, rfl, rfl, by decide +kernel, rfl, by decide +kernel, by decide +kernel⟩
abbrev s_Matcher_begin : Stmt := inClass (top 12) 1
abbrev N_Matcher_begin : List Str := ["self", "part"]
theorem sc_Matcher_begin : FnScope N_Matcher_begin ["self"] (defScope s_Matcher_begin) := ⟨rfl, rfl, rfl, by decide +kernel, rfl, by decide +kernel, by decide +kernel⟩
abbrev s_Matcher_step : Stmt := inClass (top 12) 2
abbrev N_Matcher_step : List Str := ["self", "state", "character", "part", "one", "places", "characters", "place"]
theorem sc_Matcher_step : FnScope N_Matcher_step ["self", "state", "character"] (defScope s_Matcher_step) := ⟨rfl, rfl, rfl, by decide +kernel, rfl, by decide +kernel, by decide +kernel⟩
abbrev s_Matcher_accepts : Stmt := inClass (top 12) 3
abbrev N_Matcher_accepts : List Str := ["self", "state", "found", "part", "one"]
theorem sc_Matcher_accepts : FnScope N_Matcher_accepts ["self", "state"] (defScope s_Matcher_accepts) := ⟨rfl, rfl, rfl, by decide +kernel, rfl, by decide +kernel, by decide +kernel⟩
def pf (r : Rx) : List (Str × D) := [("word", .str "plain"), ("within", .lst []), ("moves", mvD (tab r)), ("goal", .int (gol r : Nat))]
def nf (w : Str) (ms : List D) : List (Str × D) := [("word", .str w), ("within", .lst ms), ("moves", .lst [.lst []]), ("goal", .int 0)]
mutual
/-- a matcher as data -/
def mtD (C : Addr) : Rx → D
  | .set s => .obj C (pf (.set s))
  | .row ps => .obj C (pf (.row ps))
  | .again p lo hi => .obj C (pf (.again p lo hi))
  | .any ps => if plain (.any ps) = true then .obj C (pf (.any ps)) else .obj C (nf "any" (mtL C ps))
  | .all ps => .obj C (nf "all" (mtL C ps))
  | .no p => .obj C (nf "not" [mtD C p])
def mtL (C : Addr) : List Rx → List D
  | [] => []
  | p :: ps => mtD C p :: mtL C ps
end
theorem mtL_map (C : Addr) : ∀ ps, mtL C ps = ps.map (mtD C)
  | [] => rfl
  | p :: ps => by rw [mtL, mtL_map C ps]; rfl
theorem mtD_plain {C : Addr} {r : Rx} (h : plain r = true) : mtD C r = .obj C (pf r) := by
  cases r with
  | set s => rw [mtD]
  | row ps => rw [mtD]
  | again p lo hi => rw [mtD]
  | any ps => rw [mtD, if_pos h]
  | all ps => rw [plain] at h; cases h
  | no p => rw [plain] at h; cases h
theorem mtD_not {C : Addr} {r : Rx} (h : plain r = false) (hh : hasP r = true) : mtD C r = .obj C (nf r.word (r.parts.map (mtD C))) ∧ eqS r.word "plain" = false := by
  cases r with
  | set s => rw [plain] at h; cases h
  | row ps => rw [plain] at h; rw [hasP, h] at hh; cases hh
  | again p lo hi => rw [plain] at h; rw [hasP, h] at hh; cases hh
  | any ps => rw [mtD, if_neg (by rw [h]; decide), mtL_map]; exact ⟨rfl, by show eqS "any" "plain" = false; rw [eqS_eq]; decide +kernel⟩
  | all ps => rw [mtD, mtL_map]; exact ⟨rfl, by show eqS "all" "plain" = false; rw [eqS_eq]; decide +kernel⟩
  | no p => rw [mtD]; exact ⟨rfl, by show eqS "not" "plain" = false; rw [eqS_eq]; decide +kernel⟩
theorem fzl_rows {h : Hd} {A : Addr → Prop} : ∀ {as : List Addr} {M : Mvs}, as.length = M.length → (∀ (i : Nat) (a : Addr) (l : List (Str × Nat)), as[i]? = some a → M[i]? = some l → h a = some (.lst (l.map edD))) → (∀ a ∈ as, A a) → FzL h A (as.map rw1) (M.map fun l => .lst (l.map edD))
  | [], [], _, _, _ => .nil
  | [], _ :: _, h, _, _ => by simp at h
  | _ :: _, [], h, _, _ => by simp at h
  | a :: as, l :: M, h1, h2, h3 => .cons (.lst (h2 0 a l rfl rfl) (h3 a (List.mem_cons_self ..)) (FzL.same _)) (fzl_rows (by simpa using h1) (fun i b k q1 q2 => h2 (i + 1) b k (by simpa using q1) (by simpa using q2)) fun b hb => h3 b (List.mem_cons_of_mem _ hb))
theorem MvO.fz {h : Hd} {A : Addr → Prop} {m : Addr} {as : List Addr} {M : Mvs} (x : MvO h m as M) (hm : A m) (ha : ∀ a ∈ as, A a) : Fz h A (rw1 m) (mvD M) := .lst x.top hm (fzl_rows x.len x.row ha)
theorem _root_.ML.AtI.noneI {P : Program} {w : World} {K : Fg} {mg : Str → Option Value} {base : Heap} {C : Addr} {x qual : Str} {ps : List Str} {st : Stmt} {f : Addr} {fd : FuncData} {k n : Nat} {g : FM} (A : AtI K mg C x qual ps st f fd) (h : ∀ ds hd Q E, ¬ g ds hd Q E) : MkM P w K mg base x C k n g :=
  A.mkM ⟨fun vs H Q E ⟨_, _, ds, P, PE, _, _, _, hg, _⟩ => absurd hg (h ds _ P PE), fun _ _ _ _ _ _ _ _ _ _ _ _ _ ⟨_, _, ds, P, PE, _, _, _, hg, _⟩ => absurd hg (h ds _ P PE)⟩
section
variable {P : Program} {w : World} {K : Fg} {mg : Str → Option Value} {base : Heap} {f : Addr} {fd : FuncData} {CM : Addr}
def g_Minit (CM : Addr) (n : Nat) : FM := fun ds h Q _ => ∃ a r, ds = [rw1 a, toD r] ∧ h a = some (.ins CM []) ∧ okR r = true ∧ hasP r = true ∧ rdep r < n ∧ n ≤ 25 ∧ costA r ≤ 14000 ∧ ∀ h' A, Fz h' A (rw1 a) (mtD CM r) → (∀ b o, h b = some o → b ≠ a → h' b = some o ∧ ¬ A b) → Q (.fz .non) h'
/-- Matcher(r), frozen: nothing else is changed -/
theorem make_matcher {n : Nat} {ω : Wω} {ρ : Me} {h : Hd} {τs : TMA} {P : Res → Hd → Prop} {r : Rx} (ho : okR r = true) (hh : hasP r = true) (hd : rdep r < n) (hn : n ≤ 25) (hc : costA r ≤ 14000) (q : P (.fz (mtD CM r)) h) (hs : ∀ k : List D → Hd → Prop, k [toD r] h → τs ω ρ h k) : mFz (mMake CM (g_Minit CM n) τs) ω ρ h P := by
  refine hs _ ?_
  intro a ha
  refine ⟨a, r, rfl, put_same, ho, hh, hd, hn, hc, fun h' A f k => ⟨rfl, A, _, h, f, fun b o q => ?_, q⟩⟩
  exact k b o (by rw [put_ne (hd_ne q ha)]; exact q) (hd_ne q ha)
theorem ok_Minit1 (n : Nat) (A : AtI K mg CM "Matcher" "Matcher.__init__" ["self", "pattern"] s_Matcher_init f fd) (f_Matcher_word : Fo K CM "word") (f_Matcher_within : Fo K CM "within") (f_Matcher_moves : Fo K CM "moves") (f_Matcher_goal : Fo K CM "goal")
    (c_is_plain : Fn0 P w K mg base "is_plain" 26 1 (g_is_plain 25)) (c_parts_of : Fn0 P w K mg base "parts_of" 1 1 g_parts_of) (c_add_moves : FnM P w K mg base "add_moves" 51 3 (g_mv 25)) (c_Matcher : MkM P w K mg base "Matcher" CM (52 + 2 * n) 2 (g_Minit CM n)) : MkM P w K mg base "Matcher" CM (52 + 2 * (n + 1)) 2 (g_Minit CM (n + 1)) := by
  refine A.mkM (okM (k := 52 + 2 * n + 1) A.fn sc_Matcher_init (by decide) (fun cdv A outer s H E hr tk po => (mss_cons (ms_fld f_Matcher_word (me_v 0) (me_if (mt_val (me_c0 c_is_plain (hr.mono (by omega)) (by rfl) (ma_cons (me_v 1) ma_nil))) me_str (me_ix (me_v 1) me_int (fun _ _ => rfl))))
      (mss_cons (ms_fld f_Matcher_within (me_v 0) (me_lst ma_nil))
      (mss_cons (ms_fld f_Matcher_moves (me_v 0) (me_own (me_lst (ma_cons (me_own (me_lst ma_nil)) ma_nil))))
      (mss_cons (ms_fld f_Matcher_goal (me_v 0) me_int)
      (mss_one (ms_if (mt_eq hr (me_fld f_Matcher_word (me_v 0)) me_str) (mss_one (ms_fld f_Matcher_goal (me_v 0) (me_cM c_add_moves tk (hr.mono (by omega)) (by rfl) (ma_cons (me_fld f_Matcher_moves (me_v 0)) (ma_cons me_int (ma_cons (me_v 1) ma_nil)))))) (mss_one (ms_fld f_Matcher_within (me_v 0) (me_lc (own := [("part", 2)]) rfl sc_Matcher_init.nd (mi_seq (me_c0 c_parts_of (hr.mono (by omega)) (by rfl) (ma_cons (me_v 1) ma_nil))) (blkOk_by (N := N_Matcher_init) (sc := defScope s_Matcher_init) (own := [("part", 2)]) (by decide +kernel)) (fun _ _ _ _ _ => (mg_n 2 sc_Matcher_init.nd rfl (by first | exact Or.inl rfl | exact Or.inr rfl))) (fun _ _ _ _ _ => mts_nil) (fun _ _ _ _ _ => (me_fz (me_mk c_Matcher takes0 (hr.mono (by omega)) (by rfl) (ma_cons (me_v 2) ma_nil)))))))))))))) ?_)
  rintro ds h Q E hl ⟨a, r, rfl, ha, ho, hh, hd, hn, hc, q⟩
  have pre : ∀ (W : Str) (rest : TMS) (PD : MEnds), (∀ h1 m a0, h1 a = some (.ins CM [("word", .str W), ("within", .lst []), ("moves", rw1 m), ("goal", .int 0)]) → MvO h1 m [a0] [[]] → a ≠ m → a ≠ a0 → (∀ b o, h b = some o → b ≠ a → h1 b = some o ∧ b ≠ m ∧ b ≠ a0) → rest (fun x _ h => E x h) PD [some (rw1 a), some (toD r), none] h1) →
      mSeq (mFldS CM "within" (mV 0) (mLst mANil)) (mSeq (mFldS CM "moves" (mV 0) (mOwn (mLst (mACons (mOwn (mLst mANil)) mANil)))) (mSeq (mFldS CM "goal" (mV 0) (mK (.int 0))) rest)) (fun x _ h => E x h) PD [some (rw1 a), some (toD r), none] (put h a (.ins CM [("word", .str W)])) := by
    intro W rest PD fin
    refine ⟨by show 0 ≤ 16000; decide, _, rfl, a, _, rfl, put_same, Nat.le_of_ble_eq_true rfl, ?_⟩
    rw [put_put]
    refine ⟨by show 0 ≤ 16000; decide, _, rfl, fun a0 ha0 => ⟨by show 1 ≤ 16000; decide, _, rfl, fun m hm => ?_⟩⟩
    have h1 : a0 ≠ a := fun z => by rw [z, put_same] at ha0; cases ha0
    have h2 : m ≠ a0 := fun z => by rw [z, put_same] at hm; cases hm
    have h3 : m ≠ a := fun z => by rw [z, put_ne (Ne.symm h1), put_same] at hm; cases hm
    refine ⟨_, rfl, a, _, rfl, by rw [put_ne (Ne.symm h3), put_ne (Ne.symm h1)]; exact put_same, Nat.le_of_ble_eq_true rfl, ?_⟩
    refine ⟨_, rfl, a, _, rfl, put_same, Nat.le_of_ble_eq_true rfl, ?_⟩
    rw [put_put]
    refine fin _ m a0 put_same ⟨?_, rfl, fun i b l g1 g2 => ?_, by simpa using h2, by simp⟩ (Ne.symm h3) (Ne.symm h1) fun b o hb hba => ?_
    · rw [put_ne h3]; exact put_same
    · have e1 := List.mem_singleton.mp (List.mem_of_getElem? g1)
      have e2 := List.mem_singleton.mp (List.mem_of_getElem? g2)
      rw [e1, e2, put_ne h1, put_ne (Ne.symm h2)]
      exact put_same
    · have b0 : b ≠ a0 := fun z => by rw [← z, put_ne hba, hb] at ha0; cases ha0
      have b1 : b ≠ m := fun z => by rw [← z, put_ne b0, put_ne hba, hb] at hm; cases hm
      exact ⟨by rw [put_ne hba, put_ne b1, put_ne b0, put_ne hba]; exact hb, b1, b0⟩
  walk_at "m"
  refine ⟨ho, by omega, ?_⟩
  cases hpl : plain r with
  | true =>
    refine ⟨_, rfl, iteT ?_⟩
    refine ⟨_, rfl, a, _, rfl, ha, by decide, ?_⟩
    refine pre "plain" _ _ fun h1 m a0 k1 k2 k3 k4 k5 => ?_
    walk_at "m"
    refine ⟨_, _, .inl ⟨a, rfl, k1⟩, rfl, ?_⟩
    walk_at "m"
    refine ifT (word_eq _) ?_
    walk_at "m"
    refine ⟨_, _, .inl ⟨a, rfl, k1⟩, rfl, ?_⟩
    walk_at "m"
    have hcc := costA_plain hpl
    refine ⟨m, [a0], [[]], 0, r, rfl, k2, by decide, hpl, ho, by omega, by show 1 + 0 + _ ≤ 15000; omega, fun h2 as2 y1 y2 => ?_⟩
    have ka : h2 a = _ := y2.fr a _ k1 k3 (by simpa using k4)
    refine ⟨_, rfl, a, _, rfl, ka, Nat.le_of_ble_eq_true rfl, ?_⟩
    have kas : a ∉ as2 := fun z => by
      rcases y2.nw a z with z | z
      · exact k4 (List.mem_singleton.mp z)
      · rw [k1] at z; cases z
    refine q _ (fun b => b = a ∨ b = m ∨ b ∈ as2) ?_ fun b o hb hba => ?_
    · rw [mtD_plain hpl]
      refine .ins put_same (.inl rfl) (.cons (.same _) (.cons (.same _) (.cons ?_ (.cons (.same _) .nil))))
      exact (y1.apart ⟨k3, kas⟩).fz (.inr (.inl rfl)) fun b hb => .inr (.inr hb)
    · obtain ⟨z1, z2, z3⟩ := k5 b o hb hba
      refine ⟨by rw [put_ne hba]; exact y2.fr b o z1 z2 (by simpa using z3), ?_⟩
      rintro (z | z | z)
      · exact hba z
      · exact z2 z
      · rcases y2.nw b z with z | z
        · exact z3 (List.mem_singleton.mp z)
        · rw [z1] at z; cases z
  | false =>
    obtain ⟨e1, e2⟩ := mtD_not (C := CM) hpl hh
    refine ⟨_, rfl, iteF ?_⟩
    refine ⟨_, rfl, _, by rw [toD_eq]; exact ix_t0 _ _, _, rfl, a, _, rfl, ha, by decide, ?_⟩
    refine pre r.word _ _ fun h1 m a0 k1 k2 k3 k4 k5 => ?_
    walk_at "m"
    refine ⟨_, _, .inl ⟨a, rfl, k1⟩, rfl, ?_⟩
    walk_at "m"
    refine ifF e2 ?_
    walk_at "m"
    rw [toDL_map]
    have hps : r.parts.length ≤ 9999 := okR_len ho
    refine lcM_map (φ := toD) (f := mtD CM) r.parts (fun p hp R z => ?_) (by omega) ?_
    · obtain ⟨c1, c2⟩ := costA_parts hpl hh p hp
      show mFz (mMake CM (g_Minit CM n) (mACons (mV 2) mANil)) ωF _ h1 fun r h2 => R r.dat h2
      refine make_matcher (P := fun r h2 => R r.dat h2) (okR_parts ho p hp) c2 (rdep_parts hd (fun z => by rw [z] at hp; cases hp) p hp) (by omega) (by omega) z fun k hk => ⟨_, rfl, hk⟩
    refine ⟨_, rfl, a, _, rfl, k1, Nat.le_of_ble_eq_true rfl, ?_⟩
    refine q _ (fun b => b = a ∨ b = m ∨ b = a0) ?_ fun b o hb hba => ?_
    · rw [e1]
      refine .ins put_same (.inl rfl) (.cons (.same _) (.cons (.same _) (.cons ?_ (.cons (.same _) .nil))))
      exact (k2.apart ⟨k3, by simpa using k4⟩).fz (.inr (.inl rfl)) fun b hb => .inr (.inr (List.mem_singleton.mp hb))
    · obtain ⟨z1, z2, z3⟩ := k5 b o hb hba
      refine ⟨by rw [put_ne hba]; exact z1, ?_⟩
      rintro (z | z | z)
      · exact hba z
      · exact z2 z
      · exact z3 z
theorem ok_Minit (A : AtI K mg CM "Matcher" "Matcher.__init__" ["self", "pattern"] s_Matcher_init f fd) (f_Matcher_word : Fo K CM "word") (f_Matcher_within : Fo K CM "within") (f_Matcher_moves : Fo K CM "moves") (f_Matcher_goal : Fo K CM "goal")
    (c_is_plain : Fn0 P w K mg base "is_plain" 26 1 (g_is_plain 25)) (c_parts_of : Fn0 P w K mg base "parts_of" 1 1 g_parts_of) (c_add_moves : FnM P w K mg base "add_moves" 51 3 (g_mv 25)) : ∀ n, MkM P w K mg base "Matcher" CM (52 + 2 * n) 2 (g_Minit CM n)
  | 0 => A.noneI fun ds h Q E ⟨_, _, _, _, _, _, hd, _⟩ => by omega
  | n + 1 => ok_Minit1 n A f_Matcher_word f_Matcher_within f_Matcher_moves f_Matcher_goal c_is_plain c_parts_of c_add_moves (ok_Minit A f_Matcher_word f_Matcher_within f_Matcher_moves f_Matcher_goal c_is_plain c_parts_of c_add_moves n)
end
end Cut
namespace Cut
open PySem L2 DL ML
local macro_rules | `(tactic| walk_at "m") => `(tactic| repeat (first | with_reducible refine ⟨_, rfl, ?_⟩ | refine ⟨_, rfl, ?_⟩ | refine ⟨rfl, ?_⟩ | refine ⟨_, _, rfl, rfl, ?_⟩ | refine ⟨_, _, rfl, ?_⟩ | refine iteT ?_ | refine iteF ?_ | refine ⟨⟨_, rfl⟩, ?_⟩ | refine ⟨Nat.le_of_ble_eq_true rfl, ?_⟩ | refine ⟨(by decide), ?_⟩ | refine ⟨_, ix_t0 _ _, ?_⟩ | refine ⟨_, ix_l0 _ _, ?_⟩))
mutual
/-- the state of a matcher behind a text -/
noncomputable def sta : Rx → Tx → D
  | .set s, w => .tup (intsD (run (tab (.set s)) w))
  | .row ps, w => .tup (intsD (run (tab (.row ps)) w))
  | .again p lo hi, w => .tup (intsD (run (tab (.again p lo hi)) w))
  | .any ps, w => if plain (.any ps) = true then .tup (intsD (run (tab (.any ps)) w)) else .tup (staL ps w)
  | .all ps, w => .tup (staL ps w)
  | .no p, w => .tup [sta p w]
noncomputable def staL : List Rx → Tx → List D
  | [], _ => []
  | p :: ps, w => sta p w :: staL ps w
end
theorem staL_map (w : Tx) : ∀ ps, staL ps w = ps.map fun p => sta p w
  | [] => rfl
  | p :: ps => by rw [staL, staL_map w ps]; rfl
theorem sta_plain {r : Rx} (h : plain r = true) (w : Tx) : sta r w = .tup (intsD (run (tab r) w)) := by
  cases r with
  | set s => rw [sta]
  | row ps => rw [sta]
  | again p lo hi => rw [sta]
  | any ps => rw [sta, if_pos h]
  | all ps => rw [plain] at h; cases h
  | no p => rw [plain] at h; cases h
theorem sta_not {r : Rx} (h : plain r = false) (hh : hasP r = true) (w : Tx) : sta r w = .tup (r.parts.map fun p => sta p w) := by
  cases r with
  | set s => rw [plain] at h; cases h
  | row ps => rw [plain] at h; rw [hasP, h] at hh; cases hh
  | again p lo hi => rw [plain] at h; rw [hasP, h] at hh; cases hh
  | any ps => rw [sta, if_neg (by rw [h]; decide), staL_map]; rfl
  | all ps => rw [sta, staL_map]; rfl
  | no p => rw [sta]; rfl
theorem zip_maps {α : Type} (f g : α → D) : ∀ l : List α, zipD (l.map f) (l.map g) = l.map fun x => .tup [f x, g x]
  | [] => rfl
  | x :: l => by rw [List.map_cons, List.map_cons, zipD, zip_maps f g l]; rfl
theorem in_nats (g : Nat) (xs : List Nat) : inD (.int (g : Nat)) (.tup (intsD xs)) = some (.fz (.bl (decide (g ∈ xs)))) := by
  rw [intsD_map]
  have h := in_ints (g : Nat) (xs.map fun x : Nat => (x : Int))
  have e : inD (.int (g : Nat)) (.tup ((xs.map fun x : Nat => (x : Int)).map D.int)) = inD (.int (g : Nat)) (.lst ((xs.map fun x : Nat => (x : Int)).map D.int)) := rfl
  rw [e, h]
  congr 3
  refine decide_eq_decide.mpr ⟨fun z => ?_, fun z => List.mem_map.mpr ⟨g, z, rfl⟩⟩
  obtain ⟨x, hx, e⟩ := List.mem_map.mp z
  have : x = g := by omega
  rw [← this]; exact hx
structure MOk (r : Rx) (n : Nat) : Prop where
  ok : okR r = true
  hp : hasP r = true
  dp : rdep r < n
  ct : costA r ≤ 14000
theorem MOk.parts {r : Rx} {n : Nat} (x : MOk r (n + 1)) (h : plain r = false) : ∀ p ∈ r.parts, MOk p n := fun p hp => by
  obtain ⟨c1, c2⟩ := costA_parts h x.hp p hp
  have := x.ct
  exact ⟨okR_parts x.ok p hp, c2, rdep_parts x.dp (fun z => by rw [z] at hp; cases hp) p hp, by omega⟩
theorem MOk.tab {r : Rx} {n : Nat} (x : MOk r n) (h : plain r = true) : tot (tab r) ≤ 14500 ∧ gol r < (tab r).length ∧ 0 < (tab r).length ∧ ∀ p c q, EM (tab r) p c q → p < (tab r).length ∧ q < (tab r).length := by
  have h1 := addM_tot r [[]] 0
  have h2 := costA_plain h
  have h3 := x.ct
  have h4 : tot [[]] = 1 := rfl
  obtain ⟨h5, h6, h7⟩ := tab_lt h x.ok
  exact ⟨by unfold Cut.tab; omega, h5, h6, h7⟩
section
variable {P : Program} {w : World} {K : Fg} {mg : Str → Option Value} {base : Heap} {f : Addr} {fd : FuncData} {CM : Addr}
def g_closE : FM := fun ds h Q _ => ∃ M ps, ds = [mvD M, .lst (intsD ps)] ∧ (∀ p ∈ ps, p < M.length) ∧ (∀ p c q, EM M p c q → p < M.length ∧ q < M.length) ∧ tot M ≤ 15000 ∧ ps.length ≤ 15000 ∧ Q (.fz (.tup (intsD (clo M ps)))) h
theorem clos_E (c : FnM P w K mg base "closure" 1 2 g_clos) : FnM P w K mg base "closure" 1 2 g_closE := c.less fun ds h P E ⟨M, ps, e, a1, a2, a3, a4, q⟩ => ⟨M, ps, e, a1, a2, a3, a4, fun h' l => ⟨h, l, q⟩⟩
def g_begin (CM : Addr) (n : Nat) : FM := fun ds h Q _ => ∃ r, ds = [mtD CM r] ∧ MOk r n ∧ Q (.fz (sta r [])) h
theorem ok_begin (A : AtM K CM "begin" "Matcher.begin" ["self"] s_Matcher_begin f fd) (f_Matcher_word : Fo K CM "word") (f_Matcher_within : Fo K CM "within") (f_Matcher_moves : Fo K CM "moves") (m_tuple : mg "tuple" = none) (c_closure : FnM P w K mg base "closure" 1 2 g_closE) : ∀ n, MthM P w K mg base CM "begin" (2 + n) 1 (g_begin CM n)
  | 0 => A.none fun ds h Q E ⟨_, _, x, _⟩ => by have := x.dp; omega
  | n + 1 => by
    have c_Matcher_begin := ok_begin A f_Matcher_word f_Matcher_within f_Matcher_moves m_tuple c_closure n
    refine A.mth (okM (k := 2 + n) A.fn sc_Matcher_begin (by decide) (fun cdv A outer s H E hr tk po => (mss_cons (ms_if (mt_eq hr (me_fld f_Matcher_word (me_v 0)) me_str) (mss_one (ms_ret (me_cM c_closure tk (hr.mono (by omega)) (by rfl) (ma_cons (me_fld f_Matcher_moves (me_v 0)) (ma_cons (me_lst (ma_cons me_int ma_nil)) ma_nil))))) mss_nil)
      (mss_one (ms_ret (me_tuple (by rfl) m_tuple (ma_cons (me_lc (own := [("part", 1)]) rfl sc_Matcher_begin.nd (mi_seq (me_fld f_Matcher_within (me_v 0))) (blkOk_by (N := N_Matcher_begin) (sc := defScope s_Matcher_begin) (own := [("part", 1)]) (by decide +kernel)) (fun _ _ _ _ _ => (mg_n 1 sc_Matcher_begin.nd rfl (by first | exact Or.inl rfl | exact Or.inr rfl))) (fun _ _ _ _ _ => mts_nil) (fun _ _ _ _ _ => (me_mM0 c_Matcher_begin takes0 (hr.mono (by omega)) (me_v 1)))) ma_nil)))))) ?_)
    rintro ds h Q E hl ⟨r, rfl, x, q⟩
    cases hpl : plain r with
    | true =>
      obtain ⟨t1, t2, t3, t4⟩ := x.tab hpl
      rw [mtD_plain hpl]
      rw [sta_plain hpl, ← run_nil] at q
      walk_at "m"
      refine ⟨_, _, .inr rfl, rfl, ?_⟩
      walk_at "m"
      refine ifT (word_eq _) ?_
      walk_at "m"
      refine ⟨_, _, .inr rfl, rfl, ?_⟩
      walk_at "m"
      exact ⟨tab r, [0], rfl, fun p hp => by rw [List.mem_singleton.mp hp]; exact t3, t4, by omega, by show 1 ≤ 15000; decide, q⟩
    | false =>
      obtain ⟨e1, e2⟩ := mtD_not (C := CM) hpl x.hp
      rw [e1]
      rw [sta_not hpl x.hp] at q
      have hps := okR_len x.ok
      walk_at "m"
      refine ⟨_, _, .inr rfl, rfl, ?_⟩
      walk_at "m"
      refine ifF e2 ?_
      walk_at "m"
      refine ⟨_, _, .inr rfl, rfl, ?_⟩
      walk_at "m"
      refine lcM_map (φ := mtD CM) (f := fun p => sta p []) r.parts (fun p hp R z => ?_) (by omega) ?_
      · have y := x.parts hpl p hp
        have hm : ∃ fs, isI h (mtD CM p) CM fs ∧ fs.lookup ("begin" : Str) = none := by
          cases hp2 : plain p with
          | true => exact ⟨_, .inr (mtD_plain hp2), rfl⟩
          | false => exact ⟨_, .inr (mtD_not hp2 y.hp).1, rfl⟩
        refine ⟨_, rfl, hm, ?_⟩
        exact ⟨p, rfl, y, z⟩
      · walk_at "m"
        exact q
end
end Cut
namespace Cut
open PySem L2 DL ML
local macro_rules | `(tactic| walk_at "m") => `(tactic| repeat (first | with_reducible refine ⟨_, rfl, ?_⟩ | refine ⟨_, rfl, ?_⟩ | refine ⟨rfl, ?_⟩ | refine ⟨_, _, rfl, rfl, ?_⟩ | refine ⟨_, _, rfl, ?_⟩ | refine iteT ?_ | refine iteF ?_ | refine ⟨⟨_, rfl⟩, ?_⟩ | refine ⟨Nat.le_of_ble_eq_true rfl, ?_⟩ | refine ⟨(by decide), ?_⟩ | refine ⟨_, ix_t0 _ _, ?_⟩ | refine ⟨_, ix_l0 _ _, ?_⟩))
theorem is_mt (h : Hd) (CM : Addr) {r : Rx} (hp : hasP r = true) {m : Str} (hm : (pf r).lookup m = none ∧ ∀ w ms, (nf w ms).lookup m = none) : ∃ fs, isI h (mtD CM r) CM fs ∧ fs.lookup m = none := by
  cases hp2 : plain r with
  | true => exact ⟨_, .inr (mtD_plain hp2), hm.1⟩
  | false => exact ⟨_, .inr (mtD_not hp2 hp).1, hm.2 _ _⟩
section
variable {P : Program} {w : World} {K : Fg} {mg : Str → Option Value} {base : Heap} {f : Addr} {fd : FuncData} {CM : Addr}
/-- the two clauses of a step -/
theorem lc2_stp {M : Mvs} {c : Nat} {fs : List (Str × D)} {st : D} {x3 x5 : Option D} {h : Hd} {P : List D → Hd → Prop} (hM2 : fs.lookup ("moves" : Str) = some (mvD M)) : ∀ (xs : List Nat) (acc : List D), (∀ x ∈ xs, x < M.length) → acc.length + lens M xs ≤ 16000 → P (acc ++ intsD (stp M xs c)) h →
    lc2M (gM 4) mYes (mSeqI (mBin ixD (mFld CM "moves" (mV 0)) (mV 4))) (gTupM 2 (gConsM (gM 6) (gConsM (gM 7) gNilM))) (mAndT (mT (mBin neD (mV 6) (mK (.str "")))) (mT (mBin inD (mV 2) (mV 6)))) (mV 7) [6, 7] [some (.obj CM fs), some st, some (.str ⟨#[c]⟩), x3, none, x5, none, none] P (intsD xs) h acc
  | [], acc, _, _, q => by
    have e : intsD (stp M [] c) = [] := rfl
    rw [e, List.append_nil] at q
    exact q
  | x :: xs, acc, hx, hlen, q => by
    have hxl := hx x (List.mem_cons_self ..)
    have hat : ixD (mvD M) (.int (x : Nat)) = some (.fz (.lst ((M[x]).map edD))) := by
      refine ix_lst ?_
      rw [atI_get (by omega) (by rw [List.length_map]; omega), Int.toNat_natCast, List.getElem?_map, List.getElem?_eq_getElem hxl]
      rfl
    have hgd : M.getD x [] = M[x] := by rw [List.getD_eq_getElem?_getD, List.getElem?_eq_getElem hxl]; rfl
    have hlens : lens M (x :: xs) = M[x].length + lens M xs := by unfold lens; rw [List.map_cons, List.sum_cons, hgd]
    have hstp : stp M (x :: xs) c = ((M[x]).filter fun e => decide (e.1 ≠ Str.empty) && decide (c ∈ e.1.cps.toList)).map (·.2) ++ stp M xs c := by unfold stp; rw [List.flatMap_cons, hgd]
    refine ⟨_, rfl, fs, _, .inr rfl, hM2, _, rfl, _, hat, _, rfl, ?_⟩
    refine lcM_pure (φ := edD) (b := fun e => decide (e.1 ≠ Str.empty) && decide (c ∈ e.1.cps.toList)) (f := fun e => .int (e.2 : Nat)) M[x] acc (fun e he R1 R2 z1 z2 => ?_) (by omega) ?_
    · refine ⟨_, rfl, rfl, _, _, rfl, _, _, rfl, rfl, ?_⟩
      refine ⟨_, rfl, _, ne_str e.1 Str.empty, _, rfl, ?_⟩
      refine ifd (p := e.1 ≠ Str.empty) rfl (fun hne => ?_) (fun hne => ?_)
      · refine ⟨_, rfl, _, rfl, _, rfl, _, rfl, ?_⟩
        refine ifd (p := c ∈ e.1.cps.toList) rfl (fun hc => ?_) (fun hc => ?_)
        · exact ⟨_, rfl, z1 (by rw [decide_eq_true hne, decide_eq_true hc]; rfl)⟩
        · exact z2 (by rw [decide_eq_false hc, Bool.and_false])
      · refine iteF ?_
        exact z2 (by rw [decide_eq_false hne, Bool.false_and])
    · refine lc2_stp hM2 xs _ (fun y hy => hx y (List.mem_cons_of_mem _ hy)) ?_ ?_
      · rw [List.length_append, List.length_map]
        have := List.length_filter_le (fun e : Str × Nat => decide (e.1 ≠ Str.empty) && decide (c ∈ e.1.cps.toList)) M[x]
        omega
      · rw [hstp] at q
        unfold intsD at q ⊢
        rw [List.map_append, List.map_map] at q
        rw [List.append_assoc]
        exact q
def g_step (CM : Addr) (n : Nat) : FM := fun ds h Q _ => ∃ r w c, ds = [mtD CM r, sta r w, .str ⟨#[c]⟩] ∧ MOk r n ∧ Q (.fz (sta r (w ++ [c]))) h
theorem stp_len (M : Mvs) (xs : List Nat) (c : Nat) : (stp M xs c).length ≤ lens M xs := by
  induction xs with
  | nil => exact Nat.le_refl _
  | cons x xs ih =>
    unfold stp lens at *
    rw [List.flatMap_cons, List.length_append, List.map_cons, List.sum_cons, List.length_map]
    have := List.length_filter_le (fun e : Str × Nat => decide (e.1 ≠ Str.empty) && decide (c ∈ e.1.cps.toList)) (M.getD x [])
    omega
theorem ok_step (A : AtM K CM "step" "Matcher.step" ["self", "state", "character"] s_Matcher_step f fd) (f_Matcher_word : Fo K CM "word") (f_Matcher_within : Fo K CM "within") (f_Matcher_moves : Fo K CM "moves") (m_tuple : mg "tuple" = none) (m_zip : mg "zip" = none) (c_closure : FnM P w K mg base "closure" 1 2 g_closE) : ∀ n, MthM P w K mg base CM "step" (2 + n) 3 (g_step CM n)
  | 0 => A.none fun ds h Q E ⟨_, _, _, _, x, _⟩ => by have := x.dp; omega
  | n + 1 => by
    have c_Matcher_step := ok_step A f_Matcher_word f_Matcher_within f_Matcher_moves m_tuple m_zip c_closure n
    refine A.mth (okM (k := 2 + n) A.fn sc_Matcher_step (by decide) (fun cdv A outer s H E hr tk po => (mss_cons (ms_if (mt_ne hr (me_fld f_Matcher_word (me_v 0)) me_str) (mss_one (ms_ret (me_tuple (by rfl) m_tuple (ma_cons (me_lc (own := [("part", 3), ("one", 4)]) rfl sc_Matcher_step.nd (mi_zipX (by rfl) m_zip (ma_cons (me_fld f_Matcher_within (me_v 0)) (ma_cons (me_v 1) ma_nil))) (blkOk_by (N := N_Matcher_step) (sc := defScope s_Matcher_step) (own := [("part", 3), ("one", 4)]) (by decide +kernel)) (fun _ _ _ _ _ => (mg_tup (n := 2) rfl (mgs_cons (mg_n 3 sc_Matcher_step.nd rfl (by first | exact Or.inl rfl | exact Or.inr rfl)) (mgs_cons (mg_n 4 sc_Matcher_step.nd rfl (by first | exact Or.inl rfl | exact Or.inr rfl)) mgs_nil)))) (fun _ _ _ _ _ => mts_nil) (fun _ _ _ _ _ => (me_mM c_Matcher_step takes0 (hr.mono (by omega)) (me_v 3) (ma_cons (me_v 4) (ma_cons (me_v 2) ma_nil))))) ma_nil)))) mss_nil)
      (mss_cons (ms_setLc2 (i := 5) (own := [("one", 4), ("characters", 6), ("place", 7)]) (vs1 := [6, 7]) rfl sc_Matcher_step.nd rfl rfl (sw_true rfl rfl rfl (by decide +kernel)) (mi_seq (me_v 1)) (blkOk_by (N := N_Matcher_step) (sc := defScope s_Matcher_step) (own := [("one", 4), ("characters", 6), ("place", 7)]) (by decide +kernel)) (fun _ _ _ _ _ => (mg_n 4 sc_Matcher_step.nd rfl (by first | exact Or.inl rfl | exact Or.inr rfl))) (fun _ _ _ _ _ => mts_nil) (fun _ _ _ _ _ => (mi_seq (me_ix (me_fld f_Matcher_moves (me_v 0)) (me_v 4) (fun _ _ => rfl)))) (fun _ _ _ _ _ => (mg_tup (n := 2) rfl (mgs_cons (mg_n 6 sc_Matcher_step.nd rfl (by first | exact Or.inl rfl | exact Or.inr rfl)) (mgs_cons (mg_n 7 sc_Matcher_step.nd rfl (by first | exact Or.inl rfl | exact Or.inr rfl)) mgs_nil)))) (fun _ _ _ _ _ => (mts_one (MW.mt (mw_and (mt_ne hr (me_v 6) me_str) (mw_and1 (mt_in (me_v 2) (me_v 6))))))) (fun _ _ _ _ _ => (me_v 7)))
      (mss_one (ms_ret (me_cM c_closure tk (hr.mono (by omega)) (by rfl) (ma_cons (me_fld f_Matcher_moves (me_v 0)) (ma_cons (me_v 5) ma_nil)))))))) ?_)
    rintro ds h Q E hl ⟨r, w, c, rfl, x, q⟩
    cases hpl : plain r with
    | true =>
      obtain ⟨t1, t2, t3, t4⟩ := x.tab hpl
      rw [mtD_plain hpl]
      rw [sta_plain hpl, ← run_snoc t4] at q
      rw [sta_plain hpl]
      walk_at "m"
      refine ⟨_, _, .inr rfl, rfl, ?_⟩
      refine ⟨_, ne_str "plain" "plain", _, rfl, ?_⟩
      refine ifF (decide_eq_false fun z => z rfl) ?_
      refine ⟨_, rfl, _, rfl, ?_⟩
      have hlr : lens (tab r) (run (tab r) w) ≤ tot (tab r) := lens_rch _ _
      refine lc2_stp (M := tab r) rfl (run (tab r) w) [] (fun y hy => (mem_rch.mp hy).1) (by rw [List.length_nil]; omega) ?_
      rw [List.nil_append]
      refine ⟨_, rfl, _, _, .inr rfl, rfl, ?_⟩
      walk_at "m"
      have hsl := stp_len (tab r) (run (tab r) w) c
      refine ⟨fun p hp => ?_, t4, by omega, by omega, q⟩
      obtain ⟨y, _, cs, h1, _⟩ := mem_stp.mp hp
      exact (t4 _ _ _ h1).2
    | false =>
      obtain ⟨e1, e2⟩ := mtD_not (C := CM) hpl x.hp
      rw [e1]
      rw [sta_not hpl x.hp] at q
      rw [sta_not hpl x.hp]
      have hps := okR_len x.ok
      walk_at "m"
      refine ⟨_, _, .inr rfl, rfl, ?_⟩
      refine ⟨_, ne_str r.word "plain", _, rfl, ?_⟩
      refine ifT (decide_eq_true fun z => by rw [z, word_eq] at e2; cases e2) ?_
      walk_at "m"
      refine ⟨_, _, .inr rfl, rfl, ?_⟩
      walk_at "m"
      refine ⟨_, _, _, _, rfl, rfl, rfl, ?_⟩
      rw [zip_maps]
      refine lcM_map (φ := fun p => .tup [mtD CM p, sta p w]) (f := fun p => sta p (w ++ [c])) r.parts (fun p hp R z => ?_) (by omega) ?_
      · have y := x.parts hpl p hp
        refine ⟨_, rfl, rfl, _, _, rfl, _, _, rfl, rfl, ?_⟩
        refine ⟨_, rfl, is_mt h CM y.hp ⟨rfl, fun _ _ => rfl⟩, ?_⟩
        walk_at "m"
        exact ⟨p, w, c, rfl, y, z⟩
      · walk_at "m"
        exact q
def g_acc (CM : Addr) (n : Nat) : FM := fun ds h Q _ => ∃ r w, ds = [mtD CM r, sta r w] ∧ MOk r n ∧ Q (.fz (.bl (tru (Lg r w)))) h
theorem any_map {α : Type} (p : α → Bool) (l : List α) : anyD [.lst (l.map fun d => .bl (p d))] = some (.fz (.bl ((l.map p).any id))) := by
  show (blsOf (l.map fun d => .bl (p d))).map _ = _
  rw [blsOf_map]
  rfl
theorem ok_acc (A : AtM K CM "accepts" "Matcher.accepts" ["self", "state"] s_Matcher_accepts f fd) (f_Matcher_word : Fo K CM "word") (f_Matcher_within : Fo K CM "within") (f_Matcher_goal : Fo K CM "goal") (m_any : mg "any" = none) (m_all : mg "all" = none) (m_zip : mg "zip" = none) : ∀ n, MthM P w K mg base CM "accepts" (2 + n) 2 (g_acc CM n)
  | 0 => A.none fun ds h Q E ⟨_, _, _, x, _⟩ => by have := x.dp; omega
  | n + 1 => by
    have c_Matcher_accepts := ok_acc A f_Matcher_word f_Matcher_within f_Matcher_goal m_any m_all m_zip n
    refine A.mth (okM (k := 2 + n) A.fn sc_Matcher_accepts (by decide) (fun cdv A outer s H E hr tk po => (mss_cons (ms_if (mt_eq hr (me_fld f_Matcher_word (me_v 0)) me_str) (mss_one (ms_ret (me_in (me_fld f_Matcher_goal (me_v 0)) (me_v 1)))) mss_nil)
      (mss_cons (ms_setLc (i := 2) (own := [("part", 3), ("one", 4)]) rfl sc_Matcher_accepts.nd rfl rfl (sw_true rfl rfl rfl (by decide +kernel)) (mi_zipX (by rfl) m_zip (ma_cons (me_fld f_Matcher_within (me_v 0)) (ma_cons (me_v 1) ma_nil))) (blkOk_by (N := N_Matcher_accepts) (sc := defScope s_Matcher_accepts) (own := [("part", 3), ("one", 4)]) (by decide +kernel)) (fun _ _ _ _ _ => (mg_tup (n := 2) rfl (mgs_cons (mg_n 3 sc_Matcher_accepts.nd rfl (by first | exact Or.inl rfl | exact Or.inr rfl)) (mgs_cons (mg_n 4 sc_Matcher_accepts.nd rfl (by first | exact Or.inl rfl | exact Or.inr rfl)) mgs_nil)))) (fun _ _ _ _ _ => mts_nil) (fun _ _ _ _ _ => (me_mM c_Matcher_accepts takes0 (hr.mono (by omega)) (me_v 3) (ma_cons (me_v 4) ma_nil))))
      (mss_cons (ms_if (mt_eq hr (me_fld f_Matcher_word (me_v 0)) me_str) (mss_one (ms_ret (me_not (me_ix (me_v 2) me_int (fun _ _ => rfl))))) mss_nil)
      (mss_one (ms_ret (me_if (mt_eq hr (me_fld f_Matcher_word (me_v 0)) me_str) (me_any rfl (by rfl) m_any (ma_cons (me_v 2) ma_nil)) (me_all rfl (by rfl) m_all (ma_cons (me_v 2) ma_nil))))))))) ?_)
    rintro ds h Q E hl ⟨r, w, rfl, x, q⟩
    cases hpl : plain r with
    | true =>
      obtain ⟨t1, t2, t3, t4⟩ := x.tab hpl
      rw [mtD_plain hpl, sta_plain hpl]
      walk_at "m"
      refine ⟨_, _, .inr rfl, rfl, ?_⟩
      walk_at "m"
      refine ifT (word_eq _) ?_
      walk_at "m"
      refine ⟨_, _, .inr rfl, rfl, ?_⟩
      walk_at "m"
      refine ⟨_, in_nats _ _, ?_⟩
      have e : decide (gol r ∈ run (tab r) w) = tru (Lg r w) := by
        rw [← tru_dec]
        refine tru_congr ?_
        unfold run
        rw [mem_rch]
        exact ⟨fun z => (tab_lan hpl x.ok w).mp z.2, fun z => ⟨t2, (tab_lan hpl x.ok w).mpr z⟩⟩
      rw [e]
      exact q
    | false =>
      obtain ⟨e1, e2⟩ := mtD_not (C := CM) hpl x.hp
      rw [e1, sta_not hpl x.hp]
      have hps := okR_len x.ok
      walk_at "m"
      refine ⟨_, _, .inr rfl, rfl, ?_⟩
      walk_at "m"
      refine ifF e2 ?_
      walk_at "m"
      refine ⟨_, _, .inr rfl, rfl, ?_⟩
      walk_at "m"
      refine ⟨_, _, _, _, rfl, rfl, rfl, ?_⟩
      rw [zip_maps]
      refine lcM_map (φ := fun p => .tup [mtD CM p, sta p w]) (f := fun p => .bl (tru (Lg p w))) r.parts (fun p hp R z => ?_) (by omega) ?_
      · have y := x.parts hpl p hp
        refine ⟨_, rfl, rfl, _, _, rfl, _, _, rfl, rfl, ?_⟩
        refine ⟨_, rfl, is_mt h CM y.hp ⟨rfl, fun _ _ => rfl⟩, ?_⟩
        walk_at "m"
        exact ⟨y, z⟩
      refine ⟨_, rfl, _, _, .inr rfl, rfl, ?_⟩
      have v1 : eqS "any" "not" = false ∧ eqS "all" "not" = false ∧ eqS "all" "any" = false := by refine ⟨?_, ?_, ?_⟩ <;> (rw [eqS_eq]; decide +kernel)
      cases r with
      | set s => rw [plain] at hpl; cases hpl
      | row ps => have := x.hp; rw [plain] at hpl; rw [hasP, hpl] at this; cases this
      | again p lo hi => have := x.hp; rw [plain] at hpl; rw [hasP, hpl] at this; cases this
      | no p =>
        walk_at "m"
        refine ifT (word_eq _) ?_
        walk_at "m"
        rw [tru_not]
        exact q
      | any ps =>
        walk_at "m"
        refine ifF v1.1 ?_
        walk_at "m"
        refine ⟨_, _, .inr rfl, rfl, ?_⟩
        walk_at "m"
        refine ifT (word_eq _) ?_
        walk_at "m"
        refine ⟨_, any_map _ _, ?_⟩
        rw [show (Rx.any ps).parts = ps from rfl, tru_any]
        exact q
      | all ps =>
        walk_at "m"
        refine ifF v1.2.1 ?_
        walk_at "m"
        refine ⟨_, _, .inr rfl, rfl, ?_⟩
        walk_at "m"
        refine ifF v1.2.2 ?_
        walk_at "m"
        refine ⟨_, all_map _ _, ?_⟩
        rw [show (Rx.all ps).parts = ps from rfl, tru_all]
        exact q
end
end Cut
namespace Cut
open PySem L2 DL ML
abbrev s_InvalidText_init : Stmt := inClass (top 2) 0
abbrev N_InvalidText_init : List Str := ["self", "position"]
theorem sc_InvalidText_init : FnScope N_InvalidText_init ["self", "position"] (defScope s_InvalidText_init) := ⟨rfl, rfl, rfl, by decide +kernel, rfl, by decide +kernel, by decide +kernel⟩
section
variable {P : Program} {w : World} {K : Fg} {mg : Str → Option Value} {base : Heap} {f : Addr} {fd : FuncData} {CB CN : Addr}
/-- what the written part says of the class CutError -/
structure BsC (K : Fg) (mg : Str → Option Value) (B : Addr) : Prop where
  nm : mg "CutError" = some (.ref B)
  rd : PySem.W.readsIn K B (.type "type") = true
  sp : PySem.W.specialIn K (.ref B) "__getattribute__" = some (some (.builtin "type.__getattribute__"))
  fi : PySem.W.findCls K (.ref B) (.type "type") "__init__" = some (.val (.builtin "ValueError.__init__"))
theorem ok_ertI (F : Fun K "__init__" "InvalidText.__init__" s_InvalidText_init f fd) (B : BsC K mg CB) (T : OexC K CN) (hno : PySem.W.findIn K (.ref CN) "position" = some none) : FnOk P w K mg base CX0 1 f fd ["self", "position"] (spE1 K CN "position") := by
  refine F.ok (k := 0) sc_InvalidText_init (fun vs H Q E ⟨a, y, e, _⟩ => by rw [e]; rfl) fun cdv A outer s H vs Q E hr ⟨a, y, e, ha, q⟩ => ?_
  subst e
  refine ⟨_, pss_cons (ps_expr (pe_binit (by rfl) B.nm B.rd B.sp B.fi (pa_cons (pv 0) (pa_cons pe_str pa_nil)))) (pss_one (ps_ost (pv 0) (pv 1))), ?_⟩
  refine ⟨.ref a, rfl, ?_⟩
  refine ⟨a, CN, [.str "invalid character"], rfl, by decide, T, ha, ?_⟩
  refine ⟨y, rfl, .ref a, rfl, a, CN, rfl, T, hno, .inl ⟨ha, fun dx h1 h2 => ?_⟩⟩
  exact q dx h1 h2
end
end Cut
namespace Cut
open PySem L2 DL ML
local macro_rules | `(tactic| walk_at "m") => `(tactic| repeat (first | with_reducible refine ⟨_, rfl, ?_⟩ | refine ⟨_, rfl, ?_⟩ | refine ⟨rfl, ?_⟩ | refine ⟨_, _, rfl, rfl, ?_⟩ | refine ⟨_, _, rfl, ?_⟩ | refine iteT ?_ | refine iteF ?_ | refine ⟨⟨_, rfl⟩, ?_⟩ | refine ⟨Nat.le_of_ble_eq_true rfl, ?_⟩ | refine ⟨(by decide), ?_⟩ | refine ⟨_, ix_t0 _ _, ?_⟩ | refine ⟨_, ix_l0 _ _, ?_⟩))
abbrev s_check_text : Stmt := top 4
abbrev N_check_text : List Str := ["alphabet", "text", "position", "character"]
theorem sc_check_text : FnScope N_check_text ["alphabet", "text"] (defScope s_check_text) := ⟨rfl, rfl, rfl, by decide +kernel, rfl, by decide +kernel, by decide +kernel⟩
abbrev s_matches : Stmt := top 13
abbrev N_matches : List Str := ["alphabet", "pattern", "text", "matcher", "state", "character"]
theorem sc_matches : FnScope N_matches ["alphabet", "pattern", "text"] (defScope s_matches) := ⟨rfl, rfl, rfl, by decide +kernel, rfl, by decide +kernel, by decide +kernel⟩
theorem seq_set {i : Nat} {τe : TM} {υ : TMS} {ω : Wω} {PD : MEnds} {ρ : Me} {h : Hd} (q : τe ω ρ h fun r h1 => υ ω PD (ρ.set i (some r.dat)) h1) : mSeq (mSet i τe) υ ω PD ρ h := q
section
variable {P : Program} {w : World} {K : Fg} {mg : Str → Option Value} {base : Heap} {f : Addr} {fd : FuncData} {CM CT : Addr}
/-- what check_text does -/
def chk (CT : Addr) (A S : Str) (h : Hd) (Q : Hd → Prop) (E : Ex → Hd → Prop) : Prop := match bad A.cps.toList S.cps.toList with
  | none => Q h
  | some i => E ⟨CT, [("position", .int (i : Nat))]⟩ h
def g_check (CT : Addr) : FM := fun ds h Q E => ∃ A S, ds = [.str A, .str S] ∧ chk CT A S h (fun h => Q (.fz .non) h) E
theorem findIdx_cons (p : Nat → Bool) (x : Nat) (l : List Nat) : (x :: l).findIdx? p = if p x = true then some 0 else (l.findIdx? p).map (· + 1) := List.findIdx?_cons
theorem ok_check (A : At K mg "check_text" ["alphabet", "text"] s_check_text f fd) (m_enumerate : mg "enumerate" = none) (e_InvalidText : Er1 P w K mg base "InvalidText" CT "position") : FnM P w K mg base "check_text" 3 2 (g_check CT) := by
  refine A.fnM (okM (k := 2) A.fn sc_check_text (by decide) (fun cdv A outer s H E hr tk po => (mss_one (ms_for po rfl (mi_enumX (by rfl) m_enumerate (ma_cons (me_v 1) ma_nil)) (mg_tup (n := 2) rfl (mgs_cons (mg_n 2 sc_check_text.nd rfl (by first | exact Or.inl rfl | exact Or.inr rfl)) (mgs_cons (mg_n 3 sc_check_text.nd rfl (by first | exact Or.inl rfl | exact Or.inr rfl)) mgs_nil))) (mss_one (ms_if (mt_notin (me_v 3) (me_v 0)) (mss_one (ms_raise1 e_InvalidText rfl tk hr (by decide) (by rfl) (ma_cons (me_v 2) ma_nil))) mss_nil))))) ?_)
  rintro ds h Q E hl ⟨A, S, rfl, q⟩
  walk_at "m"
  have go : ∀ (l : List Nat) (n : Nat) (x y : Option D), (match l.findIdx? fun c => decide (c ∉ A.cps.toList) with | none => Q (.fz .non) h | some i => E ⟨CT, [("position", .int ((n + i : Nat) : Int))]⟩ h) →
      loopM (fun x _ h => E x h) (gTupM 2 (gConsM (gM 2) (gConsM (gM 3) gNilM))) (mIf (mT (mBin notinD (mV 3) (mV 0))) (mRaise1 CT "position" (mACons (mV 2) mANil)) mNext) { nx := fun _ h => Q (.fz .non) h, rt := fun r h => Q r h } (enumD n (l.map fun c => .str ⟨#[c]⟩)) [some (.str A), some (.str S), x, y] h := by
    intro l
    induction l with
    | nil => intro n x y z; exact loop_end z
    | cons c l ih =>
      intro n x y z
      rw [findIdx_cons] at z
      refine loop_step ?_
      refine ⟨_, rfl, rfl, _, _, rfl, _, _, rfl, rfl, ?_⟩
      walk_at "m"
      refine ifd (p := c ∉ A.cps.toList) (by show (!decide (c ∈ A.cps.toList)) = _; by_cases hc : c ∈ A.cps.toList <;> simp [hc]) (fun hc => ?_) (fun hc => ?_)
      · rw [if_pos (decide_eq_true hc)] at z
        walk_at "m"
        exact z
      · rw [if_neg (by simpa using hc)] at z
        refine ih (n + 1) _ _ ?_
        cases e : l.findIdx? fun c => decide (c ∉ A.cps.toList) with
        | none => rw [e] at z; exact z
        | some i =>
          rw [e] at z
          have z : E ⟨CT, [("position", .int ((n + (i + 1) : Nat) : Int))]⟩ h := z
          show E ⟨CT, [("position", .int ((n + 1 + i : Nat) : Int))]⟩ h
          rw [show n + 1 + i = n + (i + 1) by omega]
          exact z
  refine go S.cps.toList 0 _ _ ?_
  unfold chk bad at q
  cases e : S.cps.toList.findIdx? fun c => decide (c ∉ A.cps.toList) with
  | none => rw [e] at q; exact q
  | some i => rw [e] at q; show E ⟨CT, [("position", .int ((0 + i : Nat) : Int))]⟩ h; rw [Nat.zero_add]; exact q
def g_matches (CT : Addr) : FM := fun ds h Q E => ∃ A r S, ds = [.str A, toD r, .str S] ∧ MOk r 25 ∧ S.length ≤ 100000 ∧ chk CT A S h (fun h => Q (.fz (.bl (tru (Lg r S.cps.toList)))) h) E
theorem ok_matches (A : At K mg "matches" ["alphabet", "pattern", "text"] s_matches f fd) (c_check_text : FnM P w K mg base "check_text" 3 2 (g_check CT)) (c_Matcher : MkM P w K mg base "Matcher" CM 102 2 (g_Minit CM 25)) (c_Matcher_begin : MthM P w K mg base CM "begin" 27 1 (g_begin CM 25)) (c_Matcher_step : MthM P w K mg base CM "step" 27 3 (g_step CM 25)) (c_Matcher_accepts : MthM P w K mg base CM "accepts" 27 2 (g_acc CM 25)) :
    FnM P w K mg base "matches" 104 3 (g_matches CT) := by
  refine A.fnM (okM (k := 103) A.fn sc_matches (by decide) (fun cdv A outer s H E hr tk po => (mss_cons (ms_expr (me_cM c_check_text tk (hr.mono (by decide)) (by rfl) (ma_cons (me_v 0) (ma_cons (me_v 2) ma_nil))))
      (mss_cons (ms_set 3 sc_matches.nd rfl (by first | exact Or.inl rfl | exact Or.inr rfl) (me_fz (me_mk c_Matcher tk (hr.mono (by decide)) (by rfl) (ma_cons (me_v 1) ma_nil))))
      (mss_cons (ms_set 4 sc_matches.nd rfl (by first | exact Or.inl rfl | exact Or.inr rfl) (me_mM0 c_Matcher_begin tk (hr.mono (by decide)) (me_v 3)))
      (mss_cons (ms_for po rfl (mi_seq (me_v 2)) (mg_n 5 sc_matches.nd rfl (by first | exact Or.inl rfl | exact Or.inr rfl)) (mss_one (ms_set 4 sc_matches.nd rfl (by first | exact Or.inl rfl | exact Or.inr rfl) (me_mM c_Matcher_step tk (hr.mono (by decide)) (me_v 3) (ma_cons (me_v 4) (ma_cons (me_v 5) ma_nil))))))
      (mss_one (ms_ret (me_mM c_Matcher_accepts tk (hr.mono (by decide)) (me_v 3) (ma_cons (me_v 4) ma_nil))))))))) ?_)
  rintro ds h Q E hl ⟨A, r, S, rfl, x, hS, q⟩
  walk_at "m"
  unfold chk at *
  cases e : bad A.cps.toList S.cps.toList with
  | some i => rw [e] at q; exact q
  | none =>
    rw [e] at q
    dsimp only
    refine seq_set ?_
    refine make_matcher x.ok x.hp x.dp (by decide) x.ct ?_ fun k hk => ⟨_, rfl, hk⟩
    refine ⟨_, rfl, is_mt h CM x.hp ⟨rfl, fun _ _ => rfl⟩, ?_⟩
    walk_at "m"
    refine ⟨x, ?_⟩
    refine ⟨_, rfl, _, rfl, ?_⟩
    refine loopM_inv (fun ds ρ h' => ∃ u v y, ds = v.map (fun c => D.str ⟨#[c]⟩) ∧ S.cps.toList = u ++ v ∧ ρ = [some (.str A), some (toD r), some (.str S), some (mtD CM r), some (sta r u), y] ∧ h' = h) _ _ _ ⟨[], S.cps.toList, none, rfl, rfl, rfl, rfl⟩ ?_ ?_
    · rintro d es ρ h' R ⟨u, v, y, e1, e2, rfl, rfl⟩ hR
      cases v with
      | nil => cases e1
      | cons c v =>
        injection e1 with e3 e4
        subst e3 e4
        walk_at "m"
        refine ⟨is_mt h' CM x.hp ⟨rfl, fun _ _ => rfl⟩, ?_⟩
        walk_at "m"
        refine ⟨r, u, c, rfl, x, ?_⟩
        exact hR _ _ ⟨u ++ [c], v, _, rfl, by rw [e2]; simp, rfl, rfl⟩
    · rintro ρ h' ⟨u, v, y, e1, e2, rfl, rfl⟩
      cases v with
      | cons _ _ => cases e1
      | nil =>
        rw [List.append_nil] at e2
        walk_at "m"
        refine ⟨is_mt h' CM x.hp ⟨rfl, fun _ _ => rfl⟩, ?_⟩
        walk_at "m"
        refine ⟨x, ?_⟩
        rw [← e2]
        exact q
end
end Cut
namespace Cut
open PySem L2 DL ML
local macro_rules | `(tactic| walk_at "m") => `(tactic| repeat (first | with_reducible refine ⟨_, rfl, ?_⟩ | refine ⟨_, rfl, ?_⟩ | refine ⟨rfl, ?_⟩ | refine ⟨_, _, rfl, rfl, ?_⟩ | refine ⟨_, _, rfl, ?_⟩ | refine iteT ?_ | refine iteF ?_ | refine ⟨⟨_, rfl⟩, ?_⟩ | refine ⟨Nat.le_of_ble_eq_true rfl, ?_⟩ | refine ⟨(by decide), ?_⟩ | refine ⟨_, ix_t0 _ _, ?_⟩ | refine ⟨_, ix_l0 _ _, ?_⟩))
abbrev s_l_text : Stmt := top 22
abbrev N_l_text : List Str := ["_law_source_here", "_law_alphabet_here", "_law_many", "_law_k"]
theorem sc_l_text : FnScope N_l_text ["_law_source_here", "_law_alphabet_here", "_law_many"] (defScope s_l_text) := ⟨rfl, rfl, rfl, by decide +kernel, rfl, by decide +kernel, by decide +kernel⟩
abbrev s_l_short_texts : Stmt := top 23
abbrev N_l_short_texts : List Str := ["_law_alphabet_here", "_law_longest", "_law_found", "_law_level", "_law_k", "_law_longer", "_law_text_here", "_law_character"]
theorem sc_l_short_texts : FnScope N_l_short_texts ["_law_alphabet_here", "_law_longest"] (defScope s_l_short_texts) := ⟨rfl, rfl, rfl, by decide +kernel, rfl, by decide +kernel, by decide +kernel⟩
theorem put_self {h : Hd} {a : Addr} {o : Ob} (e : h a = some o) : put h a o = h := by
  funext b; unfold put; split
  · rename_i z; rw [z, e]
  · rfl
theorem len_st {z : Str} (h : z.length ≤ 100000) : lenD [.str z] = some (.fz (.int (z.length : Nat))) := by
  show (if z.length ≤ 100000 then some (Res.fz (.int z.length)) else none) = _
  rw [if_pos h]
theorem ixA {A : Str} (hA : A.length ≤ 100000) {i : Int} (h0 : 0 ≤ i) (h1 : i < (A.length : Int)) : ∃ c, c ∈ A.cps.toList ∧ ixD (.str A) (.int i) = some (.fz (.str ⟨#[c]⟩)) := by
  have e := len_l A
  obtain ⟨c, hc, hm⟩ := atI_ok (xs := A.cps.toList) h0 (by omega)
  refine ⟨c, hm, ?_⟩
  show (if A.length ≤ 100000 then (atI A.cps.toList i).map fun c => Res.fz (.str ⟨#[c]⟩) else none) = _
  rw [if_pos hA, hc]
  rfl
section
variable {P : Program} {w : World} {K : Fg} {mg : Str → Option Value} {base : Heap} {f : Addr} {fd : FuncData}
def g_text : FM := fun ds h Q _ => ∃ a xs c A m, ds = [.raw (.ref a), .str A, .int ((m : Nat) : Int)] ∧ h a = some (.lst xs) ∧ Alp A ∧ m ≤ 1000 ∧ Src c xs ∧ c ≤ 2 ^ 30 ∧ ∀ S xs', S.length = m → (∀ ch ∈ S.cps.toList, ch ∈ A.cps.toList) → Src (c + m) xs' → Q (.fz (.str S)) (put h a (.lst xs'))
theorem ok_text (A : At K mg "_law_text" ["_law_source_here", "_law_alphabet_here", "_law_many"] s_l_text f fd) (m_len : mg "len" = none) (m_range : mg "range" = none) (c_l_draw : Fn1 P w K mg base "_law_draw" 1 2 g_draw) : FnM P w K mg base "_law_text" 2 3 g_text := by
  refine A.fnM (okM (k := 1) A.fn sc_l_text (by decide) (fun cdv A outer s H E hr tk po => (mss_one (ms_ret (me_join me_str (ma_cons (me_lc (own := [("_law_k", 3)]) rfl sc_l_text.nd (mi_range1 (by rfl) m_range (ma_cons (me_v 2) ma_nil)) (blkOk_by (N := N_l_text) (sc := defScope s_l_text) (own := [("_law_k", 3)]) (by decide +kernel)) (fun _ _ _ _ _ => (mg_n 3 sc_l_text.nd rfl (by first | exact Or.inl rfl | exact Or.inr rfl))) (fun _ _ _ _ _ => mts_nil) (fun _ _ _ _ _ => (me_ix (me_v 1) (me_c1 c_l_draw (hr.mono (by decide)) (by rfl) (ma_cons (me_v 0) (ma_cons (me_len (by rfl) m_len (ma_cons (me_v 1) ma_nil)) ma_nil))) (fun _ _ => rfl)))) ma_nil))))) ?_)
  rintro ds h Q E hl ⟨a, xs, c, A, m, rfl, ha, hA, hm, hS, hc, q⟩
  have hA6 := hA.hi
  have hA1 := hA.lo
  walk_at "m"
  refine ⟨⟨by omega, by omega⟩, ?_⟩
  refine lcM_inv (fun ds h' acc => ∃ (cs : List Nat) (xs' : List D), acc = cs.map (fun c => D.str ⟨#[c]⟩) ∧ h' = put h a (.lst xs') ∧ Src (c + cs.length) xs' ∧ (∀ ch ∈ cs, ch ∈ A.cps.toList) ∧ cs.length + ds.length = m) _ _ _ ⟨[], xs, rfl, (put_self ha).symm, hS, (fun _ z => nomatch z), by rw [rangeD_map, List.length_map, List.length_range]; simp⟩ ?_ ?_
  · rintro d es h' acc R ⟨cs, xs', rfl, rfl, y1, y2, y3⟩ hR
    rw [List.length_cons] at y3
    walk_at "m"
    refine ⟨_, len_st (by omega), ?_⟩
    walk_at "m"
    refine ⟨a, _, _, rfl, put_same, _, _, rfl, y1, by omega, by omega, by omega, fun j xs2 j0 j1 hS2 => ?_⟩
    obtain ⟨ch, hm2, he⟩ := ixA (A := A) (by omega) j0 j1
    refine ⟨_, he, by rw [List.length_map]; omega, ?_⟩
    rw [put_put]
    refine hR _ _ ⟨cs ++ [ch], xs2, by rw [List.map_append]; rfl, rfl, by rw [List.length_append, List.length_singleton]; exact hS2, fun x hx => ?_, by rw [List.length_append, List.length_singleton]; omega⟩
    rcases List.mem_append.mp hx with hx | hx
    · exact y2 x hx
    · rw [List.mem_singleton.mp hx]; exact hm2
  · rintro h' acc ⟨cs, xs', rfl, rfl, y1, y2, y3⟩
    rw [List.length_nil, Nat.add_zero] at y3
    refine ⟨_, joinD_signs cs (by omega), ?_⟩
    refine q _ _ (by rw [len_l, ofL_l]; exact y3) (fun x hx => y2 x (by rw [ofL_l] at hx; exact hx)) (by rw [← y3]; exact y1)
def strD' (ts : List Str) : List D := ts.map D.str
def TxsOk (A : Str) (k : Nat) (ts : List Str) : Prop := ∀ t ∈ ts, t.length ≤ k ∧ ∀ ch ∈ t.cps.toList, ch ∈ A.cps.toList
def g_short0 : FM := fun ds h Q _ => ∃ A L, ds = [.str A, .int ((L : Nat) : Int)] ∧ Alp A ∧ A.length ≤ 3 ∧ L ≤ 5 ∧ ∀ ts h', TxsOk A 5 ts → ts.length ≤ 2000 → Le h h' → Q (.fz (.lst (strD' ts))) h'
theorem ok_short0 (A : At K mg "_law_short_texts" ["_law_alphabet_here", "_law_longest"] s_l_short_texts f fd) (m_range : mg "range" = none) : FnM P w K mg base "_law_short_texts" 1 2 g_short0 := by
  refine A.fnM (okM (k := 0) A.fn sc_l_short_texts (by decide) (fun cdv A outer s H E hr tk po => (mss_cons (ms_par (i := 2) (j := 3) rfl sc_l_short_texts.nd rfl rfl (by decide) rfl rfl (ma_cons (me_lst (ma_cons me_str ma_nil)) (ma_cons (me_lst (ma_cons me_str ma_nil)) ma_nil)) (by rfl))
      (mss_cons (ms_for po rfl (mi_range1 (by rfl) m_range (ma_cons (me_v 1) ma_nil)) (mg_n 4 sc_l_short_texts.nd rfl (by first | exact Or.inl rfl | exact Or.inr rfl)) (mss_cons (ms_set 5 sc_l_short_texts.nd rfl (by first | exact Or.inl rfl | exact Or.inr rfl) (me_own (me_lst ma_nil)))
      (mss_cons (ms_for po rfl (mi_seq (me_v 3)) (mg_n 6 sc_l_short_texts.nd rfl (by first | exact Or.inl rfl | exact Or.inr rfl)) (mss_one (ms_expr (me_ext (me_v 5) (ma_cons (me_lc (own := [("_law_character", 7)]) rfl sc_l_short_texts.nd (mi_seq (me_v 0)) (blkOk_by (N := N_l_short_texts) (sc := defScope s_l_short_texts) (own := [("_law_character", 7)]) (by decide +kernel)) (fun _ _ _ _ _ => (mg_n 7 sc_l_short_texts.nd rfl (by first | exact Or.inl rfl | exact Or.inr rfl))) (fun _ _ _ _ _ => mts_nil) (fun _ _ _ _ _ => (me_add (me_v 6) (me_v 7)))) ma_nil)))))
      (mss_cons (ms_fzs 5 (ms_set 3 sc_l_short_texts.nd rfl (by first | exact Or.inl rfl | exact Or.inr rfl) (me_v 5)))
      (mss_one (ms_set 2 sc_l_short_texts.nd rfl (by first | exact Or.inl rfl | exact Or.inr rfl) (me_add (me_v 2) (me_v 3))))))))
      (mss_one (ms_ret (me_v 2)))))) ?_)
  rintro ds h Q E hl ⟨A, L, rfl, hA, hA3, hL, q⟩
  have hAl := len_l A
  walk_at "m"
  refine ⟨⟨by omega, by omega⟩, ?_⟩
  refine loopM_inv (fun ds ρ h' => ∃ k fnd lev x4 x5 x6 x7, ds.length + k = L ∧ ρ = [some (.str A), some (.int ((L : Nat) : Int)), some (.lst (strD' fnd)), some (.lst (strD' lev)), x4, x5, x6, x7] ∧ TxsOk A k fnd ∧ TxsOk A k lev ∧ lev.length ≤ 3 ^ k ∧ fnd.length ≤ 1 + 243 * k ∧ Le h h') _ _ _ ⟨0, [""], [""], none, none, none, none, by rw [rangeD_map, List.length_map, List.length_range]; simp, rfl, ?_, ?_, by decide, by decide, Le.refl _⟩ ?_ ?_
  · intro t ht; rw [List.mem_singleton.mp ht]; exact ⟨by decide, fun ch z => by cases z⟩
  · intro t ht; rw [List.mem_singleton.mp ht]; exact ⟨by decide, fun ch z => by cases z⟩
  rotate_left
  · rintro ρ h' ⟨k, fnd, lev, x4, x5, x6, x7, e, rfl, y1, y2, y3, y4, y5⟩
    rw [List.length_nil, Nat.zero_add] at e
    walk_at "m"
    exact q fnd h' (fun t ht => ⟨by have := (y1 t ht).1; omega, (y1 t ht).2⟩) (by omega) y5
  rintro d es ρ h' R ⟨k, fnd, lev, x4, x5, x6, x7, e, rfl, y1, y2, y3, y4, y5⟩ hR
  rw [List.length_cons] at e
  have hk : k + 1 ≤ 5 := by omega
  have h3k : 3 ^ k ≤ 81 := by
    have : 3 ^ k ≤ 3 ^ 4 := Nat.pow_le_pow_right (by decide) (by omega)
    simpa using this
  walk_at "m"
  intro b hb
  dsimp only
  refine seq_cut (fun ρ' h2 => ∃ lon x6 x7, ρ' = [some (.str A), some (.int ((L : Nat) : Int)), some (.lst (strD' fnd)), some (.lst (strD' lev)), some d, some (.raw (.ref b)), x6, x7] ∧ h2 = put h' b (.lst (strD' lon)) ∧ TxsOk A (k + 1) lon ∧ lon.length ≤ lev.length * 3) (fun R2 hR2 => ?_) ?_
  · walk_at "m"
    refine loopM_inv (fun ds ρ' h2 => ∃ lv lon x6 x7, ds = strD' lv ∧ ρ' = [some (.str A), some (.int ((L : Nat) : Int)), some (.lst (strD' fnd)), some (.lst (strD' lev)), some d, some (.raw (.ref b)), x6, x7] ∧ h2 = put h' b (.lst (strD' lon)) ∧ TxsOk A (k + 1) lon ∧ TxsOk A k lv ∧ lon.length + lv.length * 3 ≤ lev.length * 3) _ _ _ ⟨lev, [], _, _, rfl, rfl, rfl, (fun _ z => nomatch z), y2, by simp⟩ ?_ ?_
    rotate_left
    · rintro ρ' h2 ⟨lv, lon, x6, x7, e1, rfl, rfl, z1, z2, z3⟩
      exact hR2 _ _ ⟨lon, x6, x7, rfl, rfl, z1, by omega⟩
    rintro t es' ρ' h2 R3 ⟨lv, lon, x6, x7, e1, rfl, rfl, z1, z2, z3⟩ hR3
    cases lv with
    | nil => cases e1
    | cons t0 lv =>
      injection e1 with e2 e3
      subst e2 e3
      rw [List.length_cons] at z3
      have ht0 := z2 t0 (List.mem_cons_self ..)
      walk_at "m"
      refine ⟨b, _, rfl, put_same, ?_⟩
      refine ⟨_, rfl, _, rfl, ?_⟩
      refine lcM_map (φ := fun c => .str ⟨#[c]⟩) (f := fun c => .str (t0 ++ ⟨#[c]⟩)) A.cps.toList (fun c hc R z => ?_) (by omega) ?_
      · walk_at "m"
        refine ⟨_, (show addD (.str t0) (.str ⟨#[c]⟩) = _ from if_pos (show t0.length + 1 ≤ 100000 by omega)), ?_⟩
        exact z
      refine ⟨strD' lon, A.cps.toList.map fun c => .str (t0 ++ ⟨#[c]⟩), put_same, rfl, by unfold strD'; rw [List.length_map, List.length_map]; omega, ?_⟩
      rw [put_put]
      refine hR3 _ _ ⟨lv, lon ++ A.cps.toList.map fun c => t0 ++ ⟨#[c]⟩, _, _, rfl, rfl, ?_, fun t ht => ?_, fun t ht => z2 t (List.mem_cons_of_mem _ ht), by rw [List.length_append, List.length_map]; omega⟩
      · unfold strD'
        rw [List.map_append, List.map_map]
        rfl
      · rcases List.mem_append.mp ht with ht | ht
        · exact z1 t ht
        · obtain ⟨c, hc, rfl⟩ := List.mem_map.mp ht
          refine ⟨by rw [len_l, l_append, List.length_append, ← len_l]; show _ + 1 ≤ _; omega, fun ch hch => ?_⟩
          rw [l_append] at hch
          rcases List.mem_append.mp hch with hch | hch
          · exact ht0.2 ch hch
          · rw [List.mem_singleton.mp (show ch ∈ [c] from hch)]; exact hc
  rintro ρ' h2 ⟨lon, x6, x7, rfl, rfl, z1, z2⟩
  refine ⟨b, _, rfl, put_same, ?_⟩
  walk_at "m"
  have hl2 : lon.length ≤ 243 := by omega
  refine ⟨_, (show addD (.lst (strD' fnd)) (.lst (strD' lon)) = _ from if_pos (by unfold strD'; rw [List.length_map, List.length_map]; omega)), ?_⟩
  refine hR _ _ ⟨k + 1, fnd ++ lon, lon, some d, some (.lst (strD' lon)), x6, x7, by omega, ?_, fun t ht => ?_, z1, by rw [Nat.pow_succ]; omega, by rw [List.length_append]; omega, ?_⟩
  · unfold strD'; rw [List.map_append]; rfl
  · rcases List.mem_append.mp ht with ht | ht
    · exact ⟨by have := (y1 t ht).1; omega, (y1 t ht).2⟩
    · exact z1 t ht
  · intro c o hc
    have : c ≠ b := fun z => by rw [← z, y5 c o hc] at hb; cases hb
    rw [off_ne this, put_ne this]
    exact y5 c o hc
def g_short : FM := fun ds h Q _ => ∃ A L, ds = [.str A, .int ((L : Nat) : Int)] ∧ Alp A ∧ A.length ≤ 3 ∧ L ≤ 5 ∧ ∀ ts, TxsOk A 5 ts → ts.length ≤ 2000 → Q (.fz (.lst (strD' ts))) h
theorem short_E (c : FnM P w K mg base "_law_short_texts" 1 2 g_short0) : FnM P w K mg base "_law_short_texts" 1 2 g_short := c.less fun ds h P E ⟨A, L, e, a1, a2, a3, q⟩ => ⟨A, L, e, a1, a2, a3, fun ts h' t1 t2 l => ⟨h, l, q ts t1 t2⟩⟩
end
end Cut
namespace Cut
open PySem L2 DL
local macro_rules | `(tactic| walk_at "s") => `(tactic| repeat (first | with_reducible refine ⟨_, rfl, ?_⟩ | refine ⟨_, rfl, ?_⟩ | refine ⟨rfl, ?_⟩ | refine ⟨_, _, rfl, rfl, ?_⟩ | refine ⟨_, _, rfl, ?_⟩ | refine iteT ?_ | refine iteF ?_ | refine ⟨⟨_, rfl⟩, ?_⟩ | refine ⟨⟨_, _, rfl⟩, ?_⟩ | refine ⟨_, _, _, _, rfl, rfl, rfl, ?_⟩ | refine ⟨Nat.le_of_ble_eq_true rfl, ?_⟩ | refine ⟨(by decide), ?_⟩ | refine ⟨_, ix_t0 _ _, ?_⟩ | refine ⟨_, ix_l0 _ _, ?_⟩))
abbrev s_l_plain : Stmt := top 20
abbrev N_l_plain : List Str := ["_law_source_here", "_law_alphabet_here", "_law_room", "_law_way", "_law_size", "_law_many", "_law_part", "_law_low", "_law_high"]
theorem sc_l_plain : FnScope N_l_plain ["_law_source_here", "_law_alphabet_here", "_law_room"] (defScope s_l_plain) := ⟨rfl, rfl, rfl, by decide +kernel, rfl, by decide +kernel, by decide +kernel⟩
abbrev s_l_pattern : Stmt := top 21
abbrev N_l_pattern : List Str := ["_law_source_here", "_law_alphabet_here", "_law_room", "_law_size", "_law_barred"]
theorem sc_l_pattern : FnScope N_l_pattern ["_law_source_here", "_law_alphabet_here", "_law_room"] (defScope s_l_pattern) := ⟨rfl, rfl, rfl, by decide +kernel, rfl, by decide +kernel, by decide +kernel⟩
section
variable {P : Program} {w : World} {K : Fg} {mg : Str → Option Value} {base : Heap} {f f2 : Addr} {fd fd2 : FuncData}
theorem add_row {ps rs : List Rx} {qs : List D} (hq : qs = toDL rs) (h : ps.length + rs.length ≤ 15000) : addD (toD (.row ps)) (.tup qs) = some (.fz (toD (.row (ps ++ rs)))) := by
  subst hq
  rw [toD.eq_2, toD.eq_2, add_tup (by rw [List.length_cons, toDL_len, toDL_len]; omega)]
  rw [show toDL (ps ++ rs) = toDL ps ++ toDL rs by rw [toDL_map, toDL_map, toDL_map, List.map_append]]
  rfl
theorem toD_again (p : Rx) (lo : Int) (hi : Option Int) : D.tup [.str "again", toD p, .int lo, hiD hi] = toD (.again p lo hi) := (toD.eq_6 p lo hi).symm
theorem fdiv_bd {a b : Int} (h0 : 1 ≤ b) (h1 : b ≤ a) : 1 ≤ a / b ∧ a / b ≤ a ∧ (a / b) * b ≤ a := by
  have h2 := Int.ediv_mul_le a (b := b) (by omega)
  have h3 : 1 ≤ a / b := (Int.le_ediv_iff_mul_le (by omega)).mpr (by omega)
  refine ⟨h3, ?_, h2⟩
  exact Int.ediv_le_self b (by omega)
def g_plain : FS1 := fun xs ds Q => ∃ (c : Nat) (A : Str) (R : Int), ds = [.str A, .int R] ∧ Alp A ∧ Src c xs ∧ 1 ≤ R ∧ R ≤ 20 ∧ c + 2000 ≤ 2 ^ 40 ∧ ∀ r xs', Pln A R r → Src (c + 2000) xs' → Q (.fz (toD r)) xs'
theorem ok_plain (A : At K mg "_law_plain" ["_law_source_here", "_law_alphabet_here", "_law_room"] s_l_plain f fd) (m_min : mg "min" = none) (m_int : mg "int" = none) (c_l_draw : Fn1 P w K mg base "_law_draw" 1 2 g_draw) (c_l_set : Fn1 P w K mg base "_law_set" 2 2 g_set) (c_l_row : Fn1 P w K mg base "_law_row" 3 3 g_row) : Fn1 P w K mg base "_law_plain" 4 3 g_plain := by
  refine A.fn1 (okD1 (k := 3) A.fn sc_l_plain (by decide) (fun cdv A outer s H E hr => (dss_cons (ds_set 3 sc_l_plain.nd rfl (by first | exact Or.inl rfl | exact Or.inr rfl) (de_c1 0 c_l_draw (hr.mono (by decide)) (by rfl) (da_cons de_int da_nil)))
      (dss_cons (ds_if (DW.dt (dw_or (dt_lt (de_v 2) de_int) (dw_or1 (dt_eq hr (de_v 3) de_int)))) (dss_one (ds_ret (de_c1 0 c_l_set (hr.mono (by decide)) (by rfl) (da_cons (de_v 1) da_nil)))) dss_nil)
      (dss_cons (ds_set 4 sc_l_plain.nd rfl (by first | exact Or.inl rfl | exact Or.inr rfl) (de_add de_int (de_c1 0 c_l_draw (hr.mono (by decide)) (by rfl) (da_cons (de_sub (de_v 2) de_int) da_nil))))
      (dss_cons (ds_if (dt_eq hr (de_v 3) de_int) (dss_one (ds_ret (de_tup (da_cons de_str (da_cons (de_c1 0 c_l_row (hr.mono (by decide)) (by rfl) (da_cons (de_v 1) (da_cons (de_v 4) da_nil))) (da_cons (de_c1 0 c_l_row (hr.mono (by decide)) (by rfl) (da_cons (de_v 1) (da_cons (de_sub (de_v 2) (de_v 4)) da_nil))) da_nil)))))) dss_nil)
      (dss_cons (ds_if (dt_eq hr (de_v 3) de_int) (dss_one (ds_ret (de_add (de_c1 0 c_l_row (hr.mono (by decide)) (by rfl) (da_cons (de_v 1) (da_cons (de_v 4) da_nil))) (de_tup (da_cons (de_tup (da_cons de_str (da_cons (de_c1 0 c_l_set (hr.mono (by decide)) (by rfl) (da_cons (de_v 1) da_nil)) (da_cons de_int (da_cons de_non da_nil))))) da_nil))))) dss_nil)
      (dss_cons (ds_if (dt_eq hr (de_v 3) de_int) (dss_one (ds_ret (de_add (de_tup (da_cons de_str (da_cons (de_tup (da_cons de_str (da_cons (de_c1 0 c_l_set (hr.mono (by decide)) (by rfl) (da_cons (de_v 1) da_nil)) (da_cons de_int (da_cons de_non da_nil))))) da_nil))) (de_sl (de_c1 0 c_l_row (hr.mono (by decide)) (by rfl) (da_cons (de_v 1) (da_cons (de_v 4) da_nil))) (do_some de_int) do_none)))) dss_nil)
      (dss_cons (ds_set 5 sc_l_plain.nd rfl (by first | exact Or.inl rfl | exact Or.inr rfl) (de_add de_int (de_c1 0 c_l_draw (hr.mono (by decide)) (by rfl) (da_cons (de_min2 rfl (by rfl) m_min (da_cons de_int (da_cons (de_sub (de_v 2) (de_v 4)) da_nil))) da_nil))))
      (dss_cons (ds_if (dt_eq hr (de_v 3) de_int) (dss_cons (ds_set 6 sc_l_plain.nd rfl (by first | exact Or.inl rfl | exact Or.inr rfl) (de_c1 0 c_l_row (hr.mono (by decide)) (by rfl) (da_cons (de_v 1) (da_cons (de_fdiv (de_sub (de_v 2) (de_v 4)) (de_v 5)) da_nil))))
      (dss_one (ds_ret (de_add (de_c1 0 c_l_row (hr.mono (by decide)) (by rfl) (da_cons (de_v 1) (da_cons (de_v 4) da_nil))) (de_tup (da_cons (de_tup (da_cons de_str (da_cons (de_v 6) (da_cons de_int (da_cons (de_v 5) da_nil))))) da_nil)))))) dss_nil)
      (dss_cons (ds_if (DW.dt (dw_or (dt_eq hr (de_v 3) de_int) (dw_or1 (dt_eq hr (de_v 3) de_int)))) (dss_cons (ds_set 7 sc_l_plain.nd rfl (by first | exact Or.inl rfl | exact Or.inr rfl) (de_add de_int (de_c1 0 c_l_draw (hr.mono (by decide)) (by rfl) (da_cons (de_v 5) da_nil))))
      (dss_cons (ds_set 8 sc_l_plain.nd rfl (by first | exact Or.inl rfl | exact Or.inr rfl) (de_ix (de_lst (da_cons (de_v 5) (da_cons de_non da_nil))) (de_mul (de_c1 0 c_l_draw (hr.mono (by decide)) (by rfl) (da_cons de_int da_nil)) (de_intc (by rfl) m_int (da_cons (de_lt (de_v 7) (de_v 5)) da_nil))) (fun _ _ => rfl)))
      (dss_one (ds_ret (de_tup (da_cons de_str (da_cons (de_c1 0 c_l_row (hr.mono (by decide)) (by rfl) (da_cons (de_v 1) (da_cons (de_fdiv (de_v 2) (de_v 5)) da_nil))) (da_cons (de_v 7) (da_cons (de_v 8) da_nil))))))))) dss_nil)
      (dss_one (ds_ret (de_c1 0 c_l_row (hr.mono (by decide)) (by rfl) (da_cons (de_v 1) (da_cons (de_add de_int (de_c1 0 c_l_draw (hr.mono (by decide)) (by rfl) (da_cons (de_v 2) da_nil))) da_nil))))))))))))))) ?_)
  rintro xs ds Q hl ⟨c, A, R, rfl, hA, hS, R1, R2, hc, q⟩
  walk_at "s"
  refine ⟨c, _, rfl, hS, by omega, by decide, by decide, fun way xs1 w0 w1 hS1 => ⟨rfl, ?_⟩⟩
  walk_at "s"
  refine ifB (fun h => ?_) (fun h => ?_)
  · walk_at "s"
    exact ⟨c + 1, A, rfl, hA, hS1, by omega, fun s xs3 h1 h2 hS3 => ⟨_, rfl, q _ _ (Pln.set h1 h2 R1) (hS3.mono (by omega))⟩⟩
  have R3 : 2 ≤ R := by
    have := of_decide_eq_false h
    omega
  walk_at "s"
  refine ifB (fun h => ?_) (fun h => ?_)
  · walk_at "s"
    exact ⟨c + 1, A, rfl, hA, hS1, by omega, fun s xs3 h1 h2 hS3 => ⟨_, rfl, q _ _ (Pln.set h1 h2 R1) (hS3.mono (by omega))⟩⟩
  walk_at "s"
  refine ⟨c + 1, _, rfl, hS1, by omega, by omega, by omega, fun sz xs2 s0 s1 hS2 => ?_⟩
  walk_at "s"
  -- way 1
  refine ifB (fun h => ?_) (fun h => ?_)
  · walk_at "s"
    refine ⟨c + 2, A, 1 + sz, rfl, hA, hS2, by omega, by omega, by omega, fun ss xs3 h3 h4 hS3 => ?_⟩
    walk_at "s"
    refine ⟨c + 702, A, R - (1 + sz), rfl, hA, hS3, by omega, by omega, by omega, fun ss' xs4 h5 h6 hS4 => ?_⟩
    walk_at "s"
    have := q _ xs4 (Pln.any2 (R := R) (Sets.of h3 h4 (by omega)) (Sets.of h5 h6 (by omega)) (by omega) (by omega) (by omega) (by omega)) (hS4.mono (by omega))
    rw [toD, toDL, toDL, toDL] at this
    exact this
  walk_at "s"
  -- way 2
  refine ifB (fun h => ?_) (fun h => ?_)
  · walk_at "s"
    refine ⟨c + 2, A, 1 + sz, rfl, hA, hS2, by omega, by omega, by omega, fun ss xs3 h3 h4 hS3 => ?_⟩
    walk_at "s"
    refine ⟨c + 702, A, rfl, hA, hS3, by omega, fun s xs4 h1 h2 hS4 => ?_⟩
    walk_at "s"
    have a := Pln.set (R := 1) h1 h2 (Int.le_refl 1)
    have := q (.row (ss.map .set ++ [.again (.set s) 0 none])) xs4 (Pln.rowWith (R := R) (n := 1 + sz) (Sets.of h3 h4 (by omega)) (p := .again (.set s) 0 none) (by rw [stR]; exact a.st) (by rw [okR, a.ok]; rfl) (by rw [rdep, rdep]; decide) rfl (by show (0 : Int) ≤ 1; decide) (by show 1 + sz + 1 ≤ R; omega) (by show 1 + sz + 2 ≤ R + 2; omega) (by omega) (by omega) (.inl rfl)) (hS4.mono (by omega))
    exact ⟨_, add_row (rs := [.again (.set s) 0 none]) (by rw [toDL, toDL, toD.eq_6]; rfl) (by rw [List.length_map]; show _ + 1 ≤ _; omega), _, rfl, this⟩
  walk_at "s"
  -- way 3
  refine ifB (fun h => ?_) (fun h => ?_)
  · walk_at "s"
    refine ⟨c + 2, A, rfl, hA, hS2, by omega, fun s xs3 h1 h2 hS3 => ?_⟩
    walk_at "s"
    refine ⟨c + 9, A, 1 + sz, rfl, hA, hS3, by omega, by omega, by omega, fun ss xs4 h3 h4 hS4 => ?_⟩
    walk_at "s"
    rw [cutD_1]
    refine ⟨_, add_tup (by rw [toDL_len, List.length_map]; show 2 + _ ≤ _; omega), ?_⟩
    have a := Pln.set (R := 1) h1 h2 (Int.le_refl 1)
    have := q (.row (.again (.set s) 0 none :: ss.map .set)) xs4 (Pln.rowWith (R := R) (n := 1 + sz) (Sets.of h3 h4 (by omega)) (p := .again (.set s) 0 none) (by rw [stR]; exact a.st) (by rw [okR, a.ok]; rfl) (by rw [rdep, rdep]; decide) rfl (by show (0 : Int) ≤ 1; decide) (by show 1 + sz + 1 ≤ R; omega) (by show 1 + sz + 2 ≤ R + 2; omega) (by omega) (by omega) (.inr rfl)) (hS4.mono (by omega))
    rw [toD.eq_2, toDL, toD.eq_6] at this
    exact ⟨_, rfl, this⟩
  walk_at "s"
  have mn : ∃ u : Int, (if R - (1 + sz) < 4 then R - (1 + sz) else 4) = u ∧ 1 ≤ u ∧ u ≤ 4 ∧ u ≤ R - (1 + sz) := by
    refine ⟨_, rfl, ?_, ?_, ?_⟩ <;> split <;> omega
  obtain ⟨u, hu, u1, u4, uR⟩ := mn
  rw [hu]
  refine ⟨c + 2, _, rfl, hS2, by omega, by omega, by omega, fun mj xs3 mj0 mj1 hS3 => ?_⟩
  walk_at "s"
  -- way 4
  refine ifB (fun h => ?_) (fun h => ?_)
  · walk_at "s"
    obtain ⟨b1, b2, b3⟩ := fdiv_bd (a := R - (1 + sz)) (b := 1 + mj) (by omega) (by omega)
    refine ⟨_, fdiv_ok (by omega) (by omega), ?_⟩
    walk_at "s"
    refine ⟨c + 3, A, (R - (1 + sz)) / (1 + mj), rfl, hA, hS3, by omega, by omega, by omega, fun ss' xs4 h5 h6 hS4 => ?_⟩
    walk_at "s"
    refine ⟨c + 703, A, 1 + sz, rfl, hA, hS4, by omega, by omega, by omega, fun ss xs5 h3 h4 hS5 => ?_⟩
    walk_at "s"
    have b := Pln.row (R := (R - (1 + sz)) / (1 + mj)) (Sets.of (A := A) h5 h6 (by omega)) b1 (Int.le_refl _) (by omega)
    have hb := Sets.of (A := A) h5 h6 (by omega)
    have ew : wd (.again (.row (ss'.map .set)) 0 (some (1 + mj))) = (R - (1 + sz)) / (1 + mj) * (1 + mj) := by
      rw [wd_again, wd_row, hb.ws, mx1_of b1, mx1_of b1]
      show _ * mx1 (1 + mj) = _
      rw [mx1_of (by omega)]
    have := q (.row (ss.map .set ++ [.again (.row (ss'.map .set)) 0 (some (1 + mj))])) xs5 (Pln.rowWith (R := R) (n := 1 + sz) (Sets.of h3 h4 (by omega)) (p := .again (.row (ss'.map .set)) 0 (some (1 + mj))) (by rw [stR]; exact b.st)
      (by rw [okR, b.ok, hiOk, decide_eq_true (by omega : (0 : Int) ≤ 1 + mj), decide_eq_true (by omega : 1 + mj ≤ 4)]; rfl) (by rw [rdep, rdep, hb.dp]; decide) (by rw [plain]; exact b.pl) (by rw [ew]; exact Int.mul_nonneg (by omega) (by omega)) (by rw [ew]; omega) (by rw [cnt, cnt, hb.ct]; omega) (by omega) (by omega) (.inl rfl)) (hS5.mono (by omega))
    exact ⟨_, add_row (rs := [.again (.row (ss'.map .set)) 0 (some (1 + mj))]) (by rw [toDL, toDL, toD.eq_6]; rfl) (by rw [List.length_map]; show _ + 1 ≤ _; omega), _, rfl, this⟩
  walk_at "s"
  have last : ∀ (xs4 : List D) (lo : Int) (hi : Option Int), 1 ≤ lo → lo ≤ 1 + mj → hiOk lo hi = true → fcI lo hi ≤ 1 + mj → 1 ≤ fcI lo hi → Src (c + 6) xs4 → g_row xs4 [.str A, .int (R / (1 + mj))] fun r xs' => ∀ d, d = D.tup [.str "again", r.dat, .int lo, hiD hi] → Q (.fz d) xs' := by
    intro xs4 lo hi l1 l2 l3 l4 l5 hS4
    obtain ⟨b1, b2, b3⟩ := fdiv_bd (a := R) (b := 1 + mj) (by omega) (by omega)
    refine ⟨c + 6, A, R / (1 + mj), rfl, hA, hS4, by omega, by omega, by omega, fun ss xs5 h3 h4 hS5 d hd => ?_⟩
    rw [hd]
    show Q (.fz (.tup [.str "again", toD (.row (ss.map .set)), .int lo, hiD hi])) xs5
    rw [toD_again]
    have hb := Sets.of (A := A) h3 h4 (by omega)
    have b := Pln.row hb b1 (Int.le_refl _) (by omega)
    have ew : wd (.again (.row (ss.map .set)) lo hi) = R / (1 + mj) * fcI lo hi := by rw [wd_again, wd_row, hb.ws, mx1_of b1, mx1_of b1]
    have em : R / (1 + mj) * fcI lo hi ≤ R / (1 + mj) * (1 + mj) := Int.mul_le_mul_of_nonneg_left l4 (by omega)
    have e1 : R / (1 + mj) * 1 ≤ R / (1 + mj) * fcI lo hi := Int.mul_le_mul_of_nonneg_left l5 (by omega)
    refine q _ xs5 ⟨by rw [stR]; exact b.st, by rw [okR, b.ok, decide_eq_true (by omega : 0 ≤ lo), decide_eq_true (by omega : lo ≤ 4), l3]; rfl, by rw [rdep, rdep, hb.dp]; decide, by rw [plain]; exact b.pl, by rw [ew]; omega, by rw [ew]; omega, by rw [cnt, cnt, hb.ct]; omega⟩ (hS5.mono (by omega))
  have pick : ∀ lj b : Int, 0 ≤ lj → lj < 1 + mj → 0 ≤ b → b < 2 → ∃ hi : Option Int, atI ([.int (1 + mj), .non] : List D) (b * (if decide (1 + lj < 1 + mj) = true then 1 else 0)) = some (hiD hi) ∧ hiOk (1 + lj) hi = true ∧ fcI (1 + lj) hi ≤ 1 + mj ∧ 1 ≤ fcI (1 + lj) hi := by
    intro lj b l0 l1 b0 b1
    have one : ∀ z : Int, z = 0 → ∃ hi : Option Int, atI ([.int (1 + mj), .non] : List D) z = some (hiD hi) ∧ hiOk (1 + lj) hi = true ∧ fcI (1 + lj) hi ≤ 1 + mj ∧ 1 ≤ fcI (1 + lj) hi := by
      rintro z rfl
      refine ⟨some (1 + mj), rfl, by rw [hiOk, decide_eq_true (by omega), decide_eq_true (by omega)]; rfl, ?_, ?_⟩
      · show mx1 (1 + mj) ≤ _
        rw [mx1_of (by omega)]
        omega
      · show 1 ≤ mx1 (1 + mj)
        rw [mx1_of (by omega)]
        omega
    by_cases hlt : 1 + lj < 1 + mj
    · rw [decide_eq_true hlt, if_pos rfl, Int.mul_one]
      rcases (show b = 0 ∨ b = 1 by omega) with e | e
      · exact one b e
      · subst e
        exact ⟨none, rfl, rfl, by show 1 + lj + 1 ≤ _; omega, by show 1 ≤ 1 + lj + 1; omega⟩
    · rw [decide_eq_false hlt, if_neg (by decide), Int.mul_zero]
      exact one 0 rfl
  -- ways 5, 6
  refine ifB (fun h => ?_) (fun h => ?_)
  · walk_at "s"
    refine ⟨c + 3, _, rfl, hS3, by omega, by omega, by omega, fun lj xs4 lj0 lj1 hS4 => ?_⟩
    walk_at "s"
    refine ⟨c + 4, _, rfl, hS4, by omega, by decide, by decide, fun b xs5 b0 b1 hS5 => ?_⟩
    walk_at "s"
    refine ⟨_, mul_okL (by omega) (by omega), ?_⟩
    obtain ⟨hi, hx, p1, p2, p3⟩ := pick lj b lj0 lj1 b0 b1
    refine ⟨_, ix_lst hx, rfl, ?_⟩
    walk_at "s"
    refine ⟨_, fdiv_ok (by omega) (by omega), ?_⟩
    walk_at "s"
    obtain ⟨c', A', m', e, a1, a2, a3, a4, a5, k⟩ := last xs5 (1 + lj) hi (by omega) (by omega) p1 p2 p3 (hS5.mono (by omega))
    refine ⟨c', A', m', e, a1, a2, a3, a4, a5, fun ss xs6 h1 h2 h3 => ?_⟩
    walk_at "s"
    exact k ss xs6 h1 h2 h3 _ rfl
  walk_at "s"
  refine ifB (fun h => ?_) (fun h => ?_)
  · walk_at "s"
    refine ⟨c + 3, _, rfl, hS3, by omega, by omega, by omega, fun lj xs4 lj0 lj1 hS4 => ?_⟩
    walk_at "s"
    refine ⟨c + 4, _, rfl, hS4, by omega, by decide, by decide, fun b xs5 b0 b1 hS5 => ?_⟩
    walk_at "s"
    refine ⟨_, mul_okL (by omega) (by omega), ?_⟩
    obtain ⟨hi, hx, p1, p2, p3⟩ := pick lj b lj0 lj1 b0 b1
    refine ⟨_, ix_lst hx, rfl, ?_⟩
    walk_at "s"
    refine ⟨_, fdiv_ok (by omega) (by omega), ?_⟩
    walk_at "s"
    obtain ⟨c', A', m', e, a1, a2, a3, a4, a5, k⟩ := last xs5 (1 + lj) hi (by omega) (by omega) p1 p2 p3 (hS5.mono (by omega))
    refine ⟨c', A', m', e, a1, a2, a3, a4, a5, fun ss xs6 h1 h2 h3 => ?_⟩
    walk_at "s"
    exact k ss xs6 h1 h2 h3 _ rfl
  walk_at "s"
  refine ⟨c + 3, _, rfl, hS3, by omega, by omega, by omega, fun j xs4 j0 j1 hS4 => ?_⟩
  walk_at "s"
  refine ⟨c + 4, A, 1 + j, rfl, hA, hS4, by omega, by omega, by omega, fun ss xs5 h3 h4 hS5 => ?_⟩
  walk_at "s"
  exact q _ xs5 (Pln.row (Sets.of h3 h4 (by omega)) (by omega) (by omega) (by omega)) (hS5.mono (by omega))
def g_pattern : FS1 := fun xs ds Q => ∃ (c : Nat) (A : Str) (R : Int), ds = [.str A, .int R] ∧ Alp A ∧ Src c xs ∧ 1 ≤ R ∧ R ≤ 20 ∧ c + 5000 ≤ 2 ^ 40 ∧ ∀ r xs', Pat A R r → Src (c + 5000) xs' → Q (.fz (toD r)) xs'
theorem ok_pattern (A : At K mg "_law_pattern" ["_law_source_here", "_law_alphabet_here", "_law_room"] s_l_pattern f fd) (c_l_draw : Fn1 P w K mg base "_law_draw" 1 2 g_draw) (c_l_plain : Fn1 P w K mg base "_law_plain" 4 3 g_plain) : Fn1 P w K mg base "_law_pattern" 5 3 g_pattern := by
  refine A.fn1 (okD1 (k := 4) A.fn sc_l_pattern (by decide) (fun cdv A outer s H E hr => (dss_cons (ds_if (DW.dt (dw_or (dt_lt (de_v 2) de_int) (dw_or1 (dt_gt (de_c1 0 c_l_draw (hr.mono (by decide)) (by rfl) (da_cons de_int da_nil)) de_int)))) (dss_one (ds_ret (de_c1 0 c_l_plain (hr.mono (by decide)) (by rfl) (da_cons (de_v 1) (da_cons (de_v 2) da_nil))))) dss_nil)
      (dss_cons (ds_set 3 sc_l_pattern.nd rfl (by first | exact Or.inl rfl | exact Or.inr rfl) (de_add de_int (de_c1 0 c_l_draw (hr.mono (by decide)) (by rfl) (da_cons (de_sub (de_v 2) de_int) da_nil))))
      (dss_cons (ds_set 4 sc_l_pattern.nd rfl (by first | exact Or.inl rfl | exact Or.inr rfl) (de_tup (da_cons de_str (da_cons (de_c1 0 c_l_plain (hr.mono (by decide)) (by rfl) (da_cons (de_v 1) (da_cons (de_sub (de_v 2) (de_v 3)) da_nil))) da_nil))))
      (dss_one (ds_ret (de_tup (da_cons de_str (da_cons (de_c1 0 c_l_plain (hr.mono (by decide)) (by rfl) (da_cons (de_v 1) (da_cons (de_v 3) da_nil))) (da_cons (de_v 4) da_nil)))))))))) ?_)
  rintro xs ds Q hl ⟨c, A, R, rfl, hA, hS, R1, R2, hc, q⟩
  walk_at "s"
  refine ifB (fun h => ?_) (fun h => ?_)
  · walk_at "s"
    refine ⟨c, A, R, rfl, hA, hS, R1, R2, by omega, fun r xs2 h1 hS2 => ?_⟩
    walk_at "s"
    exact q r xs2 h1.pat (hS2.mono (by omega))
  have R3 : 2 ≤ R := by
    have := of_decide_eq_false h
    omega
  walk_at "s"
  refine ⟨c, _, rfl, hS, by omega, by decide, by decide, fun j xs1 j0 j1 hS1 => ?_⟩
  walk_at "s"
  refine ifB (fun h => ?_) (fun h => ?_)
  · walk_at "s"
    refine ⟨c + 1, A, R, rfl, hA, hS1, R1, R2, by omega, fun r xs2 h1 hS2 => ?_⟩
    walk_at "s"
    exact q r xs2 h1.pat (hS2.mono (by omega))
  walk_at "s"
  refine ⟨c + 1, _, rfl, hS1, by omega, by omega, by omega, fun sz xs2 s0 s1 hS2 => ?_⟩
  walk_at "s"
  refine ⟨c + 2, A, R - (1 + sz), rfl, hA, hS2, by omega, by omega, by omega, fun r2 xs3 h2 hS3 => ?_⟩
  walk_at "s"
  refine ⟨c + 2002, A, 1 + sz, rfl, hA, hS3, by omega, by omega, by omega, fun r1 xs4 h1 hS4 => ?_⟩
  walk_at "s"
  have := q _ xs4 (Pat.all2 (R := R) h1 h2 (by omega)) (hS4.mono (by omega))
  rw [toD.eq_4, toDL, toDL, toDL, toD.eq_5] at this
  exact this
end
end Cut
/-! Notations of patterns: how they are written, how they are read. Plain Lean. -/
namespace Cut
open PySem L2 DL
/-- a reading: what was read and the place behind it, or the place where it is refused -/
inductive PR (α : Type) where
  | ok (a : α) (j : Nat) | er (j : Nat)
def PR.bnd {α β : Type} (x : PR α) (f : α → Nat → PR β) : PR β := match x with
  | .ok a j => f a j
  | .er j => .er j
def PR.post {α : Type} (x : PR α) (Q : α → Nat → Prop) (E : Nat → Prop) : Prop := match x with
  | .ok a j => Q a j
  | .er j => E j
theorem post_bnd {α β : Type} (x : PR α) (f : α → Nat → PR β) (Q : β → Nat → Prop) (E : Nat → Prop) : (x.bnd f).post Q E = x.post (fun a j => (f a j).post Q E) E := by cases x <;> rfl
theorem PR.post.imp {α : Type} {x : PR α} {Q Q' : α → Nat → Prop} {E E' : Nat → Prop} (h : x.post Q E) (h1 : ∀ a j, x = .ok a j → Q a j → Q' a j) (h2 : ∀ j, x = .er j → E j → E' j) : x.post Q' E' := by
  cases x with
  | ok a j => exact h1 a j rfl h
  | er j => exact h2 j rfl h
/-! ### writing -/
def dig (i : Int) : List Nat := [48 + i.toNat]
def hiT : Option Int → List Nat
  | none => [42]
  | some h => dig h
def wRow : List Nat := [114, 111, 119]
def wAny : List Nat := [97, 110, 121]
def wAll : List Nat := [97, 108, 108]
def wNot : List Nat := [110, 111, 116]
def wAgain : List Nat := [97, 103, 97, 105, 110]
mutual
def fmt : Rx → List Nat
  | .set s => 91 :: (s.cps.toList ++ [93])
  | .row ps => 40 :: (wRow ++ (fmtL ps ++ [41]))
  | .any ps => 40 :: (wAny ++ (fmtL ps ++ [41]))
  | .all ps => 40 :: (wAll ++ (fmtL ps ++ [41]))
  | .no p => 40 :: (wNot ++ (32 :: (fmt p ++ [41])))
  | .again p lo hi => 40 :: (wAgain ++ (32 :: (fmt p ++ (32 :: (dig lo ++ (32 :: (hiT hi ++ [41])))))))
def fmtL : List Rx → List Nat
  | [] => []
  | p :: ps => 32 :: (fmt p ++ fmtL ps)
end
/-! ### reading -/
section
variable (s : List Nat)
def pX : List Nat → Nat → PR Unit
  | [], i => .ok () i
  | c :: cs, i => if s[i]? = some c then pX cs (i + 1) else .er i
def KW : List (List Nat) := [wRow, wAny, wAll, wNot, wAgain]
def isPre (f : List Nat) : Bool := KW.any fun w => decide (w.take f.length = f)
def pK : Nat → List Nat → Nat → PR (List Nat)
  | 0, _, i => .er i
  | n + 1, f, i => if KW.contains f = true then .ok f i else match s[i]? with
    | none => .er i
    | some c => if isPre (f ++ [c]) = true then pK n (f ++ [c]) (i + 1) else .er i
def pD (low : Nat) (i : Nat) : PR Nat := match s[i]? with
  | none => .er i
  | some c => if 48 + low ≤ c ∧ c ≤ 52 then .ok (c - 48) (i + 1) else .er i
/-- the characters of a set: those left, those found -/
def pC : Nat → List Nat → List Nat → Nat → PR (List Nat)
  | 0, _, _, i => .er i
  | n + 1, rest, f, i => match s[i]? with
    | none => .er i
    | some c => if c = 93 then .ok f i else if c ∈ rest then pC n (rest.drop (rest.idxOf c + 1)) (f ++ [c]) (i + 1) else .er i
def pS (A : List Nat) (i : Nat) : PR Rx := (pX s [91] i).bnd fun _ j => (pC s (A.length + 1) A [] j).bnd fun f k => (pX s [93] k).bnd fun _ l => .ok (.set (ofL f)) l
def mkW (w : List Nat) (ps : List Rx) : Rx := if w = wRow then .row ps else if w = wAny then .any ps else .all ps
mutual
def pE (A : List Nat) : Nat → Nat → PR Rx
  | 0, i => .er i
  | n + 1, i => if s[i]? = some 91 then pS s A i else (pX s [40] i).bnd fun _ i1 => (pK s 6 [] i1).bnd fun w i2 =>
    (if w = wAgain then (pX s [32] i2).bnd fun _ i3 => (pE A n i3).bnd fun p i4 => (pX s [32] i4).bnd fun _ i5 => (pD s 0 i5).bnd fun lo i6 => (pX s [32] i6).bnd fun _ i7 =>
        (if s[i7]? = some 42 then (pX s [42] i7).bnd fun _ i8 => .ok (.again p (lo : Nat) none) i8 else (pD s lo i7).bnd fun hi i8 => .ok (.again p (lo : Nat) (some (hi : Nat))) i8)
      else if w = wNot then (pX s [32] i2).bnd fun _ i3 => (pE A n i3).bnd fun p i4 => .ok (.no p) i4
      else (pP A n i2).bnd fun ps i3 => .ok (mkW w ps) i3).bnd fun r j => (pX s [41] j).bnd fun _ k => .ok r k
def pP (A : List Nat) : Nat → Nat → PR (List Rx)
  | 0, i => .er i
  | n + 1, i => if s[i]? = some 41 then .ok [] i else (pX s [32] i).bnd fun _ i1 => (pE A n i1).bnd fun p i2 => (pP A n i2).bnd fun ps i3 => .ok (p :: ps) i3
end
end
/-! ### reading what was written -/
theorem at_pre {pre cs post : List Nat} {c : Nat} : (pre ++ (c :: cs) ++ post)[pre.length]? = some c := by
  rw [List.append_assoc, List.getElem?_append_right (Nat.le_refl _), Nat.sub_self]; rfl
theorem pX_ok {s : List Nat} : ∀ (t : List Nat) (pre post : List Nat), s = pre ++ t ++ post → pX s t pre.length = .ok () (pre.length + t.length)
  | [], pre, post, _ => rfl
  | c :: cs, pre, post, h => by
    unfold pX
    rw [if_pos (by rw [h]; exact at_pre)]
    have := pX_ok (s := s) cs (pre ++ [c]) post (by rw [h]; simp)
    rw [List.length_append, List.length_singleton] at this
    rw [this, List.length_cons]
    congr 1
    omega
theorem pK_ok {s : List Nat} {w : List Nat} (hw : w ∈ KW) {pre post : List Nat} (h : s = pre ++ w ++ post) : pK s 6 [] pre.length = .ok w (pre.length + w.length) := by
  have g : ∀ i, i < w.length → s[pre.length + i]? = w[i]? := fun i hi => by
    rw [h, List.append_assoc, List.getElem?_append_right (by omega), Nat.add_sub_cancel_left, List.getElem?_append_left hi]
  simp only [KW, List.mem_cons, List.mem_nil_iff, or_false] at hw
  have g0 := g 0
  have g1 := g 1
  have g2 := g 2
  have g3 := g 3
  have g4 := g 4
  rcases hw with rfl | rfl | rfl | rfl | rfl
  all_goals simp only [wRow, wAny, wAll, wNot, wAgain, List.length_cons, List.length_nil, Nat.add_zero] at g0 g1 g2 g3 g4 ⊢
  all_goals have g0 := g0 (by decide)
  all_goals have g1 := g1 (by decide)
  all_goals have g2 := g2 (by decide)
  all_goals simp only [List.getElem?_cons_zero, List.getElem?_cons_succ] at g0 g1 g2
  all_goals simp only [pK, g0, g1, g2, Nat.add_assoc, Nat.reduceAdd]
  all_goals first
    | (simp only [show KW.contains ([] : List Nat) = false by decide, show KW.contains [114] = false by decide, show KW.contains [114, 111] = false by decide, show KW.contains [97] = false by decide, show KW.contains [97, 110] = false by decide, show KW.contains [97, 108] = false by decide, show KW.contains [110] = false by decide, show KW.contains [110, 111] = false by decide, Bool.false_eq_true, if_false, List.nil_append, List.cons_append,
        show isPre [114] = true by decide, show isPre [114, 111] = true by decide, show isPre [114, 111, 119] = true by decide, show isPre [97] = true by decide, show isPre [97, 110] = true by decide, show isPre [97, 110, 121] = true by decide, show isPre [97, 108] = true by decide, show isPre [97, 108, 108] = true by decide, show isPre [110] = true by decide, show isPre [110, 111] = true by decide, show isPre [110, 111, 116] = true by decide, if_true,
        show KW.contains [114, 111, 119] = true by decide, show KW.contains [97, 110, 121] = true by decide, show KW.contains [97, 108, 108] = true by decide, show KW.contains [110, 111, 116] = true by decide]; done)
    | skip
  have g3 := g3 (by decide)
  have g4 := g4 (by decide)
  simp only [List.getElem?_cons_zero, List.getElem?_cons_succ] at g3 g4
  simp only [g3, g4, show KW.contains ([] : List Nat) = false by decide, show KW.contains [97] = false by decide, show KW.contains [97, 103] = false by decide, show KW.contains [97, 103, 97] = false by decide, show KW.contains [97, 103, 97, 105] = false by decide, Bool.false_eq_true, if_false, List.nil_append, List.cons_append,
    show isPre [97] = true by decide, show isPre [97, 103] = true by decide, show isPre [97, 103, 97] = true by decide, show isPre [97, 103, 97, 105] = true by decide, show isPre [97, 103, 97, 105, 110] = true by decide, if_true, show KW.contains [97, 103, 97, 105, 110] = true by decide]
theorem pD_ok {s : List Nat} {lo i : Int} (h0 : 0 ≤ lo) (h1 : lo ≤ i) (h4 : i ≤ 4) {pre post : List Nat} (h : s = pre ++ dig i ++ post) : pD s lo.toNat pre.length = .ok i.toNat (pre.length + 1) := by
  unfold pD
  rw [show s[pre.length]? = some (48 + i.toNat) by rw [h]; exact at_pre]
  dsimp only
  rw [if_pos (by omega)]
  congr 1
  omega
/-- the characters of a set, in the order of the alphabet -/
theorem pC_ok {s : List Nat} : ∀ (n : Nat) (rest cs f pre post : List Nat), cs.length < n → s = pre ++ cs ++ (93 :: post) → 93 ∉ cs → cs.Sublist rest → rest.Nodup → pC s n rest f pre.length = .ok (f ++ cs) (pre.length + cs.length)
  | n + 1, rest, [], f, pre, post, _, h, _, _, _ => by
    unfold pC
    rw [show s[pre.length]? = some 93 by rw [h, List.append_nil]; simp]
    simp
  | n + 1, rest, c :: cs, f, pre, post, hn, h, h9, hs, nd => by
    unfold pC
    rw [show s[pre.length]? = some c by rw [h]; exact at_pre]
    have hc : c ≠ 93 := fun e => h9 (by rw [e]; exact List.mem_cons_self ..)
    have hm : c ∈ rest := hs.subset (List.mem_cons_self ..)
    dsimp only
    rw [if_neg hc, if_pos hm]
    have hs2 : cs.Sublist (rest.drop (rest.idxOf c + 1)) := by
      obtain ⟨a, b, rfl, hb⟩ : ∃ a b, rest = a ++ c :: b ∧ c ∉ a := by
        obtain ⟨a, b, e⟩ := List.append_of_mem hm
        refine ⟨a, b, e, fun hca => ?_⟩
        rw [e, List.nodup_append] at nd
        exact nd.2.2 c hca c (List.mem_cons_self ..) rfl
      rw [List.idxOf_append, if_neg hb, List.idxOf_cons_self, Nat.zero_add]
      rw [show a ++ c :: b = (a ++ [c]) ++ b by simp, List.drop_append, List.drop_of_length_le (by simp), List.length_append, List.length_singleton, Nat.sub_self, List.drop_zero, List.nil_append]
      rw [List.cons_sublist_iff] at hs
      obtain ⟨r1, r2, e1, e2, e3⟩ := hs
      have hr : (a ++ [c]).length ≤ r1.length := by
        rcases Nat.lt_or_ge r1.length (a.length + 1) with hlt | hge
        · exfalso
          have : r1 <+: a := by
            have p1 : r1 <+: a ++ c :: b := ⟨r2, e1.symm⟩
            have p2 : a <+: a ++ c :: b := ⟨c :: b, rfl⟩
            exact List.prefix_of_prefix_length_le p1 p2 (by omega)
          exact hb (this.subset e2)
        · simpa using hge
      have p1 : a ++ [c] <+: a ++ c :: b := ⟨b, by simp⟩
      have p2 : r1 <+: a ++ c :: b := ⟨r2, e1.symm⟩
      obtain ⟨t, ht⟩ := List.prefix_of_prefix_length_le p1 p2 hr
      have : b = t ++ r2 := by
        have e4 : (a ++ [c]) ++ b = (a ++ [c]) ++ (t ++ r2) := by rw [← List.append_assoc, ht, ← e1]; simp
        exact List.append_cancel_left e4
      rw [this]
      exact e3.trans (List.sublist_append_right t r2)
    have nd2 : (rest.drop (rest.idxOf c + 1)).Nodup := nd.sublist (List.drop_sublist _ _)
    have := pC_ok (s := s) n (rest.drop (rest.idxOf c + 1)) cs (f ++ [c]) (pre ++ [c]) post (by simpa using hn) (by rw [h]; simp) (fun z => h9 (List.mem_cons_of_mem _ z)) hs2 nd2
    rw [List.length_append, List.length_singleton] at this
    rw [this, List.append_assoc, List.length_cons]
    congr 1
    omega
theorem set_sub {A s : Str} (h : isSetM A [.str s] = true) : s.cps.toList.Sublist A.cps.toList := by
  have e : s = ofL (A.cps.toList.filter fun c => decide (c ∈ s.cps.toList)) := of_decide_eq_true h
  have e2 : s.cps.toList = A.cps.toList.filter fun c => decide (c ∈ s.cps.toList) := by
    have := congrArg (fun z : Str => z.cps.toList) e
    simpa using this
  rw [e2]
  exact List.filter_sublist
theorem pS_ok {t : List Nat} {A s : Str} (hA : Alp A) (h : isSetM A [.str s] = true) {pre post : List Nat} (e : t = pre ++ fmt (.set s) ++ post) : pS t A.cps.toList pre.length = .ok (.set s) (pre.length + (fmt (.set s)).length) := by
  have hs := set_sub h
  have h9 : 93 ∉ A.cps.toList := fun z => by
    have := hA.ch 93 z
    rw [CH_eq] at this
    revert this
    decide
  rw [fmt] at e ⊢
  unfold pS
  rw [show pX t [91] pre.length = .ok () (pre.length + 1) from pX_ok [91] pre (s.cps.toList ++ 93 :: post) (by rw [e]; simp)]
  dsimp only [PR.bnd]
  have := pC_ok (s := t) (A.cps.toList.length + 1) A.cps.toList s.cps.toList [] (pre ++ [91]) post (by have := hs.length_le; omega) (by rw [e]; simp) (fun z => h9 (hs.subset z)) hs hA.nd
  rw [List.length_append, List.length_singleton] at this
  rw [this]
  dsimp only
  have := pX_ok (s := t) [93] (pre ++ [91] ++ s.cps.toList) post (by rw [e]; simp)
  rw [show List.length (pre ++ [91] ++ s.cps.toList) = pre.length + 1 + s.cps.toList.length by simp; omega] at this
  rw [this]
  dsimp only
  rw [List.nil_append, l_ofL]
  congr 1
  simp
  omega
theorem fmt_head (r : Rx) : (∃ u, fmt r = 91 :: u) ∨ (∃ u, fmt r = 40 :: u) := by
  cases r <;> simp [fmt]
mutual
theorem pE_ok {t : List Nat} {A : Str} (hA : Alp A) : ∀ (r : Rx) (n : Nat) (pre post : List Nat), stR A r = true → okR r = true → t = pre ++ fmt r ++ post → (fmt r).length < n → pE t A.cps.toList n pre.length = .ok r (pre.length + (fmt r).length)
  | .set s, n + 1, pre, post, hs, ho, e, hn => by
    unfold pE
    rw [if_pos (by rw [e, fmt]; exact at_pre)]
    rw [stR, Bool.and_eq_true] at hs
    exact pS_ok hA hs.1 e
  | .row ps, n + 1, pre, post, hs, ho, e, hn => by
    rw [stR] at hs
    rw [okR, Bool.and_eq_true] at ho
    rw [fmt] at e hn ⊢
    refine pE_list hA (w := wRow) (by decide) ps n pre post e (by simp only [wRow, List.length_cons, List.length_append, List.length_nil] at hn ⊢; omega) (by decide) (by decide) ?_
    exact pP_ok (t := t) hA ps n (pre ++ 40 :: wRow) post hs ho.2 (by rw [e]; simp) (by simp only [wRow, List.length_cons, List.length_append, List.length_nil] at hn ⊢; omega)
  | .any ps, n + 1, pre, post, hs, ho, e, hn => by
    rw [stR] at hs
    rw [okR, Bool.and_eq_true] at ho
    rw [fmt] at e hn ⊢
    refine pE_list hA (w := wAny) (by decide) ps n pre post e (by simp only [wAny, List.length_cons, List.length_append, List.length_nil] at hn ⊢; omega) (by decide) (by decide) ?_
    exact pP_ok (t := t) hA ps n (pre ++ 40 :: wAny) post hs ho.2 (by rw [e]; simp) (by simp only [wAny, List.length_cons, List.length_append, List.length_nil] at hn ⊢; omega)
  | .all ps, n + 1, pre, post, hs, ho, e, hn => by
    rw [stR] at hs
    rw [okR, Bool.and_eq_true] at ho
    rw [fmt] at e hn ⊢
    refine pE_list hA (w := wAll) (by decide) ps n pre post e (by simp only [wAll, List.length_cons, List.length_append, List.length_nil] at hn ⊢; omega) (by decide) (by decide) ?_
    exact pP_ok (t := t) hA ps n (pre ++ 40 :: wAll) post hs ho.2 (by rw [e]; simp) (by simp only [wAll, List.length_cons, List.length_append, List.length_nil] at hn ⊢; omega)
  | .no p, n + 1, pre, post, hs, ho, e, hn => by
    rw [stR] at hs
    rw [okR] at ho
    rw [fmt] at e hn ⊢
    unfold pE
    rw [if_neg (by rw [e, at_pre]; decide)]
    rw [show pX t [40] pre.length = .ok () (pre.length + 1) from pX_ok [40] pre _ (by rw [e]; simp; rfl)]
    dsimp only [PR.bnd]
    have e1 := pK_ok (s := t) (w := wNot) (by decide) (pre := pre ++ [40]) (post := 32 :: (fmt p ++ [41]) ++ post) (by rw [e]; simp)
    rw [List.length_append, List.length_singleton] at e1
    rw [e1]
    dsimp only
    rw [if_neg (by decide), if_pos rfl]
    have e2 := pX_ok (s := t) [32] (pre ++ 40 :: wNot) (fmt p ++ [41] ++ post) (by rw [e]; simp)
    rw [show List.length (pre ++ 40 :: wNot) = pre.length + 1 + wNot.length by simp; omega] at e2
    rw [e2]
    dsimp only
    have e3 := pE_ok (t := t) hA p n (pre ++ 40 :: wNot ++ [32]) ([41] ++ post) hs ho (by rw [e]; simp) (by simp only [wNot, List.length_cons, List.length_append, List.length_nil] at hn ⊢; omega)
    rw [show List.length (pre ++ 40 :: wNot ++ [32]) = pre.length + 1 + wNot.length + [32].length by simp; omega] at e3
    rw [e3]
    dsimp only
    have e4 := pX_ok (s := t) [41] (pre ++ 40 :: wNot ++ [32] ++ fmt p) post (by rw [e]; simp)
    rw [show List.length (pre ++ 40 :: wNot ++ [32] ++ fmt p) = pre.length + 1 + wNot.length + [32].length + (fmt p).length by simp; omega] at e4
    rw [e4]
    dsimp only
    congr 1
    simp
    omega
  | .again p lo hi, n + 1, pre, post, hs, ho, e, hn => by
    rw [stR] at hs
    rw [okR, Bool.and_eq_true, Bool.and_eq_true, Bool.and_eq_true] at ho
    obtain ⟨⟨⟨ho1, ho2⟩, ho3⟩, ho4⟩ := ho
    have l0 : 0 ≤ lo := of_decide_eq_true ho2
    have l4 : lo ≤ 4 := of_decide_eq_true ho3
    rw [fmt] at e hn ⊢
    unfold pE
    rw [if_neg (by rw [e, at_pre]; decide)]
    rw [show pX t [40] pre.length = .ok () (pre.length + 1) from pX_ok [40] pre _ (by rw [e]; simp; rfl)]
    dsimp only [PR.bnd]
    have e1 := pK_ok (s := t) (w := wAgain) (by decide) (pre := pre ++ [40]) (post := 32 :: (fmt p ++ (32 :: (dig lo ++ (32 :: (hiT hi ++ [41]))))) ++ post) (by rw [e]; simp)
    rw [List.length_append, List.length_singleton] at e1
    rw [e1]
    dsimp only
    rw [if_pos rfl]
    have e2 := pX_ok (s := t) [32] (pre ++ 40 :: wAgain) (fmt p ++ (32 :: (dig lo ++ (32 :: (hiT hi ++ [41])))) ++ post) (by rw [e]; simp)
    rw [show List.length (pre ++ 40 :: wAgain) = pre.length + 1 + wAgain.length by simp; omega] at e2
    rw [e2]
    dsimp only
    have e3 := pE_ok (t := t) hA p n (pre ++ 40 :: wAgain ++ [32]) ((32 :: (dig lo ++ (32 :: (hiT hi ++ [41])))) ++ post) hs ho1 (by rw [e]; simp) (by simp only [wAgain, dig, List.length_cons, List.length_append, List.length_nil] at hn ⊢; omega)
    rw [show List.length (pre ++ 40 :: wAgain ++ [32]) = pre.length + 1 + wAgain.length + [32].length by simp; omega] at e3
    rw [e3]
    dsimp only
    have e4 := pX_ok (s := t) [32] (pre ++ 40 :: wAgain ++ [32] ++ fmt p) (dig lo ++ (32 :: (hiT hi ++ [41])) ++ post) (by rw [e]; simp)
    rw [show List.length (pre ++ 40 :: wAgain ++ [32] ++ fmt p) = pre.length + 1 + wAgain.length + [32].length + (fmt p).length by simp; omega] at e4
    rw [e4]
    dsimp only
    have e5 := pD_ok (s := t) (lo := 0) (i := lo) (by omega) l0 l4 (pre := pre ++ 40 :: wAgain ++ [32] ++ fmt p ++ [32]) (post := 32 :: (hiT hi ++ [41]) ++ post) (by rw [e]; simp)
    rw [show List.length (pre ++ 40 :: wAgain ++ [32] ++ fmt p ++ [32]) = pre.length + 1 + wAgain.length + [32].length + (fmt p).length + [32].length by simp; omega] at e5
    rw [show (0 : Int).toNat = 0 from rfl] at e5
    rw [e5]
    dsimp only
    have e6 := pX_ok (s := t) [32] (pre ++ 40 :: wAgain ++ [32] ++ fmt p ++ [32] ++ dig lo) (hiT hi ++ [41] ++ post) (by rw [e]; simp)
    rw [show List.length (pre ++ 40 :: wAgain ++ [32] ++ fmt p ++ [32] ++ dig lo) = pre.length + 1 + wAgain.length + [32].length + (fmt p).length + [32].length + 1 by simp [dig]; omega] at e6
    rw [e6]
    dsimp only
    have hlo : ((lo.toNat : Nat) : Int) = lo := by omega
    have tl : ∀ (c : Nat) (cs : List Nat), hiT hi = c :: cs → t[pre.length + 1 + wAgain.length + [32].length + (fmt p).length + [32].length + 1 + [32].length]? = some c := fun c cs hc => by
      have : t = (pre ++ 40 :: wAgain ++ [32] ++ fmt p ++ [32] ++ dig lo ++ [32]) ++ (c :: cs) ++ ([41] ++ post) := by rw [e, hc]; simp
      rw [this, show pre.length + 1 + wAgain.length + [32].length + (fmt p).length + [32].length + 1 + [32].length = (pre ++ 40 :: wAgain ++ [32] ++ fmt p ++ [32] ++ dig lo ++ [32]).length by simp [dig]; omega]
      exact at_pre
    have last : ∀ (k : Nat) (hk : (hiT hi).length = k), pX t [41] (pre.length + 1 + wAgain.length + [32].length + (fmt p).length + [32].length + 1 + [32].length + k) = .ok () (pre.length + 1 + wAgain.length + [32].length + (fmt p).length + [32].length + 1 + [32].length + k + 1) := fun k hk => by
      have := pX_ok (s := t) [41] (pre ++ 40 :: wAgain ++ [32] ++ fmt p ++ [32] ++ dig lo ++ [32] ++ hiT hi) post (by rw [e]; simp)
      rw [show List.length (pre ++ 40 :: wAgain ++ [32] ++ fmt p ++ [32] ++ dig lo ++ [32] ++ hiT hi) = pre.length + 1 + wAgain.length + [32].length + (fmt p).length + [32].length + 1 + [32].length + k by simp [dig, hk]; omega] at this
      exact this
    cases hi with
    | none =>
      rw [if_pos (tl 42 [] rfl)]
      have e7 := pX_ok (s := t) [42] (pre ++ 40 :: wAgain ++ [32] ++ fmt p ++ [32] ++ dig lo ++ [32]) ([41] ++ post) (by rw [e, hiT]; simp)
      rw [show List.length (pre ++ 40 :: wAgain ++ [32] ++ fmt p ++ [32] ++ dig lo ++ [32]) = pre.length + 1 + wAgain.length + [32].length + (fmt p).length + [32].length + 1 + [32].length by simp [dig]; omega] at e7
      rw [e7]
      dsimp only
      rw [show [42].length = 1 from rfl, last 1 rfl]
      dsimp only
      rw [hlo]
      congr 1
      simp [dig, hiT]
      omega
    | some h =>
      rw [hiOk, Bool.and_eq_true] at ho4
      have h1 : lo ≤ h := of_decide_eq_true ho4.1
      have h4 : h ≤ 4 := of_decide_eq_true ho4.2
      rw [if_neg (by rw [tl (48 + h.toNat) [] rfl]; simp; omega)]
      have e7 := pD_ok (s := t) (lo := lo) (i := h) l0 h1 h4 (pre := pre ++ 40 :: wAgain ++ [32] ++ fmt p ++ [32] ++ dig lo ++ [32]) (post := [41] ++ post) (by rw [e, hiT]; simp)
      rw [show List.length (pre ++ 40 :: wAgain ++ [32] ++ fmt p ++ [32] ++ dig lo ++ [32]) = pre.length + 1 + wAgain.length + [32].length + (fmt p).length + [32].length + 1 + [32].length by simp [dig]; omega] at e7
      rw [e7]
      dsimp only
      rw [last 1 rfl]
      dsimp only
      rw [hlo, show ((h.toNat : Nat) : Int) = h by omega]
      congr 1
      simp [dig, hiT]
      omega
theorem pE_list {t : List Nat} {A : Str} (hA : Alp A) {w : List Nat} (hw : w ∈ KW) (ps : List Rx) (n : Nat) (pre post : List Nat) (e : t = pre ++ 40 :: (w ++ (fmtL ps ++ [41])) ++ post) (hn : (40 :: (w ++ (fmtL ps ++ [41]))).length < n + 1) (h1 : w ≠ wAgain) (h2 : w ≠ wNot)
    (hp : pP t A.cps.toList n (pre ++ 40 :: w).length = .ok ps ((pre ++ 40 :: w).length + (fmtL ps).length)) : pE t A.cps.toList (n + 1) pre.length = .ok (mkW w ps) (pre.length + (40 :: (w ++ (fmtL ps ++ [41]))).length) := by
  unfold pE
  rw [if_neg (by rw [e, at_pre]; decide)]
  rw [show pX t [40] pre.length = .ok () (pre.length + 1) from pX_ok [40] pre _ (by rw [e]; simp; rfl)]
  dsimp only [PR.bnd]
  have e1 := pK_ok (s := t) hw (pre := pre ++ [40]) (post := fmtL ps ++ [41] ++ post) (by rw [e]; simp)
  rw [List.length_append, List.length_singleton] at e1
  rw [e1]
  dsimp only
  rw [if_neg h1, if_neg h2]
  rw [show List.length (pre ++ 40 :: w) = pre.length + 1 + w.length by simp; omega] at hp
  rw [hp]
  dsimp only
  have e4 := pX_ok (s := t) [41] (pre ++ 40 :: w ++ fmtL ps) post (by rw [e]; simp)
  rw [show List.length (pre ++ 40 :: w ++ fmtL ps) = pre.length + 1 + w.length + (fmtL ps).length by simp; omega] at e4
  rw [e4]
  dsimp only
  congr 1
  simp
  omega
theorem pP_ok {t : List Nat} {A : Str} (hA : Alp A) : ∀ (ps : List Rx) (n : Nat) (pre post : List Nat), stRL A ps = true → okRL ps = true → t = pre ++ fmtL ps ++ (41 :: post) → (fmtL ps).length < n → pP t A.cps.toList n pre.length = .ok ps (pre.length + (fmtL ps).length)
  | [], n + 1, pre, post, _, _, e, _ => by
    unfold pP
    rw [if_pos (by rw [e, fmtL, List.append_nil]; simp)]
    simp [fmtL]
  | p :: ps, n + 1, pre, post, hs, ho, e, hn => by
    rw [stRL, Bool.and_eq_true] at hs
    rw [okRL, Bool.and_eq_true] at ho
    rw [fmtL] at e hn ⊢
    unfold pP
    rw [if_neg (by rw [e, at_pre]; decide)]
    rw [show pX t [32] pre.length = .ok () (pre.length + 1) from pX_ok [32] pre _ (by rw [e]; simp; rfl)]
    dsimp only [PR.bnd]
    have e1 := pE_ok (t := t) hA p n (pre ++ [32]) (fmtL ps ++ 41 :: post) hs.1 ho.1 (by rw [e]; simp) (by simp only [List.length_cons, List.length_append] at hn; omega)
    rw [List.length_append, List.length_singleton] at e1
    rw [e1]
    dsimp only
    have e2 := pP_ok (t := t) hA ps n (pre ++ [32] ++ fmt p) post hs.2 ho.2 (by rw [e]; simp) (by simp only [List.length_cons, List.length_append] at hn; omega)
    rw [show List.length (pre ++ [32] ++ fmt p) = pre.length + 1 + (fmt p).length by simp; omega] at e2
    rw [e2]
    dsimp only
    congr 1
    simp
    omega
end
end Cut
/-! Texts: characters, slices, searching; how readings of texts come out. -/
namespace Cut
open PySem L2 DL ML
theorem idx_first : ∀ (l : List Nat) (c i : Nat), l[i]? = some c → (∀ k, k < i → l[k]? ≠ some c) → l.idxOf c = i
  | [], c, i, h, _ => by simp at h
  | a :: l, c, 0, h, _ => by
    have h' : a = c := by simpa using h
    subst h'
    simp
  | a :: l, c, i + 1, h, hk => by
    have ha : a ≠ c := fun e => hk 0 (by omega) (by simp [e])
    have := idx_first l c i (by simpa using h) fun k hk' => by
      have := hk (k + 1) (by omega)
      simpa using this
    rw [List.idxOf_cons, beq_eq_false_iff_ne.mpr ha, this]
    rfl
theorem find_one (A : Str) (c : Nat) : Txt.find A ⟨#[c]⟩ = if c ∈ A.cps.toList then (A.cps.toList.idxOf c : Int) else -1 := by
  rcases PyProof.Rows.find_whole A ⟨#[c]⟩ with ⟨h, hn⟩ | ⟨i, h, hi, hn⟩
  · have : c ∉ A.cps.toList := fun hm => by
      obtain ⟨i, hi⟩ := List.mem_iff_getElem?.mp hm
      exact hn i ((StrLaws.subAt_one A c i).mpr hi)
    rw [h, if_neg this]
  · have e := (StrLaws.subAt_one A c i).mp hi
    have hm : c ∈ A.cps.toList := List.mem_iff_getElem?.mpr ⟨i, e⟩
    rw [h, if_pos hm, idx_first _ c i e fun k hk z => hn k hk ((StrLaws.subAt_one A c k).mpr z)]
theorem index_one {A : Str} {c : Nat} (h : c ∈ A.cps.toList) : indexS A ⟨#[c]⟩ = some (.int (A.cps.toList.idxOf c : Nat)) := by
  have e := find_one A c
  rw [if_pos h] at e
  unfold Txt.find at e
  unfold indexS
  split at e
  · rename_i i rest ho
    rw [ho]
    dsimp only
    rw [e]
  · omega
theorem s1_index {A : Str} {c : Nat} (h : c ∈ A.cps.toList) : s1D indexS (.str A) [.str ⟨#[c]⟩] = some (.fz (.int (A.cps.toList.idxOf c : Nat))) := by
  show (indexS A ⟨#[c]⟩).map Res.fz = _
  rw [index_one h]
  rfl
theorem cut_nat (S : Str) (i j : Nat) : cutS S (some (i : Int)) (some (j : Int)) = ofL ((S.cps.toList.drop i).take (j - i)) := by
  unfold cutS ofL
  rw [HT.sIx_nat, HT.sIx_nat]
  have hl := len_l S
  congr 2
  rcases Nat.le_total i S.length with h | h
  · rw [Nat.min_eq_left h]
    rcases Nat.le_total j S.length with h2 | h2
    · rw [Nat.min_eq_left h2]
    · rw [Nat.min_eq_right h2, List.take_of_length_le (by rw [List.length_drop]; omega), List.take_of_length_le (by rw [List.length_drop]; omega)]
  · rw [Nat.min_eq_right h, List.drop_of_length_le (by omega), List.drop_of_length_le (by omega), List.take_nil, List.take_nil]
theorem cut_from (S : Str) (i : Nat) : cutS S (some (i : Int)) none = ofL (S.cps.toList.drop i) := by
  unfold cutS ofL
  rw [HT.sIx_nat, HT.sIx_none]
  have hl := len_l S
  congr 2
  rcases Nat.le_total i S.length with h | h
  · rw [Nat.min_eq_left h, List.take_of_length_le (by rw [List.length_drop]; omega)]
  · rw [Nat.min_eq_right h, List.drop_of_length_le (by omega), List.drop_of_length_le (by omega), List.take_nil]
theorem cut_to (S : Str) (j : Nat) : cutS S none (some (j : Int)) = ofL (S.cps.toList.take j) := by
  unfold cutS ofL
  rw [HT.sIx_nat, HT.sIx_none]
  have hl := len_l S
  congr 2
  rw [List.drop_zero, Nat.sub_zero]
  rcases Nat.le_total j S.length with h | h
  · rw [Nat.min_eq_left h]
  · rw [Nat.min_eq_right h, List.take_of_length_le (by omega), List.take_of_length_le (by omega)]
/-- the character at a place, or none -/
def chS (S : Str) (i : Nat) : Str := ofL ((S.cps.toList.drop i).take 1)
theorem sl_chr {S : Str} {i : Nat} (h : S.length ≤ 100000) : slD (.str S) (some (i : Int)) (some ((i : Int) + 1)) = some (.fz (.str (chS S i))) := by
  show (if S.length ≤ 100000 then some (Res.fz (.str (cutS S (some (i : Int)) (some ((i : Int) + 1))))) else none) = _
  rw [if_pos h, show ((i : Int) + 1) = ((i + 1 : Nat) : Int) by omega, cut_nat, show i + 1 - i = 1 by omega]
  rfl
theorem chS_some {S : Str} {i c : Nat} (h : S.cps.toList[i]? = some c) : chS S i = ⟨#[c]⟩ := by
  unfold chS
  obtain ⟨hi, e⟩ := List.getElem?_eq_some_iff.mp h
  rw [List.drop_eq_getElem_cons hi, List.take_succ_cons, List.take_zero, e]
  rfl
theorem chS_none {S : Str} {i : Nat} (h : S.cps.toList[i]? = none) : chS S i = Str.empty := by
  unfold chS
  rw [List.drop_of_length_le (List.getElem?_eq_none_iff.mp h), List.take_nil]
  rfl
theorem one_inj {c d : Nat} (h : (⟨#[c]⟩ : Str) = ⟨#[d]⟩) : c = d := by
  have := congrArg (fun s : Str => s.cps.toList) h
  simpa using this
theorem one_ne (c : Nat) : (⟨#[c]⟩ : Str) ≠ Str.empty := fun h => by
  have := congrArg (fun s : Str => s.cps.toList.length) h
  simp [Str.empty] at this
theorem eqS_chr (S : Str) (i c : Nat) : eqS (chS S i) ⟨#[c]⟩ = decide (S.cps.toList[i]? = some c) := by
  rw [eqS_eq]
  cases h : S.cps.toList[i]? with
  | none =>
    rw [chS_none h]
    rw [decide_eq_false (fun z => one_ne c z.symm)]
    rfl
  | some d =>
    rw [chS_some h]
    by_cases e : d = c
    · subst e; simp
    · rw [decide_eq_false (fun z => e (one_inj z))]
      simp [e]
theorem neC (S : Str) (i c : Nat) : (!eqS (chS S i) ⟨#[c]⟩) = decide (¬ S.cps.toList[i]? = some c) := by rw [eqS_chr, decide_not]
theorem eqS_chr0 (S : Str) (i : Nat) : eqS (chS S i) Str.empty = decide (S.cps.toList[i]? = none) := by
  rw [eqS_eq]
  cases h : S.cps.toList[i]? with
  | none => rw [chS_none h]; simp
  | some d =>
    rw [chS_some h]
    rw [decide_eq_false (one_ne d)]
    rfl
theorem in_one {c : Nat} {z : Str} : inD (.str ⟨#[c]⟩) (.str z) = some (.fz (.bl (decide (c ∈ z.cps.toList)))) := rfl
theorem notin_one {c : Nat} {z : Str} : notinD (.str ⟨#[c]⟩) (.str z) = some (.fz (.bl (!decide (c ∈ z.cps.toList)))) := rfl
theorem add_str {a b : Str} (h : a.length + b.length ≤ 100000) : addD (.str a) (.str b) = some (.fz (.str (a ++ b))) := by
  show (if a.length + b.length ≤ 100000 then some (Res.fz (.str (a ++ b))) else none) = _
  rw [if_pos h]
theorem app_ofL (a b : List Nat) : ofL a ++ ofL b = ofL (a ++ b) := str_ext (by rw [l_append, ofL_l, ofL_l, ofL_l])
theorem len_ofL (a : List Nat) : (ofL a).length = a.length := by rw [len_l, ofL_l]
theorem ofL_inj {a b : List Nat} (h : ofL a = ofL b) : a = b := by
  have := congrArg (fun s : Str => s.cps.toList) h
  simpa using this
theorem len_str {z : Str} (h : z.length ≤ 100000) : lenD [.str z] = some (.fz (.int z.length)) := by
  show (if z.length ≤ 100000 then some (Res.fz (.int z.length)) else none) = _
  rw [if_pos h]
theorem sl_str' {z : Str} {lo hi : Option Int} (h : z.length ≤ 100000) : slD (.str z) lo hi = some (.fz (.str (cutS z lo hi))) := by
  show (if z.length ≤ 100000 then some (Res.fz (.str (cutS z lo hi))) else none) = _
  rw [if_pos h]
theorem ne_chr (S : Str) (i : Nat) (t : Str) : neD (.str (chS S i)) (.str t) = some (.fz (.bl (!eqS (chS S i) t))) := rfl
theorem eq_chr (S : Str) (i : Nat) (t : Str) : eqD (.str (chS S i)) (.str t) = some (.fz (.bl (eqS (chS S i) t))) := rfl
end Cut
/-! Patterns as values: when they are equal. Plain Lean. -/
namespace Cut
open PySem L2 DL
/-! nested tuples of texts, numbers, None -/
mutual
def sd : D → Bool
  | .non | .int _ | .str _ => true
  | .tup ds => decide (ds.length ≤ 10000) && sdL ds
  | _ => false
def sdL : List D → Bool
  | [] => true
  | d :: ds => sd d && sdL ds
end
theorem sdL_mem : ∀ {ds : List D}, sdL ds = true → ∀ d ∈ ds, sd d = true
  | _ :: _, h, d, hd => by
    rw [sdL, Bool.and_eq_true] at h
    rcases List.mem_cons.mp hd with e | e
    · rw [e]; exact h.1
    · exact sdL_mem h.2 d e
theorem sdL_all : ∀ {ds : List D}, (∀ d ∈ ds, sd d = true) → sdL ds = true
  | [], _ => rfl
  | d :: ds, h => by rw [sdL, h d (List.mem_cons_self ..), sdL_all fun x hx => h x (List.mem_cons_of_mem _ hx)]; rfl
mutual
theorem sd_toD : ∀ r, okR r = true → sd (toD r) = true
  | .set s, _ => rfl
  | .row ps, h => by
    rw [okR, Bool.and_eq_true] at h
    have := of_decide_eq_true h.1
    rw [toD, sd, sdL, sd_toDL ps h.2, List.length_cons, toDL_len, decide_eq_true (by omega)]; rfl
  | .any ps, h => by
    rw [okR, Bool.and_eq_true] at h
    have := of_decide_eq_true h.1
    rw [toD, sd, sdL, sd_toDL ps h.2, List.length_cons, toDL_len, decide_eq_true (by omega)]; rfl
  | .all ps, h => by
    rw [okR, Bool.and_eq_true] at h
    have := of_decide_eq_true h.1
    rw [toD, sd, sdL, sd_toDL ps h.2, List.length_cons, toDL_len, decide_eq_true (by omega)]; rfl
  | .no p, h => by
    rw [okR] at h
    rw [toD, sd, sdL, sdL, sd_toD p h]; rfl
  | .again p lo hi, h => by
    rw [okR, Bool.and_eq_true, Bool.and_eq_true, Bool.and_eq_true] at h
    rw [toD, sd, sdL, sdL, sdL, sdL, sd_toD p h.1.1.1]
    cases hi <;> rfl
theorem sd_toDL : ∀ ps, okRL ps = true → sdL (toDL ps) = true
  | [], _ => rfl
  | p :: ps, h => by
    rw [okRL, Bool.and_eq_true] at h
    rw [toDL, sdL, sd_toD p h.1, sd_toDL ps h.2]; rfl
end
mutual
theorem eqv_sd : ∀ d e : D, sd d = true → sd e = true → (PyData.eqv d.py e.py = true ↔ d = e)
  | .non, e, _, h => by cases e <;> simp [sd, D.py, PyData.eqv] at h ⊢
  | .int i, e, _, h => by cases e <;> simp [sd, D.py, PyData.eqv] at h ⊢
  | .str x, e, _, h => by cases e <;> simp [sd, D.py, PyData.eqv] at h ⊢
  | .tup ds, .tup es, h, h' => by
    rw [sd, Bool.and_eq_true] at h h'
    rw [D.py, D.py, PyData.eqv, eqvL_sd ds es h.2 h'.2]
    exact ⟨fun z => by rw [z], fun z => by cases z; rfl⟩
  | .tup ds, .non, _, _ => by simp [D.py, PyData.eqv]
  | .tup ds, .int _, _, _ => by simp [D.py, PyData.eqv]
  | .tup ds, .str _, _, _ => by simp [D.py, PyData.eqv]
  | .tup ds, .bl _, _, h => by simp [sd] at h
  | .tup ds, .lst _, _, h => by simp [sd] at h
  | .tup ds, .obj _ _, _, h => by simp [sd] at h
  | .tup ds, .ty _, _, h => by simp [sd] at h
  | .tup ds, .raw _, _, h => by simp [sd] at h
  | .tup ds, .scr _, _, h => by simp [sd] at h
  | .bl _, _, h, _ | .lst _, _, h, _ | .obj _ _, _, h, _ | .ty _, _, h, _ | .raw _, _, h, _ | .scr _, _, h, _ => by simp [sd] at h
theorem eqvL_sd : ∀ ds es : List D, sdL ds = true → sdL es = true → (PyData.eqvAll (pyL ds) (pyL es) = true ↔ ds = es)
  | [], [], _, _ => by simp [pyL, PyData.eqvAll]
  | [], _ :: _, _, _ => by simp [pyL, PyData.eqvAll]
  | _ :: _, [], _, _ => by simp [pyL, PyData.eqvAll]
  | d :: ds, e :: es, h, h' => by
    rw [sdL, Bool.and_eq_true] at h h'
    rw [pyL, pyL, PyData.eqvAll, Bool.and_eq_true, eqv_sd d e h.1 h'.1, eqvL_sd ds es h.2 h'.2]
    exact ⟨fun ⟨z1, z2⟩ => by rw [z1, z2], fun z => by cases z; exact ⟨rfl, rfl⟩⟩
end
theorem CH_lt : ∀ c ∈ CH, c < 1114112 := by rw [CH_eq]; decide
theorem strOk_set {A s : Str} (hA : Alp A) (h : isSetM A [.str s] = true) : PyData.strOk s = true := by
  have e : s = ofL (A.cps.toList.filter fun c => decide (c ∈ s.cps.toList)) := of_decide_eq_true h
  unfold PyData.strOk
  rw [Array.all_eq_true_iff_forall_mem]
  intro c hc
  rw [e] at hc
  have hc' : c ∈ (ofL (A.cps.toList.filter fun c => decide (c ∈ s.cps.toList))).cps.toList := Array.mem_toList_iff.mpr hc
  have : c ∈ A.cps.toList := by
    have h2 : c ∈ A.cps.toList.filter fun c => decide (c ∈ s.cps.toList) := by simpa using hc'
    exact (List.mem_filter.mp h2).1
  exact decide_eq_true (CH_lt c (hA.ch c this))
mutual
theorem lay_toD {A : Str} (hA : Alp A) : ∀ r, stR A r = true → (toD r).py.canLay0 = true ∧ (toD r).okP = true ∧ (toD r).py.depth ≤ rdep r + 1
  | .set s, h => by
    rw [stR, Bool.and_eq_true] at h
    refine ⟨?_, rfl, ?_⟩
    · show (PyData.strOk _ && (PyData.strOk s && true)) = true
      rw [strOk_set hA h.1]; decide +kernel
    · simp [toD, D.py, pyL, PyData.depth, PyData.depthAll]
  | .row ps, h => by
    rw [stR] at h
    obtain ⟨h1, h2, h3⟩ := lay_toDL hA ps h
    refine ⟨?_, ?_, ?_⟩
    · show (PyData.strOk _ && PyData.canLayAll0 (pyL (toDL ps))) = true
      rw [h1]; decide +kernel
    · show (true && okL (toDL ps)) = true
      rw [h2]; rfl
    · simp only [toD, D.py, pyL, PyData.depth, PyData.depthAll, rdep]; omega
  | .any ps, h => by
    rw [stR] at h
    obtain ⟨h1, h2, h3⟩ := lay_toDL hA ps h
    refine ⟨?_, ?_, ?_⟩
    · show (PyData.strOk _ && PyData.canLayAll0 (pyL (toDL ps))) = true
      rw [h1]; decide +kernel
    · show (true && okL (toDL ps)) = true
      rw [h2]; rfl
    · simp only [toD, D.py, pyL, PyData.depth, PyData.depthAll, rdep]; omega
  | .all ps, h => by
    rw [stR] at h
    obtain ⟨h1, h2, h3⟩ := lay_toDL hA ps h
    refine ⟨?_, ?_, ?_⟩
    · show (PyData.strOk _ && PyData.canLayAll0 (pyL (toDL ps))) = true
      rw [h1]; decide +kernel
    · show (true && okL (toDL ps)) = true
      rw [h2]; rfl
    · simp only [toD, D.py, pyL, PyData.depth, PyData.depthAll, rdep]; omega
  | .no p, h => by
    rw [stR] at h
    obtain ⟨h1, h2, h3⟩ := lay_toD hA p h
    refine ⟨?_, ?_, ?_⟩
    · show (PyData.strOk _ && ((toD p).py.canLay0 && true)) = true
      rw [h1]; decide +kernel
    · show (true && ((toD p).okP && true)) = true
      rw [h2]; rfl
    · simp only [toD, D.py, pyL, PyData.depth, PyData.depthAll, rdep]; omega
  | .again p lo hi, h => by
    rw [stR] at h
    obtain ⟨h1, h2, h3⟩ := lay_toD hA p h
    refine ⟨?_, ?_, ?_⟩
    · show (PyData.strOk _ && ((toD p).py.canLay0 && (true && ((hiD hi).py.canLay0 && true)))) = true
      rw [h1, show (hiD hi).py.canLay0 = true by cases hi <;> rfl]; decide +kernel
    · show (true && ((toD p).okP && (true && ((hiD hi).okP && true)))) = true
      rw [h2, show (hiD hi).okP = true by cases hi <;> rfl]; rfl
    · have : (hiD hi).py.depth = 0 := by cases hi <;> simp [hiD, D.py, PyData.depth]
      simp only [toD, D.py, pyL, PyData.depth, PyData.depthAll, rdep, this]; omega
theorem lay_toDL {A : Str} (hA : Alp A) : ∀ ps, stRL A ps = true → PyData.canLayAll0 (pyL (toDL ps)) = true ∧ okL (toDL ps) = true ∧ PyData.depthAll (pyL (toDL ps)) ≤ rdepL ps + 1
  | [], _ => ⟨rfl, rfl, by simp [toDL, pyL, PyData.depthAll]⟩
  | p :: ps, h => by
    rw [stRL, Bool.and_eq_true] at h
    obtain ⟨h1, h2, h3⟩ := lay_toD hA p h.1
    obtain ⟨g1, g2, g3⟩ := lay_toDL hA ps h.2
    refine ⟨?_, ?_, ?_⟩
    · show ((toD p).py.canLay0 && PyData.canLayAll0 (pyL (toDL ps))) = true
      rw [h1, g1]; rfl
    · show ((toD p).okP && okL (toDL ps)) = true
      rw [h2, g2]; rfl
    · simp only [toDL, pyL, PyData.depthAll, rdepL]; omega
end
theorem shaped_toD {A : Str} (hA : Alp A) {r : Rx} (hs : stR A r = true) (hd : rdep r ≤ 60) : shapedD (toD r) = true := by
  obtain ⟨h1, h2, h3⟩ := lay_toD hA r hs
  unfold shapedD SeqAt.shaped
  rw [h1, h2, decide_eq_true (by omega)]
  rfl
theorem eqB_toD {r r' : Rx} (h : okR r = true) (h' : okR r' = true) : eqB (toD r) (toD r') = true ↔ r = r' := by
  rw [eqB_eq]
  unfold eqvD
  rw [eqv_sd _ _ (sd_toD r h) (sd_toD r' h')]
  exact ⟨fun z => toD_inj _ _ z, fun z => by rw [z]⟩
theorem eq_toD {A : Str} (hA : Alp A) {r r' : Rx} (hs : stR A r = true) (hd : rdep r ≤ 60) (hs' : stR A r' = true) (hd' : rdep r' ≤ 60) : eqD (toD r) (toD r') = some (.fz (.bl (eqB (toD r) (toD r')))) ∧ neD (toD r) (toD r') = some (.fz (.bl (!eqB (toD r) (toD r')))) := by
  unfold eqD neD
  rw [shaped_toD hA hs hd, shaped_toD hA hs' hd', Bool.and_self, Bool.or_true]
  exact ⟨rfl, rfl⟩
end Cut
/-! k03, plain: powers of a language by splits; the memo. -/
namespace Cut
open PySem L2 DL ML
theorem Lp_eps {A : Lan} (h : A []) : ∀ n, Lp A n []
  | 0 => rfl
  | n + 1 => ⟨[], [], rfl, Lp_eps h n, h⟩
theorem Lp_pad {A : Lan} (h : A []) {m : Nat} {w : Tx} (x : Lp A m w) (j : Nat) : Lp A (m + j) w := (Lp_add A m j w).mpr ⟨w, [], by simp, x, Lp_eps h j⟩
def Cm (A : Lan) (lo : Nat) (hi : Option Nat) (w : Tx) : Prop := ∃ n, lo ≤ n ∧ (∀ h, hi = some h → n ≤ h) ∧ Lp A n w
theorem Cm_nil {A : Lan} {lo : Nat} {hi : Option Nat} (hl : ∀ h, hi = some h → lo ≤ h) : Cm A lo hi [] ↔ lo = 0 ∨ A [] := by
  constructor
  · rintro ⟨n, h1, h2, h3⟩
    by_cases e : lo = 0
    · exact .inl e
    · right
      match n, h1, h3 with
      | 0, h1, _ => omega
      | n + 1, _, ⟨u, v, e1, _, a⟩ =>
        have := List.append_eq_nil_iff.mp e1.symm
        rw [this.2] at a
        exact a
  · rintro (h | h)
    · exact ⟨0, by omega, fun _ _ => by omega, rfl⟩
    · exact ⟨lo, Nat.le_refl _, hl, Lp_eps h lo⟩
theorem Lp_first {A : Lan} : ∀ (n : Nat) (w : Tx), w ≠ [] → Lp A n w → ∃ k, 1 ≤ k ∧ k ≤ w.length ∧ A (w.take k) ∧ ∃ m, Lp A m (w.drop k) ∧ m + 1 ≤ n ∧ (m + 1 = n ∨ A [])
  | 0, w, h, x => (h x).elim
  | n + 1, w, h, x => by
    obtain ⟨u, v, e, a, b⟩ := (Lp_front A n w).mp x
    by_cases hu : u = []
    · subst hu
      rw [List.nil_append] at e
      subst e
      obtain ⟨k, k1, k2, k3, m, m1, m2, m3⟩ := Lp_first n w h b
      exact ⟨k, k1, k2, k3, m, m1, by omega, .inr a⟩
    · refine ⟨u.length, List.length_pos_iff.mpr hu, by rw [e, List.length_append]; omega, by rw [e, List.take_left]; exact a, n, by rw [e, List.drop_left]; exact b, Nat.le_refl _, .inl rfl⟩
theorem Cm_step {A : Lan} {lo : Nat} {hi : Option Nat} {w : Tx} (hw : w ≠ []) : Cm A lo hi w ↔ hi ≠ some 0 ∧ ∃ k, 1 ≤ k ∧ k ≤ w.length ∧ A (w.take k) ∧ Cm A (lo - 1) (hi.map (· - 1)) (w.drop k) := by
  constructor
  · rintro ⟨n, h1, h2, h3⟩
    obtain ⟨k, k1, k2, k3, m, m1, m2, m3⟩ := Lp_first n w hw h3
    refine ⟨fun z => by have := h2 0 z; omega, k, k1, k2, k3, n - 1, by omega, fun h e => ?_, ?_⟩
    · obtain ⟨h', e1, e2⟩ := Option.map_eq_some_iff.mp e
      have := h2 h' e1
      omega
    · rcases m3 with m3 | m3
      · rw [show n - 1 = m by omega]; exact m1
      · rw [show n - 1 = m + (n - 1 - m) by omega]; exact Lp_pad m3 m1 _
  · rintro ⟨h0, k, k1, k2, k3, n, n1, n2, n3⟩
    refine ⟨n + 1, by omega, fun h e => ?_, (Lp_front A n w).mpr ⟨w.take k, w.drop k, (List.take_append_drop k w).symm, k3, n3⟩⟩
    have := n2 (h - 1) (by rw [e]; rfl)
    have : h ≠ 0 := fun z => h0 (by rw [e, z])
    omega
theorem Lc_split {A B : Lan} {w : Tx} : Lc A B w ↔ ∃ k, k ≤ w.length ∧ A (w.take k) ∧ B (w.drop k) := by
  constructor
  · rintro ⟨u, v, rfl, a, b⟩
    exact ⟨u.length, by rw [List.length_append]; omega, by rw [List.take_left]; exact a, by rw [List.drop_left]; exact b⟩
  · rintro ⟨k, _, a, b⟩
    exact ⟨_, _, (List.take_append_drop k w).symm, a, b⟩
/-! the parts that the recursion can reach -/
mutual
def sub : Rx → List Rx
  | .set s => [.set s]
  | .no p => .no p :: sub p
  | .again p lo hi => .again p lo hi :: sub p
  | .any ps => .any ps :: subL ps
  | .all ps => .all ps :: subL ps
  | .row ps => subR ps
def subL : List Rx → List Rx
  | [] => []
  | p :: ps => sub p ++ subL ps
def subR : List Rx → List Rx
  | [] => [.row []]
  | p :: ps => .row (p :: ps) :: (sub p ++ subR ps)
end
theorem subR_self (ps : List Rx) : .row ps ∈ subR ps := by cases ps <;> rw [subR] <;> exact List.mem_cons_self ..
theorem sub_self (r : Rx) : r ∈ sub r := by
  cases r <;> rw [sub] <;> first | exact List.mem_cons_self .. | exact subR_self _
theorem subL_mem {p : Rx} : ∀ {ps : List Rx}, p ∈ ps → ∀ x ∈ sub p, x ∈ subL ps
  | q :: ps, h, x, hx => by
    rw [subL]
    rcases List.mem_cons.mp h with e | h
    · exact List.mem_append.mpr (.inl (e ▸ hx))
    · exact List.mem_append.mpr (.inr (subL_mem h x hx))
/-- what a step of the recursion reaches -/
def nxt : Rx → List Rx
  | .set _ => []
  | .no p => [p]
  | .again p _ _ => [p]
  | .any ps => ps
  | .all ps => ps
  | .row [] => []
  | .row (p :: ps) => [p, .row ps]
mutual
theorem sub_nxt : ∀ (R r : Rx), r ∈ sub R → ∀ p ∈ nxt r, p ∈ sub R
  | .set s, r, h, p, hp => by
    rw [sub] at h
    rw [List.mem_singleton.mp h] at hp
    cases hp
  | .no q, r, h, p, hp => by
    rw [sub] at h ⊢
    rcases List.mem_cons.mp h with e | h
    · subst e
      rw [List.mem_singleton.mp hp]
      exact List.mem_cons_of_mem _ (sub_self q)
    · exact List.mem_cons_of_mem _ (sub_nxt q r h p hp)
  | .again q lo hi, r, h, p, hp => by
    rw [sub] at h ⊢
    rcases List.mem_cons.mp h with e | h
    · subst e
      rw [List.mem_singleton.mp hp]
      exact List.mem_cons_of_mem _ (sub_self q)
    · exact List.mem_cons_of_mem _ (sub_nxt q r h p hp)
  | .any ps, r, h, p, hp => by
    rw [sub] at h ⊢
    rcases List.mem_cons.mp h with e | h
    · subst e
      exact List.mem_cons_of_mem _ (subL_mem hp p (sub_self p))
    · exact List.mem_cons_of_mem _ (subL_nxt ps r h p hp)
  | .all ps, r, h, p, hp => by
    rw [sub] at h ⊢
    rcases List.mem_cons.mp h with e | h
    · subst e
      exact List.mem_cons_of_mem _ (subL_mem hp p (sub_self p))
    · exact List.mem_cons_of_mem _ (subL_nxt ps r h p hp)
  | .row ps, r, h, p, hp => by
    rw [sub] at h ⊢
    exact subR_nxt ps r h p hp
theorem subL_nxt : ∀ (ps : List Rx) (r : Rx), r ∈ subL ps → ∀ p ∈ nxt r, p ∈ subL ps
  | [], r, h, p, hp => by rw [subL] at h; cases h
  | q :: ps, r, h, p, hp => by
    rw [subL] at h ⊢
    rcases List.mem_append.mp h with h | h
    · exact List.mem_append.mpr (.inl (sub_nxt q r h p hp))
    · exact List.mem_append.mpr (.inr (subL_nxt ps r h p hp))
theorem subR_nxt : ∀ (ps : List Rx) (r : Rx), r ∈ subR ps → ∀ p ∈ nxt r, p ∈ subR ps
  | [], r, h, p, hp => by
    rw [subR] at h
    rw [List.mem_singleton.mp h] at hp
    cases hp
  | q :: ps, r, h, p, hp => by
    rw [subR] at h ⊢
    rcases List.mem_cons.mp h with e | h
    · subst e
      rcases List.mem_cons.mp hp with e | hp
      · rw [e]; exact List.mem_cons_of_mem _ (List.mem_append.mpr (.inl (sub_self q)))
      · rw [List.mem_singleton.mp hp]
        exact List.mem_cons_of_mem _ (List.mem_append.mpr (.inr (subR_self ps)))
    · refine List.mem_cons_of_mem _ ?_
      rcases List.mem_append.mp h with h | h
      · exact List.mem_append.mpr (.inl (sub_nxt q r h p hp))
      · exact List.mem_append.mpr (.inr (subR_nxt ps r h p hp))
end
end Cut
/-! k03, plain: keys, the memo. -/
namespace Cut
open PySem L2 DL ML
theorem nodup_le {α : Type} [DecidableEq α] : ∀ {l m : List α}, l.Nodup → (∀ x ∈ l, x ∈ m) → l.length ≤ m.length
  | [], m, _, _ => Nat.zero_le _
  | x :: l, m, h, s => by
    obtain ⟨h1, h2⟩ := List.nodup_cons.mp h
    have hx := s x (List.mem_cons_self ..)
    have ih := nodup_le (m := m.erase x) h2 fun y hy => (List.mem_erase_of_ne (a := y) (b := x) (fun e => by rw [e] at hy; exact h1 hy)).mpr (s y (List.mem_cons_of_mem _ hy))
    rw [List.length_erase_of_mem hx] at ih
    have : 0 < m.length := List.length_pos_of_mem hx
    rw [List.length_cons]
    omega
theorem len_prod {α β γ : Type} (f : α → β → γ) (m : List β) : ∀ l : List α, (l.flatMap fun a => m.map (f a)).length = l.length * m.length
  | [] => by simp
  | a :: l => by rw [List.flatMap_cons, List.length_append, List.length_map, len_prod f m l, List.length_cons, Nat.add_mul]; omega
def txs (A : Tx) : Nat → List Tx
  | 0 => [[]]
  | n + 1 => [] :: A.flatMap fun c => (txs A n).map (c :: ·)
def tb : Nat → Nat
  | 0 => 1
  | n + 1 => 1 + 3 * tb n
theorem txs_len {A : Tx} (h : A.length ≤ 3) : ∀ n, (txs A n).length ≤ tb n
  | 0 => Nat.le_refl _
  | n + 1 => by
    rw [txs, tb, List.length_cons, len_prod]
    have := Nat.mul_le_mul h (txs_len h n)
    omega
theorem txs_mem {A : Tx} : ∀ (n : Nat) (w : Tx), w.length ≤ n → (∀ c ∈ w, c ∈ A) → w ∈ txs A n
  | 0, [], _, _ => List.mem_singleton.mpr rfl
  | 0, c :: w, h, _ => by simp at h
  | n + 1, [], _, _ => List.mem_cons_self ..
  | n + 1, c :: w, h, hA => by
    rw [txs]
    refine List.mem_cons_of_mem _ (List.mem_flatMap.mpr ⟨c, hA c (List.mem_cons_self ..), List.mem_map.mpr ⟨w, txs_mem n w (by simpa using h) fun x hx => hA x (List.mem_cons_of_mem _ hx), rfl⟩⟩)
def hiK : Option Int → NestedKey
  | none => .none
  | some h => .num h
mutual
def nkA : Rx → List NestedKey
  | .set s => [.text s]
  | .row ps => nkAL ps
  | .any ps => nkAL ps
  | .all ps => nkAL ps
  | .no p => [.tup (.text p.word :: nkA p)]
  | .again p lo hi => [.tup (.text p.word :: nkA p), .num lo, hiK hi]
def nkAL : List Rx → List NestedKey
  | [] => []
  | p :: ps => .tup (.text p.word :: nkA p) :: nkAL ps
end
def nkR (r : Rx) : NestedKey := .tup (.text r.word :: nkA r)
theorem nkD_tup {ds : List D} {ks : List NestedKey} (h : nkL ds = some ks) : nkD (.tup ds) = some (.tup ks) := by rw [nkD, h]
theorem nkL_cons {d : D} {ds : List D} {k : NestedKey} {ks : List NestedKey} (h1 : nkD d = some k) (h2 : nkL ds = some ks) : nkL (d :: ds) = some (k :: ks) := by rw [nkL, h1, h2]
theorem nkL_nil : nkL [] = some [] := by rw [nkL]
theorem nkD_str (x : Str) : nkD (.str x) = some (.text x) := by rw [nkD]
theorem nkD_hi (hi : Option Int) : nkD (hiD hi) = some (hiK hi) := by cases hi <;> (rw [hiD, nkD]; rfl)
mutual
theorem nkD_toD : ∀ r : Rx, nkD (toD r) = some (nkR r)
  | .set s => by rw [toD]; exact nkD_tup (nkL_cons (nkD_str _) (nkL_cons (nkD_str _) nkL_nil))
  | .row ps => by rw [toD]; exact nkD_tup (nkL_cons (nkD_str _) (nkL_toDL ps))
  | .any ps => by rw [toD]; exact nkD_tup (nkL_cons (nkD_str _) (nkL_toDL ps))
  | .all ps => by rw [toD]; exact nkD_tup (nkL_cons (nkD_str _) (nkL_toDL ps))
  | .no p => by rw [toD]; exact nkD_tup (nkL_cons (nkD_str _) (nkL_cons (nkD_toD p) nkL_nil))
  | .again p lo hi => by rw [toD]; exact nkD_tup (nkL_cons (nkD_str _) (nkL_cons (nkD_toD p) (nkL_cons (by rw [nkD]) (nkL_cons (nkD_hi hi) nkL_nil))))
theorem nkL_toDL : ∀ ps : List Rx, nkL (toDL ps) = some (nkAL ps)
  | [] => by rw [toDL, nkAL]; exact nkL_nil
  | p :: ps => by rw [toDL, nkAL]; exact nkL_cons (nkD_toD p) (nkL_toDL ps)
end
theorem tup_inj {a b : NestedKey} {l m : List NestedKey} (h : NestedKey.tup (a :: l) = .tup (b :: m)) : a = b ∧ l = m := by
  injection h with h; injection h with h1 h2; exact ⟨h1, h2⟩
theorem hiK_inj {a b : Option Int} (h : hiK a = hiK b) : a = b := by
  cases a <;> cases b <;> first | rfl | (injection h with h; rw [h]) | cases h
def tag : Rx → Nat
  | .set _ => 0 | .row _ => 1 | .any _ => 2 | .all _ => 3 | .no _ => 4 | .again _ _ _ => 5
def wtag (s : Str) : Nat := if s = "set" then 0 else if s = "row" then 1 else if s = "any" then 2 else if s = "all" then 3 else if s = "not" then 4 else 5
theorem wtag_word (r : Rx) : wtag r.word = tag r := by
  cases r with
  | set s => exact (by decide +kernel : wtag "set" = 0)
  | row s => exact (by decide +kernel : wtag "row" = 1)
  | any s => exact (by decide +kernel : wtag "any" = 2)
  | all s => exact (by decide +kernel : wtag "all" = 3)
  | no s => exact (by decide +kernel : wtag "not" = 4)
  | again s a b => exact (by decide +kernel : wtag "again" = 5)
theorem word_tag {r r' : Rx} (h : r.word = r'.word) : tag r = tag r' := by rw [← wtag_word, ← wtag_word, h]
mutual
theorem nkR_inj : ∀ r r' : Rx, nkR r = nkR r' → r = r'
  | .set s, r', h => by
    obtain ⟨h1, h2⟩ := tup_inj h
    injection h1 with h1
    have h1 := word_tag h1
    cases r' <;> simp [tag] at h1
    rw [nkA, nkA] at h2
    injection h2 with h2; injection h2 with h2; rw [h2]
  | .row ps, r', h => by
    obtain ⟨h1, h2⟩ := tup_inj h
    injection h1 with h1
    have h1 := word_tag h1
    cases r' <;> simp [tag] at h1
    rw [nkA, nkA] at h2
    rw [nkAL_inj ps _ h2]
  | .any ps, r', h => by
    obtain ⟨h1, h2⟩ := tup_inj h
    injection h1 with h1
    have h1 := word_tag h1
    cases r' <;> simp [tag] at h1
    rw [nkA, nkA] at h2
    rw [nkAL_inj ps _ h2]
  | .all ps, r', h => by
    obtain ⟨h1, h2⟩ := tup_inj h
    injection h1 with h1
    have h1 := word_tag h1
    cases r' <;> simp [tag] at h1
    rw [nkA, nkA] at h2
    rw [nkAL_inj ps _ h2]
  | .no p, r', h => by
    obtain ⟨h1, h2⟩ := tup_inj h
    injection h1 with h1
    have h1 := word_tag h1
    cases r' <;> simp [tag] at h1
    rw [nkA, nkA] at h2
    injection h2 with h2
    rw [nkR_inj p _ h2]
  | .again p lo hi, r', h => by
    obtain ⟨h1, h2⟩ := tup_inj h
    injection h1 with h1
    have h1 := word_tag h1
    cases r' <;> simp [tag] at h1
    rw [nkA, nkA] at h2
    injection h2 with h2 h3
    injection h3 with h3 h4
    injection h4 with h4 h5
    injection h3 with h3
    rw [nkR_inj p _ h2, h3, hiK_inj h4]
theorem nkAL_inj : ∀ ps qs : List Rx, nkAL ps = nkAL qs → ps = qs
  | [], [], _ => rfl
  | [], q :: qs, h => by rw [nkAL, nkAL] at h; cases h
  | p :: ps, [], h => by rw [nkAL, nkAL] at h; cases h
  | p :: ps, q :: qs, h => by
    rw [nkAL, nkAL] at h
    injection h with h1 h2
    rw [nkR_inj p q h1, nkAL_inj ps qs h2]
end
theorem hiK_dep (hi : Option Int) : (hiK hi).depth = 0 := by cases hi <;> rw [hiK, NestedKey.depth]
mutual
theorem nkA_dep : ∀ r : Rx, NestedKey.depthAll (nkA r) ≤ rdep r
  | .set s => by rw [nkA]; simp [NestedKey.depthAll, NestedKey.depth]
  | .row ps => by rw [nkA, rdep]; exact nkAL_dep ps
  | .any ps => by rw [nkA, rdep]; exact nkAL_dep ps
  | .all ps => by rw [nkA, rdep]; exact nkAL_dep ps
  | .no p => by
    have := nkA_dep p
    rw [nkA, rdep]; simp only [NestedKey.depthAll, NestedKey.depth]; omega
  | .again p lo hi => by
    have := nkA_dep p
    rw [nkA, rdep]; simp only [NestedKey.depthAll, NestedKey.depth, hiK_dep]; omega
theorem nkAL_dep : ∀ ps : List Rx, NestedKey.depthAll (nkAL ps) ≤ rdepL ps + 1
  | [] => by rw [nkAL, NestedKey.depthAll]; omega
  | p :: ps => by
    have := nkA_dep p
    have := nkAL_dep ps
    rw [nkAL, rdepL]; simp only [NestedKey.depthAll, NestedKey.depth]; omega
end
def key (r : Rx) (t : Str) : NestedKey := .tup [nkR r, .text t]
theorem nkT_key (r : Rx) (t : Str) : nkT (.tup [toD r, .str t]) = some (key r t) := nkD_tup (nkL_cons (nkD_toD r) (nkL_cons (nkD_str t) nkL_nil))
theorem key_dep {r : Rx} (h : rdep r ≤ 6) (t : Str) : (key r t).depth ≤ 8 := by
  have := nkA_dep r
  unfold key nkR
  simp only [NestedKey.depthAll, NestedKey.depth]
  omega
theorem key_inj {r r' : Rx} {t t' : Str} (h : key r t = key r' t') : r = r' ∧ t = t' := by
  obtain ⟨h1, h2⟩ := tup_inj h
  injection h2 with h2
  injection h2 with h2
  exact ⟨nkR_inj r r' h1, h2⟩
structure Mem (A : Tx) (R : Rx) (kvs : List (NestedKey × D)) : Prop where
  nd : (kvs.map (·.1)).Nodup
  ok : ∀ p ∈ kvs, ∃ r t, r ∈ sub R ∧ t.length ≤ 10 ∧ (∀ c ∈ t.cps.toList, c ∈ A) ∧ p = (key r t, .bl (tru (Lg r t.cps.toList)))
theorem Mem.nil {A : Tx} {R : Rx} : Mem A R [] := ⟨List.nodup_nil, fun _ z => nomatch z⟩
theorem valD_mem {κ : Type} [DecidableEq κ] {k : κ} {d : D} : ∀ {kvs : List (κ × D)}, valD kvs k = some d → (k, d) ∈ kvs
  | [], h => nomatch h
  | p :: kvs, h => by
    rw [valD] at h
    by_cases e : p.1 = k
    · rw [if_pos e] at h; cases h; rw [← e]; exact List.mem_cons_self ..
    · rw [if_neg e] at h; exact List.mem_cons_of_mem _ (valD_mem h)
theorem Mem.get {A : Tx} {R : Rx} {kvs : List (NestedKey × D)} (m : Mem A R kvs) {r : Rx} {t : Str} {d : D} (h : valD kvs (key r t) = some d) : d = .bl (tru (Lg r t.cps.toList)) := by
  obtain ⟨r', t', _, _, _, e⟩ := m.ok _ (valD_mem h)
  injection e with e1 e2
  obtain ⟨rfl, rfl⟩ := key_inj e1
  exact e2
theorem Mem.put {A : Tx} {R : Rx} {kvs : List (NestedKey × D)} (m : Mem A R kvs) {r : Rx} {t : Str} (hr : r ∈ sub R) (ht : t.length ≤ 10) (hA : ∀ c ∈ t.cps.toList, c ∈ A) : Mem A R (putKD kvs (key r t) (.bl (tru (Lg r t.cps.toList)))) := by
  unfold putKD
  split
  · refine ⟨?_, fun p hp => ?_⟩
    · rw [List.map_map, show ((fun x : NestedKey × D => x.1) ∘ fun p : NestedKey × D => if p.1 = key r t then (p.1, D.bl (tru (Lg r t.cps.toList))) else p) = fun p => p.1 from funext fun p => by
        show (if p.1 = key r t then (p.1, D.bl (tru (Lg r t.cps.toList))) else p).1 = p.1
        split <;> rfl]
      exact m.nd
    · obtain ⟨q, hq, e⟩ := List.mem_map.mp hp
      split at e
      · rename_i z
        exact ⟨r, t, hr, ht, hA, by rw [← e, z]⟩
      · rw [← e]; exact m.ok q hq
  · rename_i hn
    refine ⟨?_, fun p hp => ?_⟩
    · rw [List.map_append]
      refine List.nodup_append.mpr ⟨m.nd, by simp, fun x hx y hy e => ?_⟩
      rw [List.mem_singleton.mp (show y ∈ [key r t] from hy)] at e
      obtain ⟨q, hq, e2⟩ := List.mem_map.mp hx
      exact hn (List.any_eq_true.mpr ⟨q, hq, decide_eq_true (e2.trans e)⟩)
    · rcases List.mem_append.mp hp with hp | hp
      · exact m.ok p hp
      · exact ⟨r, t, hr, ht, hA, List.mem_singleton.mp hp⟩
theorem Mem.len {A : Tx} {R : Rx} {kvs : List (NestedKey × D)} (m : Mem A R kvs) (h : A.length ≤ 3) : kvs.length ≤ (sub R).length * 88573 := by
  have h1 := nodup_le (m := (sub R).flatMap fun r => (txs A 10).map fun t => key r (ofL t)) m.nd fun x hx => by
    obtain ⟨p, hp, e⟩ := List.mem_map.mp hx
    obtain ⟨r, t, y1, y2, y3, y4⟩ := m.ok p hp
    refine List.mem_flatMap.mpr ⟨r, y1, List.mem_map.mpr ⟨t.cps.toList, txs_mem 10 _ (by rw [← len_l]; exact y2) y3, ?_⟩⟩
    rw [← e, y4]
    show key r (ofL t.cps.toList) = key r t
    rw [l_ofL]
  rw [len_prod, List.length_map] at h1
  have h2 := txs_len h 10
  have h3 : tb 10 = 88573 := by decide
  rw [h3] at h2
  exact Nat.le_trans h1 (Nat.mul_le_mul_left _ h2)
end Cut
/-! Bounds of the size of the automaton by width and number of tuples; what the recursion over parts reaches. Plain. -/
namespace Cut
open PySem L2 DL ML
theorem mx1_ge (j : Int) : 1 ≤ mx1 j ∧ j ≤ mx1 j := by unfold mx1; split <;> omega
theorem mx1_id {j : Int} (h : 1 ≤ j) : mx1 j = j := by unfold mx1; split <;> omega
mutual
theorem wd_one : ∀ r, okR r = true → 1 ≤ wd r
  | .set _, _ => Int.le_refl _
  | .row ps, _ => by rw [wd_row]; exact (mx1_ge _).1
  | .any ps, _ => by rw [wd_any]; exact (mx1_ge _).1
  | .all ps, _ => by rw [wd_all]; exact (mx1_ge _).1
  | .no p, _ => by rw [wd_no]; exact (mx1_ge _).1
  | .again p lo none, h => by
    rw [okR] at h
    simp only [Bool.and_eq_true, decide_eq_true_eq] at h
    have h1 := (mx1_ge (wd p)).1
    have h2 : (1 : Int) ≤ lo + 1 := by omega
    have := Int.mul_le_mul h1 h2 (by decide) (by omega)
    rw [wd]; omega
  | .again p lo (some x), h => by
    have := Int.mul_le_mul (mx1_ge (wd p)).1 (mx1_ge x).1 (by decide) (by have := (mx1_ge (wd p)).1; omega)
    rw [wd]; omega
end
mutual
theorem cnt_one : ∀ r, 1 ≤ cnt r
  | .set _ => Int.le_refl _
  | .row ps => by rw [cnt]; have := cntL_nn ps; omega
  | .any ps => by rw [cnt]; have := cntL_nn ps; omega
  | .all ps => by rw [cnt]; have := cntL_nn ps; omega
  | .no p => by rw [cnt]; have := cnt_one p; omega
  | .again p _ _ => by rw [cnt]; have := cnt_one p; omega
theorem cntL_nn : ∀ ps, (ps.length : Int) ≤ (cntL ps).sum
  | [] => by rw [cntL]; exact Int.le_refl _
  | p :: ps => by rw [cntL, List.sum_cons, List.length_cons]; have := cnt_one p; have := cntL_nn ps; omega
end
theorem wdL_nn : ∀ ps, okRL ps = true → (ps.length : Int) ≤ (wdL ps).sum
  | [], _ => by rw [wdL]; exact Int.le_refl _
  | p :: ps, h => by
    rw [okRL, Bool.and_eq_true] at h
    rw [wdL, List.sum_cons, List.length_cons]; have := wd_one p h.1; have := wdL_nn ps h.2; omega
theorem mulP {a b c d : Int} (ha : 0 ≤ a) (hb : 0 ≤ b) (hc : 0 ≤ c) (hd : 0 ≤ d) : a * b + c * d ≤ (a + c) * (b + d) := by
  have h1 := Int.mul_nonneg ha hd
  have h2 := Int.mul_nonneg hc hb
  rw [Int.add_mul, Int.mul_add, Int.mul_add]; omega
mutual
theorem cost_le : ∀ r, okR r = true → (cost r : Int) ≤ 12 * (cnt r * wd r)
  | .set _, _ => by rw [cost, cnt, wd]; decide
  | .row ps, h => by
    rw [okR, Bool.and_eq_true] at h
    have h1 := costL_le ps h.2
    have h2 := cntL_nn ps
    have h3 := wdL_nn ps h.2
    have h4 := Int.mul_le_mul (show (cntL ps).sum ≤ 1 + (cntL ps).sum by omega) (mx1_ge (wdL ps).sum).2 (by omega) (by omega)
    rw [cost, cnt, wd_row]; omega
  | .any ps, h => by
    rw [okR, Bool.and_eq_true] at h
    have h1 := costL_le ps h.2
    have h2 := cntL_nn ps
    have h3 := wdL_nn ps h.2
    have h5 := mx1_ge (wdL ps).sum
    have h4 := Int.mul_le_mul (Int.le_refl (cntL ps).sum) h5.2 (by omega) (by omega)
    rw [cost, cnt, wd_any, Int.add_mul]; omega
  | .all ps, h => by
    have h2 := cntL_nn ps
    have h5 := mx1_ge (wdL ps).sum
    have := Int.mul_nonneg (show 0 ≤ 1 + (cntL ps).sum by omega) (show 0 ≤ mx1 (wdL ps).sum by omega)
    rw [cost, cnt, wd_all]; omega
  | .no p, h => by
    have h2 := cnt_one p
    have h5 := mx1_ge (wd p)
    have := Int.mul_nonneg (show 0 ≤ 1 + cnt p by omega) (show 0 ≤ mx1 (wd p) by omega)
    rw [cost, cnt, wd_no]; omega
  | .again p lo hi, h => by
    have h0 := wd_one _ h
    rw [okR] at h
    simp only [Bool.and_eq_true, decide_eq_true_eq] at h
    obtain ⟨⟨⟨hp, lo0⟩, lo4⟩, hhi⟩ := h
    have h1 := cost_le p hp
    have h2 := cnt_one p
    have h3 := wd_one p hp
    obtain ⟨M, eM, M1, Mk⟩ : ∃ M : Int, wd (.again p lo hi) = wd p * M ∧ 1 ≤ M ∧ (cps lo hi : Int) ≤ M := by
      cases hi with
      | none => exact ⟨lo + 1, by rw [wd, mx1_id h3], by omega, by unfold cps; dsimp only; omega⟩
      | some x => exact ⟨mx1 x, by rw [wd, mx1_id h3], (mx1_ge x).1, by unfold cps; dsimp only; have := mx1_ge x; omega⟩
    have g1 := Int.mul_le_mul Mk h1 (by omega) (by omega)
    have g2 := Int.mul_le_mul h3 (Int.le_refl M) (by omega) (by omega)
    rw [cost, cnt, eM, Int.add_mul]
    push_cast
    have g3 : M * (12 * (cnt p * wd p)) = 12 * (cnt p * (wd p * M)) := by
      rw [Int.mul_left_comm, Int.mul_comm M, Int.mul_assoc]
    omega
theorem costL_le : ∀ ps, okRL ps = true → (costL ps : Int) ≤ 12 * ((cntL ps).sum * (wdL ps).sum)
  | [], _ => by rw [costL, cntL, wdL]; decide
  | p :: ps, h => by
    rw [okRL, Bool.and_eq_true] at h
    have h1 := cost_le p h.1
    have h2 := costL_le ps h.2
    have := wd_one p h.1
    have := wdL_nn ps h.2
    have := cnt_one p
    have := cntL_nn ps
    have h3 := mulP (a := cnt p) (b := wd p) (c := (cntL ps).sum) (d := (wdL ps).sum) (by omega) (by omega) (by omega) (by omega)
    rw [costL, cntL, wdL, List.sum_cons, List.sum_cons]
    push_cast
    omega
end
/-! a bound of costA that holds at all depths -/
mutual
theorem costA_le : ∀ r n, okR r = true → rdep r ≤ n → (costA r : Int) ≤ 12 * (cnt r * wd r) * (n + 1)
  | .set s, n, h, _ => by
    have h1 := cost_le (.set s) h
    have h2 : 0 ≤ 12 * (cnt (.set s) * wd (.set s)) := by rw [cnt, wd]; decide
    have h3 := Int.mul_nonneg h2 (show 0 ≤ (n : Int) by omega)
    rw [costA, Int.mul_add]; omega
  | .row ps, n, h, _ => by
    have h1 := cost_le (.row ps) h
    have h2 : 0 ≤ 12 * (cnt (.row ps) * wd (.row ps)) := by omega
    have h3 := Int.mul_nonneg h2 (show 0 ≤ (n : Int) by omega)
    rw [costA, Int.mul_add]; omega
  | .again p lo hi, n, h, _ => by
    have h1 := cost_le (.again p lo hi) h
    have h2 : 0 ≤ 12 * (cnt (.again p lo hi) * wd (.again p lo hi)) := by omega
    have h3 := Int.mul_nonneg h2 (show 0 ≤ (n : Int) by omega)
    rw [costA, Int.mul_add]; omega
  | .any ps, 0, h, hd => by rw [rdep] at hd; omega
  | .any ps, n + 1, h, hd => by
    have h1 := cost_le (.any ps) h
    rw [rdep] at hd
    rw [okR, Bool.and_eq_true] at h
    have h2 := costAL_le ps n h.2 (by omega)
    have := cntL_nn ps
    have := wdL_nn ps h.2
    have g := Int.mul_le_mul (show (cntL ps).sum ≤ cnt (.any ps) by rw [cnt]; omega) (show (wdL ps).sum ≤ wd (.any ps) by rw [wd_any]; exact (mx1_ge _).2) (by omega) (by rw [cnt]; omega)
    have g2 := Int.mul_le_mul_of_nonneg_right (show 12 * ((cntL ps).sum * (wdL ps).sum) ≤ 12 * (cnt (.any ps) * wd (.any ps)) by omega) (show 0 ≤ (n : Int) + 1 by omega)
    rw [costA]
    push_cast
    rw [Int.mul_add _ ((n : Int) + 1)]
    omega
  | .all ps, 0, h, hd => by rw [rdep] at hd; omega
  | .all ps, n + 1, h, hd => by
    rw [rdep] at hd
    rw [okR, Bool.and_eq_true] at h
    have h2 := costAL_le ps n h.2 (by omega)
    have := cntL_nn ps
    have := wdL_nn ps h.2
    have h1 : 0 ≤ cnt (.all ps) * wd (.all ps) := Int.mul_nonneg (by rw [cnt]; omega) (by rw [wd_all]; have := mx1_ge (wdL ps).sum; omega)
    have g := Int.mul_le_mul (show (cntL ps).sum ≤ cnt (.all ps) by rw [cnt]; omega) (show (wdL ps).sum ≤ wd (.all ps) by rw [wd_all]; exact (mx1_ge _).2) (by omega) (by rw [cnt]; omega)
    have g2 := Int.mul_le_mul_of_nonneg_right (show 12 * ((cntL ps).sum * (wdL ps).sum) ≤ 12 * (cnt (.all ps) * wd (.all ps)) by omega) (show 0 ≤ (n : Int) + 1 by omega)
    rw [costA]
    push_cast
    rw [Int.mul_add _ ((n : Int) + 1)]
    omega
  | .no p, 0, h, hd => by rw [rdep] at hd; omega
  | .no p, n + 1, h, hd => by
    rw [rdep] at hd
    rw [okR] at h
    have h2 := costA_le p n h (by omega)
    have := cnt_one p
    have := wd_one p h
    have h1 : 0 ≤ cnt (.no p) * wd (.no p) := Int.mul_nonneg (by rw [cnt]; omega) (by rw [wd_no]; have := mx1_ge (wd p); omega)
    have g := Int.mul_le_mul (show cnt p ≤ cnt (.no p) by rw [cnt]; omega) (show wd p ≤ wd (.no p) by rw [wd_no]; exact (mx1_ge _).2) (by omega) (by rw [cnt]; omega)
    have g2 := Int.mul_le_mul_of_nonneg_right (show 12 * (cnt p * wd p) ≤ 12 * (cnt (.no p) * wd (.no p)) by omega) (show 0 ≤ (n : Int) + 1 by omega)
    rw [costA]
    push_cast
    rw [Int.mul_add _ ((n : Int) + 1)]
    omega
theorem costAL_le : ∀ ps n, okRL ps = true → rdepL ps ≤ n → (costAL ps : Int) ≤ 12 * ((cntL ps).sum * (wdL ps).sum) * (n + 1)
  | [], n, _, _ => by rw [costAL, cntL, wdL]; simp
  | p :: ps, n, h, hd => by
    rw [rdepL] at hd
    rw [okRL, Bool.and_eq_true] at h
    have h1 := costA_le p n h.1 (by omega)
    have h2 := costAL_le ps n h.2 (by omega)
    have := wd_one p h.1
    have := wdL_nn ps h.2
    have := cnt_one p
    have := cntL_nn ps
    have h3 := mulP (a := cnt p) (b := wd p) (c := (cntL ps).sum) (d := (wdL ps).sum) (by omega) (by omega) (by omega) (by omega)
    have g2 := Int.mul_le_mul_of_nonneg_right (show 12 * (cnt p * wd p) + 12 * ((cntL ps).sum * (wdL ps).sum) ≤ 12 * ((cnt p + (cntL ps).sum) * (wd p + (wdL ps).sum)) by omega) (show 0 ≤ (n : Int) + 1 by omega)
    rw [Int.add_mul] at g2
    rw [costAL, cntL, wdL, List.sum_cons, List.sum_cons]
    push_cast
    omega
end
/-! what the recursion over parts reaches -/
mutual
theorem sub_ok (S : Str) : ∀ R, okR R = true → stR S R = true → ∀ x ∈ sub R, okR x = true ∧ stR S x = true ∧ rdep x ≤ rdep R
  | .set s, h1, h2, x, hx => by
    rw [sub] at hx
    rw [List.mem_singleton.mp hx]; exact ⟨h1, h2, Nat.le_refl _⟩
  | .no p, h1, h2, x, hx => by
    rw [sub] at hx
    rcases List.mem_cons.mp hx with e | hx
    · rw [e]; exact ⟨h1, h2, Nat.le_refl _⟩
    · obtain ⟨a, b, c⟩ := sub_ok S p h1 h2 x hx
      exact ⟨a, b, by rw [rdep]; omega⟩
  | .again p lo hi, h1, h2, x, hx => by
    rw [sub] at hx
    rcases List.mem_cons.mp hx with e | hx
    · rw [e]; exact ⟨h1, h2, Nat.le_refl _⟩
    · rw [okR] at h1
      simp only [Bool.and_eq_true] at h1
      obtain ⟨a, b, c⟩ := sub_ok S p h1.1.1.1 h2 x hx
      exact ⟨a, b, by rw [rdep]; omega⟩
  | .any ps, h1, h2, x, hx => by
    rw [sub] at hx
    rcases List.mem_cons.mp hx with e | hx
    · rw [e]; exact ⟨h1, h2, Nat.le_refl _⟩
    · rw [okR, Bool.and_eq_true] at h1
      obtain ⟨a, b, c⟩ := subL_ok S ps h1.2 h2 x hx
      exact ⟨a, b, by rw [rdep]; omega⟩
  | .all ps, h1, h2, x, hx => by
    rw [sub] at hx
    rcases List.mem_cons.mp hx with e | hx
    · rw [e]; exact ⟨h1, h2, Nat.le_refl _⟩
    · rw [okR, Bool.and_eq_true] at h1
      obtain ⟨a, b, c⟩ := subL_ok S ps h1.2 h2 x hx
      exact ⟨a, b, by rw [rdep]; omega⟩
  | .row ps, h1, h2, x, hx => by
    rw [sub] at hx
    rw [okR, Bool.and_eq_true, decide_eq_true_eq] at h1
    obtain ⟨a, b, c⟩ := subR_ok S ps h1.1 h1.2 h2 x hx
    exact ⟨a, b, by rw [rdep]; omega⟩
theorem subL_ok (S : Str) : ∀ ps, okRL ps = true → stRL S ps = true → ∀ x ∈ subL ps, okR x = true ∧ stR S x = true ∧ rdep x ≤ rdepL ps
  | [], _, _, x, hx => by rw [subL] at hx; cases hx
  | p :: ps, h1, h2, x, hx => by
    rw [subL] at hx
    rw [okRL, Bool.and_eq_true] at h1
    rw [stRL, Bool.and_eq_true] at h2
    rw [rdepL]
    rcases List.mem_append.mp hx with hx | hx
    · obtain ⟨a, b, c⟩ := sub_ok S p h1.1 h2.1 x hx
      exact ⟨a, b, by omega⟩
    · obtain ⟨a, b, c⟩ := subL_ok S ps h1.2 h2.2 x hx
      exact ⟨a, b, by omega⟩
theorem subR_ok (S : Str) : ∀ ps, ps.length ≤ 9999 → okRL ps = true → stRL S ps = true → ∀ x ∈ subR ps, okR x = true ∧ stR S x = true ∧ rdep x ≤ rdepL ps + 1
  | [], _, _, _, x, hx => by
    rw [subR] at hx
    rw [List.mem_singleton.mp hx]
    exact ⟨rfl, rfl, by rw [rdep]; exact Nat.le_refl _⟩
  | p :: ps, hl, h1, h2, x, hx => by
    have k1 := h1
    have k2 := h2
    rw [okRL, Bool.and_eq_true] at h1
    rw [stRL, Bool.and_eq_true] at h2
    rw [subR] at hx
    rcases List.mem_cons.mp hx with e | hx
    · rw [e]; exact ⟨by rw [okR, k1, decide_eq_true hl]; rfl, k2, by rw [rdep]; exact Nat.le_refl _⟩
    rw [rdepL]
    rcases List.mem_append.mp hx with hx | hx
    · obtain ⟨a, b, c⟩ := sub_ok S p h1.1 h2.1 x hx
      exact ⟨a, b, by omega⟩
    · obtain ⟨a, b, c⟩ := subR_ok S ps (by rw [List.length_cons] at hl; omega) h1.2 h2.2 x hx
      exact ⟨a, b, by omega⟩
end
mutual
theorem sub_len : ∀ R, ((sub R).length : Int) + 1 ≤ 2 * cnt R
  | .set s => by rw [sub, cnt, List.length_singleton]; decide
  | .no p => by rw [sub, cnt, List.length_cons]; have := sub_len p; omega
  | .again p _ _ => by rw [sub, cnt, List.length_cons]; have := sub_len p; omega
  | .any ps => by rw [sub, cnt, List.length_cons]; have := subL_len ps; omega
  | .all ps => by rw [sub, cnt, List.length_cons]; have := subL_len ps; omega
  | .row ps => by rw [sub, cnt]; have := subR_len ps; omega
theorem subL_len : ∀ ps, ((subL ps).length : Int) ≤ 2 * (cntL ps).sum
  | [] => by rw [subL, cntL]; decide
  | p :: ps => by rw [subL, cntL, List.length_append, List.sum_cons]; have := sub_len p; have := subL_len ps; omega
theorem subR_len : ∀ ps, ((subR ps).length : Int) ≤ 1 + 2 * (cntL ps).sum
  | [] => by rw [subR, cntL]; decide
  | p :: ps => by rw [subR, cntL, List.length_cons, List.length_append, List.sum_cons]; have := sub_len p; have := subR_len ps; omega
end
end Cut
namespace Cut
open PySem L2 DL ML
local macro_rules | `(tactic| walk_at "m") => `(tactic| repeat (first | with_reducible refine ⟨_, rfl, ?_⟩ | refine ⟨_, rfl, ?_⟩ | refine ⟨rfl, ?_⟩ | refine ⟨_, _, rfl, rfl, ?_⟩ | refine ⟨_, _, rfl, ?_⟩ | refine iteT ?_ | refine iteF ?_ | refine ⟨⟨_, rfl⟩, ?_⟩ | refine ⟨Nat.le_of_ble_eq_true rfl, ?_⟩ | refine ⟨(by decide), ?_⟩ | refine ⟨_, ix_t0 _ _, ?_⟩ | refine ⟨_, ix_l0 _ _, ?_⟩))
abbrev s_l_count_matched : Stmt := top 26
abbrev N_l_count_matched : List Str := ["_law_part", "_law_low", "_law_high", "_law_text_here", "_law_known", "_law_fewer", "_law_k", "_law_first", "_law_rest"]
theorem sc_l_count_matched : FnScope N_l_count_matched ["_law_part", "_law_low", "_law_high", "_law_text_here", "_law_known"] (defScope s_l_count_matched) := ⟨rfl, rfl, rfl, by decide +kernel, rfl, by decide +kernel, by decide +kernel⟩
abbrev s_l_matched : Stmt := top 27
abbrev N_l_matched : List Str := ["_law_pattern_here", "_law_text_here", "_law_known"]
theorem sc_l_matched : FnScope N_l_matched ["_law_pattern_here", "_law_text_here", "_law_known"] (defScope s_l_matched) := ⟨rfl, rfl, rfl, by decide +kernel, rfl, by decide +kernel, by decide +kernel⟩
abbrev s_l_by_parts : Stmt := top 28
abbrev N_l_by_parts : List Str := ["_law_pattern_here", "_law_text_here", "_law_known", "_law_word", "_law_parts", "_law_part", "_law_k"]
theorem sc_l_by_parts : FnScope N_l_by_parts ["_law_pattern_here", "_law_text_here", "_law_known"] (defScope s_l_by_parts) := ⟨rfl, rfl, rfl, by decide +kernel, rfl, by decide +kernel, by decide +kernel⟩
mutual
def ht : Rx → Nat
  | .set _ => 1
  | .no p => ht p + 1
  | .again p _ _ => ht p + 7
  | .any ps => htL ps + 1
  | .all ps => htL ps + 1
  | .row ps => htR ps + 1
def htL : List Rx → Nat
  | [] => 0
  | p :: ps => max (ht p) (htL ps)
def htR : List Rx → Nat
  | [] => 0
  | p :: ps => max (ht p) (htR ps + 1)
end
structure RO (A : Tx) (R : Rx) : Prop where
  al : A.length ≤ 3
  ln : (sub R).length ≤ 150
  ok : ∀ x ∈ sub R, rdep x ≤ 6 ∧ okR x = true
  st : ∃ S, Alp S ∧ ∀ x ∈ sub R, stR S x = true
theorem RO.room {A : Tx} {R : Rx} (o : RO A R) {kvs : List (NestedKey × D)} (m : Mem A R kvs) : kvs.length < 16000000 := by
  have h1 := m.len o.al
  have h2 := Nat.mul_le_mul_right 88573 o.ln
  omega
section
variable {P : Program} {w : World} {K : Fg} {mg : Str → Option Value} {base : Heap} {f f2 f3 : Addr} {fd fd2 fd3 : FuncData}
/-- what the three defs keep: the memo, at an address -/
def MmO (w : World) (A : Tx) (R : Rx) (h : Hd) (a : Addr) (Q : Hd → Prop) : Prop := RO A R ∧ (∃ kvs, h a = some (.dcn w kvs) ∧ Mem A R kvs) ∧ ∀ kvs, Mem A R kvs → Q (put h a (.dcn w kvs))
def g_mtd (w : World) (n : Nat) : FM := fun ds h Q _ => ∃ a A R r t, ds = [toD r, .str t, .raw (.ref a)] ∧ r ∈ sub R ∧ ht r ≤ n ∧ t.length ≤ 10 ∧ (∀ c ∈ t.cps.toList, c ∈ A) ∧ MmO w A R h a (Q (.fz (.bl (tru (Lg r t.cps.toList)))))
theorem ok_mtd (n : Nat) (A : At K mg "_law_matched" ["_law_pattern_here", "_law_text_here", "_law_known"] s_l_matched f fd) (c_l_by_parts : FnM P w K mg base "_law_by_parts" (2 * n) 3 (g_mtd w n)) : FnM P w K mg base "_law_matched" (2 * n + 1) 3 (g_mtd w n) := by
  refine A.fnM (okM (k := 2 * n) A.fn sc_l_matched (by decide) (fun cdv A outer s H E hr tk po => (mss_cons (ms_if (mt_dnotinN (w := w) hr (me_tup (ma_cons (me_v 0) (ma_cons (me_v 1) ma_nil))) (me_v 2)) (mss_one (ms_dputN (w := w) hr (me_cM c_l_by_parts tk (hr.mono (by omega)) (by rfl) (ma_cons (me_v 0) (ma_cons (me_v 1) (ma_cons (me_v 2) ma_nil)))) (me_v 2) (me_tup (ma_cons (me_v 0) (ma_cons (me_v 1) ma_nil))))) mss_nil)
      (mss_one (ms_ret (me_dgetN (w := w) hr (me_v 2) (me_tup (ma_cons (me_v 0) (ma_cons (me_v 1) ma_nil))) (fun _ _ => rfl)))))) ?_)
  rintro ds h Q E hl ⟨a, A, R, r, t, rfl, hr, hh, hT, hA, o, ⟨kvs, e, m⟩, q⟩
  obtain ⟨d6, _⟩ := o.ok r hr
  walk_at "m"
  refine ⟨a, kvs, key r t, rfl, e, nkT_key r t, key_dep d6 t, ?_⟩
  cases hv : valD kvs (key r t) with
  | some d =>
    refine ⟨false, rfl, iteF ?_⟩
    walk_at "m"
    refine ⟨a, kvs, key r t, d, rfl, e, nkT_key r t, key_dep d6 t, hv, ?_⟩
    rw [m.get hv]
    have z := q kvs m
    rw [put_self e] at z
    exact z
  | none =>
    refine ⟨true, rfl, iteT ?_⟩
    walk_at "m"
    refine ⟨a, A, R, r, t, rfl, hr, hh, hT, hA, o, ⟨kvs, e, m⟩, fun kvs' m' => ?_⟩
    walk_at "m"
    refine ⟨a, kvs', key r t, rfl, put_same, nkT_key r t, key_dep d6 t, o.room m', ?_⟩
    walk_at "m"
    refine ⟨a, _, key r t, _, rfl, put_same, nkT_key r t, key_dep d6 t, (by rw [valD_put, if_pos rfl]), ?_⟩
    rw [put_put]
    exact q _ (m'.put hr hT hA)
def hiN : Option Nat → D
  | none => .non
  | some h => .int (h : Nat)
theorem eq_hi (hi : Option Nat) : eqD (hiN hi) (.int 0) = some (.fz (.bl (decide (hi = some 0)))) := by
  cases hi with
  | none => rfl
  | some x =>
    show some (Res.fz (.bl (decide ((x : Int) = 0)))) = _
    congr 3
    exact decide_eq_decide.mpr ⟨fun z => by rw [show x = 0 by omega], fun z => by injection z with z; omega⟩
def g_cnt (w : World) (m j : Nat) : FM := fun ds h Q _ => ∃ a A R p lo hi t, ds = [toD p, .int ((lo : Nat) : Int), hiN hi, .str t, .raw (.ref a)] ∧ p ∈ sub R ∧ ht p ≤ m ∧ t.length < j ∧ j ≤ 11 ∧ (∀ c ∈ t.cps.toList, c ∈ A) ∧ (∀ x, hi = some x → lo ≤ x) ∧ MmO w A R h a (Q (.fz (.bl (tru (Cm (Lg p) lo hi t.cps.toList)))))
theorem ok_cnt1 (m j : Nat) (A : At K mg "_law_count_matched" ["_law_part", "_law_low", "_law_high", "_law_text_here", "_law_known"] s_l_count_matched f fd) (m_len : mg "len" = none) (m_range : mg "range" = none) (m_max : mg "max" = none) (c_l_matched : FnM P w K mg base "_law_matched" (2 * m + 1) 3 (g_mtd w m)) (c_l_count_matched : FnM P w K mg base "_law_count_matched" (2 * m + 1 + j) 5 (g_cnt w m j)) : FnM P w K mg base "_law_count_matched" (2 * m + 1 + (j + 1)) 5 (g_cnt w m (j + 1)) := by
  refine A.fnM (okM (k := 2 * m + 1 + j) A.fn sc_l_count_matched (by decide) (fun cdv A outer s H E hr tk po => (mss_cons (ms_if (MW.mt (mw_and (mt_eq hr (me_v 3) me_str) (mw_and1 (MW.mt (mw_or (mt_eq hr (me_v 1) me_int) (mw_or1 (mt_val (me_cM c_l_matched tk (hr.mono (by omega)) (by rfl) (ma_cons (me_v 0) (ma_cons me_str (ma_cons (me_v 4) ma_nil))))))))))) (mss_one (ms_ret me_bl)) mss_nil)
      (mss_cons (ms_if (MW.mt (mw_or (mt_eq hr (me_v 3) me_str) (mw_or1 (mt_eq hr (me_v 2) me_int)))) (mss_one (ms_ret me_bl)) mss_nil)
      (mss_cons (ms_set 5 sc_l_count_matched.nd rfl (by first | exact Or.inl rfl | exact Or.inr rfl) (me_if (mt_is (me_v 2) me_non) me_non (me_sub (me_v 2) me_int)))
      (mss_cons (ms_for po rfl (mi_range2 (by rfl) m_range (ma_cons me_int (ma_cons (me_add (me_len (by rfl) m_len (ma_cons (me_v 3) ma_nil)) me_int) ma_nil))) (mg_n 6 sc_l_count_matched.nd rfl (by first | exact Or.inl rfl | exact Or.inr rfl)) (mss_cons (ms_par (i := 7) (j := 8) rfl sc_l_count_matched.nd rfl rfl (by decide) rfl rfl (ma_cons (me_sl (me_v 3) mo_none (mo_some (me_v 6))) (ma_cons (me_sl (me_v 3) (mo_some (me_v 6)) mo_none) ma_nil)) (by rfl))
      (mss_one (ms_if (MW.mt (mw_and (mt_val (me_cM c_l_matched tk (hr.mono (by omega)) (by rfl) (ma_cons (me_v 0) (ma_cons (me_v 7) (ma_cons (me_v 4) ma_nil))))) (mw_and1 (mt_val (me_cM c_l_count_matched tk (hr.mono (by omega)) (by rfl) (ma_cons (me_v 0) (ma_cons (me_max2 rfl (by rfl) m_max (ma_cons me_int (ma_cons (me_sub (me_v 1) me_int) ma_nil))) (ma_cons (me_v 5) (ma_cons (me_v 8) (ma_cons (me_v 4) ma_nil)))))))))) (mss_one (ms_ret me_bl)) mss_nil))))
      (mss_one (ms_ret me_bl))))))) ?_)
  rintro ds h Q E hl ⟨a, A, R, p, lo, hi, t, rfl, hp, hm, hj, hj2, hA, hlo, o, ⟨kvs, e, m⟩, q⟩
  have hT : t.length ≤ 10 := by omega
  have hTl := len_l t
  have fin : ∀ b kvs', Mem A R kvs' → (b = true ↔ Cm (Lg p) lo hi t.cps.toList) → Q (.fz (.bl b)) (put h a (.dcn w kvs')) := fun b kvs' m' hb => by
    have : b = tru (Cm (Lg p) lo hi t.cps.toList) := Bool.eq_iff_iff.mpr (hb.trans tru_iff.symm)
    rw [this]; exact q kvs' m'
  have fin0 : ∀ b, (b = true ↔ Cm (Lg p) lo hi t.cps.toList) → Q (.fz (.bl b)) h := fun b hb => by
    have z := fin b kvs m hb
    rw [put_self e] at z
    exact z
  have heE : eqB (.str (Str.ofString "")) (.str (Str.ofString "")) = true := by
    show eqS _ _ = true
    rw [eqS_eq]; exact decide_eq_true rfl
  by_cases ht : t = Str.ofString ""
  · subst ht
    walk_at "m"
    refine ifB (fun _ => ?_) (fun hb => absurd (heE.symm.trans hb) (by decide))
    walk_at "m"
    refine ifB (fun hb => ?_) (fun hb => ?_)
    · walk_at "m"
      refine fin0 true ⟨fun _ => (Cm_nil hlo).mpr (.inl ?_), fun _ => rfl⟩
      have := of_decide_eq_true hb
      omega
    have hb : ¬ lo = 0 := fun z => of_decide_eq_false hb (by rw [z]; rfl)
    walk_at "m"
    refine ⟨a, A, R, p, Str.ofString "", rfl, hp, hm, by decide, (fun c z => by cases z), o, ⟨kvs, e, m⟩, fun kvs' m' => ?_⟩
    walk_at "m"
    refine ifB (fun hx => ?_) (fun hx => ?_)
    · walk_at "m"
      exact fin true kvs' m' ⟨fun _ => (Cm_nil hlo).mpr (.inr (tru_iff.mp hx)), fun _ => rfl⟩
    walk_at "m"
    refine ifB (fun _ => ?_) (fun hb => absurd (heE.symm.trans hb) (by decide))
    walk_at "m"
    refine fin false kvs' m' ⟨(fun z => by cases z), fun z => ?_⟩
    rcases (Cm_nil hlo).mp z with z | z
    · exact (hb z).elim
    · have := tru_iff.mpr z
      rw [show tru (Lg p []) = false from hx] at this
      cases this
  have hw : t.cps.toList ≠ [] := fun z => ht (str_ext z)
  have he : eqB (.str t) (.str (Str.ofString "")) = false := by
    show eqS t _ = false
    rw [eqS_eq]; exact decide_eq_false ht
  walk_at "m"
  refine ifB (fun hb => absurd (he.symm.trans hb) (by decide)) (fun _ => ?_)
  walk_at "m"
  refine ifB (fun hb => absurd (he.symm.trans hb) (by decide)) (fun _ => ?_)
  refine ⟨_, rfl, ?_⟩
  refine ⟨_, eq_hi hi, ?_⟩
  refine ⟨_, rfl, ?_⟩
  refine ifB (fun hb => ?_) (fun hb => ?_)
  · walk_at "m"
    exact fin0 false ⟨(fun z => by cases z), fun z => absurd (of_decide_eq_true hb) ((Cm_step hw).mp z).1⟩
  have h0 : hi ≠ some 0 := of_decide_eq_false hb
  unfold mNext
  dsimp only
  refine seq_cut (fun ρ' h' => ρ' = [some (toD p), some (.int ((lo : Nat) : Int)), some (hiN hi), some (.str t), some (.raw (.ref a)), some (hiN (hi.map (· - 1))), none, none, none] ∧ h = h') (fun R1 hR1 => ?_) ?_
  · cases hi with
    | none => walk_at "m"; exact hR1 _ _ ⟨rfl, rfl⟩
    | some x =>
      walk_at "m"
      refine hR1 _ _ ⟨?_, rfl⟩
      have : x ≠ 0 := fun z => h0 (by rw [z])
      show [some (toD p), some (.int ((lo : Nat) : Int)), some (D.int x), some (.str t), some (.raw (.ref a)), some (D.int ((x : Int) - 1)), none, none, none] = [_, _, _, _, _, some (D.int ((x - 1 : Nat) : Int)), none, none, none]
      rw [show ((x - 1 : Nat) : Int) = (x : Int) - 1 by omega]
      rfl
  rintro _ _ ⟨rfl, rfl⟩
  walk_at "m"
  refine ⟨_, len_st (by omega), ?_⟩
  walk_at "m"
  refine ⟨⟨by decide, by decide, by omega, by omega⟩, ?_⟩
  rw [show ((t.length : Int) + 1 - 1).toNat = t.length by omega]
  refine loopM_inv (fun ds ρ h' => ∃ k x6 x7 x8 kvs', ds = rangeD ((k : Nat) : Int) (t.length + 1 - k) ∧ 1 ≤ k ∧ k ≤ t.length + 1 ∧ ρ = [some (toD p), some (.int ((lo : Nat) : Int)), some (hiN hi), some (.str t), some (.raw (.ref a)), some (hiN (hi.map (· - 1))), x6, x7, x8] ∧ h' = put h a (.dcn w kvs') ∧ Mem A R kvs' ∧ (∀ i, 1 ≤ i → i < k → ¬ (Lg p (t.cps.toList.take i) ∧ Cm (Lg p) (lo - 1) (hi.map (· - 1)) (t.cps.toList.drop i)))) _ _ _ ⟨1, none, none, none, kvs, rfl, Nat.le_refl _, by omega, rfl, (put_self e).symm, m, fun i h1 h2 => by omega⟩ ?_ ?_
  rotate_left
  · rintro ρ h' ⟨k, x6, x7, x8, kvs', ed, k1, k2, rfl, rfl, m', nf⟩
    have hk : t.length + 1 - k = 0 := by
      have := congrArg List.length ed
      rw [rangeD_map, List.length_map, List.length_range] at this
      exact this.symm
    walk_at "m"
    refine fin false kvs' m' ⟨(fun z => by cases z), fun z => ?_⟩
    obtain ⟨_, i, i1, i2, i3, i4⟩ := (Cm_step hw).mp z
    exact (nf i i1 (by omega) ⟨i3, i4⟩).elim
  rintro d es ρ h' R2 ⟨k, x6, x7, x8, kvs', ed, k1, k2, rfl, rfl, m', nf⟩ hR2
  cases hn : t.length + 1 - k with
  | zero => rw [hn] at ed; cases ed
  | succ n' =>
  rw [hn, rangeD_succ] at ed
  injection ed with e1 e2
  subst e1 e2
  have nx : ∀ kvs3, Mem A R kvs3 → ¬ (Lg p (t.cps.toList.take k) ∧ Cm (Lg p) (lo - 1) (hi.map (· - 1)) (t.cps.toList.drop k)) → ∀ x6 x7 x8, R2 [some (toD p), some (.int ((lo : Nat) : Int)), some (hiN hi), some (.str t), some (.raw (.ref a)), some (hiN (hi.map (· - 1))), x6, x7, x8] (put h a (.dcn w kvs3)) := fun kvs3 m3 no x6 x7 x8 => by
    refine hR2 _ _ ⟨k + 1, x6, x7, x8, kvs3, by rw [show t.length + 1 - (k + 1) = n' by omega]; rfl, by omega, by omega, rfl, rfl, m3, fun i i1 i2 => ?_⟩
    by_cases hi2 : i = k
    · rw [hi2]; exact no
    · exact nf i i1 (by omega)
  walk_at "m"
  refine ⟨_, (show slD (.str t) none (some ((k : Nat) : Int)) = some (.fz (.str (ofL (t.cps.toList.take k)))) by rw [sl_str' (by omega), cut_to]), ?_⟩
  walk_at "m"
  refine ⟨_, (show slD (.str t) (some ((k : Nat) : Int)) none = some (.fz (.str (ofL (t.cps.toList.drop k)))) by rw [sl_str' (by omega), cut_from]), ?_⟩
  walk_at "m"
  refine ⟨a, A, R, p, ofL (t.cps.toList.take k), rfl, hp, hm, by rw [len_l, ofL_l, List.length_take]; omega, fun c hc => hA c (List.mem_of_mem_take (by rw [ofL_l] at hc; exact hc)), o, ⟨kvs', put_same, m'⟩, fun kvs2 m2 => ?_⟩
  rw [ofL_l, put_put]
  walk_at "m"
  refine ifB (fun hb => ?_) (fun hb => ?_)
  rotate_left
  · walk_at "m"
    exact nx kvs2 m2 (fun z => by have := tru_iff.mpr z.1; rw [hb] at this; cases this) _ _ _
  walk_at "m"
  refine ⟨a, A, R, p, lo - 1, hi.map (· - 1), ofL (t.cps.toList.drop k), ?_, hp, hm, by rw [len_l, ofL_l, List.length_drop]; omega, by omega, fun c hc => hA c (List.mem_of_mem_drop (by rw [ofL_l] at hc; exact hc)), ?_, o, ⟨kvs2, put_same, m2⟩, fun kvs3 m3 => ?_⟩
  · show [toD p, D.int (if (lo : Int) - 1 > 0 then (lo : Int) - 1 else 0), hiN (hi.map (· - 1)), D.str _, D.raw (.ref a)] = _
    rw [show (if (lo : Int) - 1 > 0 then (lo : Int) - 1 else 0) = ((lo - 1 : Nat) : Int) by split <;> omega]
  · intro x hx
    obtain ⟨y, y1, y2⟩ := Option.map_eq_some_iff.mp hx
    have := hlo y y1
    omega
  rw [ofL_l, put_put]
  walk_at "m"
  refine ifB (fun hb2 => ?_) (fun hb2 => ?_)
  · walk_at "m"
    exact fin true kvs3 m3 ⟨fun _ => (Cm_step hw).mpr ⟨h0, k, k1, by omega, tru_iff.mp hb, tru_iff.mp hb2⟩, fun _ => rfl⟩
  · walk_at "m"
    exact nx kvs3 m3 (fun z => by have := tru_iff.mpr z.2; rw [hb2] at this; cases this) _ _ _
end
end Cut
namespace Cut
open PySem L2 DL
local macro_rules | `(tactic| walk_at "s") => `(tactic| repeat (first | with_reducible refine ⟨_, rfl, ?_⟩ | refine ⟨_, rfl, ?_⟩ | refine ⟨rfl, ?_⟩ | refine ⟨_, _, rfl, rfl, ?_⟩ | refine ⟨_, _, rfl, ?_⟩ | refine iteT ?_ | refine iteF ?_ | refine ⟨⟨_, rfl⟩, ?_⟩ | refine ⟨⟨_, _, rfl⟩, ?_⟩ | refine ⟨_, _, _, _, rfl, rfl, rfl, ?_⟩ | refine ⟨Nat.le_of_ble_eq_true rfl, ?_⟩ | refine ⟨(by decide), ?_⟩ | refine ⟨_, ix_t0 _ _, ?_⟩ | refine ⟨_, ix_l0 _ _, ?_⟩))
abbrev s_l_with_empty : Stmt := top 24
abbrev N_l_with_empty : List Str := ["_law_source_here", "_law_alphabet_here", "_law_part", "_law_low", "_law_high", "_law_again", "_law_few", "_law_some"]
theorem sc_l_with_empty : FnScope N_l_with_empty ["_law_source_here", "_law_alphabet_here"] (defScope s_l_with_empty) := ⟨rfl, rfl, rfl, by decide +kernel, rfl, by decide +kernel, by decide +kernel⟩
abbrev s_l_wide : Stmt := top 25
abbrev N_l_wide : List Str := ["_law_source_here", "_law_alphabet_here", "_law_way", "_law_low", "_law_high", "_law_word", "_law_k", "_law_parts", "_law_part"]
theorem sc_l_wide : FnScope N_l_wide ["_law_source_here", "_law_alphabet_here"] (defScope s_l_wide) := ⟨rfl, rfl, rfl, by decide +kernel, rfl, by decide +kernel, by decide +kernel⟩
structure P3 (A : Str) (r : Rx) : Prop where
  st : stR A r = true
  ok : okR r = true
  hp : hasP r = true
  dp : rdep r ≤ 6
  ct : costA r ≤ 14000
  cn : cnt r ≤ 40
theorem Pat.p3 {A : Str} {R : Int} {r : Rx} (h : Pat A R r) (hR : R ≤ 10) : P3 A r := by
  have h1 := costA_le r 5 h.ok h.dp
  have h2 := h.ct
  have h3 := h.wl
  have h4 := h.w1
  have h5 := cnt_one r
  have h6 := Int.mul_le_mul (show cnt r ≤ 18 by omega) (show wd r ≤ 10 by omega) (by omega) (by omega)
  exact ⟨h.st, h.ok, h.hp, by have := h.dp; omega, by omega, by omega⟩
theorem st_empty (A : Str) : stR A (.set "") = true := by
  have : A.cps.toList.filter (fun c => decide (c ∈ ("" : Str).cps.toList)) = [] := by
    rw [List.filter_eq_nil_iff]; intro c _ z; have := of_decide_eq_true z; cases this
  rw [stR, isSetM, this]; rfl
theorem hi_pick {lo j : Int} (hj : 0 ≤ j) (h4 : lo + j ≤ 4) : ∀ d ∈ [D.non, D.int (lo + j)], ∃ hi, d = hiD hi ∧ hiOk lo hi = true := by
  intro d hd
  simp only [List.mem_cons, List.not_mem_nil, or_false] at hd
  rcases hd with rfl | rfl
  · exact ⟨none, rfl, rfl⟩
  · exact ⟨some (lo + j), rfl, by rw [hiOk, decide_eq_true (by omega), decide_eq_true h4]; rfl⟩
theorem cps5 {lo : Int} {hi : Option Int} (h0 : 0 ≤ lo) (h : lo ≤ 4) (hh : hiOk lo hi = true) : cps lo hi ≤ 5 := by
  cases hi with
  | none => unfold cps; dsimp only; omega
  | some x => rw [hiOk, Bool.and_eq_true, decide_eq_true_eq, decide_eq_true_eq] at hh; unfold cps; dsimp only; omega
section
variable {P : Program} {w : World} {K : Fg} {mg : Str → Option Value} {base : Heap} {f f2 : Addr} {fd fd2 : FuncData}
def g_p3 : FS1 := fun xs ds Q => ∃ (c : Nat) (A : Str), ds = [.str A] ∧ Alp A ∧ Src c xs ∧ c + 10000 ≤ 2 ^ 40 ∧ ∀ r xs', P3 A r → Src (c + 10000) xs' → Q (.fz (toD r)) xs'
structure Leaf (A : Str) (e : Rx) : Prop where
  st : stR A e = true
  ok : okR e = true
  pl : plain e = true
  hp : hasP e = true
  dp : rdep e = 0
  c1 : cost e = 4
  c2 : costA e = 4
  cn : cnt e = 1
theorem Leaf.set {A s : Str} (h1 : isSetM A [.str s] = true) (h2 : s.length ≤ 6) : Leaf A (.set s) := ⟨by rw [stR, h1, decide_eq_true h2]; rfl, okR_set (A := A) h2, rfl, rfl, by rw [rdep], by rw [cost], by rw [costA, cost], by rw [cnt]⟩
theorem Leaf.emp (A : Str) : Leaf A (.set "") := ⟨st_empty A, by decide, rfl, rfl, by rw [rdep], by rw [cost], by rw [costA, cost], by rw [cnt]⟩
def emps (s1 s2 s3 s4 : Rx) (lo : Int) (hi : Option Int) : List Rx :=
  let part := Rx.any [s1, .row []]
  let ag := Rx.again part lo hi
  let few := Rx.again s2 lo hi
  [ag, few, .row [few, s3], .row [few, few], .no ag, .again (.again part 0 none) 1 none, .all [.no (.row []), few], .all [], .any [], .row [], .no (.any []), s4, .any [few, s4]]
theorem emps_ok {A : Str} {s1 s2 s3 s4 : Rx} {lo : Int} {hi : Option Int} (h1 : Leaf A s1) (h2 : Leaf A s2) (h3 : Leaf A s3) (h4 : Leaf A s4) (lo0 : 0 ≤ lo) (lo4 : lo ≤ 4) (hh : hiOk lo hi = true) : ∀ r ∈ emps s1 s2 s3 s4 lo hi, P3 A r := by
  intro r hr
  have hc := cps5 lo0 lo4 hh
  simp only [emps, List.mem_cons, List.not_mem_nil, or_false] at hr
  rcases hr with rfl | rfl | rfl | rfl | rfl | rfl | rfl | rfl | rfl | rfl | rfl | rfl | rfl
  all_goals
    refine ⟨?_, ?_, ?_, ?_, ?_, ?_⟩
  all_goals first
    | (simp [stR, stRL, h1.st, h2.st, h3.st, h4.st]; done)
    | (simp [okR, okRL, h1.ok, h2.ok, h3.ok, h4.ok, hh, lo0, lo4]; done)
    | (simp [okR, okRL, h1.ok, h2.ok, h3.ok, h4.ok, hh, lo0, lo4, hiOk]; done)
    | (simp [hasP, hasPL, plain, plainL, h1.pl, h2.pl, h3.pl, h4.pl, h1.hp, h2.hp, h3.hp, h4.hp]; done)
    | (simp [rdep, rdepL, h1.dp, h2.dp, h3.dp, h4.dp]; done)
    | (simp [costA, costAL, cost, costL, cps, h1.c1, h2.c1, h3.c1, h4.c1, h1.c2, h2.c2, h3.c2, h4.c2]; done)
    | (simp [costA, costAL, cost, costL, h1.c1, h2.c1, h3.c1, h4.c1, h1.c2, h2.c2, h3.c2, h4.c2]; omega)
    | (simp [cnt, cntL, h1.cn, h2.cn, h3.cn, h4.cn]; done)
theorem ok_wempty (A : At K mg "_law_with_empty" ["_law_source_here", "_law_alphabet_here"] s_l_with_empty f fd) (c_l_draw : Fn1 P w K mg base "_law_draw" 1 2 g_draw) (c_l_set : Fn1 P w K mg base "_law_set" 2 2 g_set) : Fn1 P w K mg base "_law_with_empty" 3 2 g_p3 := by
  refine A.fn1 (okD1 (k := 2) A.fn sc_l_with_empty (by decide) (fun cdv A outer s H E hr => (dss_cons (ds_set 2 sc_l_with_empty.nd rfl (by first | exact Or.inl rfl | exact Or.inr rfl) (de_tup (da_cons de_str (da_cons (de_c1 0 c_l_set (hr.mono (by decide)) (by rfl) (da_cons (de_v 1) da_nil)) (da_cons (de_tup (da_cons de_str da_nil)) da_nil)))))
      (dss_cons (ds_set 3 sc_l_with_empty.nd rfl (by first | exact Or.inl rfl | exact Or.inr rfl) (de_c1 0 c_l_draw (hr.mono (by decide)) (by rfl) (da_cons de_int da_nil)))
      (dss_cons (ds_set 4 sc_l_with_empty.nd rfl (by first | exact Or.inl rfl | exact Or.inr rfl) (de_ix (de_lst (da_cons de_non (da_cons (de_add (de_v 3) (de_c1 0 c_l_draw (hr.mono (by decide)) (by rfl) (da_cons (de_sub de_int (de_v 3)) da_nil))) da_nil))) (de_c1 0 c_l_draw (hr.mono (by decide)) (by rfl) (da_cons de_int da_nil)) (fun _ _ => rfl)))
      (dss_cons (ds_set 5 sc_l_with_empty.nd rfl (by first | exact Or.inl rfl | exact Or.inr rfl) (de_tup (da_cons de_str (da_cons (de_v 2) (da_cons (de_v 3) (da_cons (de_v 4) da_nil))))))
      (dss_cons (ds_set 6 sc_l_with_empty.nd rfl (by first | exact Or.inl rfl | exact Or.inr rfl) (de_tup (da_cons de_str (da_cons (de_c1 0 c_l_set (hr.mono (by decide)) (by rfl) (da_cons (de_v 1) da_nil)) (da_cons (de_v 3) (da_cons (de_v 4) da_nil))))))
      (dss_cons (ds_set 7 sc_l_with_empty.nd rfl (by first | exact Or.inl rfl | exact Or.inr rfl) (de_lst (da_cons (de_v 5) (da_cons (de_v 6) (da_cons (de_tup (da_cons de_str (da_cons (de_v 6) (da_cons (de_c1 0 c_l_set (hr.mono (by decide)) (by rfl) (da_cons (de_v 1) da_nil)) da_nil)))) (da_cons (de_tup (da_cons de_str (da_cons (de_v 6) (da_cons (de_v 6) da_nil)))) (da_cons (de_tup (da_cons de_str (da_cons (de_v 5) da_nil))) da_nil)))))))
      (dss_cons (ds_set 7 sc_l_with_empty.nd rfl (by first | exact Or.inl rfl | exact Or.inr rfl) (de_add (de_v 7) (de_lst (da_cons (de_tup (da_cons de_str (da_cons (de_tup (da_cons de_str (da_cons (de_v 2) (da_cons de_int (da_cons de_non da_nil))))) (da_cons de_int (da_cons de_non da_nil))))) (da_cons (de_tup (da_cons de_str (da_cons (de_tup (da_cons de_str (da_cons (de_tup (da_cons de_str da_nil)) da_nil))) (da_cons (de_v 6) da_nil)))) da_nil)))))
      (dss_cons (ds_set 7 sc_l_with_empty.nd rfl (by first | exact Or.inl rfl | exact Or.inr rfl) (de_add (de_v 7) (de_lst (da_cons (de_tup (da_cons de_str da_nil)) (da_cons (de_tup (da_cons de_str da_nil)) (da_cons (de_tup (da_cons de_str da_nil)) (da_cons (de_tup (da_cons de_str (da_cons (de_tup (da_cons de_str da_nil)) da_nil))) (da_cons (de_tup (da_cons de_str (da_cons de_str da_nil))) (da_cons (de_tup (da_cons de_str (da_cons (de_v 6) (da_cons (de_tup (da_cons de_str (da_cons de_str da_nil))) da_nil)))) da_nil)))))))))
      (dss_one (ds_ret (de_ix (de_v 7) (de_c1 0 c_l_draw (hr.mono (by decide)) (by rfl) (da_cons de_int da_nil)) (fun _ _ => rfl))))))))))))) ?_)
  rintro xs ds Q hl ⟨c, A, rfl, hA, hS, hc, q⟩
  walk_at "s"
  refine ⟨c, A, rfl, hA, hS, by omega, fun s1 xs1 a1 a2 hS1 => ?_⟩
  walk_at "s"
  refine ⟨c + 7, _, rfl, hS1, by omega, by decide, by decide, fun lo xs2 lo0 lo1 hS2 => ?_⟩
  walk_at "s"
  refine ⟨c + 8, _, rfl, hS2, by omega, by omega, by omega, fun j xs3 j0 j1 hS3 => ?_⟩
  walk_at "s"
  refine ⟨c + 9, _, rfl, hS3, by omega, by decide, by decide, fun i xs4 i0 i1 hS4 => ?_⟩
  walk_at "s"
  obtain ⟨d, hd, hm⟩ := atI_ok (xs := [D.non, D.int (lo + j)]) (i := i) i0 (by show i < 2; omega)
  refine ⟨_, ix_lst hd, ?_⟩
  obtain ⟨hi, rfl, hh⟩ := hi_pick j0 (by omega) d hm
  walk_at "s"
  refine ⟨c + 10, A, rfl, hA, hS4, by omega, fun s2 xs5 b1 b2 hS5 => ?_⟩
  walk_at "s"
  refine ⟨c + 17, A, rfl, hA, hS5, by omega, fun s3 xs6 c1 c2 hS6 => ?_⟩
  walk_at "s"
  refine ⟨c + 24, _, rfl, hS6, by omega, by decide, by decide, fun i xs7 i0 i1 hS7 => ?_⟩
  walk_at "s"
  have hE := emps_ok (lo := lo) (hi := hi) (Leaf.set a1 a2) (Leaf.set b1 b2) (Leaf.set c1 c2) (Leaf.emp A) lo0 (by omega) hh
  obtain ⟨r, hd, hm⟩ := atI_ok (xs := emps (.set s1) (.set s2) (.set s3) (.set "") lo hi) (i := i) i0 (by show i < 13; omega)
  have hd2 : atI ((emps (.set s1) (.set s2) (.set s3) (.set "") lo hi).map toD) i = some (toD r) := by
    rw [atI_get i0 (by show i < 13; omega)] at hd ⊢
    rw [List.getElem?_map, hd]; rfl
  simp only [emps, List.map_cons, List.map_nil, toD, toDL] at hd2
  refine ⟨_, ix_lst hd2, ?_⟩
  exact ⟨_, rfl, q r xs7 (hE r hm) (hS7.mono (by omega))⟩
end
end Cut
namespace Cut
open PySem L2 DL ML
local macro_rules | `(tactic| walk_at "m") => `(tactic| repeat (first | with_reducible refine ⟨_, rfl, ?_⟩ | refine ⟨_, rfl, ?_⟩ | refine ⟨rfl, ?_⟩ | refine ⟨_, _, rfl, rfl, ?_⟩ | refine ⟨_, _, rfl, ?_⟩ | refine iteT ?_ | refine iteF ?_ | refine ⟨⟨_, rfl⟩, ?_⟩ | refine ⟨Nat.le_of_ble_eq_true rfl, ?_⟩ | refine ⟨(by decide), ?_⟩ | refine ⟨_, ix_t0 _ _, ?_⟩ | refine ⟨_, ix_l0 _ _, ?_⟩))
structure Pc (A : Str) (p : Rx) : Prop where
  st : stR A p = true
  ok : okR p = true
  hp : hasP p = true
  dp : rdep p ≤ 2
  c1 : cost p ≤ 8
  c2 : costA p ≤ 8
  cn : cnt p ≤ 4
theorem Pc.sums {A : Str} : ∀ {ps : List Rx}, (∀ p ∈ ps, Pc A p) → stRL A ps = true ∧ okRL ps = true ∧ (hasPL ps).all id = true ∧ rdepL ps ≤ 2 ∧ costL ps ≤ 8 * ps.length ∧ costAL ps ≤ 8 * ps.length ∧ (cntL ps).sum ≤ 4 * ps.length
  | [], _ => ⟨rfl, rfl, rfl, by rw [rdepL]; omega, by rw [costL]; omega, by rw [costAL]; omega, by rw [cntL]; decide⟩
  | p :: ps, h => by
    have a := h p (List.mem_cons_self ..)
    obtain ⟨b1, b2, b3, b4, b5, b6, b7⟩ := Pc.sums fun q hq => h q (List.mem_cons_of_mem _ hq)
    have := a.dp
    have := a.c1
    have := a.c2
    have := a.cn
    refine ⟨by rw [stRL, a.st, b1]; rfl, by rw [okRL, a.ok, b2]; rfl, by rw [hasPL, List.all_cons, b3, a.hp]; rfl, by rw [rdepL]; omega, by rw [costL, List.length_cons]; omega, by rw [costAL, List.length_cons]; omega, by rw [cntL, List.sum_cons, List.length_cons]; omega⟩
theorem P3.any {A : Str} {ps : List Rx} (h : ∀ p ∈ ps, Pc A p) (hl : ps.length ≤ 6) : P3 A (.any ps) := by
  obtain ⟨b1, b2, b3, b4, b5, b6, b7⟩ := Pc.sums h
  exact ⟨b1, by rw [okR, b2, decide_eq_true (by omega)]; rfl, b3, by rw [rdep]; omega, by rw [costA, cost]; omega, by rw [cnt]; omega⟩
theorem P3.all {A : Str} {ps : List Rx} (h : ∀ p ∈ ps, Pc A p) (hl : ps.length ≤ 6) : P3 A (.all ps) := by
  obtain ⟨b1, b2, b3, b4, b5, b6, b7⟩ := Pc.sums h
  exact ⟨b1, by rw [okR, b2, decide_eq_true (by omega)]; rfl, b3, by rw [rdep]; omega, by rw [costA]; omega, by rw [cnt]; omega⟩
theorem cost_sets (ss : List Str) : costL (ss.map .set) = 4 * ss.length := by
  induction ss with
  | nil => rw [List.map_nil, costL]; rfl
  | cons s ss ih => rw [List.map_cons, costL, cost, ih, List.length_cons]; omega
theorem Pc.row {A : Str} {ss : List Str} (h : setsOk A ss) (hl : ss.length ≤ 2) : Pc A (.row (ss.map .set)) := by
  have z := Sets.of (m := ss.length) h (by omega) (by omega)
  have := z.dp
  have := z.ct
  have := cost_sets ss
  exact ⟨z.st, by rw [okR, z.ok, List.length_map, decide_eq_true (by omega)]; rfl, z.pl, by rw [rdep]; omega, by rw [cost]; omega, by rw [costA, cost]; omega, by rw [cnt]; omega⟩
theorem Pc.none {A : Str} {ss : List Str} (h : setsOk A ss) (hl : ss.length ≤ 2) : Pc A (.no (.row (ss.map .set))) := by
  have z := Pc.row h hl
  have y := Sets.of (m := ss.length) h (by omega) (by omega)
  have := y.dp
  have := y.ct
  exact ⟨z.st, z.ok, z.hp, by rw [rdep, rdep]; omega, by rw [cost]; omega, z.c2, by rw [cnt, cnt]; omega⟩
theorem Pc.all0 {A : Str} : Pc A (.all []) := ⟨rfl, rfl, rfl, by decide, by decide, by decide, by decide⟩
theorem two_again {A : Str} {s : Rx} {lo x : Int} {hi : Option Int} (h : Leaf A s) (lo0 : 0 ≤ lo) (lo4 : lo ≤ 4) (hh : hiOk lo hi = true) (x2 : 2 ≤ x) (x4 : x ≤ 4) : P3 A (.again (.again s 2 (some x)) lo hi) := by
  have hc := cps5 lo0 lo4 hh
  have hx : cps 2 (some x) ≤ 4 := by unfold cps; dsimp only; omega
  have h1 := Nat.mul_le_mul hc (show 7 + cps 2 (some x) + cps 2 (some x) * 4 ≤ 27 by omega)
  refine ⟨h.st, ?_, h.pl, by rw [rdep, rdep, h.dp]; decide, ?_, by rw [cnt, cnt, h.cn]; decide⟩
  · have h9 : hiOk 2 (some x) = true := by rw [hiOk, decide_eq_true x2, decide_eq_true x4]; rfl
    rw [okR, okR, h.ok, hh, h9, decide_eq_true lo0, decide_eq_true lo4]; rfl
  · rw [costA, cost, cost, h.c1]; omega
theorem any_again {A : Str} {s : Rx} {ss : List Str} {lo : Int} {hi : Option Int} (h : Leaf A s) (g : setsOk A ss) (gl : ss.length = 2) (lo0 : 0 ≤ lo) (lo4 : lo ≤ 4) (hh : hiOk lo hi = true) : P3 A (.again (.any [s, .row (ss.map .set)]) lo hi) := by
  have hc := cps5 lo0 lo4 hh
  have z := Sets.of (m := 2) g (by omega) (by omega)
  have zr := Pc.row g (by omega)
  have h1 := Nat.mul_le_mul hc (show 3 + 2 + (4 + 8) ≤ 17 by omega)
  refine ⟨?_, ?_, ?_, ?_, ?_, ?_⟩
  · rw [stR, stR, stRL, stRL, stRL, h.st, zr.st]; rfl
  · rw [okR, okR, okRL, okRL, okRL, h.ok, zr.ok, hh, decide_eq_true lo0, decide_eq_true lo4]; rfl
  · have := z.pl
    rw [hasP, plain, plainL, plainL, plainL]
    simp only [List.all_cons, List.all_nil, h.pl, id, Bool.and_true, Bool.true_and]
    rw [plain]; exact this
  · rw [rdep, rdep, rdepL, rdepL, rdepL, rdep, z.dp, h.dp]; decide
  · rw [costA, cost, cost, costL, costL, costL, h.c1]
    have h2 : cost (.row (ss.map .set)) = 8 := by rw [cost, cost_sets, gl]
    rw [h2]
    simp only [List.length_cons, List.length_nil]
    omega
  · have := z.ct
    rw [cnt, cnt, cntL, cntL, cntL, cnt, h.cn]; simp only [List.sum_cons, List.sum_nil]; omega
theorem mul_lst {a : List D} {k : Int} (h0 : 0 ≤ k) (h1 : k ≤ 1000) (h2 : a.length ≤ 10) : mulD (.lst a) (.int k) = some (.fr (List.replicate k.toNat a).flatten) := by
  show (if decide (0 ≤ k ∧ k ≤ 1000 ∧ a.length ≤ 10) = true then _ else _) = _
  rw [if_pos (decide_eq_true ⟨h0, h1, h2⟩)]
section
variable {P : Program} {w : World} {K : Fg} {mg : Str → Option Value} {base : Heap} {f f2 : Addr} {fd fd2 : FuncData}
def g_p3M : FM := fun ds h Q _ => ∃ a xs c A, ds = [.raw (.ref a), .str A] ∧ h a = some (.lst xs) ∧ Alp A ∧ Src c xs ∧ c + 10000 ≤ 2 ^ 40 ∧ ∀ r xs' h', P3 A r → Src (c + 10000) xs' → Le (put h a (.lst xs')) h' → Q (.fz (toD r)) h'
theorem ok_wide (A : At K mg "_law_wide" ["_law_source_here", "_law_alphabet_here"] s_l_wide f fd) (m_max : mg "max" = none) (m_range : mg "range" = none) (m_tuple : mg "tuple" = none) (c_l_draw : Fn1 P w K mg base "_law_draw" 1 2 g_draw) (c_l_set : Fn1 P w K mg base "_law_set" 2 2 g_set) (c_l_row : Fn1 P w K mg base "_law_row" 3 3 g_row) : FnM P w K mg base "_law_wide" 4 2 g_p3M := by
  refine A.fnM (okM (k := 3) A.fn sc_l_wide (by decide) (fun cdv A outer s H E hr tk po => (mss_cons (ms_set 2 sc_l_wide.nd rfl (by first | exact Or.inl rfl | exact Or.inr rfl) (me_c1 c_l_draw (hr.mono (by decide)) (by rfl) (ma_cons (me_v 0) (ma_cons me_int ma_nil))))
      (mss_cons (ms_set 3 sc_l_wide.nd rfl (by first | exact Or.inl rfl | exact Or.inr rfl) (me_c1 c_l_draw (hr.mono (by decide)) (by rfl) (ma_cons (me_v 0) (ma_cons me_int ma_nil))))
      (mss_cons (ms_set 4 sc_l_wide.nd rfl (by first | exact Or.inl rfl | exact Or.inr rfl) (me_ix (me_lst (ma_cons me_non (ma_cons (me_add (me_max2 rfl (by rfl) m_max (ma_cons me_int (ma_cons (me_v 3) ma_nil))) (me_c1 c_l_draw (hr.mono (by decide)) (by rfl) (ma_cons (me_v 0) (ma_cons me_int ma_nil)))) ma_nil))) (me_c1 c_l_draw (hr.mono (by decide)) (by rfl) (ma_cons (me_v 0) (ma_cons me_int ma_nil))) (fun _ _ => rfl)))
      (mss_cons (ms_if (mt_eq hr (me_v 2) me_int) (mss_one (ms_ret (me_tup (ma_cons me_str (ma_cons (me_tup (ma_cons me_str (ma_cons (me_c1 c_l_set (hr.mono (by decide)) (by rfl) (ma_cons (me_v 0) (ma_cons (me_v 1) ma_nil))) (ma_cons (me_c1 c_l_row (hr.mono (by decide)) (by rfl) (ma_cons (me_v 0) (ma_cons (me_v 1) (ma_cons me_int ma_nil)))) ma_nil)))) (ma_cons (me_v 3) (ma_cons (me_v 4) ma_nil))))))) mss_nil)
      (mss_cons (ms_if (mt_eq hr (me_v 2) me_int) (mss_one (ms_ret (me_tup (ma_cons me_str (ma_cons (me_tup (ma_cons me_str (ma_cons (me_c1 c_l_set (hr.mono (by decide)) (by rfl) (ma_cons (me_v 0) (ma_cons (me_v 1) ma_nil))) (ma_cons me_int (ma_cons (me_add me_int (me_c1 c_l_draw (hr.mono (by decide)) (by rfl) (ma_cons (me_v 0) (ma_cons me_int ma_nil)))) ma_nil))))) (ma_cons (me_v 3) (ma_cons (me_v 4) ma_nil))))))) mss_nil)
      (mss_cons (ms_set 5 sc_l_wide.nd rfl (by first | exact Or.inl rfl | exact Or.inr rfl) (me_ix (me_lst (ma_cons me_str (ma_cons me_str ma_nil))) (me_c1 c_l_draw (hr.mono (by decide)) (by rfl) (ma_cons (me_v 0) (ma_cons me_int ma_nil))) (fun _ _ => rfl)))
      (mss_cons (ms_if (mt_eq hr (me_v 2) me_int) (mss_one (ms_ret (me_add (me_tup (ma_cons (me_v 5) ma_nil)) (me_tuple (by rfl) m_tuple (ma_cons (me_lc (own := [("_law_k", 6)]) rfl sc_l_wide.nd (mi_range1 (by rfl) m_range (ma_cons (me_add me_int (me_c1 c_l_draw (hr.mono (by decide)) (by rfl) (ma_cons (me_v 0) (ma_cons me_int ma_nil)))) ma_nil)) (blkOk_by (N := N_l_wide) (sc := defScope s_l_wide) (own := [("_law_k", 6)]) (by decide +kernel)) (fun _ _ _ _ _ => (mg_n 6 sc_l_wide.nd rfl (by first | exact Or.inl rfl | exact Or.inr rfl))) (fun _ _ _ _ _ => mts_nil) (fun _ _ _ _ _ => (me_c1 c_l_row (hr.mono (by decide)) (by rfl) (ma_cons (me_v 0) (ma_cons (me_v 1) (ma_cons me_int ma_nil)))))) ma_nil))))) mss_nil)
      (mss_cons (ms_set 7 sc_l_wide.nd rfl (by first | exact Or.inl rfl | exact Or.inr rfl) (me_own (me_mul (me_lst (ma_cons (me_tup (ma_cons me_str ma_nil)) ma_nil)) (me_c1 c_l_draw (hr.mono (by decide)) (by rfl) (ma_cons (me_v 0) (ma_cons me_int ma_nil))))))
      (mss_cons (ms_for po rfl (mi_range1 (by rfl) m_range (ma_cons me_int ma_nil)) (mg_n 6 sc_l_wide.nd rfl (by first | exact Or.inl rfl | exact Or.inr rfl)) (mss_cons (ms_set 8 sc_l_wide.nd rfl (by first | exact Or.inl rfl | exact Or.inr rfl) (me_c1 c_l_row (hr.mono (by decide)) (by rfl) (ma_cons (me_v 0) (ma_cons (me_v 1) (ma_cons (me_add me_int (me_c1 c_l_draw (hr.mono (by decide)) (by rfl) (ma_cons (me_v 0) (ma_cons me_int ma_nil)))) ma_nil)))))
      (mss_one (ms_expr (me_app (me_v 7) (ma_cons (me_ix (me_lst (ma_cons (me_v 8) (ma_cons (me_tup (ma_cons me_str (ma_cons (me_v 8) ma_nil))) (ma_cons (me_tup (ma_cons me_str ma_nil)) ma_nil)))) (me_c1 c_l_draw (hr.mono (by decide)) (by rfl) (ma_cons (me_v 0) (ma_cons me_int ma_nil))) (fun _ _ => rfl)) ma_nil))))))
      (mss_one (ms_fzs 7 (ms_ret (me_add (me_tup (ma_cons (me_v 5) ma_nil)) (me_tuple (by rfl) m_tuple (ma_cons (me_v 7) ma_nil)))))))))))))))) ?_)
  rintro ds h Q E hl ⟨a, xs, c, A, rfl, ha, hA, hS, hc, q⟩
  walk_at "m"
  refine ⟨a, _, _, rfl, ha, c, _, rfl, hS, by omega, by decide, by decide, fun way xs1 w0 w1 hS1 => ?_⟩
  walk_at "m"
  refine ⟨a, _, _, rfl, put_same, c + 1, _, rfl, hS1, by omega, by decide, by decide, fun lo xs2 lo0 lo1 hS2 => ?_⟩
  walk_at "m"
  refine ⟨a, _, _, rfl, put_same, c + 2, _, rfl, hS2, by omega, by decide, by decide, fun j xs3 j0 j1 hS3 => ?_⟩
  walk_at "m"
  refine ⟨a, _, _, rfl, put_same, c + 3, _, rfl, hS3, by omega, by decide, by decide, fun i xs4 i0 i1 hS4 => ?_⟩
  walk_at "m"
  obtain ⟨d, hd, hm⟩ := atI_ok (xs := [D.non, D.int ((if lo > 1 then lo else 1) + j)]) (i := i) i0 (by show i < 2; omega)
  refine ⟨_, ix_lst hd, ?_⟩
  obtain ⟨hi, rfl, hh⟩ : ∃ hi, d = hiD hi ∧ hiOk lo hi = true := by
    simp only [List.mem_cons, List.not_mem_nil, or_false] at hm
    rcases hm with rfl | rfl
    · exact ⟨none, rfl, rfl⟩
    · refine ⟨some ((if lo > 1 then lo else 1) + j), rfl, ?_⟩
      rw [hiOk, decide_eq_true (by split <;> omega), decide_eq_true (by split <;> omega)]; rfl
  simp only [put_put]
  walk_at "m"
  refine ifB (fun h0 => ?_) (fun h0 => ?_)
  · walk_at "m"
    refine ⟨a, _, _, rfl, put_same, c + 4, A, rfl, hA, hS4, by omega, fun s xs5 a1 a2 hS5 => ?_⟩
    walk_at "m"
    refine ⟨a, _, _, rfl, put_same, c + 11, A, 2, rfl, hA, hS5, by decide, by decide, by omega, fun ss xs6 g1 g2 hS6 => ?_⟩
    simp only [put_put]
    walk_at "m"
    exact q (.again (.any [.set s, .row (ss.map .set)]) lo hi) xs6 _ (any_again (Leaf.set a1 a2) g1 g2 lo0 (by omega) hh) (hS6.mono (by omega)) fun _ _ z => z
  walk_at "m"
  refine ifB (fun h0 => ?_) (fun h0 => ?_)
  · walk_at "m"
    refine ⟨a, _, _, rfl, put_same, c + 4, A, rfl, hA, hS4, by omega, fun s xs5 a1 a2 hS5 => ?_⟩
    walk_at "m"
    refine ⟨a, _, _, rfl, put_same, c + 11, _, rfl, hS5, by omega, by decide, by decide, fun y xs6 y0 y1 hS6 => ?_⟩
    simp only [put_put]
    walk_at "m"
    exact q (.again (.again (.set s) 2 (some (2 + y))) lo hi) xs6 _ (two_again (Leaf.set a1 a2) lo0 (by omega) hh (by omega) (by omega)) (hS6.mono (by omega)) fun _ _ z => z
  walk_at "m"
  refine ⟨a, _, _, rfl, put_same, c + 4, _, rfl, hS4, by omega, by decide, by decide, fun y xs5 y0 y1 hS5 => ?_⟩
  walk_at "m"
  simp only [put_put]
  obtain ⟨d, hd, hm⟩ := atI_ok (xs := [D.str "any", D.str "all"]) (i := y) y0 (by show y < 2; omega)
  refine ⟨_, ix_lst hd, ?_⟩
  have fin : ∀ (ps : List Rx) (xs' : List D) (h' : Hd), (∀ p ∈ ps, Pc A p) → ps.length ≤ 6 → Src (c + 10000) xs' → Le (put h a (.lst xs')) h' → ∃ e, addD (.tup [d]) (.tup (ps.map toD)) = some e ∧ Q e h' := fun ps xs' h' h1 h2 h3 h4 => by
    refine ⟨_, add_tup (by rw [List.length_map]; simp only [List.length_cons, List.length_nil]; omega), ?_⟩
    simp only [List.mem_cons, List.not_mem_nil, or_false] at hm
    rw [← toDL_map]
    rcases hm with rfl | rfl
    · exact q (.any ps) xs' h' (P3.any h1 h2) h3 h4
    · exact q (.all ps) xs' h' (P3.all h1 h2) h3 h4
  clear hd
  walk_at "m"
  refine ifB (fun h0 => ?_) (fun h0 => ?_)
  · walk_at "m"
    refine ⟨a, _, _, rfl, put_same, c + 5, _, rfl, hS5, by omega, by decide, by decide, fun y xs6 y0 y1 hS6 => ?_⟩
    simp only [put_put]
    walk_at "m"
    refine ⟨⟨by omega, by omega⟩, ?_⟩
    refine lcM_inv (fun ds h' acc => ∃ (rs : List Rx) (xs' : List D), acc = rs.map toD ∧ h' = put h a (.lst xs') ∧ Src (c + 6 + 700 * rs.length) xs' ∧ (∀ r ∈ rs, Pc A r) ∧ rs.length + ds.length = (4 + y).toNat) _ _ _ ⟨[], xs6, rfl, rfl, hS6, (fun _ z => nomatch z), by rw [rangeD_map, List.length_map, List.length_range]; simp⟩ ?_ ?_
    · rintro d es' h' acc R1 ⟨rs, xs', rfl, rfl, y1, y2, y3⟩ hR1
      rw [List.length_cons] at y3
      walk_at "m"
      refine ⟨a, _, _, rfl, put_same, _, A, 2, rfl, hA, y1, by decide, by decide, by omega, fun ss xs3 g1 g2 hS3 => ?_⟩
      refine ⟨by rw [List.length_map]; omega, ?_⟩
      rw [put_put]
      refine hR1 _ _ ⟨rs ++ [.row (ss.map .set)], xs3, by rw [List.map_append]; rfl, rfl, hS3.mono (by rw [List.length_append, List.length_singleton]; omega), fun r1 h => ?_, by rw [List.length_append, List.length_singleton]; omega⟩
      rcases List.mem_append.mp h with h | h
      · exact y2 r1 h
      · rw [List.mem_singleton.mp h]; exact Pc.row g1 (by rw [g2]; decide)
    · rintro h' acc ⟨rs, xs', rfl, rfl, y1, y2, y3⟩
      rw [List.length_nil] at y3
      refine ⟨_, rfl, ?_⟩
      exact fin rs xs' _ y2 (by omega) (y1.mono (by omega)) fun _ _ z => z
  walk_at "m"
  refine ⟨a, _, _, rfl, put_same, c + 5, _, rfl, hS5, by omega, by decide, by decide, fun y xs6 y0 y1 hS6 => ?_⟩
  simp only [put_put]
  walk_at "m"
  refine ⟨_, mul_lst y0 (by omega) (by decide), _, rfl, fun b hb => ?_⟩
  have hba : b ≠ a := fun z => by rw [z, put_same] at hb; cases hb
  walk_at "m"
  refine loopM_inv (fun ds ρ h' => ∃ (rs : List Rx) (xs' : List D) (x6 x8 : Option D), ρ = [some (.raw (.ref a)), some (.str A), some (.int way), some (.int lo), some (hiD hi), some d, x6, some (.raw (.ref b)), x8] ∧ h' = put (put h a (.lst xs')) b (.lst (rs.map toD)) ∧ Src (c + 6 + 1000 * (4 - ds.length)) xs' ∧ (∀ r ∈ rs, Pc A r) ∧ rs.length + ds.length ≤ 6 ∧ ds.length ≤ 4) _ _ _ ⟨List.replicate y.toNat (.all []), xs6, none, none, rfl, ?_, hS6.mono (by omega), fun r hr => by rw [List.eq_of_mem_replicate hr]; exact Pc.all0, by rw [List.length_replicate]; show _ + 4 ≤ 6; omega, Nat.le_refl 4⟩ ?_ ?_
  · congr 2
    rw [List.map_replicate]
    generalize y.toNat = n
    induction n with
    | zero => rfl
    | succ n ih => rw [List.replicate_succ, List.replicate_succ, List.flatten_cons, ih]; rfl
  · rintro d' es ρ h' R2 ⟨rs, xs', x6, x8, rfl, rfl, z1, z2, z3, z4⟩ hR2
    rw [List.length_cons] at z1 z3 z4
    walk_at "m"
    refine ⟨a, _, _, rfl, (by rw [put_ne hba.symm]; exact put_same), _, _, rfl, z1, by omega, by decide, by decide, fun i xs3 i0 i1 hS3 => ?_⟩
    walk_at "m"
    refine ⟨a, _, _, rfl, put_same, _, A, 1 + i, rfl, hA, hS3, by omega, by omega, by omega, fun ss xs4 g1 g2 hS4 => ?_⟩
    have g3 : ss.length ≤ 2 := by omega
    dsimp only
    rw [put_put, put_comm hba, put_put]
    walk_at "m"
    refine ⟨b, _, rfl, put_same, ?_⟩
    walk_at "m"
    refine ⟨a, _, _, rfl, (by rw [put_ne hba.symm]; exact put_same), _, _, rfl, hS4, by omega, by decide, by decide, fun i2 xs5 i0 i1 hS5 => ?_⟩
    dsimp only
    rw [put_comm hba, put_put]
    walk_at "m"
    obtain ⟨p, hp1, hp2⟩ : ∃ p, atI [toD (.row (ss.map .set)), D.tup [.str "not", toD (.row (ss.map .set))], D.tup [.str "all"]] i2 = some (toD p) ∧ Pc A p := by
      obtain ⟨e, he, hm⟩ := atI_ok (xs := [Rx.row (ss.map .set), .no (.row (ss.map .set)), .all []]) (i := i2) i0 (by show i2 < 3; omega)
      refine ⟨e, ?_, ?_⟩
      · rw [atI_get i0 (by show i2 < 3; omega)] at he ⊢
        have : ([Rx.row (ss.map .set), .no (.row (ss.map .set)), .all []].map toD)[i2.toNat]? = some (toD e) := by rw [List.getElem?_map, he]; rfl
        exact this
      · simp only [List.mem_cons, List.not_mem_nil, or_false] at hm
        rcases hm with rfl | rfl | rfl
        · exact Pc.row g1 g3
        · exact Pc.none g1 g3
        · exact Pc.all0
    refine ⟨_, ix_lst hp1, ?_⟩
    refine ⟨_, _, put_same, rfl, by rw [List.length_map]; omega, ?_⟩
    rw [put_put]
    refine hR2 _ _ ⟨rs ++ [p], xs5, some d', some (toD (.row (ss.map .set))), rfl, by rw [List.map_append]; rfl, hS5.mono (by omega), fun r hr => ?_, by rw [List.length_append, List.length_singleton]; omega, by omega⟩
    rcases List.mem_append.mp hr with hr | hr
    · exact z2 r hr
    · rw [List.mem_singleton.mp hr]; exact hp2
  · rintro ρ h' ⟨rs, xs', x6, x8, rfl, rfl, z1, z2, z3, z4⟩
    refine ⟨b, _, rfl, put_same, ?_⟩
    have hb' : put h a (.lst xs') b = none := by
      rw [put_ne hba]
      rw [put_ne hba] at hb
      exact hb
    rw [off_put hb']
    walk_at "m"
    exact fin rs xs' _ z2 z3 (z1.mono (by simp only [List.length_nil]; omega)) fun _ _ z => z
end
end Cut
namespace Cut
open PySem L2 DL ML
theorem wF {a b : Str} {X Y : Prop} (h : eqS a b = false) (y : Y) : if eqB (.str a) (.str b) = true then X else Y := by
  rw [if_neg (fun z => by rw [show eqB (.str a) (.str b) = eqS a b from rfl, h] at z; cases z)]; exact y
theorem wT {a b : Str} {X Y : Prop} (h : eqS a b = true) (x : X) : if eqB (.str a) (.str b) = true then X else Y := by
  rw [if_pos (show eqB (.str a) (.str b) = true from h)]; exact x
theorem cutD_from (xs : List D) (k : Nat) : cutD xs (some (k : Int)) none = xs.drop k := by
  unfold cutD
  rw [HT.sIx_nat, show HT.sIx xs.length xs.length none = xs.length from rfl]
  rcases Nat.le_total k xs.length with h | h
  · rw [Nat.min_eq_left h, List.take_of_length_le (by rw [List.length_drop]; omega)]
  · rw [Nat.min_eq_right h, List.drop_length, List.drop_of_length_le h]; simp
local macro_rules | `(tactic| walk_at "m") => `(tactic| repeat (first | with_reducible refine ⟨_, rfl, ?_⟩ | refine ⟨_, rfl, ?_⟩ | refine ⟨rfl, ?_⟩ | refine ⟨_, _, rfl, rfl, ?_⟩ | refine ⟨_, _, rfl, ?_⟩ | refine iteT ?_ | refine iteF ?_ | refine ⟨⟨_, rfl⟩, ?_⟩ | refine ⟨Nat.le_of_ble_eq_true rfl, ?_⟩ | refine ⟨(by decide), ?_⟩ | refine ⟨_, ix_t0 _ _, ?_⟩ | refine ⟨_, ix_l0 _ _, ?_⟩ | refine wF (by rw [eqS_eq]; decide +kernel) ?_ | refine wT (by rw [eqS_eq]; decide +kernel) ?_))
theorem htL_mem {p : Rx} : ∀ {ps : List Rx}, p ∈ ps → ht p ≤ htL ps
  | q :: ps, h => by
    rw [htL]
    rcases List.mem_cons.mp h with e | h
    · rw [e]; omega
    · have := htL_mem h; omega
section
variable {P : Program} {w : World} {K : Fg} {mg : Str → Option Value} {base : Heap} {f f2 f3 : Addr} {fd fd2 fd3 : FuncData}
theorem ok_cnt (m : Nat) (A : At K mg "_law_count_matched" ["_law_part", "_law_low", "_law_high", "_law_text_here", "_law_known"] s_l_count_matched f fd) (m_len : mg "len" = none) (m_range : mg "range" = none) (m_max : mg "max" = none) (c_l_matched : FnM P w K mg base "_law_matched" (2 * m + 1) 3 (g_mtd w m)) : ∀ j, FnM P w K mg base "_law_count_matched" (2 * m + 1 + j) 5 (g_cnt w m j)
  | 0 => A.noneM fun ds h Q E ⟨_, _, _, _, _, _, _, _, _, _, hj, _⟩ => by omega
  | j + 1 => ok_cnt1 m j A m_len m_range m_max c_l_matched (ok_cnt m A m_len m_range m_max c_l_matched j)
def g_cntP (w : World) (n : Nat) : FM := fun ds h Q _ => ∃ a A R p lo hi t, ds = [toD p, .int ((lo : Nat) : Int), hiN hi, .str t, .raw (.ref a)] ∧ p ∈ sub R ∧ ht p + 6 ≤ n ∧ t.length ≤ 10 ∧ (∀ c ∈ t.cps.toList, c ∈ A) ∧ (∀ x, hi = some x → lo ≤ x) ∧ MmO w A R h a (Q (.fz (.bl (tru (Cm (Lg p) lo hi t.cps.toList)))))
theorem ok_bp (n : Nat) (A : At K mg "_law_by_parts" ["_law_pattern_here", "_law_text_here", "_law_known"] s_l_by_parts f fd) (m_len : mg "len" = none) (m_range : mg "range" = none) (m_any : mg "any" = none) (m_all : mg "all" = none) (c_l_matched : FnM P w K mg base "_law_matched" (2 * n + 1) 3 (g_mtd w n)) (c_l_count_matched : FnM P w K mg base "_law_count_matched" (2 * n + 1) 5 (g_cntP w n)) : FnM P w K mg base "_law_by_parts" (2 * (n + 1)) 3 (g_mtd w (n + 1)) := by
  refine A.fnM (okM (k := 2 * n + 1) A.fn sc_l_by_parts (by decide) (fun cdv A outer s H E hr tk po => (mss_cons (ms_par (i := 3) (j := 4) rfl sc_l_by_parts.nd rfl rfl (by decide) rfl rfl (ma_cons (me_ix (me_v 0) me_int (fun _ _ => rfl)) (ma_cons (me_sl (me_v 0) (mo_some me_int) mo_none) ma_nil)) (by rfl))
      (mss_cons (ms_if (mt_eq hr (me_v 3) me_str) (mss_one (ms_ret (me_and (me_eq hr (me_len (by rfl) m_len (ma_cons (me_v 1) ma_nil)) me_int) (me_one (me_in (me_v 1) (me_ix (me_v 4) me_int (fun _ _ => rfl))))))) mss_nil)
      (mss_cons (ms_if (mt_eq hr (me_v 3) me_str) (mss_one (ms_ret (me_not (me_cM c_l_matched tk (hr.mono (by omega)) (by rfl) (ma_cons (me_ix (me_v 4) me_int (fun _ _ => rfl)) (ma_cons (me_v 1) (ma_cons (me_v 2) ma_nil))))))) mss_nil)
      (mss_cons (ms_if (mt_eq hr (me_v 3) me_str) (mss_one (ms_ret (me_any rfl (by rfl) m_any (ma_cons (me_lc (own := [("_law_part", 5)]) rfl sc_l_by_parts.nd (mi_seq (me_v 4)) (blkOk_by (N := N_l_by_parts) (sc := defScope s_l_by_parts) (own := [("_law_part", 5)]) (by decide +kernel)) (fun _ _ _ _ _ => (mg_n 5 sc_l_by_parts.nd rfl (by first | exact Or.inl rfl | exact Or.inr rfl))) (fun _ _ _ _ _ => mts_nil) (fun _ _ _ _ _ => (me_cM c_l_matched takes0 (hr.mono (by omega)) (by rfl) (ma_cons (me_v 5) (ma_cons (me_v 1) (ma_cons (me_v 2) ma_nil)))))) ma_nil)))) mss_nil)
      (mss_cons (ms_if (mt_eq hr (me_v 3) me_str) (mss_one (ms_ret (me_all rfl (by rfl) m_all (ma_cons (me_lc (own := [("_law_part", 5)]) rfl sc_l_by_parts.nd (mi_seq (me_v 4)) (blkOk_by (N := N_l_by_parts) (sc := defScope s_l_by_parts) (own := [("_law_part", 5)]) (by decide +kernel)) (fun _ _ _ _ _ => (mg_n 5 sc_l_by_parts.nd rfl (by first | exact Or.inl rfl | exact Or.inr rfl))) (fun _ _ _ _ _ => mts_nil) (fun _ _ _ _ _ => (me_cM c_l_matched takes0 (hr.mono (by omega)) (by rfl) (ma_cons (me_v 5) (ma_cons (me_v 1) (ma_cons (me_v 2) ma_nil)))))) ma_nil)))) mss_nil)
      (mss_cons (ms_if (mt_eq hr (me_v 3) me_str) (mss_one (ms_ret (me_cM c_l_count_matched tk (hr.mono (by omega)) (by rfl) (ma_cons (me_ix (me_v 4) me_int (fun _ _ => rfl)) (ma_cons (me_ix (me_v 4) me_int (fun _ _ => rfl)) (ma_cons (me_ix (me_v 4) me_int (fun _ _ => rfl)) (ma_cons (me_v 1) (ma_cons (me_v 2) ma_nil)))))))) mss_nil)
      (mss_cons (ms_if (mt_eq hr (me_v 4) (me_tup ma_nil)) (mss_one (ms_ret (me_eq hr (me_v 1) me_str))) mss_nil)
      (mss_cons (ms_for po rfl (mi_range1 (by rfl) m_range (ma_cons (me_add (me_len (by rfl) m_len (ma_cons (me_v 1) ma_nil)) me_int) ma_nil)) (mg_n 6 sc_l_by_parts.nd rfl (by first | exact Or.inl rfl | exact Or.inr rfl)) (mss_one (ms_if (MW.mt (mw_and (mt_val (me_cM c_l_matched tk (hr.mono (by omega)) (by rfl) (ma_cons (me_ix (me_v 4) me_int (fun _ _ => rfl)) (ma_cons (me_sl (me_v 1) mo_none (mo_some (me_v 6))) (ma_cons (me_v 2) ma_nil))))) (mw_and1 (mt_val (me_cM c_l_matched tk (hr.mono (by omega)) (by rfl) (ma_cons (me_add (me_tup (ma_cons me_str ma_nil)) (me_sl (me_v 4) (mo_some me_int) mo_none)) (ma_cons (me_sl (me_v 1) (mo_some (me_v 6)) mo_none) (ma_cons (me_v 2) ma_nil)))))))) (mss_one (ms_ret me_bl)) mss_nil)))
      (mss_one (ms_ret me_bl))))))))))) ?_)
  rintro ds h Q E hl ⟨a, A, R, r, t, rfl, hr, hh, hT, hA, o, ⟨kvs, e, m⟩, q⟩
  obtain ⟨d6, hok⟩ := o.ok r hr
  have hnx := sub_nxt R r hr
  have q0 : Q (.fz (.bl (tru (Lg r t.cps.toList)))) h := by
    have z := q kvs m
    rw [put_self e] at z
    exact z
  cases r with
  | set s =>
    by_cases h1 : t.length = 1
    · obtain ⟨c, rfl⟩ : ∃ c, t = ⟨#[c]⟩ := by
        have hl := len_l t
        match hc : t.cps.toList, (by rw [hl] at h1; exact h1 : t.cps.toList.length = 1) with
        | [c], _ => exact ⟨c, str_ext hc⟩
      have z : tru (Lg (.set s) [c]) = decide (c ∈ s.cps.toList) := by
        rw [Lg, ← tru_dec]
        exact tru_congr ⟨fun ⟨x, e1, e2⟩ => by injection e1 with e1; rw [e1]; exact e2, fun h => ⟨c, rfl, h⟩⟩
      walk_at "m"
      have q1 : Q (.fz (.bl (decide (c ∈ s.cps.toList)))) h := by rw [← z]; exact q0
      exact q1
    · have z : tru (Lg (.set s) t.cps.toList) = false := by
        cases hz : tru (Lg (.set s) t.cps.toList) with
        | false => rfl
        | true =>
          have := tru_iff.mp hz
          rw [Lg] at this
          obtain ⟨c, e1, _⟩ := this
          exact (h1 (by rw [len_l, e1]; rfl)).elim
      rw [z] at q0
      walk_at "m"
      refine ⟨_, len_st (by omega), ?_⟩
      walk_at "m"
      refine ifB (fun hb => absurd (of_decide_eq_true hb) (by omega)) (fun hb => ?_)
      first
        | exact q0
        | (show Q (.fz (.bl (decide ((t.length : Int) = 1)))) h; rw [show (decide ((t.length : Int) = 1)) = false from hb]; exact q0)
  | no p =>
    rw [ht] at hh
    walk_at "m"
    refine ⟨a, A, R, p, t, rfl, hnx p (List.mem_singleton.mpr rfl), by omega, hT, hA, o, ⟨kvs, e, m⟩, fun kvs' m' => ?_⟩
    walk_at "m"
    have z := q kvs' m'
    rw [Lg, ← tru_not] at z
    exact z
  | any ps =>
    rw [ht] at hh
    walk_at "m"
    rw [show cutD (D.str (Str.ofString "any") :: toDL ps) (some 1) none = toDL ps from cutD_from _ 1]
    refine lcM_inv (fun ds h' acc => ∃ us vs kvs', ps = us ++ vs ∧ ds = toDL vs ∧ acc = us.map (fun p => D.bl (tru (Lg p t.cps.toList))) ∧ h' = put h a (.dcn w kvs') ∧ Mem A R kvs') _ _ _ ⟨[], ps, kvs, rfl, rfl, rfl, (put_self e).symm, m⟩ ?_ ?_
    · rintro d es h' acc R1 ⟨us, vs, kvs', rfl, e1, rfl, rfl, m'⟩ hR1
      cases vs with
      | nil => cases e1
      | cons p vs =>
        rw [toDL] at e1
        injection e1 with e2 e3
        subst e2 e3
        walk_at "m"
        refine ⟨a, A, R, p, t, rfl, hnx p (by show p ∈ us ++ p :: vs; simp), by have := htL_mem (ps := us ++ p :: vs) (p := p) (by simp); omega, hT, hA, o, ⟨kvs', put_same, m'⟩, fun kvs2 m2 => ?_⟩
        rw [put_put]
        refine ⟨by rw [okR, Bool.and_eq_true, decide_eq_true_eq] at hok; rw [List.length_map]; have := hok.1; rw [List.length_append] at this; omega, ?_⟩
        exact hR1 _ _ ⟨us ++ [p], vs, kvs2, by simp, rfl, by rw [List.map_append]; rfl, rfl, m2⟩
    · rintro h' acc ⟨us, vs, kvs', rfl, e1, rfl, rfl, m'⟩
      cases vs with
      | cons p vs => rw [toDL] at e1; cases e1
      | nil =>
        refine ⟨_, any_map (fun p => tru (Lg p t.cps.toList)) us, ?_⟩
        have z := q kvs' m'
        rw [List.append_nil, Lg] at z
        rw [tru_any]
        exact z
  | all ps =>
    rw [ht] at hh
    walk_at "m"
    rw [show cutD (D.str (Str.ofString "all") :: toDL ps) (some 1) none = toDL ps from cutD_from _ 1]
    refine lcM_inv (fun ds h' acc => ∃ us vs kvs', ps = us ++ vs ∧ ds = toDL vs ∧ acc = us.map (fun p => D.bl (tru (Lg p t.cps.toList))) ∧ h' = put h a (.dcn w kvs') ∧ Mem A R kvs') _ _ _ ⟨[], ps, kvs, rfl, rfl, rfl, (put_self e).symm, m⟩ ?_ ?_
    · rintro d es h' acc R1 ⟨us, vs, kvs', rfl, e1, rfl, rfl, m'⟩ hR1
      cases vs with
      | nil => cases e1
      | cons p vs =>
        rw [toDL] at e1
        injection e1 with e2 e3
        subst e2 e3
        walk_at "m"
        refine ⟨a, A, R, p, t, rfl, hnx p (by show p ∈ us ++ p :: vs; simp), by have := htL_mem (ps := us ++ p :: vs) (p := p) (by simp); omega, hT, hA, o, ⟨kvs', put_same, m'⟩, fun kvs2 m2 => ?_⟩
        rw [put_put]
        refine ⟨by rw [okR, Bool.and_eq_true, decide_eq_true_eq] at hok; rw [List.length_map]; have := hok.1; rw [List.length_append] at this; omega, ?_⟩
        exact hR1 _ _ ⟨us ++ [p], vs, kvs2, by simp, rfl, by rw [List.map_append]; rfl, rfl, m2⟩
    · rintro h' acc ⟨us, vs, kvs', rfl, e1, rfl, rfl, m'⟩
      cases vs with
      | cons p vs => rw [toDL] at e1; cases e1
      | nil =>
        refine ⟨_, all_map (fun p => tru (Lg p t.cps.toList)) us, ?_⟩
        have z := q kvs' m'
        rw [List.append_nil, Lg] at z
        rw [tru_all]
        exact z
  | row ps =>
    rw [ht] at hh
    cases ps with
    | nil =>
      walk_at "m"
      have z : eqB (.str t) (.str (Str.ofString "")) = tru (Lg (.row []) t.cps.toList) := by
        show eqS t _ = _
        rw [eqS_eq, ← tru_dec]
        refine tru_congr ⟨fun z => by rw [z, Lg, LgR]; rfl, fun z => ?_⟩
        rw [Lg, LgR] at z
        exact str_ext z
      rw [← z] at q0
      exact q0
    | cons p qs =>
      rw [htR] at hh
      have hTl := len_l t
      have hne : eqD (.tup (toDL (p :: qs))) (.tup []) = some (.fz (.bl false)) := by
        obtain ⟨S, hS, hst⟩ := o.st
        have hz := hst _ hr
        rw [stR] at hz
        have h3 := lay_toDL hS _ hz
        have e : shapedD (.tup (toDL (p :: qs))) = true := by
          unfold shapedD SeqAt.shaped
          have z1 : (D.tup (toDL (p :: qs))).okP = true := h3.2.1
          have z2 : (D.tup (toDL (p :: qs))).py.canLay0 = true := h3.1
          have z3 : (D.tup (toDL (p :: qs))).py.depth ≤ 64 := by
            have := h3.2.2
            rw [rdep] at d6
            show PyData.depthAll (pyL (toDL (p :: qs))) + 1 ≤ 64
            omega
          rw [z1, z2, decide_eq_true z3]
          rfl
        unfold eqD
        rw [e, show shapedD (.tup []) = true from by decide, Bool.and_self, Bool.or_true, if_pos rfl, eqB_eq]
        rfl
      have fin : ∀ b kvs', Mem A R kvs' → (b = true ↔ Lg (.row (p :: qs)) t.cps.toList) → Q (.fz (.bl b)) (put h a (.dcn w kvs')) := fun b kvs' m' hb => by
        have : b = tru (Lg (.row (p :: qs)) t.cps.toList) := Bool.eq_iff_iff.mpr (hb.trans tru_iff.symm)
        rw [this]; exact q kvs' m'
      have hsp : Lg (.row (p :: qs)) t.cps.toList ↔ ∃ k, k ≤ t.cps.toList.length ∧ Lg p (t.cps.toList.take k) ∧ Lg (.row qs) (t.cps.toList.drop k) := by
        rw [Lg, LgR, Lg]; exact Lc_split
      walk_at "m"
      rw [show cutD (D.str (Str.ofString "row") :: toDL (p :: qs)) (some 1) none = toDL (p :: qs) from cutD_from _ 1]
      walk_at "m"
      refine ⟨_, hne, ?_⟩
      walk_at "m"
      refine ⟨_, len_st (by omega), ?_⟩
      walk_at "m"
      refine ⟨⟨by omega, by omega⟩, ?_⟩
      have hcut : ∀ k : Nat, slD (.tup (toDL (p :: qs))) (some 1) none = some (.fz (.tup (toDL qs))) := fun _ => by
        show (some (Res.fz (.tup (cutD (toDL (p :: qs)) (some 1) none))) : Option Res) = _
        rw [show cutD (toDL (p :: qs)) (some 1) none = toDL qs from cutD_from _ 1]
      rw [show ((t.length : Int) + 1).toNat = t.length + 1 by omega]
      refine loopM_inv (fun ds ρ h' => ∃ k x6 kvs', ds = rangeD ((k : Nat) : Int) (t.length + 1 - k) ∧ k ≤ t.length + 1 ∧ ρ = [some (toD (.row (p :: qs))), some (.str t), some (.raw (.ref a)), some (.str "row"), some (.tup (toDL (p :: qs))), none, x6] ∧ h' = put h a (.dcn w kvs') ∧ Mem A R kvs' ∧ (∀ i, i < k → ¬ (Lg p (t.cps.toList.take i) ∧ Lg (.row qs) (t.cps.toList.drop i)))) _ _ _ ⟨0, none, kvs, rfl, by omega, rfl, (put_self e).symm, m, fun i h2 => by omega⟩ ?_ ?_
      rotate_left
      · rintro ρ h' ⟨k, x6, kvs', ed, k2, rfl, rfl, m', nf⟩
        have hk : t.length + 1 - k = 0 := by
          have := congrArg List.length ed
          rw [rangeD_map, List.length_map, List.length_range] at this
          exact this.symm
        walk_at "m"
        refine fin false kvs' m' ⟨(fun z => by cases z), fun z => ?_⟩
        obtain ⟨i, i2, i3, i4⟩ := hsp.mp z
        exact (nf i (by omega) ⟨i3, i4⟩).elim
      rintro d es ρ h' R2 ⟨k, x6, kvs', ed, k2, rfl, rfl, m', nf⟩ hR2
      cases hn : t.length + 1 - k with
      | zero => rw [hn] at ed; cases ed
      | succ n' =>
      rw [hn, rangeD_succ] at ed
      injection ed with e1 e2
      subst e1 e2
      have nx : ∀ kvs3, Mem A R kvs3 → ¬ (Lg p (t.cps.toList.take k) ∧ Lg (.row qs) (t.cps.toList.drop k)) → ∀ x6, R2 [some (toD (.row (p :: qs))), some (.str t), some (.raw (.ref a)), some (.str "row"), some (.tup (toDL (p :: qs))), none, x6] (put h a (.dcn w kvs3)) := fun kvs3 m3 no x6 => by
        refine hR2 _ _ ⟨k + 1, x6, kvs3, by rw [show t.length + 1 - (k + 1) = n' by omega]; rfl, by omega, rfl, rfl, m3, fun i i2 => ?_⟩
        by_cases hi2 : i = k
        · rw [hi2]; exact no
        · exact nf i (by omega)
      walk_at "m"
      refine ⟨_, (show slD (.str t) none (some ((k : Nat) : Int)) = some (.fz (.str (ofL (t.cps.toList.take k)))) by rw [sl_str' (by omega), cut_to]), ?_⟩
      walk_at "m"
      refine ⟨a, A, R, p, ofL (t.cps.toList.take k), rfl, hnx p (List.mem_cons_self ..), by omega, by rw [len_l, ofL_l, List.length_take]; omega, fun c hc => hA c (List.mem_of_mem_take (by rw [ofL_l] at hc; exact hc)), o, ⟨kvs', put_same, m'⟩, fun kvs2 m2 => ?_⟩
      rw [ofL_l, put_put]
      walk_at "m"
      refine ifB (fun hb => ?_) (fun hb => ?_)
      rotate_left
      · walk_at "m"
        exact nx kvs2 m2 (fun z => by have := tru_iff.mpr z.1; rw [hb] at this; cases this) _
      walk_at "m"
      rw [show cutD (toDL (p :: qs)) (some 1) none = toDL qs from cutD_from _ 1]
      refine ⟨_, add_tup (by rw [toDL_len]; rw [okR, Bool.and_eq_true, decide_eq_true_eq] at hok; have := hok.1; simp only [List.length_cons, List.length_nil] at this ⊢; omega), ?_⟩
      walk_at "m"
      refine ⟨_, (show slD (.str t) (some ((k : Nat) : Int)) none = some (.fz (.str (ofL (t.cps.toList.drop k)))) by rw [sl_str' (by omega), cut_from]), ?_⟩
      walk_at "m"
      refine ⟨a, A, R, .row qs, ofL (t.cps.toList.drop k), rfl, hnx _ (List.mem_cons_of_mem _ (List.mem_cons_self ..)), by rw [ht]; omega, by rw [len_l, ofL_l, List.length_drop]; omega, fun c hc => hA c (List.mem_of_mem_drop (by rw [ofL_l] at hc; exact hc)), o, ⟨kvs2, put_same, m2⟩, fun kvs3 m3 => ?_⟩
      rw [ofL_l, put_put]
      walk_at "m"
      refine ifB (fun hb2 => ?_) (fun hb2 => ?_)
      · walk_at "m"
        exact fin true kvs3 m3 ⟨fun _ => hsp.mpr ⟨k, by omega, tru_iff.mp hb, tru_iff.mp hb2⟩, fun _ => rfl⟩
      · walk_at "m"
        exact nx kvs3 m3 (fun z => by have := tru_iff.mpr z.2; rw [hb2] at this; cases this) _
  | again p lo hi =>
    rw [ht] at hh
    rw [okR] at hok
    simp only [Bool.and_eq_true, decide_eq_true_eq] at hok
    obtain ⟨⟨⟨_, lo0⟩, lo4⟩, hhi⟩ := hok
    walk_at "m"
    refine ⟨a, A, R, p, lo.toNat, hi.map Int.toNat, t, ?_, hnx p (List.mem_singleton.mpr rfl), by omega, hT, hA, ?_, o, ⟨kvs, e, m⟩, fun kvs' m' => ?_⟩
    · show [toD p, D.int lo, hiD hi, D.str t, D.raw (.ref a)] = _
      rw [show ((lo.toNat : Nat) : Int) = lo by omega]
      cases hi with
      | none => rfl
      | some x =>
        have : lo ≤ x := by rw [hiOk, Bool.and_eq_true, decide_eq_true_eq] at hhi; exact hhi.1
        show [toD p, D.int lo, D.int x, D.str t, D.raw (.ref a)] = [_, _, D.int ((x.toNat : Nat) : Int), _, _]
        rw [show ((x.toNat : Nat) : Int) = x by omega]
    · intro x hx
      obtain ⟨y, rfl, y2⟩ := Option.map_eq_some_iff.mp hx
      have : lo ≤ y := by rw [hiOk, Bool.and_eq_true, decide_eq_true_eq] at hhi; exact hhi.1
      omega
    · have z := q kvs' m'
      rw [show tru (Lg (.again p lo hi) t.cps.toList) = tru (Cm (Lg p) lo.toNat (hi.map Int.toNat) t.cps.toList) from tru_congr ?_] at z
      · exact z
      rw [Lg]
      constructor
      · rintro ⟨n, n1, n2, n3⟩
        refine ⟨n, by omega, fun x hx => ?_, n3⟩
        obtain ⟨y, y1, y2⟩ := Option.map_eq_some_iff.mp hx
        have := n2 y y1
        omega
      · rintro ⟨n, n1, n2, n3⟩
        refine ⟨n, by omega, fun x hx => ?_, n3⟩
        subst hx
        have : lo ≤ x := by rw [hiOk, Bool.and_eq_true, decide_eq_true_eq] at hhi; exact hhi.1
        have := n2 x.toNat rfl
        omega
end
end Cut
namespace Cut
open PySem L2 DL ML
local macro_rules | `(tactic| walk_at "m") => `(tactic| repeat (first | with_reducible refine ⟨_, rfl, ?_⟩ | refine ⟨_, rfl, ?_⟩ | refine ⟨rfl, ?_⟩ | refine ⟨_, _, rfl, rfl, ?_⟩ | refine ⟨_, _, rfl, ?_⟩ | refine iteT ?_ | refine iteF ?_ | refine ⟨⟨_, rfl⟩, ?_⟩ | refine ⟨Nat.le_of_ble_eq_true rfl, ?_⟩ | refine ⟨(by decide), ?_⟩ | refine ⟨_, ix_t0 _ _, ?_⟩ | refine ⟨_, ix_l0 _ _, ?_⟩))
abbrev s_l_refused : Stmt := top 29
abbrev N_l_refused : List Str := ["_law_alphabet_here", "_law_pattern_here", "_law_text_here", "_law_found", "e"]
theorem sc_l_refused : FnScope N_l_refused ["_law_alphabet_here", "_law_pattern_here", "_law_text_here"] (defScope s_l_refused) := ⟨rfl, rfl, rfl, by decide +kernel, rfl, by decide +kernel, by decide +kernel⟩
abbrev s_law : Stmt := top 30
abbrev N_law : List Str := ["_law_script", "_law_k", "_law_source_here", "_law_alphabet_here", "_law_pattern_here", "_law_kind", "_law_texts", "_law_j", "_law_known", "_law_text_here", "_law_found", "_law_odd", "_law_one", "_law_at", "_law_due"]
theorem sc_law : FnScope N_law ["_law_script"] (defScope s_law) := ⟨rfl, rfl, rfl, by decide +kernel, rfl, by decide +kernel, by decide +kernel⟩
mutual
theorem ht_one : ∀ r, 1 ≤ ht r
  | .set _ => by rw [ht]; omega
  | .row _ => by rw [ht]; omega
  | .any _ => by rw [ht]; omega
  | .all _ => by rw [ht]; omega
  | .no p => by rw [ht]; omega
  | .again p _ _ => by rw [ht]; omega
end
mutual
theorem ht_le : ∀ r, (ht r : Int) ≤ 7 * rdep r + cnt r
  | .set _ => by rw [ht, cnt]; omega
  | .row ps => by rw [ht, cnt, rdep]; have := htR_le ps; omega
  | .any ps => by rw [ht, cnt, rdep]; have := htL_le ps; omega
  | .all ps => by rw [ht, cnt, rdep]; have := htL_le ps; omega
  | .no p => by rw [ht, cnt, rdep]; have := ht_le p; omega
  | .again p _ _ => by rw [ht, cnt, rdep]; have := ht_le p; omega
theorem htL_le : ∀ ps, (htL ps : Int) ≤ 7 * rdepL ps + (cntL ps).sum
  | [] => by rw [htL, cntL, rdepL]; decide
  | p :: ps => by rw [htL, cntL, rdepL, List.sum_cons]; have := ht_le p; have := htL_le ps; have := cnt_one p; have := cntL_nn ps; omega
theorem htR_le : ∀ ps, (htR ps : Int) ≤ 7 * rdepL ps + (cntL ps).sum
  | [] => by rw [htR, cntL, rdepL]; decide
  | p :: ps => by rw [htR, cntL, rdepL, List.sum_cons]; have := ht_le p; have := htR_le ps; have := cnt_one p; have := cntL_nn ps; omega
end
theorem P3.ro {S : Str} {r : Rx} (h : P3 S r) (hS : Alp S) (hl : S.length ≤ 3) : RO S.cps.toList r := by
  have h1 := sub_ok S r h.ok h.st
  have h2 := sub_len r
  have h3 := h.cn
  exact ⟨by rw [← len_l]; exact hl, by omega, fun x hx => ⟨by have := (h1 x hx).2.2; have := h.dp; omega, (h1 x hx).1⟩, S, hS, fun x hx => (h1 x hx).2.1⟩
theorem P3.ht {S : Str} {r : Rx} (h : P3 S r) : ht r ≤ 90 := by
  have := ht_le r
  have := h.dp
  have := h.cn
  omega
theorem P3.mok {S : Str} {r : Rx} (h : P3 S r) : MOk r 25 := ⟨h.ok, h.hp, by have := h.dp; omega, h.ct⟩
section
variable {P : Program} {w : World} {K : Fg} {mg : Str → Option Value} {base : Heap} {f f2 f3 : Addr} {fd fd2 fd3 : FuncData} {CT CB : Addr}
theorem ok_m3 (Am : At K mg "_law_matched" ["_law_pattern_here", "_law_text_here", "_law_known"] s_l_matched f fd) (Ab : At K mg "_law_by_parts" ["_law_pattern_here", "_law_text_here", "_law_known"] s_l_by_parts f2 fd2) (Ac : At K mg "_law_count_matched" ["_law_part", "_law_low", "_law_high", "_law_text_here", "_law_known"] s_l_count_matched f3 fd3) (m_len : mg "len" = none) (m_range : mg "range" = none) (m_max : mg "max" = none) (m_any : mg "any" = none) (m_all : mg "all" = none) : ∀ n m, m ≤ n → FnM P w K mg base "_law_matched" (2 * m + 1) 3 (g_mtd w m)
  | 0, m, hm => by
    cases Nat.le_zero.mp hm
    exact ok_mtd 0 Am (Ab.noneM fun ds h Q E ⟨_, _, _, r, _, _, _, hh, _⟩ => by have := ht_one r; omega)
  | n + 1, m, hm => by
    rcases Nat.lt_or_ge m (n + 1) with hl | hl
    · exact ok_m3 Am Ab Ac m_len m_range m_max m_any m_all n m (by omega)
    have e : m = n + 1 := by omega
    subst e
    have ih := ok_m3 Am Ab Ac m_len m_range m_max m_any m_all n
    refine ok_mtd (n + 1) Am (ok_bp n Ab m_len m_range m_any m_all (ih n (Nat.le_refl _)) ?_)
    by_cases h6 : 6 ≤ n
    · refine ((ok_cnt (n - 6) Ac m_len m_range m_max (ih (n - 6) (by omega)) 11).mono (by omega)).imp ?_
      rintro ds h Q E ⟨a, A, R, p, lo, hi, t, e, h1, h2, h3, h4, h5, q⟩
      exact ⟨a, A, R, p, lo, hi, t, e, h1, by omega, by omega, Nat.le_refl _, h4, h5, q⟩
    · exact Ac.noneM fun ds h Q E ⟨_, _, _, p, _, _, _, _, _, h2, _⟩ => by have := ht_one p; omega
/-- what isinstance tells of InvalidText -/
def isNt (CB : Addr) : D → Bool → Prop := fun d b => b = true ∧ (d = .raw (.ref CB) ∨ d = .ty "ValueError")
def badD : Option Nat → D
  | none => .non
  | some j => .int (j : Nat)
def g_refused : FM := fun ds h Q _ => ∃ A r S, ds = [.str A, toD r, .str S] ∧ MOk r 25 ∧ S.length ≤ 100000 ∧ Q (.fz (badD (bad A.cps.toList S.cps.toList))) h
theorem ok_refused (A : At K mg "_law_refused" ["_law_alphabet_here", "_law_pattern_here", "_law_text_here"] s_l_refused f fd) (m_isinstance : mg "isinstance" = none) (m_ValueError : mg "ValueError" = none) (c_CutError : Gc K mg "CutError" (.raw (.ref CB))) (c_matches : FnM P w K mg base "matches" 104 3 (g_matches CT)) (y_InvalidText : ∀ C ∈ [CT], PySem.W.exmOne K (.ref C) (.ref CT) = some true) (n_InvalidText : mg "InvalidText" = some (.ref CT)) (x_InvalidText : XfC K CT ∧ PySem.W.findIn K (.ref CT) "position" = some none) (t_InvalidText : IsT K CT (isNt CB)) :
    FnM P w K mg base "_law_refused" 105 3 g_refused := by
  have z_InvalidText : ∀ C ∈ ([] : List Addr), PySem.W.exmOne K (.ref C) (.ref CT) = some false := fun _ h => (nomatch h)
  refine A.fnM (okM (k := 104) A.fn sc_l_refused (by decide) (fun cdv A outer s H E hr tk po => (mss_cons (ms_set 3 sc_l_refused.nd rfl (by first | exact Or.inl rfl | exact Or.inr rfl) me_non)
      (mss_cons (ms_try' (i := 4) y_InvalidText z_InvalidText rfl rfl sc_l_refused.nd rfl rfl ⟨(by rfl), (by decide), Or.inl n_InvalidText⟩ tk (fun _ _ _ tk po => (mss_one (ms_expr (me_cM c_matches tk (hr.mono (by decide)) (by rfl) (ma_cons (me_v 0) (ma_cons (me_v 1) (ma_cons (me_v 2) ma_nil))))))) (fun _ _ _ _ _ _ hz hv => (mss_one (ms_set 3 sc_l_refused.nd rfl (by first | exact Or.inl rfl | exact Or.inr rfl) (me_if (MW.mt (mw_and (mt_val (me_isx t_InvalidText hz hv (by rfl) m_isinstance (ma_cons (me_v 4) (ma_cons (me_g c_CutError (by rfl)) ma_nil)))) (mw_and1 (mt_val (me_isx t_InvalidText hz hv (by rfl) m_isinstance (ma_cons (me_v 4) (ma_cons (me_ty (n := "ValueError") (by rfl) m_ValueError (by decide +kernel)) ma_nil))))))) (me_xf x_InvalidText.1 x_InvalidText.2 hz hv (me_v 4)) (me_neg me_int))))))
      (mss_one (ms_ret (me_v 3)))))) ?_)
  rintro ds h Q E hl ⟨A, r, S, rfl, hr, hS, q⟩
  walk_at "m"
  refine ⟨A, r, S, rfl, hr, hS, ?_⟩
  unfold chk
  cases hb : bad A.cps.toList S.cps.toList with
  | none =>
    rw [hb] at q
    walk_at "m"
    exact q
  | some j =>
    rw [hb] at q
    refine .inl ⟨List.mem_singleton.mpr rfl, fun a => ?_⟩
    walk_at "m"
    refine ⟨_, true, rfl, rfl, ⟨rfl, .inl rfl⟩, ?_⟩
    walk_at "m"
    refine ⟨_, true, rfl, rfl, ⟨rfl, .inr rfl⟩, ?_⟩
    walk_at "m"
    exact q
end
end Cut
namespace Cut
open PySem L2 DL ML
local macro_rules | `(tactic| walk_at "m") => `(tactic| repeat (first | with_reducible refine ⟨_, rfl, ?_⟩ | refine ⟨_, rfl, ?_⟩ | refine ⟨rfl, ?_⟩ | refine ⟨_, _, rfl, rfl, ?_⟩ | refine ⟨_, _, rfl, ?_⟩ | refine iteT ?_ | refine iteF ?_ | refine ⟨⟨_, rfl⟩, ?_⟩ | refine ⟨Nat.le_of_ble_eq_true rfl, ?_⟩ | refine ⟨(by decide), ?_⟩ | refine ⟨_, ix_t0 _ _, ?_⟩ | refine ⟨_, ix_l0 _ _, ?_⟩))
theorem bad_none {A S : Tx} (h : ∀ c ∈ S, c ∈ A) : bad A S = none := by
  unfold bad
  rw [List.findIdx?_eq_none_iff]
  intro c hc
  exact decide_eq_false (fun z => z (h c hc))
theorem chk_ok {CT : Addr} {A S : Str} {h : Hd} {Q : Hd → Prop} {E : Ex → Hd → Prop} (hs : ∀ c ∈ S.cps.toList, c ∈ A.cps.toList) (q : Q h) : chk CT A S h Q E := by
  unfold chk
  rw [bad_none hs]
  exact q
theorem ne_bad (o : Option Nat) : neD (badD o) (badD o) = some (.fz (.bl false)) := by
  cases o with
  | none => rfl
  | some j => show some (Res.fz (.bl (!decide ((j : Int) = (j : Int))))) = _; simp
theorem ne_same (b : Bool) : neD (.bl b) (.bl b) = some (.fz (.bl false)) := by cases b <;> rfl
section
variable {P : Program} {w : World} {K : Fg} {mg : Str → Option Value} {base : Heap} {f : Addr} {fd : FuncData} {CT : Addr}
def g_law : FM := fun ds h Q _ => ∃ (ns : List Int), ds = [.scr ns] ∧ ∀ h', Q (.fz (.bl true)) h'
def LI (ns : List Int) (ds : List D) (ρ : Me) (_ : Hd) : Prop := ∃ s1 s2 s3 s4 s5 s6 s7 s8 s9 s10 s11 s12 s13 s14, ρ = [some (.scr ns), s1, s2, s3, s4, s5, s6, s7, s8, s9, s10, s11, s12, s13, s14] ∧ ∀ d ∈ ds, ∃ k : Int, d = .int k ∧ 0 ≤ k ∧ k < 3
theorem bad_head (A : Tx) : ∀ S : Tx, ((List.range S.length).filter fun (i : Nat) => !decide (S[i]! ∈ A)).head? = bad A S
  | [] => rfl
  | c :: S => by
    have ih := bad_head A S
    unfold bad at ih ⊢
    rw [List.length_cons, List.range_succ_eq_map, List.filter_cons, List.findIdx?_cons]
    by_cases hc : c ∈ A
    · have e1 : (!decide ((c :: S)[0]! ∈ A)) = false := by simp [hc]
      have e2 : (decide (c ∉ A)) = false := by simp [hc]
      rw [e1, e2, if_neg (by decide), if_neg (by decide), List.filter_map, List.head?_map, ← ih]
      congr 1
    · have e1 : (!decide ((c :: S)[0]! ∈ A)) = true := by simp [hc]
      have e2 : (decide (c ∉ A)) = true := by simp [hc]
      rw [e1, e2, if_pos rfl, if_pos rfl]; rfl
theorem bad_due (A S : Tx) : (((List.range S.length).filter fun (i : Nat) => !decide (S[i]! ∈ A)).map fun (i : Nat) => D.int (0 + i)) ++ [D.non] = badD (bad A S) :: ((((List.range S.length).filter fun (i : Nat) => !decide (S[i]! ∈ A)).map fun (i : Nat) => D.int (0 + i)) ++ [D.non]).tail := by
  have key := bad_head A S
  revert key
  generalize ((List.range S.length).filter fun (i : Nat) => !decide (S[i]! ∈ A)) = l
  intro key
  rw [← key]
  cases l with
  | nil => rfl
  | cons x l => show D.int (0 + x) :: _ = D.int x :: _; rw [Int.zero_add]; rfl
theorem ok_law (A : At K mg "law" ["_law_script"] s_law f fd) (m_range : mg "range" = none) (m_len : mg "len" = none) (m_isinstance : mg "isinstance" = none) (m_bool : mg "bool" = none) (c_l_draw : Fn1 P w K mg base "_law_draw" 1 2 g_draw) (c_l_source : Fn0 P w K mg base "_law_source" 1 2 g_source)
    (c_l_alphabet : Fn1 P w K mg base "_law_alphabet" 2 2 g_alphabet) (c_l_pattern : Fn1 P w K mg base "_law_pattern" 5 3 g_pattern) (c_l_with_empty : Fn1 P w K mg base "_law_with_empty" 3 2 g_p3) (c_l_wide : FnM P w K mg base "_law_wide" 4 2 g_p3M) (c_l_short_texts : FnM P w K mg base "_law_short_texts" 1 2 g_short)
    (c_l_text : FnM P w K mg base "_law_text" 2 3 g_text) (c_l_matched : FnM P w K mg base "_law_matched" 181 3 (g_mtd w 90)) (c_l_refused : FnM P w K mg base "_law_refused" 105 3 g_refused) (c_matches : FnM P w K mg base "matches" 104 3 (g_matches CT)) : FnOk P w K mg base (L2.CX P w) 182 f fd ["_law_script"] (spM K 1 g_law) := by
  refine okM (k := 181) A.fn sc_law (by decide) (fun cdv A outer s H E hr tk po => (mss_cons (ms_for po rfl (mi_range1 (by rfl) m_range (ma_cons me_int ma_nil)) (mg_n 1 sc_law.nd rfl (by first | exact Or.inl rfl | exact Or.inr rfl)) (mss_cons (ms_set 2 sc_law.nd rfl (by first | exact Or.inl rfl | exact Or.inr rfl) (me_own (me_c0 c_l_source (hr.mono (by decide)) (by rfl) (ma_cons (me_v 0) (ma_cons (me_v 1) ma_nil)))))
      (mss_cons (ms_set 3 sc_law.nd rfl (by first | exact Or.inl rfl | exact Or.inr rfl) (me_c1 c_l_alphabet (hr.mono (by decide)) (by rfl) (ma_cons (me_v 2) (ma_cons (me_add me_int (me_c1 c_l_draw (hr.mono (by decide)) (by rfl) (ma_cons (me_v 2) (ma_cons me_int ma_nil)))) ma_nil))))
      (mss_cons (ms_set 4 sc_law.nd rfl (by first | exact Or.inl rfl | exact Or.inr rfl) (me_c1 c_l_pattern (hr.mono (by decide)) (by rfl) (ma_cons (me_v 2) (ma_cons (me_v 3) (ma_cons (me_add me_int (me_c1 c_l_draw (hr.mono (by decide)) (by rfl) (ma_cons (me_v 2) (ma_cons me_int ma_nil)))) ma_nil)))))
      (mss_cons (ms_set 5 sc_law.nd rfl (by first | exact Or.inl rfl | exact Or.inr rfl) (me_c1 c_l_draw (hr.mono (by decide)) (by rfl) (ma_cons (me_v 2) (ma_cons me_int ma_nil))))
      (mss_cons (ms_if (mt_lt (me_v 5) me_int) (mss_one (ms_set 4 sc_law.nd rfl (by first | exact Or.inl rfl | exact Or.inr rfl) (me_c1 c_l_with_empty (hr.mono (by decide)) (by rfl) (ma_cons (me_v 2) (ma_cons (me_v 3) ma_nil))))) mss_nil)
      (mss_cons (ms_if (mt_eq hr (me_v 5) me_int) (mss_one (ms_set 4 sc_law.nd rfl (by first | exact Or.inl rfl | exact Or.inr rfl) (me_cM c_l_wide tk (hr.mono (by decide)) (by rfl) (ma_cons (me_v 2) (ma_cons (me_v 3) ma_nil))))) mss_nil)
      (mss_cons (ms_set 6 sc_law.nd rfl (by first | exact Or.inl rfl | exact Or.inr rfl) (me_add (me_cM c_l_short_texts tk (hr.mono (by decide)) (by rfl) (ma_cons (me_v 3) (ma_cons me_int ma_nil))) (me_lc (own := [("_law_j", 7)]) rfl sc_law.nd (mi_range1 (by rfl) m_range (ma_cons me_int ma_nil)) (blkOk_by (N := N_law) (sc := defScope s_law) (own := [("_law_j", 7)]) (by decide +kernel)) (fun _ _ _ _ _ => (mg_n 7 sc_law.nd rfl (by first | exact Or.inl rfl | exact Or.inr rfl))) (fun _ _ _ _ _ => mts_nil) (fun _ _ _ _ _ => (me_cM c_l_text takes0 (hr.mono (by decide)) (by rfl) (ma_cons (me_v 2) (ma_cons (me_v 3) (ma_cons (me_c1 c_l_draw (hr.mono (by decide)) (by rfl) (ma_cons (me_v 2) (ma_cons me_int ma_nil))) ma_nil))))))))
      (mss_cons (ms_set 8 sc_law.nd rfl (by first | exact Or.inl rfl | exact Or.inr rfl) (me_dnewN (w := w)))
      (mss_cons (ms_for po rfl (mi_seq (me_v 6)) (mg_n 9 sc_law.nd rfl (by first | exact Or.inl rfl | exact Or.inr rfl)) (mss_cons (ms_set 10 sc_law.nd rfl (by first | exact Or.inl rfl | exact Or.inr rfl) (me_cM c_matches tk (hr.mono (by decide)) (by rfl) (ma_cons (me_v 3) (ma_cons (me_v 4) (ma_cons (me_v 9) ma_nil)))))
      (mss_one (ms_if (MW.mt (mw_or (mt_not (mt_val (me_isi (by rfl) m_isinstance (ma_cons (me_v 10) (ma_cons (me_ty (n := "bool") (by rfl) m_bool (by decide +kernel)) ma_nil))))) (mw_or1 (mt_ne hr (me_v 10) (me_cM c_l_matched tk (hr.mono (by decide)) (by rfl) (ma_cons (me_v 4) (ma_cons (me_v 9) (ma_cons (me_v 8) ma_nil)))))))) (mss_one (ms_ret me_bl)) mss_nil))))
      (mss_cons (ms_set 9 sc_law.nd rfl (by first | exact Or.inl rfl | exact Or.inr rfl) (me_cM c_l_text tk (hr.mono (by decide)) (by rfl) (ma_cons (me_v 2) (ma_cons (me_v 3) (ma_cons (me_c1 c_l_draw (hr.mono (by decide)) (by rfl) (ma_cons (me_v 2) (ma_cons me_int ma_nil))) ma_nil)))))
      (mss_cons (ms_setLc (i := 11) (own := [("_law_one", 12)]) rfl sc_law.nd rfl rfl (sw_true rfl rfl rfl (by decide +kernel)) (mi_seq me_str) (blkOk_by (N := N_law) (sc := defScope s_law) (own := [("_law_one", 12)]) (by decide +kernel)) (fun _ _ _ _ _ => (mg_n 12 sc_law.nd rfl (by first | exact Or.inl rfl | exact Or.inr rfl))) (fun _ _ _ _ _ => (mts_one (mt_notin (me_v 12) (me_v 3)))) (fun _ _ _ _ _ => (me_v 12)))
      (mss_cons (ms_for po rfl (mi_range1 (by rfl) m_range (ma_cons (me_c1 c_l_draw (hr.mono (by decide)) (by rfl) (ma_cons (me_v 2) (ma_cons me_int ma_nil))) ma_nil)) (mg_n 7 sc_law.nd rfl (by first | exact Or.inl rfl | exact Or.inr rfl)) (mss_cons (ms_set 13 sc_law.nd rfl (by first | exact Or.inl rfl | exact Or.inr rfl) (me_c1 c_l_draw (hr.mono (by decide)) (by rfl) (ma_cons (me_v 2) (ma_cons (me_add (me_len (by rfl) m_len (ma_cons (me_v 9) ma_nil)) me_int) ma_nil))))
      (mss_one (ms_set 9 sc_law.nd rfl (by first | exact Or.inl rfl | exact Or.inr rfl) (me_add (me_add (me_sl (me_v 9) mo_none (mo_some (me_v 13))) (me_ix (me_v 11) (me_c1 c_l_draw (hr.mono (by decide)) (by rfl) (ma_cons (me_v 2) (ma_cons (me_len (by rfl) m_len (ma_cons (me_v 11) ma_nil)) ma_nil))) (fun _ _ => rfl))) (me_sl (me_v 9) (mo_some (me_v 13)) mo_none))))))
      (mss_cons (ms_set 14 sc_law.nd rfl (by first | exact Or.inl rfl | exact Or.inr rfl) (me_add (me_lc (own := [("_law_j", 7)]) rfl sc_law.nd (mi_range1 (by rfl) m_range (ma_cons (me_len (by rfl) m_len (ma_cons (me_v 9) ma_nil)) ma_nil)) (blkOk_by (N := N_law) (sc := defScope s_law) (own := [("_law_j", 7)]) (by decide +kernel)) (fun _ _ _ _ _ => (mg_n 7 sc_law.nd rfl (by first | exact Or.inl rfl | exact Or.inr rfl))) (fun _ _ _ _ _ => (mts_one (mt_notin (me_ix (me_v 9) (me_v 7) (fun _ _ => rfl)) (me_v 3)))) (fun _ _ _ _ _ => (me_v 7))) (me_lst (ma_cons me_non ma_nil))))
      (mss_one (ms_if (mt_ne hr (me_cM c_l_refused tk (hr.mono (by decide)) (by rfl) (ma_cons (me_v 3) (ma_cons (me_v 4) (ma_cons (me_v 9) ma_nil)))) (me_ix (me_v 14) me_int (fun _ _ => rfl))) (mss_one (ms_ret me_bl)) mss_nil))))))))))))))))
      (mss_one (ms_ret me_bl)))) ?_
  rintro ds h Q E hl ⟨ns, rfl, q⟩
  refine ⟨3, rfl, ⟨by decide, by decide⟩, ?_⟩
  refine loopM_inv (LI ns) _ _ _ ⟨none, none, none, none, none, none, none, none, none, none, none, none, none, none, rfl, ?_⟩ ?_ ?_
  · intro d hd
    rw [rangeD_map] at hd
    obtain ⟨i, hi, rfl⟩ := List.mem_map.mp hd
    have hi' : i < (3 : Int).toNat := List.mem_range.mp hi
    exact ⟨_, rfl, by omega, by omega⟩
  rotate_left
  · intro ρ h' ⟨s1, s2, s3, s4, s5, s6, s7, s8, s9, s10, s11, s12, s13, s14, e, _⟩
    exact q _
  rintro d es ρ h1 R ⟨s1, s2, s3, s4, s5, s6, s7, s8, s9, s10, s11, s12, s13, s14, rfl, hd⟩ hR
  obtain ⟨k, rfl, k0, k1⟩ := hd d (List.mem_cons_self ..)
  have hd' := fun d h => hd d (List.mem_cons_of_mem _ h)
  clear hd
  walk_at "m"
  refine ⟨k0, by omega, fun xs hS => ?_⟩
  refine ⟨_, rfl, fun a ha => ?_⟩
  walk_at "m"
  refine ⟨a, _, _, rfl, put_same, 0, _, rfl, hS, by omega, by decide, by decide, fun j xs1 j0 j1 hS1 => ?_⟩
  walk_at "m"
  refine ⟨a, _, _, rfl, put_same, 1, _, rfl, hS1, by omega, by omega, by omega, fun A xs2 hA hAl hS2 => ?_⟩
  have hA3 : A.length ≤ 3 := by omega
  walk_at "m"
  refine ⟨a, _, _, rfl, put_same, 7, _, rfl, hS2, by omega, by decide, by decide, fun j2 xs3 l0 l1 hS3 => ?_⟩
  walk_at "m"
  refine ⟨a, _, _, rfl, put_same, 8, A, 1 + j2, rfl, hA, hS3, by omega, by omega, by omega, fun r0 xs4 hr0 hS4 => ?_⟩
  walk_at "m"
  refine ⟨a, _, _, rfl, put_same, 5008, _, rfl, hS4, by omega, by decide, by decide, fun kd xs5 m0 m1 hS5 => ?_⟩
  simp only [put_put]
  try unfold mNext
  try dsimp only
  have hp0 : P3 A r0 := hr0.p3 (by omega)
  refine seq_cut (fun ρ' h' => ∃ r xs', P3 A r ∧ Src 15009 xs' ∧ ρ' = [some (.scr ns), some (.int k), some (.raw (.ref a)), some (.str A), some (toD r), some (.int kd), s6, s7, s8, s9, s10, s11, s12, s13, s14] ∧ h' a = some (.lst xs')) (fun R1 hR1 => ?_) ?_
  · walk_at "m"
    refine ifB (fun _ => ?_) (fun _ => ?_)
    · walk_at "m"
      refine ⟨a, _, _, rfl, put_same, 5009, A, rfl, hA, hS5, by omega, fun r xs6 hr hS6 => ?_⟩
      exact hR1 _ _ ⟨r, xs6, hr, hS6, rfl, put_same⟩
    · exact hR1 _ _ ⟨r0, xs5, hp0, hS5.mono (by omega), rfl, put_same⟩
  rintro _ h2 ⟨r1, xs6, hp1, hS6, rfl, ha2⟩
  refine seq_cut (fun ρ' h' => ∃ r xs', P3 A r ∧ Src 25009 xs' ∧ ρ' = [some (.scr ns), some (.int k), some (.raw (.ref a)), some (.str A), some (toD r), some (.int kd), s6, s7, s8, s9, s10, s11, s12, s13, s14] ∧ h' a = some (.lst xs')) (fun R1 hR1 => ?_) ?_
  · walk_at "m"
    refine ifB (fun _ => ?_) (fun _ => ?_)
    · walk_at "m"
      refine ⟨a, _, _, A, rfl, ha2, hA, hS6, by omega, fun r xs7 h' hr hS7 hle => ?_⟩
      exact hR1 _ _ ⟨r, xs7, hr, hS7, rfl, hle _ _ put_same⟩
    · exact hR1 _ _ ⟨r1, xs6, hp1, hS6.mono (by omega), rfl, ha2⟩
  rintro _ h3 ⟨r, xs7, hp, hS7, rfl, ha3⟩
  walk_at "m"
  refine ⟨hA, hA3, by decide, fun ts t1 t2 => ?_⟩
  walk_at "m"
  refine lcM_inv (fun ds h' acc => ∃ (us : List Str) (xs' : List D), acc = strD' us ∧ h' a = some (.lst xs') ∧ Src (25009 + 20 * us.length) xs' ∧ TxsOk A 10 us ∧ us.length + ds.length = 6) _ _ _ ⟨[], xs7, rfl, ha3, hS7, (fun _ z => nomatch z), rfl⟩ ?_ ?_
  · rintro d es' h' acc R1 ⟨us, xs', rfl, ha4, y1, y2, y3⟩ hR1
    rw [List.length_cons] at y3
    walk_at "m"
    refine ⟨a, _, _, rfl, ha4, _, _, rfl, y1, by omega, by decide, by decide, fun j2 xs5 k0 k1 hS5 => ?_⟩
    walk_at "m"
    refine ⟨a, _, _, A, j2.toNat, ?_, put_same, hA, by omega, hS5, by omega, fun S xs6 z1 z2 hS6 => ?_⟩
    · show [D.raw (.ref a), D.str A, D.int j2] = _
      rw [show ((j2.toNat : Nat) : Int) = j2 by omega]
    refine ⟨by unfold strD'; rw [List.length_map]; omega, ?_⟩
    refine hR1 _ _ ⟨us ++ [S], xs6, by unfold strD'; rw [List.map_append]; rfl, put_same, hS6.mono (by rw [List.length_append, List.length_singleton]; omega), fun t ht => ?_, by rw [List.length_append, List.length_singleton]; omega⟩
    rcases List.mem_append.mp ht with ht | ht
    · exact y2 t ht
    · rw [List.mem_singleton.mp ht]; exact ⟨by omega, z2⟩
  rintro h4 acc ⟨us, xs8, rfl, ha4, u1, u2, u3⟩
  rw [List.length_nil, Nat.add_zero] at u3
  refine ⟨_, (show addD (.lst (strD' ts)) (.lst (strD' us)) = _ from if_pos (by unfold strD'; rw [List.length_map, List.length_map]; omega)), ?_⟩
  walk_at "m"
  intro b hb
  have hba : b ≠ a := fun z => by rw [z, ha4] at hb; cases hb
  walk_at "m"
  refine loopM_inv (fun ds ρ h' => ∃ vs x9 x10, ds = strD' vs ∧ TxsOk A 10 vs ∧ ρ = [some (.scr ns), some (.int k), some (.raw (.ref a)), some (.str A), some (toD r), some (.int kd), some (.lst (strD' ts ++ strD' us)), s7, some (.raw (.ref b)), x9, x10, s11, s12, s13, s14] ∧ h' a = some (.lst xs8) ∧ ∃ kvs, h' b = some (.dcn w kvs) ∧ Mem A.cps.toList r kvs) _ _ _ ⟨ts ++ us, s9, s10, by unfold strD'; rw [List.map_append], fun t ht => ?_, rfl, by rw [put_ne hba.symm]; exact ha4, [], put_same, Mem.nil⟩ ?_ ?_
  · rcases List.mem_append.mp ht with ht | ht
    · exact ⟨by have := (t1 t ht).1; omega, (t1 t ht).2⟩
    · exact u2 t ht
  · rintro d es' ρ' h2 R3 ⟨vs, x9, x10, e1, z1, rfl, z2, kvs, z3, z4⟩ hR3
    cases vs with
    | nil => cases e1
    | cons t0 vs =>
      injection e1 with e2 e3
      subst e2 e3
      have ht0 := z1 t0 (List.mem_cons_self ..)
      walk_at "m"
      refine ⟨A, r, t0, rfl, hp.mok, by omega, chk_ok ht0.2 ?_⟩
      walk_at "m"
      refine ⟨b, A.cps.toList, r, r, t0, rfl, sub_self r, hp.ht, ht0.1, ht0.2, hp.ro hA hA3, ⟨kvs, z3, z4⟩, fun kvs' m' => ?_⟩
      refine ⟨_, ne_same _, ?_⟩
      walk_at "m"
      exact hR3 _ _ ⟨vs, some (.str t0), _, rfl, fun t ht => z1 t (List.mem_cons_of_mem _ ht), rfl, by rw [put_ne hba.symm]; exact z2, kvs', put_same, m'⟩
  rintro ρ' h5 ⟨vs, x9, x10, e1, z1, rfl, ha5, _⟩
  walk_at "m"
  refine ⟨a, _, _, rfl, ha5, _, _, rfl, u1, by omega, by decide, by decide, fun j2 xs9 k0 k1 hS9 => ?_⟩
  walk_at "m"
  refine ⟨a, _, _, A, j2.toNat, ?_, put_same, hA, by omega, hS9, by omega, fun S xs10 v1 v2 hS10 => ?_⟩
  · show [D.raw (.ref a), D.str A, D.int j2] = _
    rw [show ((j2.toNat : Nat) : Int) = j2 by omega]
  walk_at "m"
  refine lcM_pure (φ := sgn) (f := sgn) (b := fun c => !decide (c ∈ A.cps.toList)) ("az09 -._AZ!" : Str).cps.toList [] (fun c hc R1 R2 q1 q2 => ?_) (by decide) ?_
  · walk_at "m"
    refine ifB (fun hb => ?_) (fun hb => ?_)
    · walk_at "m"
      exact q1 hb
    · exact q2 hb
  generalize ho : ([] : List D) ++ ((("az09 -._AZ!" : Str).cps.toList.filter fun c => !decide (c ∈ A.cps.toList)).map sgn) = odd
  have ho1 : ∀ d ∈ odd, ∃ c, d = sgn c := fun d hd => by
    rw [← ho, List.nil_append] at hd
    obtain ⟨c, _, e⟩ := List.mem_map.mp hd
    exact ⟨c, e.symm⟩
  have ho2 : 1 ≤ odd.length ∧ odd.length ≤ 11 := by
    rw [← ho, List.nil_append, List.length_map]
    constructor
    · refine List.length_pos_iff.mpr fun z => ?_
      have := List.filter_eq_nil_iff.mp z 65 (by decide)
      refine this ?_
      rw [Bool.not_eq_true', decide_eq_false_iff_not]
      intro hc
      have := hA.ch 65 hc
      revert this
      decide
    · exact List.length_filter_le _ _
  clear ho
  walk_at "m"
  refine ⟨a, _, _, rfl, put_same, _, _, rfl, hS10, by omega, by decide, by decide, fun j3 xs11 k0 k1 hS11 => ?_⟩
  walk_at "m"
  refine ⟨⟨by omega, by omega⟩, ?_⟩
  refine loopM_inv (fun ds ρ h' => ∃ (S' : Str) (xs' : List D) (x7 x13 : Option D), ρ = [some (.scr ns), some (.int k), some (.raw (.ref a)), some (.str A), some (toD r), some (.int kd), some (.lst (strD' ts ++ strD' us)), x7, some (.raw (.ref b)), some (.str S'), x10, some (.lst odd), s12, x13, s14] ∧ S'.length + ds.length ≤ 12 ∧ Src (30000 + 3 * (3 - ds.length)) xs' ∧ h' a = some (.lst xs') ∧ ds.length ≤ 3) _ _ _ ⟨S, xs11, s7, s13, rfl, ?_, hS11.mono (by omega), put_same, ?_⟩ ?_ ?_
  · rw [rangeD_map, List.length_map, List.length_range]; omega
  · rw [rangeD_map, List.length_map, List.length_range]; omega
  · rintro d' es' ρ' h6 R3 ⟨S', xs', x7, x13, rfl, c1, c2, c3, c4⟩ hR3
    rw [List.length_cons] at c1 c2 c4
    walk_at "m"
    refine ⟨_, len_st (by omega), ?_⟩
    walk_at "m"
    refine ⟨a, _, _, rfl, c3, _, _, rfl, c2, by omega, by omega, by omega, fun at_ xs12 e0 e1 hS12 => ?_⟩
    walk_at "m"
    have ea : at_ = ((at_.toNat : Nat) : Int) := by omega
    refine ⟨_, sl_str' (by omega), ?_⟩
    walk_at "m"
    refine ⟨a, _, _, rfl, put_same, _, _, rfl, hS12, by omega, by show 0 < (odd.length : Int); omega, by show (odd.length : Int) ≤ _; omega, fun o1 xs13 f0 f1 hS13 => ?_⟩
    obtain ⟨d0, hd0, hm0⟩ := atI_ok (xs := odd) (i := o1) f0 f1
    obtain ⟨ch, rfl⟩ := ho1 d0 hm0
    walk_at "m"
    refine ⟨_, ix_lst hd0, ?_⟩
    rw [ea, cut_to]
    have l1 : (ofL (S'.cps.toList.take at_.toNat)).length ≤ S'.length := by rw [len_l, len_l, ofL_l, List.length_take]; omega
    refine ⟨_, add_str (b := ⟨#[ch]⟩) (by show _ + 1 ≤ _; omega), ?_⟩
    walk_at "m"
    refine ⟨_, sl_str' (by omega), ?_⟩
    rw [cut_from]
    have l2 : (ofL (S'.cps.toList.take at_.toNat) ++ (⟨#[ch]⟩ : Str)).length = (ofL (S'.cps.toList.take at_.toNat)).length + 1 := by rw [len_l, l_append, List.length_append, ← len_l]; rfl
    have l3 : (ofL (S'.cps.toList.drop at_.toNat)).length ≤ S'.length := by rw [len_l, len_l, ofL_l, List.length_drop]; omega
    refine ⟨_, add_str (by omega), ?_⟩
    walk_at "m"
    refine hR3 _ _ ⟨_, xs13, _, _, rfl, ?_, hS13.mono (by omega), put_same, by omega⟩
    rw [len_l, l_append, List.length_append, ← len_l, l2, len_l, ofL_l, ofL_l, List.length_take, List.length_drop]
    have := len_l S'
    omega
  rintro ρ' h6 ⟨S', xs', x7, x13, rfl, c1, c2, c3, c4⟩
  rw [List.length_nil, Nat.add_zero] at c1
  walk_at "m"
  refine ⟨_, len_st (by omega), ?_⟩
  walk_at "m"
  refine ⟨⟨by omega, by omega⟩, ?_⟩
  rw [rangeD_map, Int.toNat_natCast]
  have hlS := len_l S'
  refine lcM_pure (φ := fun (i : Nat) => D.int (0 + i)) (f := fun (i : Nat) => D.int (0 + i)) (b := fun (i : Nat) => !decide (S'.cps.toList[i]! ∈ A.cps.toList)) (List.range S'.length) [] (fun i hi R1 R2 q1 q2 => ?_) (by rw [List.length_range]; show 0 + _ ≤ _; omega) ?_
  · have hi := List.mem_range.mp hi
    walk_at "m"
    refine ⟨_, (show ixD (.str S') (.int (0 + (i : Int))) = some (.fz (.str ⟨#[S'.cps.toList[i]!]⟩)) from ?_), ?_⟩
    · show (if _ then _ else _) = _
      rw [if_pos (by omega), atI_get (by omega) (by omega), show ((0 : Int) + (i : Int)).toNat = i by omega, List.getElem?_eq_getElem (by omega), getElem!_pos _ _ (by omega)]
      rfl
    walk_at "m"
    refine ifB (fun hb => ?_) (fun hb => ?_)
    · walk_at "m"
      exact q1 hb
    · exact q2 hb
  walk_at "m"
  rw [List.nil_append]
  refine ⟨_, (show addD (.lst _) (.lst [D.non]) = _ from if_pos (by rw [List.length_map]; have := List.length_filter_le (fun (i : Nat) => !decide (S'.cps.toList[i]! ∈ A.cps.toList)) (List.range S'.length); rw [List.length_range] at this; simp only [List.length_singleton]; omega)), ?_⟩
  walk_at "m"
  refine ⟨A, r, S', rfl, hp.mok, by omega, ?_⟩
  rw [show List.range S'.length = List.range S'.cps.toList.length by rw [hlS], bad_due]
  walk_at "m"
  refine ⟨_, ne_bad _, ?_⟩
  walk_at "m"
  exact hR _ _ ⟨_, _, _, _, _, _, _, _, _, _, _, _, _, _, rfl, hd'⟩
end
end Cut
namespace Cut
open PySem L2 DL ML
theorem isT_mk {K : Fg} {C CB : Addr} (ex : ExcC K C) (h1 : PySem.W.kitOne K (.ref C) (.ref CB) = some true) (h2 : PySem.W.kitOne K (.ref C) (.type "ValueError") = some true) : IsT K C (isNt CB) := ⟨ex, fun d b ⟨hb, hd⟩ => by
  subst hb
  rcases hd with rfl | rfl
  · exact ⟨.ref CB, fun H v r u q => by cases r; exact q, h1⟩
  · exact ⟨.type "ValueError", fun H v r u q => by cases r; exact q, h2⟩⟩
end Cut
namespace Cut
open PySem L2 DL ML
theorem gc_int {K : Fg} {h : Heap} {mg : Str → Option Value} {x : Str} {i : Int} {t : Tok} (X : K.In h) (G : h.Ns mainGlobals mg) (e : PySem.W.nsIn K mainGlobals x = some (some (.int i t))) : Gc K mg x (.int i) := ⟨.int i, _, PySem.W.mg_of X G e, ⟨_, rfl⟩, fun _ => .int i⟩
theorem gc_str {K : Fg} {h : Heap} {mg : Str → Option Value} {x i : Str} {t : Tok} (X : K.In h) (G : h.Ns mainGlobals mg) (e : PySem.W.nsIn K mainGlobals x = some (some (.str i t))) : Gc K mg x (.str i) := ⟨.str i, _, PySem.W.mg_of X G e, ⟨_, rfl⟩, fun _ => .str i⟩
theorem all_mk {l : PySem.W.OpenLaw} {w : World} {K : PySem.W.Frag} {h : Heap} {mg : Str → Option Value} {fa : Addr} (X : K.In h) (G : h.Ns mainGlobals mg) (hfa : mg "law" = some (.ref fa))
    {od0 od1 od2 od3 od4 od5 od6 od7 od8 od9 od10 od11 od12 od13 od14 od15 od16 od17 od18 od19 od20 od21 od22 od23 od24 od25 od26 od27 od28 od29 an0 an1 an2 an3 an4 an5 an6 an7 an8 an9 an10 an11 an12 an13 an14 an15 an16 an17 an18 an19 an20 an21 an22 an23 an24 an25 an26 an27 an28 an29 : Option Addr} {sl0 sl1 sl2 sl3 sl4 sl5 sl6 sl7 sl8 sl9 sl10 sl11 sl12 sl13 sl14 sl15 sl16 sl17 sl18 sl19 sl20 sl21 sl22 sl23 sl24 sl25 sl26 sl27 sl28 sl29 : Array (Option Value)} {oc0 oc1 oc2 oc3 oc4 oc5 oc6 oc7 oc8 oc9 oc10 oc11 oc12 oc13 oc14 oc15 oc16 oc17 oc18 oc19 oc20 oc21 oc22 oc23 oc24 oc25 oc26 oc27 oc28 oc29 kV0 kV1 kV2 kV3 kV4 kV5 kV6 kV7 kV8 kV9 kV10 kV11 kV12 kV13 kV14 kV15 kV16 kV17 kV18 kV19 kV20 kV21 kV22 kV23 kV24 kV25 kV26 kV27 kV28 kV29 dc0 dc1 dc2 dc3 dc4 dc5 dc6 dc7 dc8 dc9 dc10 dc11 dc12 dc13 dc14 dc15 dc16 dc17 dc18 dc19 dc20 dc21 dc22 dc23 dc24 dc25 dc26 dc27 dc28 dc29 pm0 pm1 pm2 pm3 pm4 pm5 pm6 pm7 pm8 pm9 pm10 pm11 pm12 pm13 pm14 pm15 pm16 pm17 pm18 pm19 pm20 pm21 pm22 pm23 pm24 pm25 pm26 pm27 pm28 pm29 cd0 cd1 cd2 cd3 cd4 cd5 cd6 cd7 cd8 cd9 cd10 cd11 cd12 cd13 cd14 cd15 cd16 cd17 cd18 cd19 cd20 cd21 cd22 cd23 cd24 cd25 cd26 cd27 cd28 cd29 ct0 ct1 ct2 ct3 ct4 ct5 ct6 ct7 ct8 ct9 ct10 ct11 ct12 ct13 ct14 ct15 ct16 ct17 ct18 ct19 ct20 ct21 ct22 ct23 ct24 ct25 ct26 ct27 ct28 ct29 : Value} {f0 f1 f2 f3 f4 f5 f6 f7 f8 f9 f10 f11 f12 f13 f14 f15 f16 f17 f18 f19 f20 f21 f22 f23 f24 f25 f26 f27 f28 f29 : Addr}
    {C_Matcher C_InvalidText C_CutError : Addr}
    {nm_InvalidText q_InvalidText : Str} {N_InvalidText : Addr} {bs_InvalidText sub_InvalidText : List Value} {sn_InvalidText : List Str} {ab_InvalidText : Bool} {col_InvalidText : Option Bool} {dd_InvalidText : Option Addr} {m0_InvalidText m1_InvalidText m2_InvalidText m3_InvalidText m5_InvalidText : Option Value}
    (n_Matcher : PySem.W.nsIn K mainGlobals "Matcher" = some (some (.ref C_Matcher)))
    (pg_Matcher : PySem.W.plainGet K C_Matcher Str.empty = true)
    (hd_Matcher : PySem.W.hasDictIn K C_Matcher = true)
    (po_Matcher : PySem.W.plainOver K C_Matcher = true)
    (sa_Matcher : PySem.W.findIn K (.ref C_Matcher) "__setattr__" = some (some (.builtin "object.__setattr__")))
    (mk_Matcher : PySem.W.makesIn K C_Matcher = true)
    (kc_Matcher : PySem.W.keepIn K (.ref C_Matcher) = true)
    (no_Matcher_word : PySem.W.findIn K (.ref C_Matcher) "word" = some none)
    (no_Matcher_within : PySem.W.findIn K (.ref C_Matcher) "within" = some none)
    (no_Matcher_moves : PySem.W.findIn K (.ref C_Matcher) "moves" = some none)
    (no_Matcher_goal : PySem.W.findIn K (.ref C_Matcher) "goal" = some none)
    (n_CutError : PySem.W.nsIn K mainGlobals "CutError" = some (some (.ref C_CutError)))
    (rd_CutError : PySem.W.readsIn K C_CutError (.type "type") = true)
    (sp_CutError : PySem.W.specialIn K (.ref C_CutError) "__getattribute__" = some (some (.builtin "type.__getattribute__")))
    (fi_CutError : PySem.W.findCls K (.ref C_CutError) (.type "type") "__init__" = some (.val (.builtin "ValueError.__init__")))
    (n_InvalidText : PySem.W.nsIn K mainGlobals "InvalidText" = some (some (.ref C_InvalidText)))
    (xl_InvalidText : K.lookup C_InvalidText = some (excClassObj nm_InvalidText q_InvalidText C_InvalidText N_InvalidText bs_InvalidText [.ref C_CutError, .type "ValueError", .type "Exception", .type "BaseException", .type "object"] true sn_InvalidText sub_InvalidText ab_InvalidText col_InvalidText dd_InvalidText m0_InvalidText m1_InvalidText m2_InvalidText m3_InvalidText m5_InvalidText "ValueError.__new__"))
    (sa_InvalidText : PySem.W.findIn K (.ref C_InvalidText) "__setattr__" = some (some (.builtin "object.__setattr__")))
    (ga_InvalidText : PySem.W.findIn K (.ref C_InvalidText) "__getattribute__" = some (some (.builtin "BaseException.__getattribute__")))
    (gg_InvalidText : PySem.W.findIn K (.ref C_InvalidText) "__getattr__" = some none)
    (ex_InvalidText : PySem.W.subIn K (.ref C_InvalidText) (.type "BaseException") = some true)
    (ty_InvalidText : PySem.W.typeIn K (.ref C_InvalidText) = some (.type "type"))
    (kc_InvalidText : PySem.W.keepIn K (.ref C_InvalidText) = true)
    (hd_InvalidText : PySem.W.hasDictIn K C_InvalidText = true)
    (no_InvalidText_position : PySem.W.findIn K (.ref C_InvalidText) "position" = some none)
    (sb_InvalidText : PySem.W.subIn K (.ref C_InvalidText) (.ref C_InvalidText) = some true)
    (cl_InvalidText : PySem.W.findIn K (.ref C_InvalidText) "__class__" = some (some (.builtin "object.__class__")))
    (cg : PySem.W.specialIn K (.builtin "object.__class__") "__get__" = some (some (.builtin "getset_descriptor.__get__")))
    (ct : PySem.W.takesIn K (.builtin "object.__class__") = some true)
    (cm_InvalidText : PySem.W.mroIn K C_InvalidText (.type "object") = some true)
    (kt1 : PySem.W.kitOne K (.ref C_InvalidText) (.ref C_CutError) = some true)
    (kt2 : PySem.W.kitOne K (.ref C_InvalidText) (.type "ValueError") = some true)
    (a0 : PySem.W.nsIn K mainGlobals "check_text" = some (some (.ref f0)))
    (l0 : K.lookup f0 = some ⟨oc0, od0, .func (PySem.W.fnOf "check_text" "check_text" (defArgs s_check_text) (defBody s_check_text) (defScope s_check_text) .none kV0 dc0 pm0 an0 cd0 ct0), sl0⟩)
    (c0 : PySem.W.codeIn K cd0 "check_text" = true)
    (k0 : PySem.W.keepIn K (.ref f0) = true)
    (a1 : PySem.W.nsIn K mainGlobals "parts_of" = some (some (.ref f1)))
    (l1 : K.lookup f1 = some ⟨oc1, od1, .func (PySem.W.fnOf "parts_of" "parts_of" (defArgs s_parts_of) (defBody s_parts_of) (defScope s_parts_of) .none kV1 dc1 pm1 an1 cd1 ct1), sl1⟩)
    (c1 : PySem.W.codeIn K cd1 "parts_of" = true)
    (k1 : PySem.W.keepIn K (.ref f1) = true)
    (a2 : PySem.W.nsIn K mainGlobals "is_plain" = some (some (.ref f2)))
    (l2 : K.lookup f2 = some ⟨oc2, od2, .func (PySem.W.fnOf "is_plain" "is_plain" (defArgs s_is_plain) (defBody s_is_plain) (defScope s_is_plain) .none kV2 dc2 pm2 an2 cd2 ct2), sl2⟩)
    (c2 : PySem.W.codeIn K cd2 "is_plain" = true)
    (k2 : PySem.W.keepIn K (.ref f2) = true)
    (a3 : PySem.W.nsIn K mainGlobals "add_row" = some (some (.ref f3)))
    (l3 : K.lookup f3 = some ⟨oc3, od3, .func (PySem.W.fnOf "add_row" "add_row" (defArgs s_add_row) (defBody s_add_row) (defScope s_add_row) .none kV3 dc3 pm3 an3 cd3 ct3), sl3⟩)
    (c3 : PySem.W.codeIn K cd3 "add_row" = true)
    (k3 : PySem.W.keepIn K (.ref f3) = true)
    (a4 : PySem.W.nsIn K mainGlobals "add_any" = some (some (.ref f4)))
    (l4 : K.lookup f4 = some ⟨oc4, od4, .func (PySem.W.fnOf "add_any" "add_any" (defArgs s_add_any) (defBody s_add_any) (defScope s_add_any) .none kV4 dc4 pm4 an4 cd4 ct4), sl4⟩)
    (c4 : PySem.W.codeIn K cd4 "add_any" = true)
    (k4 : PySem.W.keepIn K (.ref f4) = true)
    (a5 : PySem.W.nsIn K mainGlobals "add_again" = some (some (.ref f5)))
    (l5 : K.lookup f5 = some ⟨oc5, od5, .func (PySem.W.fnOf "add_again" "add_again" (defArgs s_add_again) (defBody s_add_again) (defScope s_add_again) .none kV5 dc5 pm5 an5 cd5 ct5), sl5⟩)
    (c5 : PySem.W.codeIn K cd5 "add_again" = true)
    (k5 : PySem.W.keepIn K (.ref f5) = true)
    (a6 : PySem.W.nsIn K mainGlobals "add_moves" = some (some (.ref f6)))
    (l6 : K.lookup f6 = some ⟨oc6, od6, .func (PySem.W.fnOf "add_moves" "add_moves" (defArgs s_add_moves) (defBody s_add_moves) (defScope s_add_moves) .none kV6 dc6 pm6 an6 cd6 ct6), sl6⟩)
    (c6 : PySem.W.codeIn K cd6 "add_moves" = true)
    (k6 : PySem.W.keepIn K (.ref f6) = true)
    (a7 : PySem.W.nsIn K mainGlobals "closure" = some (some (.ref f7)))
    (l7 : K.lookup f7 = some ⟨oc7, od7, .func (PySem.W.fnOf "closure" "closure" (defArgs s_closure) (defBody s_closure) (defScope s_closure) .none kV7 dc7 pm7 an7 cd7 ct7), sl7⟩)
    (c7 : PySem.W.codeIn K cd7 "closure" = true)
    (k7 : PySem.W.keepIn K (.ref f7) = true)
    (a8 : PySem.W.nsIn K mainGlobals "matches" = some (some (.ref f8)))
    (l8 : K.lookup f8 = some ⟨oc8, od8, .func (PySem.W.fnOf "matches" "matches" (defArgs s_matches) (defBody s_matches) (defScope s_matches) .none kV8 dc8 pm8 an8 cd8 ct8), sl8⟩)
    (c8 : PySem.W.codeIn K cd8 "matches" = true)
    (k8 : PySem.W.keepIn K (.ref f8) = true)
    (a9 : PySem.W.nsIn K mainGlobals "_law_source" = some (some (.ref f9)))
    (l9 : K.lookup f9 = some ⟨oc9, od9, .func (PySem.W.fnOf "_law_source" "_law_source" (defArgs s_l_source) (defBody s_l_source) (defScope s_l_source) .none kV9 dc9 pm9 an9 cd9 ct9), sl9⟩)
    (c9 : PySem.W.codeIn K cd9 "_law_source" = true)
    (k9 : PySem.W.keepIn K (.ref f9) = true)
    (a10 : PySem.W.nsIn K mainGlobals "_law_draw" = some (some (.ref f10)))
    (l10 : K.lookup f10 = some ⟨oc10, od10, .func (PySem.W.fnOf "_law_draw" "_law_draw" (defArgs s_l_draw) (defBody s_l_draw) (defScope s_l_draw) .none kV10 dc10 pm10 an10 cd10 ct10), sl10⟩)
    (c10 : PySem.W.codeIn K cd10 "_law_draw" = true)
    (k10 : PySem.W.keepIn K (.ref f10) = true)
    (a11 : PySem.W.nsIn K mainGlobals "_law_alphabet" = some (some (.ref f11)))
    (l11 : K.lookup f11 = some ⟨oc11, od11, .func (PySem.W.fnOf "_law_alphabet" "_law_alphabet" (defArgs s_l_alphabet) (defBody s_l_alphabet) (defScope s_l_alphabet) .none kV11 dc11 pm11 an11 cd11 ct11), sl11⟩)
    (c11 : PySem.W.codeIn K cd11 "_law_alphabet" = true)
    (k11 : PySem.W.keepIn K (.ref f11) = true)
    (a12 : PySem.W.nsIn K mainGlobals "_law_set" = some (some (.ref f12)))
    (l12 : K.lookup f12 = some ⟨oc12, od12, .func (PySem.W.fnOf "_law_set" "_law_set" (defArgs s_l_set) (defBody s_l_set) (defScope s_l_set) .none kV12 dc12 pm12 an12 cd12 ct12), sl12⟩)
    (c12 : PySem.W.codeIn K cd12 "_law_set" = true)
    (k12 : PySem.W.keepIn K (.ref f12) = true)
    (a13 : PySem.W.nsIn K mainGlobals "_law_row" = some (some (.ref f13)))
    (l13 : K.lookup f13 = some ⟨oc13, od13, .func (PySem.W.fnOf "_law_row" "_law_row" (defArgs s_l_row) (defBody s_l_row) (defScope s_l_row) .none kV13 dc13 pm13 an13 cd13 ct13), sl13⟩)
    (c13 : PySem.W.codeIn K cd13 "_law_row" = true)
    (k13 : PySem.W.keepIn K (.ref f13) = true)
    (a14 : PySem.W.nsIn K mainGlobals "_law_plain" = some (some (.ref f14)))
    (l14 : K.lookup f14 = some ⟨oc14, od14, .func (PySem.W.fnOf "_law_plain" "_law_plain" (defArgs s_l_plain) (defBody s_l_plain) (defScope s_l_plain) .none kV14 dc14 pm14 an14 cd14 ct14), sl14⟩)
    (c14 : PySem.W.codeIn K cd14 "_law_plain" = true)
    (k14 : PySem.W.keepIn K (.ref f14) = true)
    (a15 : PySem.W.nsIn K mainGlobals "_law_pattern" = some (some (.ref f15)))
    (l15 : K.lookup f15 = some ⟨oc15, od15, .func (PySem.W.fnOf "_law_pattern" "_law_pattern" (defArgs s_l_pattern) (defBody s_l_pattern) (defScope s_l_pattern) .none kV15 dc15 pm15 an15 cd15 ct15), sl15⟩)
    (c15 : PySem.W.codeIn K cd15 "_law_pattern" = true)
    (k15 : PySem.W.keepIn K (.ref f15) = true)
    (a16 : PySem.W.nsIn K mainGlobals "_law_text" = some (some (.ref f16)))
    (l16 : K.lookup f16 = some ⟨oc16, od16, .func (PySem.W.fnOf "_law_text" "_law_text" (defArgs s_l_text) (defBody s_l_text) (defScope s_l_text) .none kV16 dc16 pm16 an16 cd16 ct16), sl16⟩)
    (c16 : PySem.W.codeIn K cd16 "_law_text" = true)
    (k16 : PySem.W.keepIn K (.ref f16) = true)
    (a17 : PySem.W.nsIn K mainGlobals "_law_short_texts" = some (some (.ref f17)))
    (l17 : K.lookup f17 = some ⟨oc17, od17, .func (PySem.W.fnOf "_law_short_texts" "_law_short_texts" (defArgs s_l_short_texts) (defBody s_l_short_texts) (defScope s_l_short_texts) .none kV17 dc17 pm17 an17 cd17 ct17), sl17⟩)
    (c17 : PySem.W.codeIn K cd17 "_law_short_texts" = true)
    (k17 : PySem.W.keepIn K (.ref f17) = true)
    (a18 : PySem.W.nsIn K mainGlobals "_law_with_empty" = some (some (.ref f18)))
    (l18 : K.lookup f18 = some ⟨oc18, od18, .func (PySem.W.fnOf "_law_with_empty" "_law_with_empty" (defArgs s_l_with_empty) (defBody s_l_with_empty) (defScope s_l_with_empty) .none kV18 dc18 pm18 an18 cd18 ct18), sl18⟩)
    (c18 : PySem.W.codeIn K cd18 "_law_with_empty" = true)
    (k18 : PySem.W.keepIn K (.ref f18) = true)
    (a19 : PySem.W.nsIn K mainGlobals "_law_wide" = some (some (.ref f19)))
    (l19 : K.lookup f19 = some ⟨oc19, od19, .func (PySem.W.fnOf "_law_wide" "_law_wide" (defArgs s_l_wide) (defBody s_l_wide) (defScope s_l_wide) .none kV19 dc19 pm19 an19 cd19 ct19), sl19⟩)
    (c19 : PySem.W.codeIn K cd19 "_law_wide" = true)
    (k19 : PySem.W.keepIn K (.ref f19) = true)
    (a20 : PySem.W.nsIn K mainGlobals "_law_count_matched" = some (some (.ref f20)))
    (l20 : K.lookup f20 = some ⟨oc20, od20, .func (PySem.W.fnOf "_law_count_matched" "_law_count_matched" (defArgs s_l_count_matched) (defBody s_l_count_matched) (defScope s_l_count_matched) .none kV20 dc20 pm20 an20 cd20 ct20), sl20⟩)
    (c20 : PySem.W.codeIn K cd20 "_law_count_matched" = true)
    (k20 : PySem.W.keepIn K (.ref f20) = true)
    (a21 : PySem.W.nsIn K mainGlobals "_law_matched" = some (some (.ref f21)))
    (l21 : K.lookup f21 = some ⟨oc21, od21, .func (PySem.W.fnOf "_law_matched" "_law_matched" (defArgs s_l_matched) (defBody s_l_matched) (defScope s_l_matched) .none kV21 dc21 pm21 an21 cd21 ct21), sl21⟩)
    (c21 : PySem.W.codeIn K cd21 "_law_matched" = true)
    (k21 : PySem.W.keepIn K (.ref f21) = true)
    (a22 : PySem.W.nsIn K mainGlobals "_law_by_parts" = some (some (.ref f22)))
    (l22 : K.lookup f22 = some ⟨oc22, od22, .func (PySem.W.fnOf "_law_by_parts" "_law_by_parts" (defArgs s_l_by_parts) (defBody s_l_by_parts) (defScope s_l_by_parts) .none kV22 dc22 pm22 an22 cd22 ct22), sl22⟩)
    (c22 : PySem.W.codeIn K cd22 "_law_by_parts" = true)
    (k22 : PySem.W.keepIn K (.ref f22) = true)
    (a23 : PySem.W.nsIn K mainGlobals "_law_refused" = some (some (.ref f23)))
    (l23 : K.lookup f23 = some ⟨oc23, od23, .func (PySem.W.fnOf "_law_refused" "_law_refused" (defArgs s_l_refused) (defBody s_l_refused) (defScope s_l_refused) .none kV23 dc23 pm23 an23 cd23 ct23), sl23⟩)
    (c23 : PySem.W.codeIn K cd23 "_law_refused" = true)
    (k23 : PySem.W.keepIn K (.ref f23) = true)
    (a24 : PySem.W.nsIn K mainGlobals "law" = some (some (.ref f24)))
    (l24 : K.lookup f24 = some ⟨oc24, od24, .func (PySem.W.fnOf "law" "law" (defArgs s_law) (defBody s_law) (defScope s_law) .none kV24 dc24 pm24 an24 cd24 ct24), sl24⟩)
    (c24 : PySem.W.codeIn K cd24 "law" = true)
    (k24 : PySem.W.keepIn K (.ref f24) = true)
    (a25 : PySem.W.findIn K (.ref C_Matcher) "__init__" = some (some (.ref f25)))
    (i25 : PySem.W.isFn K (.ref f25) = true)
    (l25 : K.lookup f25 = some ⟨oc25, od25, .func (PySem.W.fnOf "__init__" "Matcher.__init__" (defArgs s_Matcher_init) (defBody s_Matcher_init) (defScope s_Matcher_init) .none kV25 dc25 pm25 an25 cd25 ct25), sl25⟩)
    (c25 : PySem.W.codeIn K cd25 "Matcher.__init__" = true)
    (k25 : PySem.W.keepIn K (.ref f25) = true)
    (a26 : PySem.W.findIn K (.ref C_Matcher) "begin" = some (some (.ref f26)))
    (i26 : PySem.W.isFn K (.ref f26) = true)
    (l26 : K.lookup f26 = some ⟨oc26, od26, .func (PySem.W.fnOf "begin" "Matcher.begin" (defArgs s_Matcher_begin) (defBody s_Matcher_begin) (defScope s_Matcher_begin) .none kV26 dc26 pm26 an26 cd26 ct26), sl26⟩)
    (c26 : PySem.W.codeIn K cd26 "Matcher.begin" = true)
    (k26 : PySem.W.keepIn K (.ref f26) = true)
    (a27 : PySem.W.findIn K (.ref C_Matcher) "step" = some (some (.ref f27)))
    (i27 : PySem.W.isFn K (.ref f27) = true)
    (l27 : K.lookup f27 = some ⟨oc27, od27, .func (PySem.W.fnOf "step" "Matcher.step" (defArgs s_Matcher_step) (defBody s_Matcher_step) (defScope s_Matcher_step) .none kV27 dc27 pm27 an27 cd27 ct27), sl27⟩)
    (c27 : PySem.W.codeIn K cd27 "Matcher.step" = true)
    (k27 : PySem.W.keepIn K (.ref f27) = true)
    (a28 : PySem.W.findIn K (.ref C_Matcher) "accepts" = some (some (.ref f28)))
    (i28 : PySem.W.isFn K (.ref f28) = true)
    (l28 : K.lookup f28 = some ⟨oc28, od28, .func (PySem.W.fnOf "accepts" "Matcher.accepts" (defArgs s_Matcher_accepts) (defBody s_Matcher_accepts) (defScope s_Matcher_accepts) .none kV28 dc28 pm28 an28 cd28 ct28), sl28⟩)
    (c28 : PySem.W.codeIn K cd28 "Matcher.accepts" = true)
    (k28 : PySem.W.keepIn K (.ref f28) = true)
    (a29 : PySem.W.findIn K (.ref C_InvalidText) "__init__" = some (some (.ref f29)))
    (i29 : PySem.W.typeIn K (.ref f29) = some (.type "function"))
    (l29 : K.lookup f29 = some ⟨oc29, od29, .func (PySem.W.fnOf "__init__" "InvalidText.__init__" (defArgs s_InvalidText_init) (defBody s_InvalidText_init) (defScope s_InvalidText_init) .none kV29 dc29 pm29 an29 cd29 ct29), sl29⟩)
    (c29 : PySem.W.codeIn K cd29 "InvalidText.__init__" = true)
    (k29 : PySem.W.keepIn K (.ref f29) = true)
    (z0 : PySem.W.nsIn K mainGlobals "len" = some none)
    (z1 : PySem.W.nsIn K mainGlobals "list" = some none)
    (z2 : PySem.W.nsIn K mainGlobals "tuple" = some none)
    (z3 : PySem.W.nsIn K mainGlobals "sorted" = some none)
    (z4 : PySem.W.nsIn K mainGlobals "range" = some none)
    (z5 : PySem.W.nsIn K mainGlobals "int" = some none)
    (z6 : PySem.W.nsIn K mainGlobals "zip" = some none)
    (z7 : PySem.W.nsIn K mainGlobals "enumerate" = some none)
    (z8 : PySem.W.nsIn K mainGlobals "any" = some none)
    (z9 : PySem.W.nsIn K mainGlobals "all" = some none)
    (z10 : PySem.W.nsIn K mainGlobals "min" = some none)
    (z11 : PySem.W.nsIn K mainGlobals "max" = some none)
    (z12 : PySem.W.nsIn K mainGlobals "isinstance" = some none)
    (z13 : PySem.W.nsIn K mainGlobals "bool" = some none)
    (z14 : PySem.W.nsIn K mainGlobals "ValueError" = some none)
    : ∃ fd : FuncData, (∀ (s : Shared) (v : Value), BindsTo s fd ⟨[v], []⟩ [("_law_script", v)]) ∧ ∀ base : Heap, K.In base → base.Ns mainGlobals mg → FnOk l.prog w K mg base (L2.CX l.prog w) 182 fa fd ["_law_script"] (spM K 1 g_law) := by
  have e := hfa.symm.trans (PySem.W.mg_of X G a24)
  cases e
  have cl_Matcher : Cls K C_Matcher := ⟨pg_Matcher, hd_Matcher, po_Matcher, sa_Matcher⟩
  have f_Matcher_word : Fo K C_Matcher "word" := ⟨cl_Matcher, no_Matcher_word⟩
  have f_Matcher_within : Fo K C_Matcher "within" := ⟨cl_Matcher, no_Matcher_within⟩
  have f_Matcher_moves : Fo K C_Matcher "moves" := ⟨cl_Matcher, no_Matcher_moves⟩
  have f_Matcher_goal : Fo K C_Matcher "goal" := ⟨cl_Matcher, no_Matcher_goal⟩
  have F0 := fun_mk (st := s_check_text) l0 c0 k0
  have A_check_text : At K mg "check_text" ["alphabet", "text"] s_check_text _ _ := ⟨F0, PySem.W.mg_of X G a0, F0.binds (ps := ["alphabet", "text"]) fun _ _ _ _ _ _ us hl => match us, hl with | [_, _], _ => rfl⟩
  have F1 := fun_mk (st := s_parts_of) l1 c1 k1
  have A_parts_of : At K mg "parts_of" ["expression"] s_parts_of _ _ := ⟨F1, PySem.W.mg_of X G a1, F1.binds (ps := ["expression"]) fun _ _ _ _ _ _ us hl => match us, hl with | [_], _ => rfl⟩
  have F2 := fun_mk (st := s_is_plain) l2 c2 k2
  have A_is_plain : At K mg "is_plain" ["expression"] s_is_plain _ _ := ⟨F2, PySem.W.mg_of X G a2, F2.binds (ps := ["expression"]) fun _ _ _ _ _ _ us hl => match us, hl with | [_], _ => rfl⟩
  have F3 := fun_mk (st := s_add_row) l3 c3 k3
  have A_add_row : At K mg "add_row" ["moves", "start", "parts"] s_add_row _ _ := ⟨F3, PySem.W.mg_of X G a3, F3.binds (ps := ["moves", "start", "parts"]) fun _ _ _ _ _ _ us hl => match us, hl with | [_, _, _], _ => rfl⟩
  have F4 := fun_mk (st := s_add_any) l4 c4 k4
  have A_add_any : At K mg "add_any" ["moves", "start", "parts"] s_add_any _ _ := ⟨F4, PySem.W.mg_of X G a4, F4.binds (ps := ["moves", "start", "parts"]) fun _ _ _ _ _ _ us hl => match us, hl with | [_, _, _], _ => rfl⟩
  have F5 := fun_mk (st := s_add_again) l5 c5 k5
  have A_add_again : At K mg "add_again" ["moves", "start", "expression"] s_add_again _ _ := ⟨F5, PySem.W.mg_of X G a5, F5.binds (ps := ["moves", "start", "expression"]) fun _ _ _ _ _ _ us hl => match us, hl with | [_, _, _], _ => rfl⟩
  have F6 := fun_mk (st := s_add_moves) l6 c6 k6
  have A_add_moves : At K mg "add_moves" ["moves", "start", "expression"] s_add_moves _ _ := ⟨F6, PySem.W.mg_of X G a6, F6.binds (ps := ["moves", "start", "expression"]) fun _ _ _ _ _ _ us hl => match us, hl with | [_, _, _], _ => rfl⟩
  have F7 := fun_mk (st := s_closure) l7 c7 k7
  have A_closure : At K mg "closure" ["moves", "places"] s_closure _ _ := ⟨F7, PySem.W.mg_of X G a7, F7.binds (ps := ["moves", "places"]) fun _ _ _ _ _ _ us hl => match us, hl with | [_, _], _ => rfl⟩
  have F8 := fun_mk (st := s_matches) l8 c8 k8
  have A_matches : At K mg "matches" ["alphabet", "pattern", "text"] s_matches _ _ := ⟨F8, PySem.W.mg_of X G a8, F8.binds (ps := ["alphabet", "pattern", "text"]) fun _ _ _ _ _ _ us hl => match us, hl with | [_, _, _], _ => rfl⟩
  have F9 := fun_mk (st := s_l_source) l9 c9 k9
  have A_l_source : At K mg "_law_source" ["_law_script", "_law_k"] s_l_source _ _ := ⟨F9, PySem.W.mg_of X G a9, F9.binds (ps := ["_law_script", "_law_k"]) fun _ _ _ _ _ _ us hl => match us, hl with | [_, _], _ => rfl⟩
  have F10 := fun_mk (st := s_l_draw) l10 c10 k10
  have A_l_draw : At K mg "_law_draw" ["_law_source_here", "_law_many"] s_l_draw _ _ := ⟨F10, PySem.W.mg_of X G a10, F10.binds (ps := ["_law_source_here", "_law_many"]) fun _ _ _ _ _ _ us hl => match us, hl with | [_, _], _ => rfl⟩
  have F11 := fun_mk (st := s_l_alphabet) l11 c11 k11
  have A_l_alphabet : At K mg "_law_alphabet" ["_law_source_here", "_law_many"] s_l_alphabet _ _ := ⟨F11, PySem.W.mg_of X G a11, F11.binds (ps := ["_law_source_here", "_law_many"]) fun _ _ _ _ _ _ us hl => match us, hl with | [_, _], _ => rfl⟩
  have F12 := fun_mk (st := s_l_set) l12 c12 k12
  have A_l_set : At K mg "_law_set" ["_law_source_here", "_law_alphabet_here"] s_l_set _ _ := ⟨F12, PySem.W.mg_of X G a12, F12.binds (ps := ["_law_source_here", "_law_alphabet_here"]) fun _ _ _ _ _ _ us hl => match us, hl with | [_, _], _ => rfl⟩
  have F13 := fun_mk (st := s_l_row) l13 c13 k13
  have A_l_row : At K mg "_law_row" ["_law_source_here", "_law_alphabet_here", "_law_many"] s_l_row _ _ := ⟨F13, PySem.W.mg_of X G a13, F13.binds (ps := ["_law_source_here", "_law_alphabet_here", "_law_many"]) fun _ _ _ _ _ _ us hl => match us, hl with | [_, _, _], _ => rfl⟩
  have F14 := fun_mk (st := s_l_plain) l14 c14 k14
  have A_l_plain : At K mg "_law_plain" ["_law_source_here", "_law_alphabet_here", "_law_room"] s_l_plain _ _ := ⟨F14, PySem.W.mg_of X G a14, F14.binds (ps := ["_law_source_here", "_law_alphabet_here", "_law_room"]) fun _ _ _ _ _ _ us hl => match us, hl with | [_, _, _], _ => rfl⟩
  have F15 := fun_mk (st := s_l_pattern) l15 c15 k15
  have A_l_pattern : At K mg "_law_pattern" ["_law_source_here", "_law_alphabet_here", "_law_room"] s_l_pattern _ _ := ⟨F15, PySem.W.mg_of X G a15, F15.binds (ps := ["_law_source_here", "_law_alphabet_here", "_law_room"]) fun _ _ _ _ _ _ us hl => match us, hl with | [_, _, _], _ => rfl⟩
  have F16 := fun_mk (st := s_l_text) l16 c16 k16
  have A_l_text : At K mg "_law_text" ["_law_source_here", "_law_alphabet_here", "_law_many"] s_l_text _ _ := ⟨F16, PySem.W.mg_of X G a16, F16.binds (ps := ["_law_source_here", "_law_alphabet_here", "_law_many"]) fun _ _ _ _ _ _ us hl => match us, hl with | [_, _, _], _ => rfl⟩
  have F17 := fun_mk (st := s_l_short_texts) l17 c17 k17
  have A_l_short_texts : At K mg "_law_short_texts" ["_law_alphabet_here", "_law_longest"] s_l_short_texts _ _ := ⟨F17, PySem.W.mg_of X G a17, F17.binds (ps := ["_law_alphabet_here", "_law_longest"]) fun _ _ _ _ _ _ us hl => match us, hl with | [_, _], _ => rfl⟩
  have F18 := fun_mk (st := s_l_with_empty) l18 c18 k18
  have A_l_with_empty : At K mg "_law_with_empty" ["_law_source_here", "_law_alphabet_here"] s_l_with_empty _ _ := ⟨F18, PySem.W.mg_of X G a18, F18.binds (ps := ["_law_source_here", "_law_alphabet_here"]) fun _ _ _ _ _ _ us hl => match us, hl with | [_, _], _ => rfl⟩
  have F19 := fun_mk (st := s_l_wide) l19 c19 k19
  have A_l_wide : At K mg "_law_wide" ["_law_source_here", "_law_alphabet_here"] s_l_wide _ _ := ⟨F19, PySem.W.mg_of X G a19, F19.binds (ps := ["_law_source_here", "_law_alphabet_here"]) fun _ _ _ _ _ _ us hl => match us, hl with | [_, _], _ => rfl⟩
  have F20 := fun_mk (st := s_l_count_matched) l20 c20 k20
  have A_l_count_matched : At K mg "_law_count_matched" ["_law_part", "_law_low", "_law_high", "_law_text_here", "_law_known"] s_l_count_matched _ _ := ⟨F20, PySem.W.mg_of X G a20, F20.binds (ps := ["_law_part", "_law_low", "_law_high", "_law_text_here", "_law_known"]) fun _ _ _ _ _ _ us hl => match us, hl with | [_, _, _, _, _], _ => rfl⟩
  have F21 := fun_mk (st := s_l_matched) l21 c21 k21
  have A_l_matched : At K mg "_law_matched" ["_law_pattern_here", "_law_text_here", "_law_known"] s_l_matched _ _ := ⟨F21, PySem.W.mg_of X G a21, F21.binds (ps := ["_law_pattern_here", "_law_text_here", "_law_known"]) fun _ _ _ _ _ _ us hl => match us, hl with | [_, _, _], _ => rfl⟩
  have F22 := fun_mk (st := s_l_by_parts) l22 c22 k22
  have A_l_by_parts : At K mg "_law_by_parts" ["_law_pattern_here", "_law_text_here", "_law_known"] s_l_by_parts _ _ := ⟨F22, PySem.W.mg_of X G a22, F22.binds (ps := ["_law_pattern_here", "_law_text_here", "_law_known"]) fun _ _ _ _ _ _ us hl => match us, hl with | [_, _, _], _ => rfl⟩
  have F23 := fun_mk (st := s_l_refused) l23 c23 k23
  have A_l_refused : At K mg "_law_refused" ["_law_alphabet_here", "_law_pattern_here", "_law_text_here"] s_l_refused _ _ := ⟨F23, PySem.W.mg_of X G a23, F23.binds (ps := ["_law_alphabet_here", "_law_pattern_here", "_law_text_here"]) fun _ _ _ _ _ _ us hl => match us, hl with | [_, _, _], _ => rfl⟩
  have F24 := fun_mk (st := s_law) l24 c24 k24
  have A_law : At K mg "law" ["_law_script"] s_law _ _ := ⟨F24, PySem.W.mg_of X G a24, F24.binds (ps := ["_law_script"]) fun _ _ _ _ _ _ us hl => match us, hl with | [_], _ => rfl⟩
  have F25 := fun_mk (st := s_Matcher_init) l25 c25 k25
  have A_Matcher_init : AtI K mg C_Matcher "Matcher" "Matcher.__init__" ["self", "pattern"] s_Matcher_init _ _ := ⟨F25, ⟨mk_Matcher, a25, i25, kc_Matcher⟩, PySem.W.mg_of X G n_Matcher, F25.binds (ps := ["self", "pattern"]) fun _ _ _ _ _ _ us hl => match us, hl with | [_, _], _ => rfl⟩
  have F26 := fun_mk (st := s_Matcher_begin) l26 c26 k26
  have A_Matcher_begin : AtM K C_Matcher "begin" "Matcher.begin" ["self"] s_Matcher_begin _ _ := ⟨F26, cl_Matcher, ⟨a26, i26, k26⟩, F26.binds (ps := ["self"]) fun _ _ _ _ _ _ us hl => match us, hl with | [_], _ => rfl⟩
  have F27 := fun_mk (st := s_Matcher_step) l27 c27 k27
  have A_Matcher_step : AtM K C_Matcher "step" "Matcher.step" ["self", "state", "character"] s_Matcher_step _ _ := ⟨F27, cl_Matcher, ⟨a27, i27, k27⟩, F27.binds (ps := ["self", "state", "character"]) fun _ _ _ _ _ _ us hl => match us, hl with | [_, _, _], _ => rfl⟩
  have F28 := fun_mk (st := s_Matcher_accepts) l28 c28 k28
  have A_Matcher_accepts : AtM K C_Matcher "accepts" "Matcher.accepts" ["self", "state"] s_Matcher_accepts _ _ := ⟨F28, cl_Matcher, ⟨a28, i28, k28⟩, F28.binds (ps := ["self", "state"]) fun _ _ _ _ _ _ us hl => match us, hl with | [_, _], _ => rfl⟩
  have F29 := fun_mk (st := s_InvalidText_init) l29 c29 k29
  have B_InvalidText := F29.binds (ps := ["self", "position"]) fun _ _ _ _ _ _ us hl => match us, hl with | [_, _], _ => rfl
  have T_InvalidText : OexC K C_InvalidText := ⟨⟨_, _, _, _, _, _, _, _, _, _, _, _, _, _, _, xl_InvalidText, (by rfl)⟩, sa_InvalidText, ex_InvalidText, ty_InvalidText, kc_InvalidText⟩
  have U_InvalidText : XfC K C_InvalidText := ⟨ga_InvalidText, gg_InvalidText, ex_InvalidText, hd_InvalidText⟩
  have BS : BsC K mg C_CutError := ⟨PySem.W.mg_of X G n_CutError, rd_CutError, sp_CutError, fi_CutError⟩
  have m_len := PySem.W.mg_none_of X G z0
  have m_list := PySem.W.mg_none_of X G z1
  have m_tuple := PySem.W.mg_none_of X G z2
  have m_sorted := PySem.W.mg_none_of X G z3
  have m_range := PySem.W.mg_none_of X G z4
  have m_int := PySem.W.mg_none_of X G z5
  have m_zip := PySem.W.mg_none_of X G z6
  have m_enumerate := PySem.W.mg_none_of X G z7
  have m_any := PySem.W.mg_none_of X G z8
  have m_all := PySem.W.mg_none_of X G z9
  have m_min := PySem.W.mg_none_of X G z10
  have m_max := PySem.W.mg_none_of X G z11
  have m_isinstance := PySem.W.mg_none_of X G z12
  have m_bool := PySem.W.mg_none_of X G z13
  have m_ValueError := PySem.W.mg_none_of X G z14
  refine ⟨PySem.W.fnOf "law" "law" (defArgs s_law) (defBody s_law) (defScope s_law) .none kV24 dc24 pm24 an24 cd24 ct24, fun s v => .of_eq rfl, fun base _ _ => ?_⟩
  have e_InvalidText : Er1 l.prog w K mg base "InvalidText" C_InvalidText "position" := ⟨⟨T_InvalidText, PySem.W.mg_of X G n_InvalidText, U_InvalidText⟩, no_InvalidText_position, _, _, _, a29, i29, ok_ertI F29 BS T_InvalidText no_InvalidText_position, B_InvalidText⟩
  have o4 := ok_parts_of (P := l.prog) (w := w) (base := base) (mg := mg) A_parts_of
  have o7 := ok_is_plain (P := l.prog) (w := w) (base := base) (mg := mg) A_is_plain m_all o4 25
  have o8 := ok_addmoves (P := l.prog) (w := w) (base := base) (mg := mg) A_add_moves A_add_row A_add_any A_add_again m_len m_range m_int 25
  have o9 := clos_E (ok_clos (P := l.prog) (w := w) (base := base) (mg := mg) A_closure m_len m_list m_tuple m_sorted)
  have q1 := ok_Minit (P := l.prog) (w := w) (base := base) (mg := mg) A_Matcher_init f_Matcher_word f_Matcher_within f_Matcher_moves f_Matcher_goal o7 o4 o8 25
  have q2 := ok_begin (P := l.prog) (w := w) (base := base) (mg := mg) A_Matcher_begin f_Matcher_word f_Matcher_within f_Matcher_moves m_tuple o9 25
  have q3 := ok_step (P := l.prog) (w := w) (base := base) (mg := mg) A_Matcher_step f_Matcher_word f_Matcher_within f_Matcher_moves m_tuple m_zip o9 25
  have q4 := ok_acc (P := l.prog) (w := w) (base := base) (mg := mg) A_Matcher_accepts f_Matcher_word f_Matcher_within f_Matcher_goal m_any m_all m_zip 25
  have q5 := ok_check (P := l.prog) (w := w) (base := base) (mg := mg) A_check_text m_enumerate e_InvalidText
  have q6 := ok_matches (P := l.prog) (w := w) (base := base) (mg := mg) A_matches q5 q1 q2 q3 q4
  have p1 := ok_source (P := l.prog) (w := w) (base := base) (mg := mg) A_l_source m_len
  have p2 := ok_draw (P := l.prog) (w := w) (base := base) (mg := mg) A_l_draw
  have p3 := ok_alphabet (P := l.prog) (w := w) (base := base) (mg := mg) A_l_alphabet m_len m_list m_range p2
  have p4 := ok_set (P := l.prog) (w := w) (base := base) (mg := mg) A_l_set m_len m_range p2
  have p5 := ok_row (P := l.prog) (w := w) (base := base) (mg := mg) A_l_row m_tuple m_range p4
  have p6 := ok_text (P := l.prog) (w := w) (base := base) (mg := mg) A_l_text m_len m_range p2
  have p7 := short_E (ok_short0 (P := l.prog) (w := w) (base := base) (mg := mg) A_l_short_texts m_range)
  have p8 := ok_plain (P := l.prog) (w := w) (base := base) (mg := mg) A_l_plain m_min m_int p2 p4 p5
  have p9 := ok_pattern (P := l.prog) (w := w) (base := base) (mg := mg) A_l_pattern p2 p8
  have p10 := ok_wempty (P := l.prog) (w := w) (base := base) (mg := mg) A_l_with_empty p2 p4
  have p11 := ok_wide (P := l.prog) (w := w) (base := base) (mg := mg) A_l_wide m_max m_range m_tuple p2 p4 p5
  have y1 : ∀ C ∈ [C_InvalidText], PySem.W.exmOne K (.ref C) (.ref C_InvalidText) = some true := fun C h => by rw [List.mem_singleton.mp h]; exact PySem.W.exm_ref ex_InvalidText hd_InvalidText ty_InvalidText sb_InvalidText
  have t0 := isT_mk ⟨ga_InvalidText, gg_InvalidText, ex_InvalidText, hd_InvalidText, cl_InvalidText, cg, ct, cm_InvalidText⟩ kt1 kt2
  have c_CutError : Gc K mg "CutError" (.raw (.ref C_CutError)) := ⟨.ref C_CutError, _, PySem.W.mg_of X G n_CutError, rfl, fun _ => .raw _⟩
  have r1 := ok_m3 (P := l.prog) (w := w) (base := base) (mg := mg) A_l_matched A_l_by_parts A_l_count_matched m_len m_range m_max m_any m_all 90 90 (Nat.le_refl _)
  have r2 := ok_refused (P := l.prog) (w := w) (base := base) (mg := mg) A_l_refused m_isinstance m_ValueError c_CutError q6 y1 (PySem.W.mg_of X G n_InvalidText) ⟨U_InvalidText, no_InvalidText_position⟩ t0
  exact ok_law A_law m_range m_len m_isinstance m_bool p2 p1 p3 p9 p10 p11 p7 p6 r1 r2 q6
theorem walk {l : PySem.W.OpenLaw} {q : Program} {loose : List Str} {XP : (Str → Option Value) → Heap → Prop} {YP : World → Heap → Prop} {d : DefRec} {K : Params → PySem.W.Frag} (hn : l.most = some 63) (hdf : d.params.defaults = [])
    (hY : ∀ (w : World) (h : Heap), YP w h → (K w.params).In h)
    (F : ∀ (w : World) (mg : Str → Option Value) (fa : Addr) (h : Heap), (K w.params).In h → h.Ns mainGlobals mg → mg d.name = some (.ref fa) →
      ∃ fd : FuncData, (∀ (s : Shared) (u : Value), BindsTo s fd ⟨[u], []⟩ [("_law_script", u)]) ∧ ∀ base : Heap, (K w.params).In base → base.Ns mainGlobals mg → FnOk l.prog w (K w.params) mg base (L2.CX l.prog w) 182 fa fd ["_law_script"] (spM (K w.params) 1 g_law)) :
    PySem.W.WalkO q loose XP YP l.row.toRowW d [] (fun f vs => PySem.call f vs) :=
  L2.walk_of (n := 63) (k := 182) (x := "_law_script") (CX := fun w => L2.CX l.prog w) (sp := fun w => spM (K w.params) 1 g_law) hn (by decide) hdf ⟨rfl, by decide, by decide⟩ hY F
    (fun w H a ns hl _ hS => ⟨H, fun _ => none, [.scr ns], fun r _ => r = .fz (.bl true), fun _ _ => False, ⟨fun _ _ h => h, fun _ _ z => (nomatch z)⟩, .cons (.scr hS) .nil, rfl, ⟨ns, rfl, fun _ => rfl⟩, fun v H' Hf' r h' _ _ ok e => by subst e; exact Rep.bl_inv ok, fun _ _ _ _ _ _ _ _ _ z => z⟩) fun _ _ _ _ _ ⟨_, _, _, _, _, _, _, _, _, _, _, _, z⟩ => z
end Cut
open PySem PySem.W PyProof.Rows
set_option maxRecDepth 100000 in
set_option maxHeartbeats 0 in
theorem PySem.Challenge.cw_cutscribe_k03_matches_by_splitting_holds : PySem.Challenge.rw_cutscribe_k03_matches_by_splitting.Holds := by
  w_on; o_law; k_head; (case hw => w_witness2)
  k_fill
  refine Cut.walk (l := PySem.Challenge.rw_cutscribe_k03_matches_by_splitting) rfl rfl (fun w h Y => PySem.W.kIn_of Y) ?F
  case F =>
    intro w mg fa h KX G hmg0
    have hmg : mg "law" = some (.ref fa) := hmg0
    clear hmg0
    refine' Cut.all_mk KX G hmg ?n_Matcher ?pg_Matcher ?hd_Matcher ?po_Matcher ?sa_Matcher ?mk_Matcher ?kc_Matcher ?no_Matcher_word ?no_Matcher_within ?no_Matcher_moves ?no_Matcher_goal ?n_CutError ?rd_CutError ?sp_CutError ?fi_CutError ?n_InvalidText ?xl_InvalidText ?sa_InvalidText ?ga_InvalidText ?gg_InvalidText ?ex_InvalidText ?ty_InvalidText ?kc_InvalidText ?hd_InvalidText ?no_InvalidText_position ?sb_InvalidText ?cl_InvalidText ?cg ?ct ?cm_InvalidText ?kt1 ?kt2 ?a0 ?l0 ?c0 ?k0 ?a1 ?l1 ?c1 ?k1 ?a2 ?l2 ?c2 ?k2 ?a3 ?l3 ?c3 ?k3 ?a4 ?l4 ?c4 ?k4 ?a5 ?l5 ?c5 ?k5 ?a6 ?l6 ?c6 ?k6 ?a7 ?l7 ?c7 ?k7 ?a8 ?l8 ?c8 ?k8 ?a9 ?l9 ?c9 ?k9 ?a10 ?l10 ?c10 ?k10 ?a11 ?l11 ?c11 ?k11 ?a12 ?l12 ?c12 ?k12 ?a13 ?l13 ?c13 ?k13 ?a14 ?l14 ?c14 ?k14 ?a15 ?l15 ?c15 ?k15 ?a16 ?l16 ?c16 ?k16 ?a17 ?l17 ?c17 ?k17 ?a18 ?l18 ?c18 ?k18 ?a19 ?l19 ?c19 ?k19 ?a20 ?l20 ?c20 ?k20 ?a21 ?l21 ?c21 ?k21 ?a22 ?l22 ?c22 ?k22 ?a23 ?l23 ?c23 ?k23 ?a24 ?l24 ?c24 ?k24 ?a25 ?i25 ?l25 ?c25 ?k25 ?a26 ?i26 ?l26 ?c26 ?k26 ?a27 ?i27 ?l27 ?c27 ?k27 ?a28 ?i28 ?l28 ?c28 ?k28 ?a29 ?i29 ?l29 ?c29 ?k29 ?z0 ?z1 ?z2 ?z3 ?z4 ?z5 ?z6 ?z7 ?z8 ?z9 ?z10 ?z11 ?z12 ?z13 ?z14
    (case n_Matcher => k_is)
    (case pg_Matcher => k_is)
    (case hd_Matcher => k_is)
    (case po_Matcher => k_is)
    (case sa_Matcher => k_is)
    (case mk_Matcher => k_is)
    (case kc_Matcher => k_is)
    (case no_Matcher_word => k_is)
    (case no_Matcher_within => k_is)
    (case no_Matcher_moves => k_is)
    (case no_Matcher_goal => k_is)
    (case n_CutError => k_is)
    (case rd_CutError => k_is)
    (case sp_CutError => k_is)
    (case fi_CutError => k_is)
    (case n_InvalidText => k_is)
    (case xl_InvalidText => k_is)
    (case sa_InvalidText => k_is)
    (case ga_InvalidText => k_is)
    (case gg_InvalidText => k_is)
    (case ex_InvalidText => k_is)
    (case ty_InvalidText => k_is)
    (case kc_InvalidText => k_is)
    (case hd_InvalidText => k_is)
    (case no_InvalidText_position => k_is)
    (case sb_InvalidText => first | rfl | k_is)
    (case cl_InvalidText => first | rfl | k_is)
    (case cg => first | rfl | k_is)
    (case ct => first | rfl | k_is)
    (case cm_InvalidText => first | rfl | k_is)
    (case kt1 => first | rfl | k_is)
    (case kt2 => first | rfl | k_is)
    (case a0 => k_is)
    (case l0 => k_is)
    (case c0 => k_is)
    (case k0 => k_is)
    (case a1 => k_is)
    (case l1 => k_is)
    (case c1 => k_is)
    (case k1 => k_is)
    (case a2 => k_is)
    (case l2 => k_is)
    (case c2 => k_is)
    (case k2 => k_is)
    (case a3 => k_is)
    (case l3 => k_is)
    (case c3 => k_is)
    (case k3 => k_is)
    (case a4 => k_is)
    (case l4 => k_is)
    (case c4 => k_is)
    (case k4 => k_is)
    (case a5 => k_is)
    (case l5 => k_is)
    (case c5 => k_is)
    (case k5 => k_is)
    (case a6 => k_is)
    (case l6 => k_is)
    (case c6 => k_is)
    (case k6 => k_is)
    (case a7 => k_is)
    (case l7 => k_is)
    (case c7 => k_is)
    (case k7 => k_is)
    (case a8 => k_is)
    (case l8 => k_is)
    (case c8 => k_is)
    (case k8 => k_is)
    (case a9 => k_is)
    (case l9 => k_is)
    (case c9 => k_is)
    (case k9 => k_is)
    (case a10 => k_is)
    (case l10 => k_is)
    (case c10 => k_is)
    (case k10 => k_is)
    (case a11 => k_is)
    (case l11 => k_is)
    (case c11 => k_is)
    (case k11 => k_is)
    (case a12 => k_is)
    (case l12 => k_is)
    (case c12 => k_is)
    (case k12 => k_is)
    (case a13 => k_is)
    (case l13 => k_is)
    (case c13 => k_is)
    (case k13 => k_is)
    (case a14 => k_is)
    (case l14 => k_is)
    (case c14 => k_is)
    (case k14 => k_is)
    (case a15 => k_is)
    (case l15 => k_is)
    (case c15 => k_is)
    (case k15 => k_is)
    (case a16 => k_is)
    (case l16 => k_is)
    (case c16 => k_is)
    (case k16 => k_is)
    (case a17 => k_is)
    (case l17 => k_is)
    (case c17 => k_is)
    (case k17 => k_is)
    (case a18 => k_is)
    (case l18 => k_is)
    (case c18 => k_is)
    (case k18 => k_is)
    (case a19 => k_is)
    (case l19 => k_is)
    (case c19 => k_is)
    (case k19 => k_is)
    (case a20 => k_is)
    (case l20 => k_is)
    (case c20 => k_is)
    (case k20 => k_is)
    (case a21 => k_is)
    (case l21 => k_is)
    (case c21 => k_is)
    (case k21 => k_is)
    (case a22 => k_is)
    (case l22 => k_is)
    (case c22 => k_is)
    (case k22 => k_is)
    (case a23 => k_is)
    (case l23 => k_is)
    (case c23 => k_is)
    (case k23 => k_is)
    (case a24 => k_is)
    (case l24 => k_is)
    (case c24 => k_is)
    (case k24 => k_is)
    (case a25 => k_is)
    (case i25 => k_is)
    (case l25 => k_is)
    (case c25 => k_is)
    (case k25 => k_is)
    (case a26 => k_is)
    (case i26 => k_is)
    (case l26 => k_is)
    (case c26 => k_is)
    (case k26 => k_is)
    (case a27 => k_is)
    (case i27 => k_is)
    (case l27 => k_is)
    (case c27 => k_is)
    (case k27 => k_is)
    (case a28 => k_is)
    (case i28 => k_is)
    (case l28 => k_is)
    (case c28 => k_is)
    (case k28 => k_is)
    (case a29 => k_is)
    (case i29 => k_is)
    (case l29 => k_is)
    (case c29 => k_is)
    (case k29 => k_is)
    (case z0 => k_is)
    (case z1 => k_is)
    (case z2 => k_is)
    (case z3 => k_is)
    (case z4 => k_is)
    (case z5 => k_is)
    (case z6 => k_is)
    (case z7 => k_is)
    (case z8 => k_is)
    (case z9 => k_is)
    (case z10 => k_is)
    (case z11 => k_is)
    (case z12 => k_is)
    (case z13 => k_is)
    (case z14 => k_is)
