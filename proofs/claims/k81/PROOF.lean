import PyProof.Rows.All
import Wide.All
import OpenK.AllK
import Wide.FinOn
import KE.KUnpackStar
import HandS.ForMost
import HandS.TupMul
import HandS.IsInst
import HandS.Zip
import HandS.Conv
import HandS.Strs
import HandS.TupAny
import HandS.SetFor
import PyProof.ListStr
import HandS.NoneIn
import HandS.Exc
import HandS.ExcInit
import HandS.CallSlots
import HandS.WordsExc
import HandS.Replace
import HandS.ExcField
import HandS.ExcIs
import HandS.TupLe
import KE.KIsAll
import PySem.Challenge.RW_cutscribe_k81_notations_spoilt
set_option Elab.async false
set_option linter.all false
set_option maxRecDepth 100000
set_option maxHeartbeats 1000000
/-! A star at the end of a target: a, b, *rest = e (a tuple or a list) -/
namespace L2
open PySem PySem.Spec PyProof.Rows
section
variable {X : Cx} {pos : Pos}
/-- (a, .., *r) = a tuple or a list with at least so many items -/
def gStar (K : PySem.W.Frag) (k : Nat) (t : TGs) : TG := fun v σ H Q => ∃ (a : Addr) (ys xs : List V), v = .ref a ∧ (SqT K H a (ys ++ xs) ∨ SqL K H a (ys ++ xs)) ∧ ys.length = k ∧ (ys ++ xs).length ≤ 16000 ∧
  ∀ D, H D = none → t (ys ++ [.ref D]) σ (upd H D (.lst xs)) Q
theorem pgs_star {e : Expr} {p : Pos} {t : TG} (h1 : PG X e t) : PGs X [.Starred e p] (gCons t gNil) := by
  refine ⟨fun pins s σ H vs us Q I r h => ?_⟩
  obtain ⟨v, vr, e1, h⟩ := h
  subst e1
  cases r with
  | cons r rr =>
    show wpAny _ _ (assignInOrder (assign e X.env :: []) _) _ _ _
    refine assignInOrder_cons (thn (h1.run pins s σ H _ _ _ I r h) fun _ s1 ⟨σ1, H1, I1, q1⟩ => ?_)
    obtain ⟨e2, q1⟩ := q1
    subst e2
    cases rr
    exact assignInOrder_nil ⟨σ1, H1, I1, q1⟩
theorem pg_star {es : List Expr} {k i : Nat} {t : TGs} (hc : X.calm = true) (h : PGs X es t)
    (hn : (assignEach es X.env).length = i + 1 := by rfl) (hst : (assignEach es X.env).findIdx? (·.1) = some i := by rfl) : PG X (.Tuple es k pos) (gStar X.K i t) := by
  refine ⟨fun pins s σ H v u Q I r hw => ?_⟩
  obtain ⟨a, ys, xs, e1, hq, hl, hz, hw⟩ := hw
  subst e1
  cases r
  rw [assign_Tuple]
  refine wpAny_bind (wpAny_standAt ?_)
  unfold unpack
  rw [hn, hst]
  refine wpAny_bind (wpAny_holding ?_)
  -- behind the drawing: the new list
  have fin : ∀ (its : List Value) (h₂ : Heap) (tk : Nat), Vals (ys ++ xs) its → Inv X pins σ H { s with heap := h₂, toks := tk } →
      wpAny (model X.prog X.w) X.A (newList ((its.drop i).take ((its.drop i).length - (i + 1 - 1 - i))) >>= fun d => pure (its.take i ++ [d] ++ (its.drop i).drop ((its.drop i).length - (i + 1 - 1 - i))))
        (fun x s1 => wpAny (model X.prog X.w) X.A (assignInOrder ((assignEach es X.env).map (·.2)) x) (fun _ s' => ∃ σ' H', Inv X pins σ' H' s' ∧ Q σ' H') X.xe s1) X.xe { s with heap := h₂, toks := tk } := by
    intro its h₂ tk rv I2
    have e0 : i + 1 - 1 - i = 0 := by omega
    rw [e0, Nat.sub_zero, List.take_length, List.drop_length]
    simp only [List.append_nil]
    have hrx : Vals xs (its.drop i) := by
      have := Vals.drop i rv
      rw [List.drop_append_of_le_length (by omega), List.drop_of_length_le (by omega), List.nil_append] at this
      exact this
    have hry : Vals ys (its.take i) := by
      have := Vals.take i rv
      rw [List.take_append_of_le_length (by omega), List.take_of_length_le (by omega)] at this
      exact this
    have hzx : xs.length ≤ sizeLine := by
      rw [List.length_append] at hz
      exact Nat.le_trans (by omega : xs.length ≤ 16000) (by decide)
    refine wpAny_bind (wpAny_newList ?_ (by rw [← hrx.length]; exact hzx))
    refine wpAny_pure ?_
    have I3 := I2.lnew (t' := tk) hrx hzx
    exact h.run pins _ σ _ (ys ++ [.ref h₂.objs.size]) _ Q I3 (Vals.append hry (.cons (show RelV (.ref h₂.objs.size) (Value.ref h₂.objs.size) from rfl) .nil)) (hw _ I2.fresh)
  rcases hq with hq | hq
  · obtain ⟨its, rv, hl', hz'⟩ := I.tuple hq
    have hsz : its.toArray.size = (ys ++ xs).length := by rw [List.size_toArray, rv.length]
    have hlt : a ≠ s.heap.objs.size := by obtain ⟨o, ho, _⟩ := hl'; exact Nat.ne_of_lt (Heap.lt_size ho)
    unfold unpackItems
    refine wpAny_bind ?_
    unfold notIterableAtAll
    refine wpAny_bind (wpAny_specialOf hl'.typeIs slot_tuple_iter.lookup ?_)
    refine wpAny_pure ?_
    simp only [Bool.false_eq_true, if_false]
    refine wpAny_bind (wpAny_holding (iter_tuple hl' ?_))
    refine wpAny_bind (wpAny_holding (draw_tuple hlt i 0 _ _ ⟨_, Heap.get?_push_size _ rfl, rfl, rfl⟩ (hl'.push _) (by rw [hsz, List.length_append]; omega) fun h₁ hit₁ hs₁ => ?_))
    have hl₁ : IsTup h₁ a its.toArray := (hl'.push _).extBut hs₁.extBut hlt
    rw [Nat.zero_add] at hit₁
    have hit₁' := hit₁
    obtain ⟨oi, hoi, _⟩ := hit₁'
    have hl₁' := hl₁
    obtain ⟨ol, hol, _⟩ := hl₁'
    rw [List.drop_zero]
    have hil : its.length = (ys ++ xs).length := rv.length.symm
    have hfl : (its.toArray.toList.take i).length = i := by rw [List.length_take, Array.length_toList, hsz, List.length_append]; omega
    rw [if_neg (show ¬ ((its.toArray.toList.take i).length < i) by rw [hfl]; omega)]
    refine wpAny_bind (wpAny_holding (PySem.W.kun_collect (s := { s with heap := h₁ }) (T := "tuple_iterator") (.inr (.inr (.inr rfl))) (Walks.tuple (A := X.A.in1) (I.ok.hd hc) s.heap.objs.size a hlt its.toArray) (fun j u st => st.1.typeIs) (k := i) (by rw [hsz, List.length_append]; omega) ⟨hit₁, hl₁⟩ (Heap.lt_size hoi) (Heap.lt_size hol) (fun h₂ tk hk => ?_) (by rw [hsz]; exact hz')))
    show wpAny _ _ (if (its.drop i).length < i + 1 - 1 - i then _ else _) _ _ _
    rw [if_neg (by omega)]
    have he : Heap.ExtBut s.heap.objs.size s.heap h₂ := fun b o hb e => hk b o hb (hs₁.extBut b o hb (Heap.get?_push_of_some _ e))
    exact fin its h₂ tk rv (I.kept fun b o e => he b o (Nat.ne_of_lt (Heap.lt_size e)) e)
  · obtain ⟨its, rv, hl', hz'⟩ := I.list hq
    have hsz : its.toArray.size = (ys ++ xs).length := by rw [List.size_toArray, rv.length]
    have hlI : s.heap.IsList a its.toArray := hl'.isList
    have hlt : a ≠ s.heap.objs.size := by obtain ⟨o, ho, _⟩ := hlI; exact Nat.ne_of_lt (Heap.lt_size ho)
    unfold unpackItems
    refine wpAny_bind ?_
    unfold notIterableAtAll
    refine wpAny_bind (wpAny_specialOf hlI.typeIs slot_list_iter.lookup ?_)
    refine wpAny_pure ?_
    simp only [Bool.false_eq_true, if_false]
    refine wpAny_bind (wpAny_holding (wpAny_pyIter_list hlI ?_))
    refine wpAny_bind (wpAny_holding (PySem.W.kun_draw hlt i 0 _ _ ⟨_, Heap.get?_push_size _ rfl, rfl, rfl⟩ (hlI.push _) (by rw [hsz, List.length_append]; omega) fun h₁ hit₁ hs₁ => ?_))
    have hl₁ : h₁.IsList a its.toArray := (hlI.push _).extBut hs₁.extBut hlt
    rw [Nat.zero_add] at hit₁
    have hit₁' := hit₁
    obtain ⟨oi, hoi, _⟩ := hit₁'
    have hl₁' := hl₁
    obtain ⟨ol, hol, _⟩ := hl₁'
    rw [List.drop_zero]
    have hfl : (its.toArray.toList.take i).length = i := by rw [List.length_take, Array.length_toList, hsz, List.length_append]; omega
    rw [if_neg (show ¬ ((its.toArray.toList.take i).length < i) by rw [hfl]; omega)]
    refine wpAny_bind (wpAny_holding (PySem.W.kun_collect (s := { s with heap := h₁ }) (T := "list_iterator") (.inr (.inr (.inl rfl))) (Walks.list (A := X.A.in1) (I.ok.hd hc) s.heap.objs.size a hlt its.toArray) (fun j u st => st.1.typeIs) (k := i) (by rw [hsz, List.length_append]; omega) ⟨hit₁, hl₁⟩ (Heap.lt_size hoi) (Heap.lt_size hol) (fun h₂ tk hk => ?_) (by rw [hsz]; exact Nat.le_trans hz (by decide))))
    show wpAny _ _ (if (its.drop i).length < i + 1 - 1 - i then _ else _) _ _ _
    rw [if_neg (by omega)]
    have he : Heap.ExtBut s.heap.objs.size s.heap h₂ := fun b o hb e => hk b o hb (hs₁.extBut b o hb (Heap.get?_push_of_some _ e))
    exact fin its h₂ tk rv (I.kept fun b o e => he b o (Nat.ne_of_lt (Heap.lt_size e)) e)
end
end L2
namespace L2
open PySem PySem.Spec PyProof.Rows
theorem tuple_mul_one (l : Addr) (items : Array Value) (n : Nat) (dd : Option Addr) (sl : Array (Option Value)) (x : Int) (u : Tok) (c0 : (decide (x < -(2 ^ 63)) || decide (x ≥ 2 ^ 63)) = false) (c1 : (items.isEmpty || x == 1) = true) :
    Meets (Builtin.«tuple.__mul__» ⟨[.ref l, .int x u], []⟩) (fun _ R s => s.heap.get? l = some { cls := .type "tuple", dict := dd, data := .seq items n, slots := sl } ∧
      R (.ok (.ret (Value.ref l))) s) :=
  .of_wp fun prog w A R s h => by
    obtain ⟨hp, g, d, tk, os⟩ := s
    obtain ⟨hl, h⟩ := h
    have f1 := AutoSeq1.idx_int
    wp_walk using wpAny_loadPart' hl
    repeat (first
      | (refine wpAny_ite_false (decide_eq_false (by rw [c0]; exact Bool.false_ne_true)) ?_; wp_walk using wpAny_loadPart' hl)
      | (refine wpAny_ite_true (decide_eq_true (by rw [c1])) ?_; wp_walk using wpAny_loadPart' hl))
    exact ⟨_, rfl, h⟩
theorem tuple_mul_none (l : Addr) (items : Array Value) (n : Nat) (dd : Option Addr) (sl : Array (Option Value)) (x : Int) (u : Tok) (c0 : (decide (x < -(2 ^ 63)) || decide (x ≥ 2 ^ 63)) = false) (c1 : (items.isEmpty || x == 1) = false) (c2 : (decide (x ≤ 0) || items.isEmpty) = true) :
    Meets (Builtin.«tuple.__mul__» ⟨[.ref l, .int x u], []⟩) (fun _ R s => s.heap.get? l = some { cls := .type "tuple", dict := dd, data := .seq items n, slots := sl } ∧
      R (.ok (.ret (Value.ref s.heap.objs.size))) { s with heap := s.heap.push { cls := Value.type "tuple", data := Data.seq #[] }, toks := s.toks }) :=
  .of_wp fun prog w A R s h => by
    obtain ⟨hp, g, d, tk, os⟩ := s
    obtain ⟨hl, h⟩ := h
    have f1 := AutoSeq1.idx_int
    wp_walk using wpAny_loadPart' hl
    repeat (first
      | (refine wpAny_ite_false (decide_eq_false (by rw [c0]; exact Bool.false_ne_true)) ?_; wp_walk using wpAny_loadPart' hl)
      | (refine wpAny_ite_false (decide_eq_false (by rw [c1]; exact Bool.false_ne_true)) ?_; wp_walk using wpAny_loadPart' hl)
      | (refine wpAny_ite_true (decide_eq_true (by rw [c2])) ?_; wp_walk using wpAny_loadPart' hl))
    exact ⟨_, rfl, h⟩
/-- t * k, t not empty -/
def rRepA (K : PySem.W.Frag) : R2 := fun x y H Q => ∃ l k xs, x = .ref l ∧ y = .int k ∧ SqT K H l xs ∧ xs ≠ [] ∧ 0 ≤ k ∧ k ≤ 1000 ∧ xs.length ≤ 1000 ∧
  (k = 1 → Q (.ref l) H) ∧ (k ≠ 1 → ∀ p, H p = none → Q (.ref p) (upd H p (.tup (List.replicate k.toNat xs).flatten)))
section
variable {X : Cx}
theorem op_repA : OpR X (binaryOp .Mult) (rRepA X.K) := by
  intro pins s σ H x y v u Q I rx ry h
  obtain ⟨l, k, xs, rfl, rfl, hT, hne, h0, h2, hz, q1, q2⟩ := h
  by_cases hk : 2 ≤ k
  · exact op_repT pins s σ H _ _ v u Q I rx ry ⟨l, k, xs, rfl, rfl, hT, hne, hk, h2, hz, q2 (by omega)⟩
  cases rx
  obtain ⟨t, rfl⟩ := ry
  obtain ⟨its, r, ⟨⟨cls, dd, data, sl⟩, ho, hc, n, hd⟩, hs⟩ := I.tuple hT
  simp only at hc hd
  subst hc hd
  have hle : its.length = xs.length := r.length.symm
  have hn : its ≠ [] := fun e => hne (by
    rw [e] at hle
    exact List.eq_nil_of_length_eq_zero hle.symm)
  have hi : its.toArray.isEmpty = false := by
    cases its with
    | nil => exact absurd rfl hn
    | cons a b => rfl
  have c0 : (decide (k < -(2 ^ 63)) || decide (k ≥ 2 ^ 63)) = false := by
    rw [decide_eq_false (by omega), decide_eq_false (by omega)] <;> rfl
  by_cases e1 : k = 1
  · have c1 : (its.toArray.isEmpty || k == 1) = true := by
      rw [hi, Bool.false_or]
      exact beq_iff_eq.mpr e1
    refine wpAny_binaryOp_repeat_ref (T := "tuple") (U := "int") (by decide) ⟨_, ho, rfl⟩ (fun s' => typeIs_int s' k t) noFill_tuple_mul F.fills_int_mul F.slot_int_rmul repeat_tuple F.slot_int_index.lookup
      (call_meets F.slot_int_rmul (typeIs_int s k t) F.entry_int_rmul (F.args_int_rmul_2 _ _) (int_rmul_tuple k t l its.toArray n dd sl)
        ⟨ho, rfl, ⟨_, ho, rfl⟩, call_meets F.slot_tuple_mul ⟨_, ho, rfl⟩ F.entry_tuple_mul (F.args_tuple_mul_2 _ _) (tuple_mul_one l its.toArray n dd sl k t c0 c1) ⟨ho, ?_⟩⟩)
    exact ⟨.ref l, H, I, rfl, q1 e1⟩
  · have e0 : k = 0 := by omega
    have c1 : (its.toArray.isEmpty || k == 1) = false := by
      rw [hi, Bool.false_or]
      exact beq_eq_false_iff_ne.mpr e1
    have c2 : (decide (k ≤ 0) || its.toArray.isEmpty) = true := by
      rw [hi, Bool.or_false]
      exact decide_eq_true (by omega)
    refine wpAny_binaryOp_repeat_ref (T := "tuple") (U := "int") (by decide) ⟨_, ho, rfl⟩ (fun s' => typeIs_int s' k t) noFill_tuple_mul F.fills_int_mul F.slot_int_rmul repeat_tuple F.slot_int_index.lookup
      (call_meets F.slot_int_rmul (typeIs_int s k t) F.entry_int_rmul (F.args_int_rmul_2 _ _) (int_rmul_tuple k t l its.toArray n dd sl)
        ⟨ho, rfl, ⟨_, ho, rfl⟩, call_meets F.slot_tuple_mul ⟨_, ho, rfl⟩ F.entry_tuple_mul (F.args_tuple_mul_2 _ _) (tuple_mul_none l its.toArray n dd sl k t c0 c1 c2) ⟨ho, ?_⟩⟩)
    have en : (List.replicate k.toNat xs).flatten = [] := by rw [e0]; rfl
    have q3 := q2 e1 s.heap.objs.size (I.hok.fresh (Nat.le_refl _))
    rw [en] at q3
    refine ⟨.ref s.heap.objs.size, _, I.laid (t' := s.toks) (o := .tup []) (fun b ob q => Heap.get?_push_of_some _ q) (Nat.le_refl _) ?_, rfl, q3⟩
    exact ⟨Nat.zero_le _, [], .nil, IsTup.new _ _⟩
end
end L2
/-! The data layer, 1: data, what they stand for, environments of data, movements. -/
namespace DL
open PySem L2
/-- data -/
inductive D where
  | non | bl (b : Bool) | int (i : Int) | str (x : Str) | tup (xs : List D) | lst (xs : List D) | obj (C : Addr) (fs : List (Str × D)) | ty (n : String) | raw (v : V) | scr (ns : List Int)
  deriving Inhabited
abbrev Fg := PySem.W.Frag
mutual
inductive Rep (K : Fg) (H : Hp) : V → D → Prop
  | non : Rep K H .non .non
  | bl (b : Bool) : Rep K H (.bl b) (.bl b)
  | int (i : Int) : Rep K H (.int i) (.int i)
  | str (x : Str) : Rep K H (.str x) (.str x)
  | ty (n : String) : Rep K H (.ty n) (.ty n)
  | raw (v : V) : Rep K H v (.raw v)
  | scr {a : Addr} {ns : List Int} : SqL K H a (ns.map V.int) → Rep K H (.ref a) (.scr ns)
  | tup {a : Addr} {xs : List V} {ds : List D} : SqT K H a xs → RepL K H xs ds → Rep K H (.ref a) (.tup ds)
  | lst {a : Addr} {xs : List V} {ds : List D} : H a = some (.lst xs) → RepL K H xs ds → Rep K H (.ref a) (.lst ds)
  | obj {a C dx : Addr} {fs : List (Str × V)} {gs : List (Str × D)} : H a = some (.ins C dx fs) → RepF K H fs gs → Rep K H (.ref a) (.obj C gs)
inductive RepL (K : Fg) (H : Hp) : List V → List D → Prop
  | nil : RepL K H [] []
  | cons {v : V} {vs : List V} {d : D} {ds : List D} : Rep K H v d → RepL K H vs ds → RepL K H (v :: vs) (d :: ds)
inductive RepF (K : Fg) (H : Hp) : List (Str × V) → List (Str × D) → Prop
  | nil : RepF K H [] []
  | cons {f : Str} {v : V} {vs : List (Str × V)} {d : D} {ds : List (Str × D)} : Rep K H v d → RepF K H vs ds → RepF K H ((f, v) :: vs) ((f, d) :: ds)
end
section
variable {K : Fg} {H H' : Hp}
theorem rd_same (e : ∀ b o, H b = some o → H' b = some o) {a : Addr} {u : HO} (h : Rd H a u) : Rd H' a u := by
  rcases h with h | ⟨o, h⟩
  · exact .inl (e _ _ h)
  · exact .inr ⟨o, e _ _ h⟩
theorem sqL_same (e : ∀ b o, H b = some o → H' b = some o) {a : Addr} {xs : List V} (h : SqL K H a xs) : SqL K H' a xs := by
  rcases h with h | h
  · exact .inl (rd_same e h)
  · exact .inr h
theorem sqT_same (e : ∀ b o, H b = some o → H' b = some o) {a : Addr} {xs : List V} (h : SqT K H a xs) : SqT K H' a xs := by
  rcases h with h | h
  · exact .inl (rd_same e h)
  · exact .inr h
mutual
theorem Rep.mono (e : ∀ b o, H b = some o → H' b = some o) : ∀ {d : D} {v : V}, Rep K H v d → Rep K H' v d
  | _, _, .non => .non
  | _, _, .bl b => .bl b
  | _, _, .int i => .int i
  | _, _, .str x => .str x
  | _, _, .ty n => .ty n
  | _, _, .raw v => .raw v
  | _, _, .scr h => .scr (sqL_same e h)
  | _, _, .tup h r => .tup (sqT_same e h) (RepL.mono e r)
  | _, _, .lst h r => .lst (e _ _ h) (RepL.mono e r)
  | _, _, .obj h r => .obj (e _ _ h) (RepF.mono e r)
theorem RepL.mono (e : ∀ b o, H b = some o → H' b = some o) : ∀ {ds : List D} {vs : List V}, RepL K H vs ds → RepL K H' vs ds
  | _, _, .nil => .nil
  | _, _, .cons h r => .cons (Rep.mono e h) (RepL.mono e r)
theorem RepF.mono (e : ∀ b o, H b = some o → H' b = some o) : ∀ {ds : List (Str × D)} {vs : List (Str × V)}, RepF K H vs ds → RepF K H' vs ds
  | _, _, .nil => .nil
  | _, _, .cons h r => .cons (Rep.mono e h) (RepF.mono e r)
end
theorem RepL.length : ∀ {vs : List V} {ds : List D}, RepL K H vs ds → vs.length = ds.length
  | _, _, .nil => rfl
  | _, _, .cons _ r => congrArg (· + 1) r.length
theorem RepL.append : ∀ {vs ws : List V} {ds es : List D}, RepL K H vs ds → RepL K H ws es → RepL K H (vs ++ ws) (ds ++ es)
  | _, _, _, _, .nil, s => s
  | _, _, _, _, .cons h r, s => .cons h (RepL.append r s)
theorem RepL.get : ∀ {vs : List V} {ds : List D} {i : Nat} {d : D}, RepL K H vs ds → ds[i]? = some d → ∃ v, vs[i]? = some v ∧ Rep K H v d
  | _, _, _, _, .nil, e => by simp at e
  | _, _, 0, _, .cons h _, e => by simp at e; subst e; exact ⟨_, rfl, h⟩
  | _, _, i + 1, d, .cons _ r, e => by
    obtain ⟨v, h1, h2⟩ := RepL.get (i := i) (d := d) r (by simpa using e)
    exact ⟨v, by simpa using h1, h2⟩
theorem RepL.getV : ∀ {vs : List V} {ds : List D} {i : Nat} {v : V}, RepL K H vs ds → vs[i]? = some v → ∃ d, ds[i]? = some d ∧ Rep K H v d
  | _, _, _, _, .nil, e => by simp at e
  | _, _, 0, _, .cons h _, e => by simp at e; subst e; exact ⟨_, rfl, h⟩
  | _, _, i + 1, d, .cons _ r, e => by
    obtain ⟨v, h1, h2⟩ := RepL.getV (i := i) (v := d) r (by simpa using e)
    exact ⟨v, by simpa using h1, h2⟩
theorem RepL.take : ∀ {vs : List V} {ds : List D} (n : Nat), RepL K H vs ds → RepL K H (vs.take n) (ds.take n)
  | _, _, 0, _ => .nil
  | _, _, _ + 1, .nil => .nil
  | _, _, n + 1, .cons h r => .cons h (RepL.take n r)
theorem RepL.drop : ∀ {vs : List V} {ds : List D} (n : Nat), RepL K H vs ds → RepL K H (vs.drop n) (ds.drop n)
  | _, _, 0, r => r
  | _, _, _ + 1, .nil => .nil
  | _, _, n + 1, .cons _ r => RepL.drop n r
theorem RepL.set {v : V} {d : D} (h : Rep K H v d) : ∀ {vs : List V} {ds : List D} (i : Nat), RepL K H vs ds → RepL K H (vs.set i v) (ds.set i d)
  | _, _, _, .nil => .nil
  | _, _, 0, .cons _ r => .cons h r
  | _, _, i + 1, .cons q r => .cons q (RepL.set h i r)
theorem RepL.eraseIdx : ∀ {vs : List V} {ds : List D} (i : Nat), RepL K H vs ds → RepL K H (vs.eraseIdx i) (ds.eraseIdx i)
  | _, _, _, .nil => .nil
  | _, _, 0, .cons _ r => r
  | _, _, i + 1, .cons q r => .cons q (RepL.eraseIdx i r)
theorem RepL.dropLast : ∀ {vs : List V} {ds : List D}, RepL K H vs ds → RepL K H vs.dropLast ds.dropLast
  | _, _, .nil => .nil
  | _, _, .cons _ .nil => .nil
  | _, _, .cons h (.cons h2 r) => .cons h (RepL.dropLast (.cons h2 r))
theorem RepL.split : ∀ {ds es : List D} {vs : List V}, RepL K H vs (ds ++ es) → ∃ us ws, vs = us ++ ws ∧ RepL K H us ds ∧ RepL K H ws es
  | [], _, vs, r => ⟨[], vs, rfl, .nil, r⟩
  | _ :: _, _, _, .cons h r => by
    obtain ⟨us, ws, e, r1, r2⟩ := RepL.split r
    exact ⟨_ :: us, ws, by rw [e]; rfl, .cons h r1, r2⟩
theorem RepL.replicate {v : V} {d : D} (h : Rep K H v d) : ∀ n, RepL K H (List.replicate n v) (List.replicate n d)
  | 0 => .nil
  | n + 1 => .cons h (RepL.replicate h n)
end
/-- a slot of an environment: data that stay, or a list of one's own (pinned: a parameter's) -/
inductive Sl where
  | fz (d : D) | ow (pin : Bool) (xs : List D)
abbrev Ev := List (Option Sl)
/-- a result: data that stay, or a new list -/
inductive Res where
  | fz (d : D) | fr (xs : List D)
def Res.dat : Res → D
  | .fz d => d
  | .fr xs => .lst xs
@[simp] theorem dat_fz (d : D) : (Res.fz d).dat = d := rfl
@[simp] theorem dat_fr (xs : List D) : (Res.fr xs).dat = .lst xs := rfl
def SlOk (K : Fg) (H Hf : Hp) (ov : Option (Option V)) : Sl → Prop
  | .fz d => ∃ v, ov = some (some v) ∧ Rep K Hf v d
  | .ow _ xs => ∃ a ys, ov = some (some (.ref a)) ∧ H a = some (.lst ys) ∧ Hf a = none ∧ RepL K Hf ys xs
def Own (σ : St) (ρ : Ev) (a : Addr) : Prop := ∃ (i : Nat) (p : Bool) (xs : List D), ρ[i]? = some (some (.ow p xs)) ∧ σ[i]? = some (some (.ref a))
structure DEnv (K : Fg) (H Hf : Hp) (σ : St) (ρ : Ev) : Prop where
  sub : ∀ b o, Hf b = some o → H b = some o
  sl : ∀ (i : Nat) (s : Sl), ρ[i]? = some (some s) → SlOk K H Hf σ[i]? s
  sep : ∀ (i j : Nat) (a : Addr) (p : Bool) (xs : List D) (q : Bool) (ys : List D), ρ[i]? = some (some (.ow p xs)) → ρ[j]? = some (some (.ow q ys)) → σ[i]? = some (some (.ref a)) → σ[j]? = some (some (.ref a)) → i = j
  len : σ.length = ρ.length
structure Mv (σ : St) (ρ ρ' : Ev) (H H' Hf Hf' : Hp) : Prop where
  keep : ∀ b o, H b = some o → ¬ Own σ ρ b → H' b = some o
  live : ∀ b, H' b = none → H b = none
  grow : ∀ b o, Hf b = some o → Hf' b = some o
  new : ∀ b o, Hf' b = some o → Hf b = some o ∨ H b = none ∨ Own σ ρ b
  own : ∀ (i : Nat) (p : Bool) (xs : List D), ρ'[i]? = some (some (.ow p xs)) → ∃ ys, ρ[i]? = some (some (.ow p ys))
  pin : ∀ (i : Nat) (xs : List D), ρ[i]? = some (some (.ow true xs)) → ∃ ys, ρ'[i]? = some (some (.ow true ys))
def ResOk (K : Fg) (H H' Hf' : Hp) (v : V) : Res → Prop
  | .fz d => Rep K Hf' v d
  | .fr xs => ∃ a ys, v = .ref a ∧ H' a = some (.lst ys) ∧ Hf' a = none ∧ H a = none ∧ RepL K Hf' ys xs
section
variable {K : Fg} {σ : St} {ρ ρ1 ρ2 : Ev} {H H1 H2 Hf Hf1 Hf2 : Hp}
theorem Mv.refl (σ : St) (ρ : Ev) (H Hf : Hp) : Mv σ ρ ρ H H Hf Hf := ⟨fun _ _ h _ => h, fun _ h => h, fun _ _ h => h, fun _ _ h => .inl h, fun _ _ xs h => ⟨xs, h⟩, fun _ xs h => ⟨xs, h⟩⟩
theorem Mv.ow (m : Mv σ ρ ρ1 H H1 Hf Hf1) {a : Addr} (h : Own σ ρ1 a) : Own σ ρ a := by
  obtain ⟨i, p, xs, h1, h2⟩ := h
  obtain ⟨ys, h3⟩ := m.own i p xs h1
  exact ⟨i, p, ys, h3, h2⟩
theorem Mv.trans (m : Mv σ ρ ρ1 H H1 Hf Hf1) (n : Mv σ ρ1 ρ2 H1 H2 Hf1 Hf2) : Mv σ ρ ρ2 H H2 Hf Hf2 where
  keep := fun b o h ho => n.keep b o (m.keep b o h ho) fun z => ho (m.ow z)
  live := fun b h => m.live b (n.live b h)
  grow := fun b o h => n.grow b o (m.grow b o h)
  new := fun b o h => by
    rcases n.new b o h with h | h | h
    · exact m.new b o h
    · exact .inr (.inl (m.live b h))
    · exact .inr (.inr (m.ow h))
  own := fun i p xs h => by
    obtain ⟨ys, h1⟩ := n.own i p xs h
    exact m.own i p ys h1
  pin := fun i xs h => by
    obtain ⟨ys, h1⟩ := m.pin i xs h
    exact n.pin i ys h1
theorem Own.at (e : DEnv K H Hf σ ρ) {a : Addr} (h : Own σ ρ a) : (∃ ys, H a = some (.lst ys)) ∧ Hf a = none := by
  obtain ⟨i, p, xs, h1, h2⟩ := h
  obtain ⟨b, ys, e1, e2, e3, _⟩ := e.sl i _ h1
  rw [h2] at e1
  cases e1
  exact ⟨⟨ys, e2⟩, e3⟩
/-- what was not known ahead of a movement is not owned -/
theorem not_own (e : DEnv K H Hf σ ρ) {a : Addr} (h : H a = none) : ¬ Own σ ρ a := fun z => by
  obtain ⟨⟨ys, q⟩, _⟩ := z.at e
  rw [h] at q
  cases q
/-- the heap grows, nothing of one's own is touched -/
structure Ext (H H' Hf Hf' : Hp) : Prop where
  same : ∀ b o, H b = some o → H' b = some o
  sub : ∀ b o, Hf' b = some o → H' b = some o
  grow : ∀ b o, Hf b = some o → Hf' b = some o
  new : ∀ b o, Hf' b = some o → Hf b = some o ∨ H b = none
theorem Ext.refl (h : ∀ b o, Hf b = some o → H b = some o) : Ext H H Hf Hf := ⟨fun _ _ h => h, h, fun _ _ h => h, fun _ _ h => .inl h⟩
theorem Ext.live (x : Ext H H1 Hf Hf1) (b : Addr) (h : H1 b = none) : H b = none := by
  cases q : H b with
  | none => rfl
  | some o =>
    rw [x.same b o q] at h
    cases h
theorem Ext.mv (x : Ext H H1 Hf Hf1) : Mv σ ρ ρ H H1 Hf Hf1 :=
  ⟨fun b o h _ => x.same b o h, x.live, x.grow, fun b o h => (x.new b o h).imp id .inl, fun _ _ xs h => ⟨xs, h⟩, fun _ xs h => ⟨xs, h⟩⟩
theorem Ext.env (x : Ext H H1 Hf Hf1) (e : DEnv K H Hf σ ρ) : DEnv K H1 Hf1 σ ρ where
  sub := x.sub
  sl := fun i s h => by
    have q := e.sl i s h
    cases s with
    | fz d =>
      obtain ⟨v, q1, q2⟩ := q
      exact ⟨v, q1, q2.mono x.grow⟩
    | ow p xs =>
      obtain ⟨a, ys, q1, q2, q3, q4⟩ := q
      refine ⟨a, ys, q1, x.same _ _ q2, ?_, q4.mono x.grow⟩
      cases z : Hf1 a with
      | none => rfl
      | some o =>
        rcases x.new a o z with z | z
        · rw [q3] at z; cases z
        · rw [q2] at z; cases z
  sep := e.sep
  len := e.len
theorem Ext.trans (x : Ext H H1 Hf Hf1) (y : Ext H1 H2 Hf1 Hf2) : Ext H H2 Hf Hf2 :=
  ⟨fun b o h => y.same b o (x.same b o h), y.sub, fun b o h => y.grow b o (x.grow b o h), fun b o h => by
    rcases y.new b o h with h | h
    · exact x.new b o h
    · exact .inr (x.live b h)⟩
/-- a new object that stays -/
theorem Ext.add (h : ∀ b o, Hf b = some o → H b = some o) {a : Addr} (o : HO) (n : H a = none) : Ext H (upd H a o) Hf (upd Hf a o) where
  same := fun b u e => by rw [upd_ne (ne_of_none e n)]; exact e
  sub := fun b u e => by
    by_cases hb : b = a
    · subst hb
      rw [upd_same] at e ⊢
      exact e
    · rw [upd_ne hb] at e ⊢
      exact h b u e
  grow := fun b u e => by rw [upd_ne (ne_of_none (h _ _ e) n)]; exact e
  new := fun b u e => by
    by_cases hb : b = a
    · subst hb
      exact .inr n
    · rw [upd_ne hb] at e
      exact .inl e
/-- a new object that is not told of -/
theorem Ext.add' (h : ∀ b o, Hf b = some o → H b = some o) {a : Addr} (o : HO) (n : H a = none) : Ext H (upd H a o) Hf Hf where
  same := fun b u e => by rw [upd_ne (ne_of_none e n)]; exact e
  sub := fun b u e => by rw [upd_ne (ne_of_none (h _ _ e) n)]; exact h _ _ e
  grow := fun b u e => e
  new := fun b u e => .inl e
/-- a new list is frozen -/
theorem ResOk.freeze {v : V} {r : Res} (e : DEnv K H Hf σ ρ) (e1 : DEnv K H1 Hf1 σ ρ1) (m : Mv σ ρ ρ1 H H1 Hf Hf1) (h : ResOk K H H1 Hf1 v r) :
    ∃ Hf2, DEnv K H1 Hf2 σ ρ1 ∧ Mv σ ρ ρ1 H H1 Hf Hf2 ∧ Rep K Hf2 v r.dat := by
  cases r with
  | fz d => exact ⟨Hf1, e1, m, h⟩
  | fr xs =>
    obtain ⟨a, ys, rfl, h1, h2, h3, h4⟩ := h
    have g : ∀ b o, Hf1 b = some o → upd Hf1 a (.lst ys) b = some o := fun b o q => by rw [upd_ne (ne_of_none q h2)]; exact q
    refine ⟨upd Hf1 a (.lst ys), ⟨fun b o q => ?_, fun i s q => ?_, e1.sep, e1.len⟩, ⟨m.keep, m.live, fun b o q => g b o (m.grow b o q), fun b o q => ?_, m.own, m.pin⟩, .lst upd_same (h4.mono g)⟩
    · by_cases hb : b = a
      · subst hb
        rw [upd_same] at q
        rw [h1]
        exact q
      · rw [upd_ne hb] at q
        exact e1.sub b o q
    · have z := e1.sl i s q
      cases s with
      | fz d =>
        obtain ⟨v, q1, q2⟩ := z
        exact ⟨v, q1, q2.mono g⟩
      | ow p us =>
        obtain ⟨b, zs, q1, q2, q3, q4⟩ := z
        have hb : b ≠ a := fun w => by
          have o1 : Own σ ρ b := m.ow ⟨i, p, us, q, q1⟩
          obtain ⟨⟨_, o2⟩, _⟩ := o1.at e
          rw [w, h3] at o2
          cases o2
        exact ⟨b, zs, q1, q2, by rw [upd_ne hb]; exact q3, q4.mono g⟩
    · by_cases hb : b = a
      · subst hb
        exact .inr (.inl h3)
      · rw [upd_ne hb] at q
        exact m.new b o q
end
/-! ### expressions -/
abbrev TD := Ev → (Res → Ev → Prop) → Prop
/-- the reading of an expression by its data -/
def canE (K : Fg) (τ : TD) : TE := fun σ H Q => ∃ (Hf : Hp) (ρ : Ev) (P : Res → Ev → Prop), DEnv K H Hf σ ρ ∧ τ ρ P ∧
    (∀ v H' Hf' r ρ', DEnv K H' Hf' σ ρ' → Mv σ ρ ρ' H H' Hf Hf' → ResOk K H H' Hf' v r → P r ρ' → Q v H')
structure DE (X : Cx) (e : Expr) (τ : TD) : Prop where
  pe : PE X e (canE X.K τ)
theorem DE.of {X : Cx} {e : Expr} {τ : TD} {t : TE} (h : PE X e t) (k : ∀ (σ : St) (H Hf : Hp) (ρ : Ev) (P : Res → Ev → Prop) (Q : VK), DEnv X.K H Hf σ ρ → τ ρ P →
    (∀ v H' Hf' r ρ', DEnv X.K H' Hf' σ ρ' → Mv σ ρ ρ' H H' Hf Hf' → ResOk X.K H H' Hf' v r → P r ρ' → Q v H') → t σ H Q) : DE X e τ :=
  ⟨⟨fun pins s σ H Q I ⟨Hf, ρ, P, e, q, kk⟩ => h.run pins s σ H Q I (k σ H Hf ρ P Q e q kk)⟩⟩
theorem DE.ex {X : Cx} {e : Expr} {τ : TD} (h : DE X e τ) : ∃ t, PE X e t ∧ ∀ (σ : St) (H Hf : Hp) (ρ : Ev) (P : Res → Ev → Prop) (Q : VK), DEnv X.K H Hf σ ρ → τ ρ P →
    (∀ v H' Hf' r ρ', DEnv X.K H' Hf' σ ρ' → Mv σ ρ ρ' H H' Hf Hf' → ResOk X.K H H' Hf' v r → P r ρ' → Q v H') → t σ H Q :=
  ⟨_, h.pe, fun _ _ Hf ρ P _ e q k => ⟨Hf, ρ, P, e, q, k⟩⟩
/-- with its result frozen -/
theorem DE.fz {X : Cx} {e : Expr} {τ : TD} (h : DE X e τ) : ∃ t, PE X e t ∧ ∀ (σ : St) (H Hf : Hp) (ρ : Ev) (P : D → Ev → Prop) (Q : VK), DEnv X.K H Hf σ ρ → τ ρ (fun r ρ' => P r.dat ρ') →
    (∀ v H' Hf' d ρ', DEnv X.K H' Hf' σ ρ' → Mv σ ρ ρ' H H' Hf Hf' → Rep X.K Hf' v d → P d ρ' → Q v H') → t σ H Q := by
  obtain ⟨t, ht, hs⟩ := h.ex
  refine ⟨t, ht, fun σ H Hf ρ P Q e q k => hs σ H Hf ρ _ Q e q fun v H' Hf' r ρ' e1 m1 r1 p1 => ?_⟩
  obtain ⟨Hf2, e2, m2, r2⟩ := r1.freeze e e1 m1
  exact k v H' Hf2 r.dat ρ' e2 m2 r2 p1
end DL
/-! The data layer, 2: operators, comparisons, constants, names. -/
namespace DL
open PySem L2
/-! ### data as the library's data (for ==) -/
mutual
def D.py : D → PyData
  | .non => .none
  | .bl b => .bool b
  | .int i => .int i
  | .str x => .str x
  | .tup xs => .tuple (pyL xs)
  | .lst xs => .list (pyL xs)
  | .obj _ _ => .dict []
  | .ty _ => .dict []
  | .raw _ => .dict []
  | .scr _ => .dict []
def pyL : List D → List PyData
  | [] => []
  | d :: ds => d.py :: pyL ds
end
mutual
def D.okP : D → Bool
  | .non => true
  | .bl _ => true
  | .int _ => true
  | .str _ => true
  | .tup xs => okL xs
  | .lst xs => okL xs
  | .obj _ _ => false
  | .ty _ => false
  | .raw _ => false
  | .scr _ => false
def okL : List D → Bool
  | [] => true
  | d :: ds => d.okP && okL ds
end
mutual
theorem Rep.dp {K : Fg} {H : Hp} : ∀ {d : D} {v : V}, d.okP = true → Rep K H v d → Dp K H v d.py
  | _, _, _, .non => .non
  | _, _, _, .bl b => .bl b
  | _, _, _, .int i => .int i
  | _, _, _, .str x => .str x
  | _, _, h, .ty _ => by simp [D.okP] at h
  | _, _, h, .raw _ => by simp [D.okP] at h
  | _, _, h, .scr _ => by simp [D.okP] at h
  | _, _, h, .obj _ _ => by simp [D.okP] at h
  | .tup ds, _, h, .tup s r => by
    rw [D.okP] at h
    exact .tup s (RepL.dp h r)
  | .lst ds, _, h, .lst s r => by
    rw [D.okP] at h
    exact .lst (.inl (.inl s)) (RepL.dp h r)
theorem RepL.dp {K : Fg} {H : Hp} : ∀ {ds : List D} {vs : List V}, okL ds = true → RepL K H vs ds → DpAll K H vs (pyL ds)
  | _, _, _, .nil => .nil
  | _, _, h, .cons a r => by
    rw [okL, Bool.and_eq_true] at h
    exact .cons (Rep.dp h.1 a) (RepL.dp h.2 r)
end
def eqvD (a b : D) : Bool := PyData.eqv a.py b.py
def shapedD (a : D) : Bool := a.okP && SeqAt.shaped a.py
/-- no place to look into -/
def D.flat : D → Bool
  | .non | .bl _ | .int _ | .str _ => true
  | _ => false
theorem Rep.flat {K : Fg} {H : Hp} {v : V} {d : D} (h : Rep K H v d) (f : d.flat = true) : flatV v = true := by
  cases h <;> first | rfl | (simp [D.flat] at f)
theorem Rep.eqV {K : Fg} {H : Hp} {v u : V} {d e : D} (h : Rep K H v d) (k : Rep K H u e) (f : d.flat = true) (g : e.flat = true) : L2.eqV v u = eqvD d e := by
  cases h <;> first | (simp [D.flat] at f; done) | skip
  all_goals cases k <;> first | (simp [D.flat] at g; done) | (simp [L2.eqV, eqvD, D.py, PyData.eqv])
/-! ### two-place operations -/
def OpS (K : Fg) (r : R2) (g : D → D → Option Res) : Prop := ∀ (H Hf : Hp) (x y : V) (a b : D) (c : Res) (Q : VK), (∀ b o, Hf b = some o → H b = some o) → Rep K Hf x a → Rep K Hf y b → g a b = some c →
  (∀ v H' Hf', Ext H H' Hf Hf' → ResOk K H H' Hf' v c → Q v H') → r x y H Q
theorem opR_or {X : Cx} {f : Value → Value → Sem Value} {r r' : R2} (h : OpR X f r) (h' : OpR X f r') : OpR X f (fun x y H Q => r x y H Q ∨ r' x y H Q) := by
  intro pins s σ H x y v u Q I rx ry q
  rcases q with q | q
  · exact h pins s σ H x y v u Q I rx ry q
  · exact h' pins s σ H x y v u Q I rx ry q
theorem ResOk.back {K : Fg} {H H1 H2 Hf2 : Hp} {v : V} {c : Res} (l : ∀ b, H1 b = none → H b = none) (h : ResOk K H1 H2 Hf2 v c) : ResOk K H H2 Hf2 v c := by
  cases c with
  | fz d => exact h
  | fr xs =>
    obtain ⟨a, ys, h1, h2, h3, h4, h5⟩ := h
    exact ⟨a, ys, h1, h2, h3, l _ h4, h5⟩
def tBin (g : D → D → Option Res) (a b : TD) : TD := fun ρ P => a ρ fun x ρ1 => b ρ1 fun y ρ2 => ∃ c, g x.dat y.dat = some c ∧ P c ρ2
section
variable {X : Cx} {a b e : Expr} {τa τb : TD} {pos : Pos} {r : R2} {g : D → D → Option Res}
theorem run2 {ta tb : TE} (hs : OpS X.K r g)
    (sa : ∀ (σ : St) (H Hf : Hp) (ρ : Ev) (P : D → Ev → Prop) (Q : VK), DEnv X.K H Hf σ ρ → τa ρ (fun r ρ' => P r.dat ρ') → (∀ v H' Hf' d ρ', DEnv X.K H' Hf' σ ρ' → Mv σ ρ ρ' H H' Hf Hf' → Rep X.K Hf' v d → P d ρ' → Q v H') → ta σ H Q)
    (sb : ∀ (σ : St) (H Hf : Hp) (ρ : Ev) (P : D → Ev → Prop) (Q : VK), DEnv X.K H Hf σ ρ → τb ρ (fun r ρ' => P r.dat ρ') → (∀ v H' Hf' d ρ', DEnv X.K H' Hf' σ ρ' → Mv σ ρ ρ' H H' Hf Hf' → Rep X.K Hf' v d → P d ρ' → Q v H') → tb σ H Q)
    (σ : St) (H Hf : Hp) (ρ : Ev) (P : Res → Ev → Prop) (Q : VK) (e : DEnv X.K H Hf σ ρ) (q : tBin g τa τb ρ P)
    (k : ∀ v H' Hf' r ρ', DEnv X.K H' Hf' σ ρ' → Mv σ ρ ρ' H H' Hf Hf' → ResOk X.K H H' Hf' v r → P r ρ' → Q v H') : tOp r ta tb σ H Q := by
  refine sa σ H Hf ρ (fun x ρ1 => τb ρ1 fun y ρ2 => ∃ c, g x y.dat = some c ∧ P c ρ2) _ e q fun x H1 Hf1 dx ρ1 e1 m1 r1 q1 => ?_
  refine sb σ H1 Hf1 ρ1 (fun y ρ2 => ∃ c, g dx y = some c ∧ P c ρ2) _ e1 q1 fun y H2 Hf2 dy ρ2 e2 m2 r2 q2 => ?_
  obtain ⟨c, hc, p⟩ := q2
  refine hs H2 Hf2 x y dx dy c Q e2.sub (r1.mono m2.grow) r2 hc fun v H3 Hf3 x3 ok => ?_
  exact k v H3 Hf3 c ρ2 (x3.env e2) ((m1.trans m2).trans x3.mv) (ok.back (m1.trans m2).live) p
theorem de_bin {op : Operator} (ho : OpR X (binaryOp op) r) (hs : OpS X.K r g) (ha : DE X a τa) (hb : DE X b τb) : DE X (.BinOp a op b pos) (tBin g τa τb) := by
  obtain ⟨ta, pa, sa⟩ := ha.fz
  obtain ⟨tb, pb, sb⟩ := hb.fz
  exact DE.of (pe_op ho pa pb) (run2 hs sa sb)
theorem de_cmp {op : CmpOp} (ho : OpR X (compareOp op) r) (hs : OpS X.K r g) (ha : DE X a τa) (hb : DE X b τb) (hm : behindInMarks op b = false) : DE X (.Compare a [op] [b] pos) (tBin g τa τb) := by
  obtain ⟨ta, pa, sa⟩ := ha.fz
  obtain ⟨tb, pb, sb⟩ := hb.fz
  exact DE.of (pe_cmpR ho pa pb hm) (run2 hs sa sb)
end
/-! ### the operators on data -/
def addD : D → D → Option Res
  | .int i, .int j => some (.fz (.int (i + j)))
  | .str a, .str b => if a.length + b.length ≤ 100000 then some (.fz (.str (a ++ b))) else none
  | .tup a, .tup b => if a.length + b.length ≤ 16000 then some (.fz (.tup (a ++ b))) else none
  | .lst a, .lst b => if a.length + b.length ≤ 16000 then some (.fr (a ++ b)) else none
  | _, _ => none
def addR (K : Fg) : R2 := fun x y H Q => (rI0 (fun i j => .int (i + j)) x y H Q ∨ (∃ i j, x = .str i ∧ y = .str j ∧ i.length + j.length ≤ sizeLine ∧ Q (.str (i ++ j)) H)) ∨ (rCatA K x y H Q ∨ rCat x y H Q)
theorem op_addD {X : Cx} : OpR X (binaryOp .Add) (addR X.K) := opR_or (opR_or op_add op_add_str) (opR_or op_catA op_cat)
theorem lim {n m : Nat} (h : n ≤ m) (hm : m ≤ 100000 := by decide) : n ≤ sizeLine := Nat.le_trans h (Nat.le_trans hm (by decide))
theorem opS_add {K : Fg} : OpS K (addR K) addD := by
  intro H Hf x y a b c Q hf ra rb hg k
  cases ra <;> first | (simp [addD] at hg; done) | skip
  all_goals cases rb <;> first | (simp [addD] at hg; done) | skip
  · rename_i i j
    simp only [addD, Option.some.injEq] at hg
    subst hg
    exact .inl (.inl ⟨i, j, rfl, rfl, k _ _ _ (Ext.refl hf) (.int _)⟩)
  · rename_i i j
    simp only [addD] at hg
    split at hg
    · rename_i hz
      simp only [Option.some.injEq] at hg
      subst hg
      exact .inl (.inr ⟨i, j, rfl, rfl, lim hz, k _ _ _ (Ext.refl hf) (.str _)⟩)
    · cases hg
  · rename_i p xs ds hp rp q ys es hq rq
    simp only [addD] at hg
    split at hg
    · rename_i hz
      simp only [Option.some.injEq] at hg
      subst hg
      have l1 := rp.length
      have l2 := rq.length
      refine .inr (.inl ⟨p, q, xs, ys, rfl, rfl, sqT_same hf hp, sqT_same hf hq, by rw [l1, l2]; exact lim hz, fun z => ?_, fun _ z => ?_, fun _ _ n hn => ?_⟩)
      · subst z
        cases rp
        exact k _ _ _ (Ext.refl hf) (.tup hq rq)
      · subst z
        cases rq
        exact k _ _ _ (Ext.refl hf) (.tup hp (by rw [List.append_nil]; exact rp))
      · have x := Ext.add hf (.tup (xs ++ ys)) hn
        exact k _ _ _ x (.tup (.inl (.inl upd_same)) ((rp.append rq).mono x.grow))
    · cases hg
  · rename_i p xs ds hp rp q ys es hq rq
    simp only [addD] at hg
    split at hg
    · rename_i hz
      simp only [Option.some.injEq] at hg
      subst hg
      have l1 := rp.length
      have l2 := rq.length
      refine .inr (.inr ⟨p, q, xs, ys, rfl, rfl, hf _ _ hp, hf _ _ hq, by rw [l1, l2]; exact lim hz, fun n hn => ?_⟩)
      have x := Ext.add' hf (.lst (xs ++ ys)) hn
      have nn : Hf n = none := by
        cases z : Hf n with
        | none => rfl
        | some o => rw [hf _ _ z] at hn; cases hn
      exact k _ _ _ x ⟨n, xs ++ ys, rfl, upd_same, nn, hn, rp.append rq⟩
    · cases hg
/-- ints -/
def intD (C : Int → Int → Bool) (f : Int → Int → D) : D → D → Option Res
  | .int i, .int j => if C i j = true then some (.fz (f i j)) else none
  | _, _ => none
theorem opS_int {K : Fg} {C : Int → Int → Prop} {B : Int → Int → Bool} {f : Int → Int → Int} (h : ∀ i j, B i j = true → C i j) : OpS K (rI C fun i j => .int (f i j)) (intD B fun i j => .int (f i j)) := by
  intro H Hf x y a b c Q hf ra rb hg k
  cases ra <;> first | (simp [intD] at hg; done) | skip
  cases rb <;> first | (simp [intD] at hg; done) | skip
  rename_i i j
  simp only [intD] at hg
  split at hg
  · rename_i hz
    simp only [Option.some.injEq] at hg
    subst hg
    exact ⟨i, j, rfl, rfl, h i j hz, k _ _ _ (Ext.refl hf) (.int _)⟩
  · cases hg
theorem opS_intB {K : Fg} {f : Int → Int → Bool} : OpS K (rI0 fun i j => .bl (f i j)) (intD (fun _ _ => true) fun i j => .bl (f i j)) := by
  intro H Hf x y a b c Q hf ra rb hg k
  cases ra <;> first | (simp [intD] at hg; done) | skip
  cases rb <;> first | (simp [intD] at hg; done) | skip
  rename_i i j
  simp only [intD, if_true, Option.some.injEq] at hg
  subst hg
  exact ⟨i, j, rfl, rfl, k _ _ _ (Ext.refl hf) (.bl _)⟩
theorem opS_intI {K : Fg} {f : Int → Int → Int} : OpS K (rI0 fun i j => .int (f i j)) (intD (fun _ _ => true) fun i j => .int (f i j)) := by
  intro H Hf x y a b c Q hf ra rb hg k
  cases ra <;> first | (simp [intD] at hg; done) | skip
  cases rb <;> first | (simp [intD] at hg; done) | skip
  rename_i i j
  simp only [intD, if_true, Option.some.injEq] at hg
  subst hg
  exact ⟨i, j, rfl, rfl, k _ _ _ (Ext.refl hf) (.int _)⟩
def subD := intD (fun _ _ => true) fun i j => .int (i - j)
def fdivD := intD (fun _ j => decide (0 < j ∧ j < 1073741824)) fun i j => .int (i / j)
def modD := intD (fun _ j => decide (0 < j)) fun i j => .int (i % j)
def powD := intD (fun i j => decide (0 ≤ j ∧ j ≤ 1000000 ∧ i.natAbs < 2 ^ 64)) fun i j => .int (i ^ j.toNat)
def ltD := intD (fun _ _ => true) fun i j => .bl (decide (i < j))
def leD := intD (fun _ _ => true) fun i j => .bl (decide (i ≤ j))
def gtD := intD (fun _ _ => true) fun i j => .bl (decide (j < i))
def geD := intD (fun _ _ => true) fun i j => .bl (decide (j ≤ i))
def mulD : D → D → Option Res
  | .int i, .int j => if decide ((-(2 ^ 64) < i ∧ i < 2 ^ 64) ∨ (-(2 ^ 64) < j ∧ j < 2 ^ 64)) = true then some (.fz (.int (i * j))) else none
  | .tup a, .int k => if decide (a ≠ [] ∧ 0 ≤ k ∧ k ≤ 1000 ∧ a.length ≤ 1000) = true then some (.fz (.tup (List.replicate k.toNat a).flatten)) else none
  | .lst a, .int k => if decide (0 ≤ k ∧ k ≤ 1000 ∧ a.length ≤ 10) = true then some (.fr (List.replicate k.toNat a).flatten) else none
  | _, _ => none
end DL
/-! The data layer, 3: more operators; expressions. -/
namespace DL
open PySem L2
section
variable {K : Fg} {H Hf : Hp}
theorem free_of (hf : ∀ b o, Hf b = some o → H b = some o) {n : Addr} (hn : H n = none) : Hf n = none := by
  cases z : Hf n with
  | none => rfl
  | some o => rw [hf _ _ z] at hn; cases hn
/-- a new list, a new tuple -/
theorem new_lst (hf : ∀ b o, Hf b = some o → H b = some o) {n : Addr} (hn : H n = none) {xs : List V} {ds : List D} (r : RepL K Hf xs ds) : Ext H (upd H n (.lst xs)) Hf Hf ∧ ResOk K H (upd H n (.lst xs)) Hf (.ref n) (.fr ds) :=
  ⟨Ext.add' hf _ hn, n, xs, rfl, upd_same, free_of hf hn, hn, r⟩
theorem new_tup (hf : ∀ b o, Hf b = some o → H b = some o) {n : Addr} (hn : H n = none) {xs : List V} {ds : List D} (r : RepL K Hf xs ds) :
    Ext H (upd H n (.tup xs)) Hf (upd Hf n (.tup xs)) ∧ ResOk K H (upd H n (.tup xs)) (upd Hf n (.tup xs)) (.ref n) (.fz (.tup ds)) :=
  ⟨Ext.add hf _ hn, .tup (.inl (.inl upd_same)) (r.mono (Ext.add hf _ hn).grow)⟩
end
def mulR (K : Fg) : R2 := fun x y H Q => rI CMul (fun i j => .int (i * j)) x y H Q ∨ (rRepA K x y H Q ∨ rRep x y H Q)
theorem op_mulD {X : Cx} : OpR X (binaryOp .Mult) (mulR X.K) := opR_or op_mul (opR_or op_repA op_rep)
theorem RepL.rep {K : Fg} {H : Hp} {vs : List V} {ds : List D} (r : RepL K H vs ds) : ∀ n, RepL K H (List.replicate n vs).flatten (List.replicate n ds).flatten
  | 0 => .nil
  | n + 1 => by
    rw [List.replicate_succ, List.replicate_succ, List.flatten_cons, List.flatten_cons]
    exact r.append (RepL.rep r n)
theorem opS_mul {K : Fg} : OpS K (mulR K) mulD := by
  intro H Hf x y a b c Q hf ra rb hg k
  cases ra <;> first | (simp [mulD] at hg; done) | skip
  all_goals cases rb <;> first | (simp [mulD] at hg; done) | skip
  · rename_i i j
    simp only [mulD] at hg
    split at hg
    · rename_i hz
      simp only [Option.some.injEq] at hg
      subst hg
      have hz' := of_decide_eq_true hz
      exact .inl ⟨i, j, rfl, rfl, hz', k _ _ _ (Ext.refl hf) (.int _)⟩
    · cases hg
  · rename_i p xs ds hp rp j
    simp only [mulD] at hg
    split at hg
    · rename_i hz
      simp only [Option.some.injEq] at hg
      subst hg
      obtain ⟨h1, h2, h3, h4⟩ := of_decide_eq_true hz
      have l1 := rp.length
      refine .inr (.inl ⟨p, j, xs, rfl, rfl, sqT_same hf hp, fun z => ?_, h2, h3, by omega, fun z => ?_, fun _ n hn => ?_⟩)
      · subst z
        cases rp
        exact h1 rfl
      · subst z
        exact k _ _ _ (Ext.refl hf) (.tup hp (by simpa using rp))
      · obtain ⟨x1, x2⟩ := new_tup hf hn (rp.rep j.toNat)
        exact k _ _ _ x1 x2
    · cases hg
  · rename_i p xs ds hp rp j
    simp only [mulD] at hg
    split at hg
    · rename_i hz
      simp only [Option.some.injEq] at hg
      subst hg
      obtain ⟨h2, h3, h4⟩ := of_decide_eq_true hz
      have l1 := rp.length
      refine .inr (.inr ⟨p, j, xs, rfl, rfl, hf _ _ hp, by omega, by omega, ?_, fun n hn => ?_⟩)
      · have : xs.length * j.toNat ≤ 10 * 1000 := Nat.mul_le_mul (by omega) (by omega)
        exact lim this
      · obtain ⟨x1, x2⟩ := new_lst hf hn (rp.rep j.toNat)
        exact k _ _ _ x1 x2
    · cases hg
/-! ### == and its like -/
def scalD : D → D → Bool
  | .non, .non | .non, .int _ | .int _, .non | .non, .bl _ | .bl _, .non | .non, .str _ | .str _, .non | .int _, .int _ | .bl _, .bl _ | .str _, .str _ | .int _, .str _ | .str _, .int _ | .bl _, .str _ | .str _, .bl _ => true
  | _, _ => false
/-- two texts compared (not to be run) -/
@[irreducible] def eqS (a b : Str) : Bool := decide (a = b)
theorem eqS_eq (a b : Str) : eqS a b = decide (a = b) := by unfold eqS; rfl
def eqB : D → D → Bool
  | .str a, .str b => eqS a b
  | .int a, .int b => decide (a = b)
  | a, b => eqvD a b
theorem eqB_eq (a b : D) : eqB a b = eqvD a b := by
  unfold eqB
  split
  · rename_i a b
    rw [eqS_eq]
    show decide (a = b) = (a == b)
    by_cases h : a = b
    · simp [h]
    · rw [decide_eq_false h]
      exact (beq_eq_false_iff_ne.mpr h).symm
  · rename_i a b
    show decide (a = b) = (a == b)
    by_cases h : a = b
    · simp [h]
    · rw [decide_eq_false h]
      exact (beq_eq_false_iff_ne.mpr h).symm
  · rfl
def eqD (a b : D) : Option Res := if (scalD a b || (shapedD a && shapedD b)) = true then some (.fz (.bl (eqB a b))) else none
def neD (a b : D) : Option Res := if (scalD a b || (shapedD a && shapedD b)) = true then some (.fz (.bl (!eqB a b))) else none
def eqR (K : Fg) : R2 := fun x y H Q => rEq x y H Q ∨ rEqD K x y H Q
def neR (K : Fg) : R2 := fun x y H Q => rNe x y H Q ∨ rNeD K x y H Q
theorem op_eqD' {X : Cx} (hu : X.A.units + 64 < cLine) : OpR X (compareOp .Eq) (eqR X.K) := opR_or op_eq (op_eqD hu)
theorem op_neD' {X : Cx} (hu : X.A.units + 64 < cLine) : OpR X (compareOp .NotEq) (neR X.K) := opR_or op_ne (op_neD hu)
theorem scal_eqv {K : Fg} {H : Hp} {x y : V} {a b : D} (ra : Rep K H x a) (rb : Rep K H y b) (h : scalD a b = true) : scal x y = true ∧ decide (x = y) = eqvD a b := by
  cases ra <;> cases rb <;> first | (simp [scalD] at h; done) | skip
  all_goals refine ⟨rfl, ?_⟩
  all_goals first
    | (rw [dec_int]; rfl)
    | (rw [dec_bl]; rfl)
    | (rw [dec_str]; rfl)
    | (simp [eqvD, D.py, PyData.eqv]; done)
theorem opS_eq {K : Fg} : OpS K (eqR K) eqD := by
  intro H Hf x y a b c Q hf ra rb hg k
  unfold eqD at hg
  rw [eqB_eq] at hg
  split at hg
  · rename_i hz
    simp only [Option.some.injEq] at hg
    subst hg
    rcases Bool.or_eq_true_iff.mp hz with h | h
    · obtain ⟨h1, h2⟩ := scal_eqv ra rb h
      refine .inl ⟨h1, ?_⟩
      rw [h2]
      exact k _ _ _ (Ext.refl hf) (.bl _)
    · obtain ⟨h1, h2⟩ := Bool.and_eq_true_iff.mp h
      obtain ⟨o1, s1⟩ := Bool.and_eq_true_iff.mp h1
      obtain ⟨o2, s2⟩ := Bool.and_eq_true_iff.mp h2
      exact .inr ⟨_, _, (ra.mono hf).dp o1, (rb.mono hf).dp o2, s1, s2, k _ _ _ (Ext.refl hf) (.bl _)⟩
  · cases hg
theorem opS_ne {K : Fg} : OpS K (neR K) neD := by
  intro H Hf x y a b c Q hf ra rb hg k
  unfold neD at hg
  rw [eqB_eq] at hg
  split at hg
  · rename_i hz
    simp only [Option.some.injEq] at hg
    subst hg
    rcases Bool.or_eq_true_iff.mp hz with h | h
    · obtain ⟨h1, h2⟩ := scal_eqv ra rb h
      refine .inl ⟨h1, ?_⟩
      rw [h2]
      exact k _ _ _ (Ext.refl hf) (.bl _)
    · obtain ⟨h1, h2⟩ := Bool.and_eq_true_iff.mp h
      obtain ⟨o1, s1⟩ := Bool.and_eq_true_iff.mp h1
      obtain ⟨o2, s2⟩ := Bool.and_eq_true_iff.mp h2
      exact .inr ⟨_, _, (ra.mono hf).dp o1, (rb.mono hf).dp o2, s1, s2, k _ _ _ (Ext.refl hf) (.bl _)⟩
  · cases hg
/-! ### is None -/
def D.isNon : D → Bool
  | .non => true
  | _ => false
def D.noRaw : D → Bool
  | .raw _ => false
  | _ => true
def isD (a b : D) : Option Res := if (b.isNon && a.noRaw) = true then some (.fz (.bl a.isNon)) else none
def isntD (a b : D) : Option Res := if (b.isNon && a.noRaw) = true then some (.fz (.bl (!a.isNon))) else none
theorem Rep.isNon {K : Fg} {H : Hp} {x : V} {a : D} (r : Rep K H x a) (n : a.noRaw = true) : decide (x = .non) = a.isNon := by
  cases r <;> first | (simp [D.noRaw] at n; done) | (simp [D.isNon])
theorem opS_is {K : Fg} : OpS K (fun x y H Q => y = .non ∧ Q (.bl (decide (x = .non))) H) isD := by
  intro H Hf x y a b c Q hf ra rb hg k
  unfold isD at hg
  split at hg
  · rename_i hz
    simp only [Option.some.injEq] at hg
    subst hg
    obtain ⟨h1, h2⟩ := Bool.and_eq_true_iff.mp hz
    cases rb <;> first | (simp [D.isNon] at h1; done) | skip
    refine ⟨rfl, ?_⟩
    rw [ra.isNon h2]
    exact k _ _ _ (Ext.refl hf) (.bl _)
  · cases hg
theorem opS_isnt {K : Fg} : OpS K (fun x y H Q => y = .non ∧ Q (.bl (!decide (x = .non))) H) isntD := by
  intro H Hf x y a b c Q hf ra rb hg k
  unfold isntD at hg
  split at hg
  · rename_i hz
    simp only [Option.some.injEq] at hg
    subst hg
    obtain ⟨h1, h2⟩ := Bool.and_eq_true_iff.mp hz
    cases rb <;> first | (simp [D.isNon] at h1; done) | skip
    refine ⟨rfl, ?_⟩
    rw [ra.isNon h2]
    exact k _ _ _ (Ext.refl hf) (.bl _)
  · cases hg
/-! ### in -/
/-- x in xs: a sign in a text; a flat thing in a list or a tuple of flat things -/
def inB : D → D → Option Bool
  | .str x, .str z => if x.cps.size = 1 then some (decide ((x.cps.getD 0 0) ∈ z.cps.toList)) else none
  | a, .tup bs => if (a.flat && bs.all D.flat) = true then some (bs.any fun b => eqB b a) else none
  | a, .lst bs => if (a.flat && bs.all D.flat) = true then some (bs.any fun b => eqB b a) else none
  | _, _ => none
def inD (a b : D) : Option Res := (inB a b).map fun k => .fz (.bl k)
def notinD (a b : D) : Option Res := (inB a b).map fun k => .fz (.bl (!k))
def inR (K : Fg) (neg : Bool) : R2 := fun x y H Q => (∃ (c : Nat) (z : Str), x = .str ⟨#[c]⟩ ∧ y = .str z ∧ Q (.bl (if neg then !decide (c ∈ z.cps.toList) else decide (c ∈ z.cps.toList))) H) ∨ rIn K neg x y H Q
theorem op_inD {X : Cx} : OpR X (compareOp .In) (inR X.K false) := opR_or op_in_sign op_in_seq
theorem op_notinD {X : Cx} : OpR X (compareOp .NotIn) (inR X.K true) := opR_or op_notIn_sign op_notIn_seq
theorem RepL.flat {K : Fg} {H : Hp} : ∀ {vs : List V} {ds : List D}, RepL K H vs ds → ds.all D.flat = true → vs.all flatV = true
  | _, _, .nil, _ => rfl
  | _, _, .cons h r, f => by
    rw [List.all_cons, Bool.and_eq_true] at f ⊢
    exact ⟨h.flat f.1, r.flat f.2⟩
theorem RepL.inV {K : Fg} {H : Hp} {x : V} {a : D} (hx : Rep K H x a) (fa : a.flat = true) : ∀ {vs : List V} {ds : List D}, RepL K H vs ds → ds.all D.flat = true → L2.inV x vs = ds.any fun b => eqB b a
  | _, _, .nil, _ => rfl
  | _, _, .cons (v := v) (vs := vs) (d := d) (ds := ds) h r, f => by
    rw [List.all_cons, Bool.and_eq_true] at f
    show (L2.eqV v x || L2.inV x vs) = (eqB d a || ds.any fun b => eqB b a)
    rw [h.eqV hx f.1 fa, r.inV hx fa f.2, eqB_eq]
theorem inB_ok {K : Fg} {neg : Bool} {H Hf : Hp} {x y : V} {a b : D} {k : Bool} {Q : VK} (hf : ∀ b o, Hf b = some o → H b = some o) (ra : Rep K Hf x a) (rb : Rep K Hf y b) (hg : inB a b = some k) (q : Q (.bl (if neg then !k else k)) H) : inR K neg x y H Q := by
  cases rb <;> first | (cases a <;> simp [inB] at hg; done) | skip
  · rename_i z
    cases ra <;> first | (simp [inB] at hg; done) | skip
    rename_i w
    simp only [inB] at hg
    split at hg
    · rename_i hz
      simp only [Option.some.injEq] at hg
      subst hg
      obtain ⟨⟨cs⟩⟩ := w
      match cs, hz with
      | [c], _ => exact .inl ⟨c, z, rfl, rfl, q⟩
    · cases hg
  all_goals
    rename_i p xs ds hp rp
    have hg' : (if (a.flat && ds.all D.flat) = true then some (ds.any fun b => eqB b a) else none) = some k := by
      cases a <;> exact hg
    split at hg'
    · rename_i hz
      simp only [Option.some.injEq] at hg'
      subst hg'
      obtain ⟨h1, h2⟩ := Bool.and_eq_true_iff.mp hz
      refine .inr ⟨p, xs, rfl, ?_, ra.flat h1, rp.flat h2, ?_⟩
      · first | exact .inr (sqT_same hf hp) | exact .inl (.inl (.inl (hf _ _ hp)))
      · rw [rp.inV ra h1 h2]
        exact q
    · cases hg'
theorem opS_in {K : Fg} : OpS K (inR K false) inD := by
  intro H Hf x y a b c Q hf ra rb hg k
  unfold inD at hg
  cases e : inB a b with
  | none => rw [e] at hg; cases hg
  | some z =>
    rw [e] at hg
    cases hg
    exact inB_ok hf ra rb e (k _ _ _ (Ext.refl hf) (.bl _))
theorem opS_notin {K : Fg} : OpS K (inR K true) notinD := by
  intro H Hf x y a b c Q hf ra rb hg k
  unfold notinD at hg
  cases e : inB a b with
  | none => rw [e] at hg; cases hg
  | some z =>
    rw [e] at hg
    cases hg
    exact inB_ok hf ra rb e (k _ _ _ (Ext.refl hf) (.bl _))
end DL
/-! The data layer, 4: constants, names, tests, displays, subscripts, calls of built-ins. -/
namespace DL
open PySem L2
section
variable {X : Cx} {pos : Pos}
def tK (d : D) : TD := fun ρ P => P (.fz d) ρ
theorem de_tC {e : Expr} {v : V} {d : D} (h : PE X e (tC v)) (r : ∀ H, Rep X.K H v d) : DE X e (tK d) :=
  DE.of h fun σ H Hf ρ P Q e q k => k v H Hf (.fz d) ρ e (Mv.refl ..) (r _) q
theorem de_int {i : Int} {j : Nat} : DE X (.Constant (.int i) j pos) (tK (.int i)) := de_tC pe_int fun _ => .int i
theorem de_bl {b : Bool} {j : Nat} : DE X (.Constant (.bool b) j pos) (tK (.bl b)) := de_tC pe_bl fun _ => .bl b
theorem de_non {j : Nat} : DE X (.Constant .none j pos) (tK .non) := de_tC pe_non fun _ => .non
theorem de_str {x : Str} {j : Nat} : DE X (.Constant (.str x) j pos) (tK (.str x)) := de_tC pe_str fun _ => .str x
theorem de_glob {x : Str} {v : V} {u : Value} {d : D} (hg : Gl X x) (hm : X.mg x = some u) (r : RelV v u) (rp : ∀ H, Rep X.K H v d) (hd : (x == ("__debug__" : Str)) = false := by decide) : DE X (.Name x pos) (tK d) := de_tC (pe_glob hg hm r hd) rp
theorem de_ty {x : Str} {n : String} (hg : Gl X x) (hm : X.mg x = none) (hv : bootBuiltins x = some (.type n)) (hn : x ≠ "__name__" := by decide) (hd : (x == ("__debug__" : Str)) = false := by decide) : DE X (.Name x pos) (tK (.ty n)) :=
  de_tC (pe_bltn hg hm hv (v := .ty n) rfl hn hd) fun _ => .ty n
/-- a name that holds data -/
def tV (i : Nat) : TD := fun ρ P => ∃ d, ρ[i]? = some (some (.fz d)) ∧ P (.fz d) ρ
theorem de_v (i : Nat) {x : Str} (hN : X.N[i]? = some x := by rfl) (hv : Vis X.env.scope x := by first | exact Or.inl rfl | exact Or.inr (Or.inl rfl) | exact Or.inr (Or.inr rfl)) (hd : (x == ("__debug__" : Str)) = false := by decide) (hcd : (x == ("__classdict__" : Str)) = false := by decide) :
    DE X (.Name x pos) (tV i) := DE.of (pe_var hN hv hd hcd) fun σ H Hf ρ P Q e ⟨d, h, q⟩ k => by
  obtain ⟨v, h1, h2⟩ := e.sl i _ h
  exact ⟨v, h1, k v H Hf (.fz d) ρ e (Mv.refl ..) h2 q⟩
/-- a name that holds a list of one's own: it is frozen -/
def tVF (i : Nat) : TD := fun ρ P => ∃ xs, ρ[i]? = some (some (.ow false xs)) ∧ P (.fz (.lst xs)) (ρ.set i (some (.fz (.lst xs))))
theorem set_get {ρ : Ev} {i j : Nat} {s : Option Sl} : (ρ.set i s)[j]? = if i = j then (if i < ρ.length then some s else none) else ρ[j]? := by
  rw [List.getElem?_set]
theorem lt_of {ρ : Ev} {i : Nat} {s : Option Sl} (h : ρ[i]? = some s) : i < ρ.length := by
  rw [List.getElem?_eq_some_iff] at h
  exact h.1
theorem freeze_slot {K : Fg} {H Hf : Hp} {σ : St} {ρ : Ev} {i : Nat} {xs : List D} (e : DEnv K H Hf σ ρ) (h : ρ[i]? = some (some (.ow false xs))) :
    ∃ a ys, σ[i]? = some (some (.ref a)) ∧ DEnv K H (upd Hf a (.lst ys)) σ (ρ.set i (some (.fz (.lst xs)))) ∧ Mv σ ρ (ρ.set i (some (.fz (.lst xs)))) H H Hf (upd Hf a (.lst ys)) ∧ Rep K (upd Hf a (.lst ys)) (.ref a) (.lst xs) := by
  obtain ⟨a, ys, h1, h2, h3, h4⟩ := e.sl i _ h
  have hlt := lt_of h
  have g : ∀ b o, Hf b = some o → upd Hf a (.lst ys) b = some o := fun b o q => by rw [upd_ne (ne_of_none q h3)]; exact q
  have rp : Rep K (upd Hf a (.lst ys)) (.ref a) (.lst xs) := .lst upd_same (h4.mono g)
  refine ⟨a, ys, h1, ⟨fun b o q => ?_, fun j s q => ?_, fun j k b p us p' zs q1 q2 q3 q4 => ?_, by rw [List.length_set]; exact e.len⟩, ⟨fun _ _ q _ => q, fun _ q => q, g, fun b o q => ?_, fun j p us q => ?_, fun j us q => ?_⟩, rp⟩
  · by_cases hb : b = a
    · subst hb
      rw [upd_same] at q
      rw [h2]
      exact q
    · rw [upd_ne hb] at q
      exact e.sub b o q
  · rw [set_get] at q
    by_cases hj : i = j
    · subst hj
      rw [if_pos rfl, if_pos hlt] at q
      cases q
      exact ⟨.ref a, h1, rp⟩
    · rw [if_neg hj] at q
      have z := e.sl j s q
      cases s with
      | fz d =>
        obtain ⟨v, z1, z2⟩ := z
        exact ⟨v, z1, z2.mono g⟩
      | ow p us =>
        obtain ⟨b, zs, z1, z2, z3, z4⟩ := z
        have hb : b ≠ a := fun w => by
          subst w
          exact hj (e.sep i j b _ _ _ _ h q h1 z1)
        exact ⟨b, zs, z1, z2, by rw [upd_ne hb]; exact z3, z4.mono g⟩
  · rw [set_get] at q1 q2
    by_cases hj : i = j
    · rw [if_pos hj, if_pos hlt] at q1
      cases q1
    by_cases hk : i = k
    · rw [if_pos hk, if_pos hlt] at q2
      cases q2
    rw [if_neg hj] at q1
    rw [if_neg hk] at q2
    exact e.sep j k b _ _ _ _ q1 q2 q3 q4
  · by_cases hb : b = a
    · subst hb
      exact .inr (.inr ⟨i, false, xs, h, h1⟩)
    · rw [upd_ne hb] at q
      exact .inl q
  · rw [set_get] at q
    by_cases hj : i = j
    · rw [if_pos hj, if_pos hlt] at q
      cases q
    · rw [if_neg hj] at q
      exact ⟨us, q⟩
  · by_cases hj : i = j
    · subst hj
      rw [h] at q
      cases q
    · exact ⟨us, by rw [set_get, if_neg hj]; exact q⟩
theorem de_vf (i : Nat) {x : Str} (hN : X.N[i]? = some x := by rfl) (hv : Vis X.env.scope x := by first | exact Or.inl rfl | exact Or.inr (Or.inl rfl) | exact Or.inr (Or.inr rfl)) (hd : (x == ("__debug__" : Str)) = false := by decide) (hcd : (x == ("__classdict__" : Str)) = false := by decide) :
    DE X (.Name x pos) (tVF i) := DE.of (pe_var hN hv hd hcd) fun σ H Hf ρ P Q e ⟨xs, h, q⟩ k => by
  obtain ⟨a, ys, h1, h2, h3, h4⟩ := freeze_slot e h
  exact ⟨.ref a, h1, k _ H _ (.fz (.lst xs)) _ h2 h3 h4 q⟩
end
/-! ### tests -/
abbrev TDT := Ev → (Bool → Ev → Prop) → Prop
def canT (K : Fg) (τ : TDT) : TT := fun σ H Q => ∃ (Hf : Hp) (ρ : Ev) (P : Bool → Ev → Prop), DEnv K H Hf σ ρ ∧ τ ρ P ∧ (∀ b H' Hf' ρ', DEnv K H' Hf' σ ρ' → Mv σ ρ ρ' H H' Hf Hf' → P b ρ' → Q b H')
structure DT (X : Cx) (e : Expr) (τ : TDT) : Prop where
  pt : PT X e (canT X.K τ)
structure DW (X : Cx) (e : Expr) (τ : TDT) : Prop where
  pw : PW X e (canT X.K τ)
section
variable {X : Cx} {pos : Pos} {a b c e : Expr} {rest : List Expr} {τa τb τc : TD} {tA tB : TDT} {op : Operator}
theorem DT.of {τ : TDT} {t : TT} (h : PT X e t) (k : ∀ (σ : St) (H Hf : Hp) (ρ : Ev) (P : Bool → Ev → Prop) (Q : Bool → Hp → Prop), DEnv X.K H Hf σ ρ → τ ρ P → (∀ b H' Hf' ρ', DEnv X.K H' Hf' σ ρ' → Mv σ ρ ρ' H H' Hf Hf' → P b ρ' → Q b H') → t σ H Q) : DT X e τ :=
  ⟨⟨fun pins s σ H Q I ⟨Hf, ρ, P, e, q, kk⟩ => h.run pins s σ H Q I (k σ H Hf ρ P Q e q kk)⟩⟩
theorem DW.of {τ : TDT} {t : TT} (h : PW X e t) (k : ∀ (σ : St) (H Hf : Hp) (ρ : Ev) (P : Bool → Ev → Prop) (Q : Bool → Hp → Prop), DEnv X.K H Hf σ ρ → τ ρ P → (∀ b H' Hf' ρ', DEnv X.K H' Hf' σ ρ' → Mv σ ρ ρ' H H' Hf Hf' → P b ρ' → Q b H') → t σ H Q) : DW X e τ :=
  ⟨⟨fun wh pins s σ H Q I ⟨Hf, ρ, P, e, q, kk⟩ => h.run wh pins s σ H Q I (k σ H Hf ρ P Q e q kk)⟩⟩
theorem DW.dt {τ : TDT} (h : DW X e τ) : DT X e τ := ⟨h.pw.pt⟩
def tT (τ : TD) : TDT := fun ρ P => τ ρ fun r ρ' => ∃ b, r.dat = .bl b ∧ P b ρ'
theorem Rep.bl_inv {K : Fg} {H : Hp} {v : V} {b : Bool} (h : Rep K H v (.bl b)) : v = .bl b := by cases h; rfl
theorem Rep.int_inv {K : Fg} {H : Hp} {v : V} {b : Int} (h : Rep K H v (.int b)) : v = .int b := by cases h; rfl
theorem Rep.str_inv {K : Fg} {H : Hp} {v : V} {b : Str} (h : Rep K H v (.str b)) : v = .str b := by cases h; rfl
theorem dt_val (h : DE X e τa) (he : ∀ whole, isTrue e X.env whole = (do let v ← whole; standAt e.pos; holding [v] (truthy v)) := by intro _; rfl) : DT X e (tT τa) := by
  obtain ⟨t, p, s⟩ := h.fz
  refine DT.of (pt_val p he) fun σ H Hf ρ P Q e q k => s σ H Hf ρ (fun d ρ' => ∃ b, d = .bl b ∧ P b ρ') _ e q fun v H' Hf' d ρ' e1 m1 r1 ⟨b, hb, p1⟩ => ?_
  subst hb
  exact ⟨b, r1.bl_inv, k b H' Hf' ρ' e1 m1 p1⟩
/-- a comparison of two as a test -/
theorem dt_cmp {cop : CmpOp} {r : R2} {g : D → D → Option Res} (ho : OpR X (compareOp cop) r) (hs : OpS X.K r g) (ha : DE X a τa) (hb : DE X b τb) (hm : behindInMarks cop b = false) : DT X (.Compare a [cop] [b] pos) (tT (tBin g τa τb)) := by
  obtain ⟨ta, pa, sa⟩ := ha.fz
  obtain ⟨tb, pb, sb⟩ := hb.fz
  refine DT.of (pt_cmpR ho pa pb hm) fun σ H Hf ρ P Q e q k => ?_
  refine run2 hs sa sb σ H Hf ρ _ _ e q fun v H' Hf' r ρ' e1 m1 r1 ⟨b, hb, p1⟩ => ?_
  obtain ⟨Hf2, e2, m2, r2⟩ := r1.freeze e e1 m1
  rw [hb] at r2
  exact ⟨b, r2.bl_inv, k b H' Hf2 ρ' e2 m2 p1⟩
def tAndT (a b : TDT) : TDT := fun ρ P => a ρ fun c ρ1 => if c = true then b ρ1 P else P false ρ1
def tOrT (a b : TDT) : TDT := fun ρ P => a ρ fun c ρ1 => if c = true then P true ρ1 else b ρ1 P
def tNotT (a : TDT) : TDT := fun ρ P => a ρ fun c ρ1 => P (!c) ρ1
theorem dw_and1 (ha : DT X a tA) : DW X (.BoolOp .And [a] pos) tA := ⟨pw_and1 ha.pt⟩
theorem dw_or1 (ha : DT X a tA) : DW X (.BoolOp .Or [a] pos) tA := ⟨pw_or1 ha.pt⟩
theorem dw_and (ha : DT X a tA) (hb : DW X (.BoolOp .And (b :: rest) pos) tB) : DW X (.BoolOp .And (a :: b :: rest) pos) (tAndT tA tB) := by
  refine DW.of (pw_and ha.pt hb.pw) fun σ H Hf ρ P Q e q k => ⟨Hf, ρ, _, e, q, fun c H' Hf' ρ' e1 m1 p1 => ?_⟩
  cases c with
  | true => exact ⟨Hf', ρ', P, e1, p1, fun b H2 Hf2 ρ2 e2 m2 p2 => k b H2 Hf2 ρ2 e2 (m1.trans m2) p2⟩
  | false => exact k false H' Hf' ρ' e1 m1 p1
theorem dw_or (ha : DT X a tA) (hb : DW X (.BoolOp .Or (b :: rest) pos) tB) : DW X (.BoolOp .Or (a :: b :: rest) pos) (tOrT tA tB) := by
  refine DW.of (pw_or ha.pt hb.pw) fun σ H Hf ρ P Q e q k => ⟨Hf, ρ, _, e, q, fun c H' Hf' ρ' e1 m1 p1 => ?_⟩
  cases c with
  | false => exact ⟨Hf', ρ', P, e1, p1, fun b H2 Hf2 ρ2 e2 m2 p2 => k b H2 Hf2 ρ2 e2 (m1.trans m2) p2⟩
  | true => exact k true H' Hf' ρ' e1 m1 p1
theorem dt_not (ha : DT X a tA) : DT X (.UnaryOp .Not a pos) (tNotT tA) := by
  refine DT.of (pt_not ha.pt) fun σ H Hf ρ P Q e q k => ⟨Hf, ρ, _, e, q, fun c H' Hf' ρ' e1 m1 p1 => k (!c) H' Hf' ρ' e1 m1 p1⟩
/-! ### and, or, not, if as values -/
def tAndE (a b : TD) : TD := fun ρ P => a ρ fun x ρ1 => ∃ c, x.dat = .bl c ∧ if c = true then b ρ1 P else P (.fz (.bl false)) ρ1
def tOrE (a b : TD) : TD := fun ρ P => a ρ fun x ρ1 => ∃ c, x.dat = .bl c ∧ if c = true then P (.fz (.bl true)) ρ1 else b ρ1 P
def tNotE (a : TD) : TD := fun ρ P => a ρ fun x ρ1 => ∃ c, x.dat = .bl c ∧ P (.fz (.bl (!c))) ρ1
def tIfE (c : TDT) (a b : TD) : TD := fun ρ P => c ρ fun k ρ1 => if k = true then a ρ1 P else b ρ1 P
theorem de_one {bop : BoolOp} (h : DE X a τa) : DE X (.BoolOp bop [a] pos) τa := ⟨pe_one h.pe⟩
theorem de_and (ha : DE X a τa) (hb : DE X (.BoolOp .And (b :: rest) pos) τb) : DE X (.BoolOp .And (a :: b :: rest) pos) (tAndE τa τb) := by
  obtain ⟨ta, pa, sa⟩ := ha.fz
  obtain ⟨tb, pb, sb⟩ := hb.ex
  refine DE.of (pe_and pa pb) fun σ H Hf ρ P Q e q k => sa σ H Hf ρ (fun d ρ1 => ∃ c, d = .bl c ∧ if c = true then τb ρ1 P else P (.fz (.bl false)) ρ1) _ e q fun v H1 Hf1 d ρ1 e1 m1 r1 ⟨c, hc, p1⟩ => ?_
  subst hc
  refine ⟨c, r1.bl_inv, ?_⟩
  cases c with
  | true => exact sb σ H1 Hf1 ρ1 P Q e1 p1 fun v H2 Hf2 r ρ2 e2 m2 r2 p2 => k v H2 Hf2 r ρ2 e2 (m1.trans m2) (r2.back m1.live) p2
  | false => exact k _ H1 Hf1 (.fz (.bl false)) ρ1 e1 m1 (.bl false) p1
theorem de_or (ha : DE X a τa) (hb : DE X (.BoolOp .Or (b :: rest) pos) τb) : DE X (.BoolOp .Or (a :: b :: rest) pos) (tOrE τa τb) := by
  obtain ⟨ta, pa, sa⟩ := ha.fz
  obtain ⟨tb, pb, sb⟩ := hb.ex
  refine DE.of (pe_or pa pb) fun σ H Hf ρ P Q e q k => sa σ H Hf ρ (fun d ρ1 => ∃ c, d = .bl c ∧ if c = true then P (.fz (.bl true)) ρ1 else τb ρ1 P) _ e q fun v H1 Hf1 d ρ1 e1 m1 r1 ⟨c, hc, p1⟩ => ?_
  subst hc
  refine ⟨c, r1.bl_inv, ?_⟩
  cases c with
  | false => exact sb σ H1 Hf1 ρ1 P Q e1 p1 fun v H2 Hf2 r ρ2 e2 m2 r2 p2 => k v H2 Hf2 r ρ2 e2 (m1.trans m2) (r2.back m1.live) p2
  | true => exact k _ H1 Hf1 (.fz (.bl true)) ρ1 e1 m1 (.bl true) p1
theorem de_not (ha : DE X a τa) : DE X (.UnaryOp .Not a pos) (tNotE τa) := by
  obtain ⟨ta, pa, sa⟩ := ha.fz
  refine DE.of (pe_not pa) fun σ H Hf ρ P Q e q k => sa σ H Hf ρ (fun d ρ1 => ∃ c, d = .bl c ∧ P (.fz (.bl (!c))) ρ1) _ e q fun v H1 Hf1 d ρ1 e1 m1 r1 ⟨c, hc, p1⟩ => ?_
  subst hc
  exact ⟨c, r1.bl_inv, k _ H1 Hf1 (.fz (.bl (!c))) ρ1 e1 m1 (.bl _) p1⟩
theorem de_if (hc : DT X c tA) (ha : DE X a τa) (hb : DE X b τb) : DE X (.IfExp c a b pos) (tIfE tA τa τb) := by
  refine DE.of (pe_ifExp hc.pt ha.pe hb.pe) fun σ H Hf ρ P Q e q k => ⟨Hf, ρ, _, e, q, fun c H1 Hf1 ρ1 e1 m1 p1 => ?_⟩
  cases c with
  | true => exact ⟨Hf1, ρ1, P, e1, p1, fun v H2 Hf2 r ρ2 e2 m2 r2 p2 => k v H2 Hf2 r ρ2 e2 (m1.trans m2) (r2.back m1.live) p2⟩
  | false => exact ⟨Hf1, ρ1, P, e1, p1, fun v H2 Hf2 r ρ2 e2 m2 r2 p2 => k v H2 Hf2 r ρ2 e2 (m1.trans m2) (r2.back m1.live) p2⟩
/-- a < b < c -/
def tChn (g g' : D → D → Option Res) (a b c : TD) : TD := fun ρ P => a ρ fun x ρ1 => b ρ1 fun y ρ2 => ∃ z k, g x.dat y.dat = some z ∧ z.dat = .bl k ∧ if k = true then c ρ2 (fun w ρ3 => ∃ z', g' y.dat w.dat = some z' ∧ P z' ρ3) else P (.fz (.bl false)) ρ2
theorem run3 {cop cop' : CmpOp} {r r' : R2} {g g' : D → D → Option Res} {ta tb tc : TE} (hs : OpS X.K r g) (hs' : OpS X.K r' g')
    (sa : ∀ (σ : St) (H Hf : Hp) (ρ : Ev) (P : D → Ev → Prop) (Q : VK), DEnv X.K H Hf σ ρ → τa ρ (fun r ρ' => P r.dat ρ') → (∀ v H' Hf' d ρ', DEnv X.K H' Hf' σ ρ' → Mv σ ρ ρ' H H' Hf Hf' → Rep X.K Hf' v d → P d ρ' → Q v H') → ta σ H Q)
    (sb : ∀ (σ : St) (H Hf : Hp) (ρ : Ev) (P : D → Ev → Prop) (Q : VK), DEnv X.K H Hf σ ρ → τb ρ (fun r ρ' => P r.dat ρ') → (∀ v H' Hf' d ρ', DEnv X.K H' Hf' σ ρ' → Mv σ ρ ρ' H H' Hf Hf' → Rep X.K Hf' v d → P d ρ' → Q v H') → tb σ H Q)
    (sc : ∀ (σ : St) (H Hf : Hp) (ρ : Ev) (P : D → Ev → Prop) (Q : VK), DEnv X.K H Hf σ ρ → τc ρ (fun r ρ' => P r.dat ρ') → (∀ v H' Hf' d ρ', DEnv X.K H' Hf' σ ρ' → Mv σ ρ ρ' H H' Hf Hf' → Rep X.K Hf' v d → P d ρ' → Q v H') → tc σ H Q)
    (σ : St) (H Hf : Hp) (ρ : Ev) (P : Res → Ev → Prop) (Q : VK) (e : DEnv X.K H Hf σ ρ) (q : tChn g g' τa τb τc ρ P)
    (k : ∀ v H' Hf' r ρ', DEnv X.K H' Hf' σ ρ' → Mv σ ρ ρ' H H' Hf Hf' → ResOk X.K H H' Hf' v r → P r ρ' → Q v H') : tChain r r' ta tb tc σ H Q := by
  refine sa σ H Hf ρ (fun x ρ1 => τb ρ1 fun y ρ2 => ∃ z k, g x y.dat = some z ∧ z.dat = .bl k ∧ if k = true then τc ρ2 (fun w ρ3 => ∃ z', g' y.dat w.dat = some z' ∧ P z' ρ3) else P (.fz (.bl false)) ρ2) _ e q fun x H1 Hf1 dx ρ1 e1 m1 r1 q1 => ?_
  refine sb σ H1 Hf1 ρ1 (fun y ρ2 => ∃ z k, g dx y = some z ∧ z.dat = .bl k ∧ if k = true then τc ρ2 (fun w ρ3 => ∃ z', g' y w.dat = some z' ∧ P z' ρ3) else P (.fz (.bl false)) ρ2) _ e1 q1 fun y H2 Hf2 dy ρ2 e2 m2 r2 q2 => ?_
  obtain ⟨c, kk, hc, hd, p⟩ := q2
  refine hs H2 Hf2 x y dx dy c _ e2.sub (r1.mono m2.grow) r2 hc fun v H3 Hf3 x3 ok => ?_
  obtain ⟨Hf4, e4, m4, r4⟩ := ok.freeze e2 (x3.env e2) x3.mv
  rw [hd] at r4
  refine ⟨kk, r4.bl_inv, ?_⟩
  have m5 := (m1.trans m2).trans m4
  cases kk with
  | false => exact k _ H3 Hf4 (.fz (.bl false)) ρ2 e4 m5 (.bl false) p
  | true =>
    refine sc σ H3 Hf4 ρ2 (fun w ρ3 => ∃ z', g' dy w = some z' ∧ P z' ρ3) _ e4 p fun w H5 Hf5 dw ρ5 e5 m6 r6 q6 => ?_
    obtain ⟨z', hz, p6⟩ := q6
    refine hs' H5 Hf5 y w dy dw z' Q e5.sub ((r2.mono m4.grow).mono m6.grow) r6 hz fun v H7 Hf7 x7 ok7 => ?_
    exact k v H7 Hf7 z' ρ5 (x7.env e5) ((m5.trans m6).trans x7.mv) (ok7.back (m5.trans m6).live) p6
theorem de_chn {cop cop' : CmpOp} {r r' : R2} {g g' : D → D → Option Res} (ho : OpR X (compareOp cop) r) (hs : OpS X.K r g) (ho' : OpR X (compareOp cop') r') (hs' : OpS X.K r' g') (ha : DE X a τa) (hb : DE X b τb) (hc : DE X c τc)
    (hm : lastMarks [cop, cop'] [b, c] = false := by with_unfolding_all rfl) : DE X (.Compare a [cop, cop'] [b, c] pos) (tChn g g' τa τb τc) := by
  obtain ⟨ta, pa, sa⟩ := ha.fz
  obtain ⟨tb, pb, sb⟩ := hb.fz
  obtain ⟨tc, pc, sc⟩ := hc.fz
  exact DE.of (pe_chain ho ho' pa pb pc hm) (run3 (cop := cop) (cop' := cop') hs hs' sa sb sc)
theorem dt_chn {cop cop' : CmpOp} {r r' : R2} {g g' : D → D → Option Res} (ho : OpR X (compareOp cop) r) (hs : OpS X.K r g) (ho' : OpR X (compareOp cop') r') (hs' : OpS X.K r' g') (ha : DE X a τa) (hb : DE X b τb) (hc : DE X c τc)
    (hm : lastMarks [cop, cop'] [b, c] = false := by with_unfolding_all rfl) : DT X (.Compare a [cop, cop'] [b, c] pos) (tT (tChn g g' τa τb τc)) := by
  obtain ⟨ta, pa, sa⟩ := ha.fz
  obtain ⟨tb, pb, sb⟩ := hb.fz
  obtain ⟨tc, pc, sc⟩ := hc.fz
  refine DT.of (pt_chain ho ho' pa pb pc hm) fun σ H Hf ρ P Q e q k => ?_
  refine run3 (cop := cop) (cop' := cop') hs hs' sa sb sc σ H Hf ρ _ _ e q fun v H' Hf' r ρ' e1 m1 r1 ⟨b, hb, p1⟩ => ?_
  obtain ⟨Hf2, e2, m2, r2⟩ := r1.freeze e e1 m1
  rw [hb] at r2
  exact ⟨b, r2.bl_inv, k b H' Hf2 ρ' e2 m2 p1⟩
end
/-! ### argument lists, displays -/
abbrev TDA := Ev → (List D → Ev → Prop) → Prop
def canA (K : Fg) (n : Nat) (τ : TDA) : TA := fun σ H Q => ∃ (Hf : Hp) (ρ : Ev) (P : List D → Ev → Prop), DEnv K H Hf σ ρ ∧ τ ρ P ∧ (∀ vs H' Hf' ds ρ', DEnv K H' Hf' σ ρ' → Mv σ ρ ρ' H H' Hf Hf' → RepL K Hf' vs ds → ds.length = n → P ds ρ' → Q vs H')
structure DA (X : Cx) (es : List Expr) (τ : TDA) : Prop where
  pa : PA X es (canA X.K es.length τ)
section
variable {X : Cx} {pos : Pos} {e : Expr} {es : List Expr} {τ : TD} {τs : TDA}
theorem DA.of {t : TA} (h : PA X es t) (k : ∀ (σ : St) (H Hf : Hp) (ρ : Ev) (P : List D → Ev → Prop) (Q : List V → Hp → Prop), DEnv X.K H Hf σ ρ → τs ρ P → (∀ vs H' Hf' ds ρ', DEnv X.K H' Hf' σ ρ' → Mv σ ρ ρ' H H' Hf Hf' → RepL X.K Hf' vs ds → ds.length = es.length → P ds ρ' → Q vs H') → t σ H Q) : DA X es τs :=
  ⟨⟨fun pos pins s σ H Q I ⟨Hf, ρ, P, e, q, kk⟩ => h.run pos pins s σ H Q I (k σ H Hf ρ P Q e q kk)⟩⟩
def tANil : TDA := fun ρ P => P [] ρ
def tACons (a : TD) (r : TDA) : TDA := fun ρ P => a ρ fun x ρ1 => r ρ1 fun xs ρ2 => P (x.dat :: xs) ρ2
theorem da_nil : DA X [] tANil := DA.of pa_nil fun σ H Hf ρ P Q e q k => k [] H Hf [] ρ e (Mv.refl ..) .nil rfl q
theorem da_cons (ha : DE X e τ) (hr : DA X es τs) (hs : starEach (e :: es) X.env = (false, eval e X.env) :: starEach es X.env := by rfl) : DA X (e :: es) (tACons τ τs) := by
  obtain ⟨ta, pa, sa⟩ := ha.fz
  refine DA.of (pa_cons pa hr.pa hs) fun σ H Hf ρ P Q e q k => sa σ H Hf ρ (fun d ρ1 => τs ρ1 fun xs ρ2 => P (d :: xs) ρ2) _ e q fun v H1 Hf1 d ρ1 e1 m1 r1 p1 => ?_
  exact ⟨Hf1, ρ1, _, e1, p1, fun vs H2 Hf2 ds ρ2 e2 m2 r2 l2 p2 => k (v :: vs) H2 Hf2 (d :: ds) ρ2 e2 (m1.trans m2) (.cons (r1.mono m2.grow) r2) (by rw [List.length_cons, l2, List.length_cons]) p2⟩
def tTupD (τ : TDA) : TD := fun ρ P => τ ρ fun ds ρ1 => ds.length ≤ 16000 ∧ P (.fz (.tup ds)) ρ1
def tLstD (τ : TDA) : TD := fun ρ P => τ ρ fun ds ρ1 => ds.length ≤ 16000 ∧ P (.fr ds) ρ1
theorem de_tup {x1 : Nat} (h : DA X es τs) : DE X (.Tuple es x1 pos) (tTupD τs) := by
  refine DE.of (pe_tup h.pa) fun σ H Hf ρ P Q e q k => ⟨Hf, ρ, _, e, q, fun vs H1 Hf1 ds ρ1 e1 m1 r1 _ ⟨hz, p1⟩ => ⟨by rw [r1.length]; exact lim hz, fun n hn => ?_⟩⟩
  obtain ⟨x1, x2⟩ := new_tup e1.sub hn r1
  exact k _ _ _ _ ρ1 (x1.env e1) (m1.trans x1.mv) (x2.back m1.live) p1
theorem de_lst (h : DA X es τs) : DE X (.List es pos) (tLstD τs) := by
  refine DE.of (pe_lst h.pa) fun σ H Hf ρ P Q e q k => ⟨Hf, ρ, _, e, q, fun vs H1 Hf1 ds ρ1 e1 m1 r1 _ ⟨hz, p1⟩ => ⟨by rw [r1.length]; exact lim hz, fun n hn => ?_⟩⟩
  obtain ⟨x1, x2⟩ := new_lst e1.sub hn r1
  exact k _ _ _ _ ρ1 (x1.env e1) (m1.trans x1.mv) (x2.back m1.live) p1
end
/-! ### subscripts, slices -/
def ixD : D → D → Option Res
  | .tup xs, .int i => (atI xs i).map .fz
  | .lst xs, .int i => (atI xs i).map .fz
  | .scr ns, .int i => (atI ns i).map fun n => .fz (.int n)
  | .str z, .int i => if z.length ≤ 100000 then (atI z.cps.toList i).map fun c => .fz (.str ⟨#[c]⟩) else none
  | _, _ => none
theorem RepL.atI {K : Fg} {H : Hp} {vs : List V} {ds : List D} {i : Int} {d : D} (r : RepL K H vs ds) (h : L2.atI ds i = some d) : ∃ v, L2.atI vs i = some v ∧ Rep K H v d := by
  unfold L2.atI at h ⊢
  rw [r.length]
  cases e : ixN ds.length i with
  | none => rw [e] at h; cases h
  | some j =>
    rw [e] at h
    exact r.get h
theorem opS_ix {K : Fg} : OpS K (rIx K) ixD := by
  intro H Hf x y a b c Q hf ra rb hg k
  cases rb <;> first | (cases a <;> simp [ixD] at hg; done) | skip
  rename_i i
  cases ra <;> first | (simp [ixD] at hg; done) | skip
  · rename_i z
    simp only [ixD] at hg
    split at hg
    · rename_i hz
      cases e : atI z.cps.toList i with
      | none => rw [e] at hg; cases hg
      | some ch =>
        rw [e] at hg
        cases hg
        exact .inr (.inr ⟨z, i, ch, rfl, rfl, lim hz, e, k _ _ _ (Ext.refl hf) (.str _)⟩)
    · cases hg
  · rename_i p ns hp
    simp only [ixD] at hg
    cases e : atI ns i with
    | none => rw [e] at hg; cases hg
    | some n =>
      rw [e] at hg
      cases hg
      refine .inl ⟨p, _, i, .int n, rfl, rfl, sqL_same hf hp, ?_, k _ _ _ (Ext.refl hf) (.int n)⟩
      unfold atI at e ⊢
      rw [List.length_map]
      cases e2 : ixN ns.length i with
      | none => rw [e2] at e; cases e
      | some j =>
        rw [e2] at e
        show (ns.map V.int)[j]? = _
        rw [List.getElem?_map]
        have e3 : ns[j]? = some n := e
        rw [e3]
        rfl
  · rename_i p xs ds hp rp
    simp only [ixD] at hg
    cases e : atI ds i with
    | none => rw [e] at hg; cases hg
    | some d =>
      rw [e] at hg
      cases hg
      obtain ⟨v, h1, h2⟩ := rp.atI e
      exact .inr (.inl ⟨p, xs, i, v, rfl, rfl, sqT_same hf hp, h1, k _ _ _ (Ext.refl hf) h2⟩)
  · rename_i p xs ds hp rp
    simp only [ixD] at hg
    cases e : atI ds i with
    | none => rw [e] at hg; cases hg
    | some d =>
      rw [e] at hg
      cases hg
      obtain ⟨v, h1, h2⟩ := rp.atI e
      exact .inl ⟨p, xs, i, v, rfl, rfl, .inl (.inl (hf _ _ hp)), h1, k _ _ _ (Ext.refl hf) h2⟩
theorem de_ix {X : Cx} {a b : Expr} {τa τb : TD} {pos : Pos} (ha : DE X a τa) (hb : DE X b τb) (hs : PlainIx b) : DE X (.Subscript a b pos) (tBin ixD τa τb) := by
  obtain ⟨ta, pa, sa⟩ := ha.fz
  obtain ⟨tb, pb, sb⟩ := hb.fz
  exact DE.of (pe_ix ix_seq pa pb hs) (run2 opS_ix sa sb)
end DL
/-! The data layer, 5: slices, built-ins, contracts and calls, lists of one's own. -/
namespace L2
open PySem PySem.Spec PyProof.Rows
/-- list(text) -/
theorem call_list_txt {X : Cx} (hc : X.calm = true) : CallR X (.type "list") (fun xs H Q => ∃ z : Str, xs = [.str z] ∧ z.length ≤ sizeLine ∧ ∀ l, H l = none → Q (.ref l) (upd H l (.lst (z.cps.toList.map fun c => V.str ⟨#[c]⟩)))) := by
  intro pins s σ H xs us Q I r h
  obtain ⟨z, rfl, hz, q⟩ := h
  obtain ⟨u, rfl, t, rfl⟩ := vals1 r
  refine call_list_str (I.ok.hd hc) z t (hn := hz) fun h' tk acc' c' hk hS' hacc => ?_
  have hv : Vals (z.cps.toList.map fun c => V.str ⟨#[c]⟩) acc'.toList := by
    have key : ∀ (cs : List Nat) (as : List Value), as.length = cs.length → (∀ (j : Nat) (v : Value), as[j]? = some v → ∃ c u, cs[j]? = some c ∧ v = .str ⟨#[c]⟩ u) → Vals (cs.map fun c => V.str ⟨#[c]⟩) as := by
      intro cs
      induction cs with
      | nil =>
        intro as hl _
        cases as with
        | nil => exact .nil
        | cons _ _ => simp at hl
      | cons c cs ih =>
        intro as hl hj
        cases as with
        | nil => simp at hl
        | cons a as =>
          obtain ⟨c0, u0, e1, e2⟩ := hj 0 a rfl
          cases e1
          refine .cons ⟨u0, e2⟩ (ih as (by simpa using hl) fun j v hv => ?_)
          exact hj (j + 1) v (by simpa using hv)
    refine key _ _ (by rw [Array.length_toList, Array.length_toList, hacc.1]) fun j v hv => ?_
    obtain ⟨c, u, hc', rfl⟩ := hacc.2 j v (by simpa using hv)
    exact ⟨c, u, by simpa using hc', rfl⟩
  have hl : (z.cps.toList.map fun c => V.str ⟨#[c]⟩).length ≤ sizeLine := by rw [List.length_map, Array.length_toList]; exact hz
  refine ⟨.ref s.heap.objs.size, _, I.laid (t' := tk) (o := .lst (z.cps.toList.map fun c => V.str ⟨#[c]⟩)) hk (Nat.le_refl _) ⟨hl, acc'.toList, c', hv, by simpa using hS'⟩, rfl, q _ (I.hok.fresh (Nat.le_refl _))⟩
end L2
namespace DL
open PySem L2
/-! ### slices -/
abbrev TDO := Ev → (Option Int → Ev → Prop) → Prop
def canO (K : Fg) (τ : TDO) : TO := fun σ H Q => ∃ (Hf : Hp) (ρ : Ev) (P : Option Int → Ev → Prop), DEnv K H Hf σ ρ ∧ τ ρ P ∧ (∀ o H' Hf' ρ', DEnv K H' Hf' σ ρ' → Mv σ ρ ρ' H H' Hf Hf' → P o ρ' → Q o H')
structure DO (X : Cx) (e : Option Expr) (τ : TDO) : Prop where
  po : PO X e (canO X.K τ)
def tONone : TDO := fun ρ P => P none ρ
def tOSome (τ : TD) : TDO := fun ρ P => τ ρ fun r ρ1 => ∃ i, r.dat = .int i ∧ P (some i) ρ1
def cutD (xs : List D) (lo hi : Option Int) : List D := (xs.drop (HT.sIx xs.length 0 lo)).take (HT.sIx xs.length xs.length hi - HT.sIx xs.length 0 lo)
def slD : D → Option Int → Option Int → Option Res
  | .tup xs, lo, hi => some (.fz (.tup (cutD xs lo hi)))
  | .lst xs, lo, hi => some (.fr (cutD xs lo hi))
  | .str z, lo, hi => if z.length ≤ 100000 then some (.fz (.str (cutS z lo hi))) else none
  | _, _, _ => none
def tSlD (a : TD) (l h : TDO) : TD := fun ρ P => a ρ fun x ρ1 => l ρ1 fun lo ρ2 => h ρ2 fun hi ρ3 => ∃ c, slD x.dat lo hi = some c ∧ P c ρ3
def slR (K : Fg) : V → Option Int → Option Int → Hp → VK → Prop := fun x lo hi H Q => rSlA K x lo hi H Q ∨ (rSlL K x lo hi H Q ∨ rSlS x lo hi H Q)
theorem RepL.cut {K : Fg} {H : Hp} {vs : List V} {ds : List D} (r : RepL K H vs ds) (lo hi : Option Int) : RepL K H (cutV vs lo hi) (cutD ds lo hi) := by
  unfold cutV cutD
  rw [r.length]
  exact (r.drop _).take _
theorem slS {K : Fg} {H Hf : Hp} {x : V} {a : D} {lo hi : Option Int} {c : Res} {Q : VK} (hf : ∀ b o, Hf b = some o → H b = some o) (ra : Rep K Hf x a) (hg : slD a lo hi = some c)
    (k : ∀ v H' Hf', Ext H H' Hf Hf' → ResOk K H H' Hf' v c → Q v H') : slR K x lo hi H Q := by
  cases ra <;> first | (simp [slD] at hg; done) | skip
  · rename_i z
    simp only [slD] at hg
    split at hg
    · rename_i hz
      cases hg
      exact .inr (.inr ⟨z, rfl, lim hz, k _ _ _ (Ext.refl hf) (.str _)⟩)
    · cases hg
  · rename_i p xs ds hp rp
    simp only [slD] at hg
    cases hg
    refine .inl ⟨p, xs, rfl, sqT_same hf hp, fun z => ?_, fun _ n hn => ?_⟩
    · refine k _ _ _ (Ext.refl hf) (.tup hp ?_)
      have e : cutD ds lo hi = ds := by
        unfold cutD
        rw [← rp.length, z.1, z.2, List.drop_zero, Nat.sub_zero, rp.length]
        exact List.take_length
      rw [e]
      exact rp
    · obtain ⟨x1, x2⟩ := new_tup hf hn (rp.cut lo hi)
      exact k _ _ _ x1 x2
  · rename_i p xs ds hp rp
    simp only [slD] at hg
    cases hg
    refine .inr (.inl ⟨p, xs, rfl, .inl (.inl (hf _ _ hp)), fun n hn => ?_⟩)
    obtain ⟨x1, x2⟩ := new_lst hf hn (rp.cut lo hi)
    exact k _ _ _ x1 x2
section
variable {X : Cx} {pos p2 : Pos} {a e : Expr} {es : List Expr} {τa τ : TD} {τs : TDA}
theorem do_none : DO X none tONone := ⟨⟨fun pins s σ H Q I ⟨Hf, ρ, P, e, q, k⟩ => po_none.run pins s σ H Q I (k none H Hf ρ e (Mv.refl ..) q)⟩⟩
theorem do_some (h : DE X e τ) : DO X (some e) (tOSome τ) := by
  obtain ⟨t, p, sa⟩ := h.fz
  refine ⟨⟨fun pins s σ H Q I ⟨Hf, ρ, P, e, q, k⟩ => (po_some p).run pins s σ H Q I (sa σ H Hf ρ (fun d ρ1 => ∃ i, d = .int i ∧ P (some i) ρ1) _ e q fun v H1 Hf1 d ρ1 e1 m1 r1 ⟨i, hi, p1⟩ => ?_)⟩⟩
  subst hi
  exact ⟨i, r1.int_inv, k _ H1 Hf1 ρ1 e1 m1 p1⟩
theorem de_sl {lo hi : Option Expr} {τl τh : TDO} (ha : DE X a τa) (hl : DO X lo τl) (hh : DO X hi τh) : DE X (.Subscript a (.Slice lo hi none p2) pos) (tSlD τa τl τh) := by
  obtain ⟨ta, pa, sa⟩ := ha.fz
  refine DE.of (pe_slice (SlR.or sl_tupA (SlR.or sl_list sl_str)) pa hl.po hh.po) fun σ H Hf ρ P Q e q k => ?_
  refine sa σ H Hf ρ (fun d ρ1 => τl ρ1 fun lo ρ2 => τh ρ2 fun hi ρ3 => ∃ c, slD d lo hi = some c ∧ P c ρ3) _ e q fun v H1 Hf1 d ρ1 e1 m1 r1 p1 => ?_
  refine ⟨Hf1, ρ1, _, e1, p1, fun lo H2 Hf2 ρ2 e2 m2 p2 => ⟨Hf2, ρ2, _, e2, p2, fun hi H3 Hf3 ρ3 e3 m3 p3 => ?_⟩⟩
  obtain ⟨c, hc, p4⟩ := p3
  have m := (m1.trans m2).trans m3
  exact slS (Q := Q) e3.sub ((r1.mono m2.grow).mono m3.grow) hc fun v H4 Hf4 x4 ok => k v H4 Hf4 c ρ3 (x4.env e3) (m.trans x4.mv) (ok.back m.live) p4
/-! ### built-ins called -/
def CallS (K : Fg) (r : List V → Hp → VK → Prop) (g : List D → Option Res) : Prop := ∀ (H Hf : Hp) (xs : List V) (ds : List D) (c : Res) (Q : VK), (∀ b o, Hf b = some o → H b = some o) → RepL K Hf xs ds → g ds = some c →
  (∀ v H' Hf', Ext H H' Hf Hf' → ResOk K H H' Hf' v c → Q v H') → r xs H Q
def tCallG (g : List D → Option Res) (τ : TDA) : TD := fun ρ P => τ ρ fun ds ρ1 => ∃ c, g ds = some c ∧ P c ρ1
theorem runC {n : Nat} {r : List V → Hp → VK → Prop} {g : List D → Option Res} (hs : CallS X.K r g) (σ : St) (H Hf : Hp) (ρ : Ev) (P : Res → Ev → Prop) (Q : VK) (e : DEnv X.K H Hf σ ρ) (q : tCallG g τs ρ P)
    (k : ∀ v H' Hf' r ρ', DEnv X.K H' Hf' σ ρ' → Mv σ ρ ρ' H H' Hf Hf' → ResOk X.K H H' Hf' v r → P r ρ' → Q v H') : tCB r (canA X.K n τs) σ H Q := by
  refine ⟨Hf, ρ, _, e, q, fun vs H1 Hf1 ds ρ1 e1 m1 r1 _ ⟨c, hc, p1⟩ => ?_⟩
  exact hs H1 Hf1 vs ds c Q e1.sub r1 hc fun v H2 Hf2 x2 ok => k v H2 Hf2 c ρ1 (x2.env e1) (m1.trans x2.mv) (ok.back m1.live) p1
theorem de_callB {x : Str} {id : String} {p : Pos} {r : List V → Hp → VK → Prop} {g : List D → Option Res} (hc : CallR X (.builtin id) r) (hs : CallS X.K r g) (hg : Gl X x) (hm : X.mg x = none) (hv : bootBuiltins x = some (.builtin id)) (ha : DA X (e :: es) τs)
    (hn : x ≠ "__name__" := by decide) (hdb : (x == ("__debug__" : Str)) = false := by decide) (he : starEach (e :: es) X.env = (false, eval e X.env) :: starEach es X.env := by rfl) (hpl : (backTo pos (starEach es X.env)).any (·.1) = false := by rfl) :
    DE X (.Call (.Name x p) (e :: es) [] pos) (tCallG g τs) := DE.of (pe_callB hc hg hm hv ha.pa hn hdb he hpl) (runC hs)
theorem de_callTy {x : Str} {T : String} {p : Pos} {r : List V → Hp → VK → Prop} {g : List D → Option Res} (hc : CallR X (.type T) r) (hs : CallS X.K r g) (hg : Gl X x) (hm : X.mg x = none) (hv : bootBuiltins x = some (.type T)) (ha : DA X (e :: es) τs)
    (hn : x ≠ "__name__" := by decide) (hdb : (x == ("__debug__" : Str)) = false := by decide) (he : starEach (e :: es) X.env = (false, eval e X.env) :: starEach es X.env := by rfl) (hpl : (backTo pos (starEach es X.env)).any (·.1) = false := by rfl) :
    DE X (.Call (.Name x p) (e :: es) [] pos) (tCallG g τs) := DE.of (pe_callTy hc hg hm hv ha.pa hn hdb he hpl) (runC hs)
theorem callR_or {f : Value} {r r' : List V → Hp → VK → Prop} (h : CallR X f r) (h' : CallR X f r') : CallR X f (fun xs H Q => r xs H Q ∨ r' xs H Q) := by
  intro pins s σ H xs us Q I r q
  rcases q with q | q
  · exact h pins s σ H xs us Q I r q
  · exact h' pins s σ H xs us Q I r q
end
/-- len -/
def lenD : List D → Option Res
  | [.str z] => if z.length ≤ 100000 then some (.fz (.int z.length)) else none
  | [.tup xs] => some (.fz (.int xs.length))
  | [.lst xs] => some (.fz (.int xs.length))
  | [.scr ns] => some (.fz (.int ns.length))
  | _ => none
theorem callS_len {K : Fg} : CallS K (fun xs H Q => ∃ x n, xs = [x] ∧ LenV K x H n ∧ Q (.int n) H) lenD := by
  intro H Hf xs ds c Q hf r hg k
  cases r with
  | nil => simp [lenD] at hg
  | cons ra rs =>
    cases rs with
    | cons _ _ => cases ra <;> simp [lenD] at hg
    | nil =>
      cases ra <;> first | (simp [lenD] at hg; done) | skip
      · rename_i z
        simp only [lenD] at hg
        split at hg
        · rename_i hz
          cases hg
          exact ⟨_, z.length, rfl, ⟨lim hz, rfl⟩, k _ _ _ (Ext.refl hf) (.int _)⟩
        · cases hg
      · rename_i p ns hp
        simp only [lenD] at hg
        cases hg
        exact ⟨_, ns.length, rfl, .inl ⟨_, sqL_same hf hp, (List.length_map _).symm⟩, k _ _ _ (Ext.refl hf) (.int _)⟩
      · rename_i p xs ds hp rp
        simp only [lenD] at hg
        cases hg
        exact ⟨_, ds.length, rfl, .inr ⟨xs, sqT_same hf hp, rp.length.symm⟩, k _ _ _ (Ext.refl hf) (.int _)⟩
      · rename_i p xs ds hp rp
        simp only [lenD] at hg
        cases hg
        exact ⟨_, ds.length, rfl, .inl ⟨xs, .inl (.inl (hf _ _ hp)), rp.length.symm⟩, k _ _ _ (Ext.refl hf) (.int _)⟩
/-- isinstance with a built-in type -/
def D.tyN : D → Option String
  | .non => some "NoneType"
  | .bl _ => some "bool"
  | .int _ => some "int"
  | .str _ => some "str"
  | .tup _ => some "tuple"
  | .lst _ => some "list"
  | _ => none
def isiT : String → String → Option Bool
  | "NoneType", "int" => some false | "NoneType", "bool" => some false | "NoneType", "str" => some false | "NoneType", "tuple" => some false | "NoneType", "list" => some false
  | "bool", "int" => some true | "bool", "bool" => some true | "bool", "str" => some false | "bool", "tuple" => some false | "bool", "list" => some false
  | "int", "int" => some true | "int", "bool" => some false | "int", "str" => some false | "int", "tuple" => some false | "int", "list" => some false
  | "str", "int" => some false | "str", "bool" => some false | "str", "str" => some true | "str", "tuple" => some false | "str", "list" => some false
  | "tuple", "int" => some false | "tuple", "bool" => some false | "tuple", "str" => some false | "tuple", "tuple" => some true | "tuple", "list" => some false
  | "list", "int" => some false | "list", "bool" => some false | "list", "str" => some false | "list", "tuple" => some false | "list", "list" => some true
  | _, _ => none
def isTyD : D → String → Option Bool
  | .non, "int" => some false | .non, "bool" => some false | .non, "str" => some false | .non, "tuple" => some false | .non, "list" => some false
  | .bl _, "int" => some true | .bl _, "bool" => some true | .bl _, "str" => some false | .bl _, "tuple" => some false | .bl _, "list" => some false
  | .int _, "int" => some true | .int _, "bool" => some false | .int _, "str" => some false | .int _, "tuple" => some false | .int _, "list" => some false
  | .str _, "int" => some false | .str _, "bool" => some false | .str _, "str" => some true | .str _, "tuple" => some false | .str _, "list" => some false
  | .tup _, "int" => some false | .tup _, "bool" => some false | .tup _, "str" => some false | .tup _, "tuple" => some true | .tup _, "list" => some false
  | .lst _, "int" => some false | .lst _, "bool" => some false | .lst _, "str" => some false | .lst _, "tuple" => some false | .lst _, "list" => some true
  | _, _ => none
def isiD : List D → Option Res
  | [d, .ty T] => (isTyD d T).map fun b => .fz (.bl b)
  | _ => none
theorem sqT_ty {K : Fg} {H : Hp} {a : Addr} {xs : List V} (h : SqT K H a xs) : TyX K H (.ref a) (.type "tuple") := by
  rcases h with (h | ⟨o, h⟩) | ⟨o, its, n, h1, h2, _⟩
  · exact .base (.tup h)
  · exact .fTuple h
  · exact .kTuple h1 h2
theorem kitB_all : ∀ T ∈ ["int", "bool", "str", "tuple", "list"], ∀ t ∈ ["NoneType", "bool", "int", "str", "tuple", "list"], kitB t T = isiT t T := by decide +kernel
theorem isi_one {K : Fg} {H : Hp} {x : V} {d : D} {T : String} {b : Bool} (r : Rep K H x d) (h : isTyD d T = some b) : ∃ t, TyX K H x (.type t) ∧ kitB t T = some b := by
  have hT : T ∈ ["int", "bool", "str", "tuple", "list"] := by
    unfold isTyD at h
    split at h <;> first | (simp; done) | (cases h; done)
  have key : ∀ (t : String) (b' : Bool), t ∈ ["NoneType", "bool", "int", "str", "tuple", "list"] → isiT t T = some b' → kitB t T = some b' := fun t b' ht h' => (kitB_all T hT t ht).trans h'
  simp only [List.mem_cons, List.mem_nil_iff, or_false] at hT
  cases r
  · refine ⟨"NoneType", .base .non, key _ _ (by simp) ?_⟩
    rcases hT with rfl | rfl | rfl | rfl | rfl <;> (simp only [isTyD] at h; cases h; rfl)
  · refine ⟨"bool", .base (.bl _), key _ _ (by simp) ?_⟩
    rcases hT with rfl | rfl | rfl | rfl | rfl <;> (simp only [isTyD] at h; cases h; rfl)
  · refine ⟨"int", .base (.int _), key _ _ (by simp) ?_⟩
    rcases hT with rfl | rfl | rfl | rfl | rfl <;> (simp only [isTyD] at h; cases h; rfl)
  · refine ⟨"str", .base (.str _), key _ _ (by simp) ?_⟩
    rcases hT with rfl | rfl | rfl | rfl | rfl <;> (simp only [isTyD] at h; cases h; rfl)
  · rcases hT with rfl | rfl | rfl | rfl | rfl <;> (simp [isTyD] at h)
  · rcases hT with rfl | rfl | rfl | rfl | rfl <;> (simp [isTyD] at h)
  · rcases hT with rfl | rfl | rfl | rfl | rfl <;> (simp [isTyD] at h)
  · rename_i hp rp
    refine ⟨"tuple", sqT_ty hp, key _ _ (by simp) ?_⟩
    rcases hT with rfl | rfl | rfl | rfl | rfl <;> (simp only [isTyD] at h; cases h; rfl)
  · rename_i hp rp
    refine ⟨"list", .base (.lst hp), key _ _ (by simp) ?_⟩
    rcases hT with rfl | rfl | rfl | rfl | rfl <;> (simp only [isTyD] at h; cases h; rfl)
  · rcases hT with rfl | rfl | rfl | rfl | rfl <;> (simp [isTyD] at h)
theorem callS_isi {K : Fg} : CallS K (rIsi K) isiD := by
  intro H Hf xs ds c Q hf r hg k
  match ds, hg with
  | [d, .ty T], hg =>
    cases r with
    | cons ra rs =>
      cases rs with
      | cons rb rs =>
        cases rs
        cases rb
        simp only [isiD] at hg
        cases e : isTyD d T with
        | none => rw [e] at hg; cases hg
        | some b =>
          rw [e] at hg
          cases hg
          obtain ⟨t, h1, h2⟩ := isi_one (ra.mono hf) e
          exact ⟨_, _, _, _, b, rfl, .ty T, h1, kit_ty h2, k _ _ _ (Ext.refl hf) (.bl _)⟩
/-- max of two ints -/
def max2D : List D → Option Res
  | [.int i, .int j] => some (.fz (.int (if j > i then j else i)))
  | _ => none
theorem callS_max2 {K : Fg} : CallS K (fun xs H Q => ∃ i j, xs = [.int i, .int j] ∧ Q (.int (if j > i then j else i)) H) max2D := by
  intro H Hf xs ds c Q hf r hg k
  match ds, hg with
  | [.int i, .int j], hg =>
    cases r with
    | cons ra rs =>
      cases rs with
      | cons rb rs =>
        cases rs
        cases ra
        cases rb
        cases hg
        exact ⟨i, j, rfl, k _ _ _ (Ext.refl hf) (.int _)⟩
def min2D : List D → Option Res
  | [.int i, .int j] => some (.fz (.int (if j < i then j else i)))
  | _ => none
/-- a list of ints; of bools; of texts -/
def intsOf : List D → Option (List Int)
  | [] => some []
  | .int i :: r => (intsOf r).map (i :: ·)
  | _ => none
def blsOf : List D → Option (List Bool)
  | [] => some []
  | .bl i :: r => (blsOf r).map (i :: ·)
  | _ => none
def strsOf : List D → Option (List Str)
  | [] => some []
  | .str i :: r => (strsOf r).map (i :: ·)
  | _ => none
theorem RepL.ints {K : Fg} {H : Hp} : ∀ {vs : List V} {ds : List D} {ns : List Int}, RepL K H vs ds → intsOf ds = some ns → vs = ns.map V.int
  | _, _, ns, .nil, h => by
    simp only [intsOf, Option.some.injEq] at h
    subst h
    rfl
  | _, _, ns, .cons (d := d) (ds := ds) a r, h => by
    cases d <;> first | (simp [intsOf] at h; done) | skip
    simp only [intsOf] at h
    cases e : intsOf ds with
    | none => rw [e] at h; cases h
    | some ms =>
      rw [e] at h
      cases h
      cases a
      rw [r.ints e]
      rfl
theorem RepL.bls {K : Fg} {H : Hp} : ∀ {vs : List V} {ds : List D} {ns : List Bool}, RepL K H vs ds → blsOf ds = some ns → vs = ns.map V.bl
  | _, _, ns, .nil, h => by
    simp only [blsOf, Option.some.injEq] at h
    subst h
    rfl
  | _, _, ns, .cons (d := d) (ds := ds) a r, h => by
    cases d <;> first | (simp [blsOf] at h; done) | skip
    simp only [blsOf] at h
    cases e : blsOf ds with
    | none => rw [e] at h; cases h
    | some ms =>
      rw [e] at h
      cases h
      cases a
      rw [r.bls e]
      rfl
theorem RepL.strs {K : Fg} {H : Hp} : ∀ {vs : List V} {ds : List D} {ns : List Str}, RepL K H vs ds → strsOf ds = some ns → vs = ns.map V.str
  | _, _, ns, .nil, h => by
    simp only [strsOf, Option.some.injEq] at h
    subst h
    rfl
  | _, _, ns, .cons (d := d) (ds := ds) a r, h => by
    cases d <;> first | (simp [strsOf] at h; done) | skip
    simp only [strsOf] at h
    cases e : strsOf ds with
    | none => rw [e] at h; cases h
    | some ms =>
      rw [e] at h
      cases h
      cases a
      rw [r.strs e]
      rfl
def sumD : List D → Option Res
  | [.lst ds] => (intsOf ds).map fun ns => .fz (.int ns.sum)
  | _ => none
def allD : List D → Option Res
  | [.lst ds] => (blsOf ds).map fun ns => .fz (.bl (ns.all id))
  | _ => none
def anyD : List D → Option Res
  | [.lst ds] => (blsOf ds).map fun ns => .fz (.bl (ns.any id))
  | _ => none
theorem callS_sum {K : Fg} : CallS K (rSum K) sumD := by
  intro H Hf xs ds c Q hf r hg k
  match ds, hg with
  | [.lst es], hg =>
    cases r with
    | cons ra rs =>
      cases rs
      cases ra with
      | lst hp rp =>
        simp only [sumD] at hg
        cases e : intsOf es with
        | none => rw [e] at hg; cases hg
        | some ns =>
          rw [e] at hg
          cases hg
          have z := rp.ints e
          subst z
          exact ⟨_, ns, rfl, .inl (.inl (hf _ _ hp)), k _ _ _ (Ext.refl hf) (.int _)⟩
theorem callS_all {K : Fg} : CallS K (rAll K) allD := by
  intro H Hf xs ds c Q hf r hg k
  match ds, hg with
  | [.lst es], hg =>
    cases r with
    | cons ra rs =>
      cases rs
      cases ra with
      | lst hp rp =>
        simp only [allD] at hg
        cases e : blsOf es with
        | none => rw [e] at hg; cases hg
        | some ns =>
          rw [e] at hg
          cases hg
          have z := rp.bls e
          subst z
          exact ⟨_, ns, rfl, .inl (.inl (hf _ _ hp)), k _ _ _ (Ext.refl hf) (.bl _)⟩
theorem callS_any {K : Fg} : CallS K (rAny K) anyD := by
  intro H Hf xs ds c Q hf r hg k
  match ds, hg with
  | [.lst es], hg =>
    cases r with
    | cons ra rs =>
      cases rs
      cases ra with
      | lst hp rp =>
        simp only [anyD] at hg
        cases e : blsOf es with
        | none => rw [e] at hg; cases hg
        | some ns =>
          rw [e] at hg
          cases hg
          have z := rp.bls e
          subst z
          exact ⟨_, ns, rfl, .inl (.inl (hf _ _ hp)), k _ _ _ (Ext.refl hf) (.bl _)⟩
/-- list(x), tuple(x) -/
def signsD (z : Str) : List D := z.cps.toList.map fun c => .str ⟨#[c]⟩
def listD : List D → Option Res
  | [.lst ds] => some (.fr ds)
  | [.tup ds] => some (.fr ds)
  | [.str z] => if z.length ≤ 100000 then some (.fr (signsD z)) else none
  | _ => none
def tupleD : List D → Option Res
  | [.lst ds] => some (.fz (.tup ds))
  | [.tup ds] => some (.fz (.tup ds))
  | _ => none
theorem repL_signs {K : Fg} {H : Hp} : ∀ cs : List Nat, RepL K H (cs.map fun c => V.str ⟨#[c]⟩) (cs.map fun c => D.str ⟨#[c]⟩)
  | [] => .nil
  | c :: cs => .cons (.str _) (repL_signs cs)
def listR (K : Fg) : List V → Hp → VK → Prop := fun xs H Q => (∃ p ys, xs = [V.ref p] ∧ (SqL K H p ys ∨ SqT K H p ys) ∧ ∀ l, H l = none → Q (.ref l) (upd H l (.lst ys))) ∨
  (∃ z : Str, xs = [V.str z] ∧ z.length ≤ sizeLine ∧ ∀ l, H l = none → Q (.ref l) (upd H l (.lst (z.cps.toList.map fun c => V.str ⟨#[c]⟩))))
theorem callR_list {X : Cx} (hc : X.calm = true) : CallR X (.type "list") (listR X.K) := callR_or call_list_of (call_list_txt hc)
theorem callS_list {K : Fg} : CallS K (listR K) listD := by
  intro H Hf xs ds c Q hf r hg k
  match ds, hg with
  | [.lst es], hg =>
    cases r with
    | cons ra rs =>
      cases rs
      cases ra with
      | lst hp rp =>
        cases hg
        refine .inl ⟨_, _, rfl, .inl (.inl (.inl (hf _ _ hp))), fun n hn => ?_⟩
        obtain ⟨x1, x2⟩ := new_lst hf hn rp
        exact k _ _ _ x1 x2
  | [.tup es], hg =>
    cases r with
    | cons ra rs =>
      cases rs
      cases ra with
      | tup hp rp =>
        cases hg
        refine .inl ⟨_, _, rfl, .inr (sqT_same hf hp), fun n hn => ?_⟩
        obtain ⟨x1, x2⟩ := new_lst hf hn rp
        exact k _ _ _ x1 x2
  | [.str z], hg =>
    cases r with
    | cons ra rs =>
      cases rs
      cases ra
      simp only [listD] at hg
      split at hg
      · rename_i hz
        cases hg
        refine .inr ⟨z, rfl, lim hz, fun n hn => ?_⟩
        obtain ⟨x1, x2⟩ := new_lst (K := K) hf hn (repL_signs z.cps.toList)
        exact k _ _ _ x1 x2
      · cases hg
theorem callS_tuple {K : Fg} : CallS K (fun xs H Q => ∃ p ys, xs = [.ref p] ∧ ((SqL K H p ys ∧ ∀ l, H l = none → Q (.ref l) (upd H l (.tup ys))) ∨ (SqT K H p ys ∧ Q (.ref p) H))) tupleD := by
  intro H Hf xs ds c Q hf r hg k
  match ds, hg with
  | [.lst es], hg =>
    cases r with
    | cons ra rs =>
      cases rs
      cases ra with
      | lst hp rp =>
        cases hg
        refine ⟨_, _, rfl, .inl ⟨.inl (.inl (hf _ _ hp)), fun n hn => ?_⟩⟩
        obtain ⟨x1, x2⟩ := new_tup hf hn rp
        exact k _ _ _ x1 x2
  | [.tup es], hg =>
    cases r with
    | cons ra rs =>
      cases rs
      cases ra with
      | tup hp rp =>
        cases hg
        exact ⟨_, _, rfl, .inr ⟨sqT_same hf hp, k _ _ _ (Ext.refl hf) (.tup hp rp)⟩⟩
/-- int(x) of an int, of a bool -/
def intOfD : List D → Option Res
  | [.int i] => some (.fz (.int i))
  | [.bl b] => some (.fz (.int (if b then 1 else 0)))
  | _ => none
theorem callS_int {K : Fg} : CallS K (fun xs H Q => (∃ i, xs = [.int i] ∧ Q (.int i) H) ∨ ∃ k, xs = [.bl k] ∧ Q (.int (if k then 1 else 0)) H) intOfD := by
  intro H Hf xs ds c Q hf r hg k
  match ds, hg with
  | [.int i], hg =>
    cases r with
    | cons ra rs =>
      cases rs
      cases ra
      cases hg
      exact .inl ⟨i, rfl, k _ _ _ (Ext.refl hf) (.int _)⟩
  | [.bl b], hg =>
    cases r with
    | cons ra rs =>
      cases rs
      cases ra
      cases hg
      exact .inr ⟨b, rfl, k _ _ _ (Ext.refl hf) (.int _)⟩
/-- sep.join(xs) -/
def joinD : D → D → Option Res
  | .str s, .lst ds => match strsOf ds with
    | some ys => if (ys.map (·.length)).sum + ys.length * s.length ≤ 100000 then some (.fz (.str (Txt.join s ys))) else none
    | none => none
  | .str s, .tup ds => match strsOf ds with
    | some ys => if (ys.map (·.length)).sum + ys.length * s.length ≤ 100000 then some (.fz (.str (Txt.join s ys))) else none
    | none => none
  | _, _ => none
theorem de_join {X : Cx} {o e : Expr} {τo τe : TD} {apos pos : Pos} (ho : DE X o τo) (he : DE X e τe) (hs : starEach [e] X.env = [(false, eval e X.env)] := by rfl) (hbase : attributeBase o "join" X.env (eval o X.env) = eval o X.env := by rfl) (hline : (apos.endLine == pos.line) = true := by rfl) :
    DE X (.Call (.Attribute o "join" apos) [e] [] pos) (fun ρ P => τo ρ fun x ρ1 => (∃ z, x.dat = .str z) ∧ τe ρ1 fun y ρ2 => ∃ c, joinD x.dat y.dat = some c ∧ P c ρ2) := by
  obtain ⟨to, po, so⟩ := ho.fz
  obtain ⟨te, pe, se⟩ := he.fz
  refine DE.of (pe_join po pe hs hbase hline) fun σ H Hf ρ P Q e q k => ?_
  refine so σ H Hf ρ (fun x ρ1 => (∃ z, x = .str z) ∧ τe ρ1 fun y ρ2 => ∃ c, joinD x y.dat = some c ∧ P c ρ2) _ e q fun x H1 Hf1 dx ρ1 e1 m1 r1 q1 => ?_
  obtain ⟨⟨z, rfl⟩, q1⟩ := q1
  cases r1
  refine ⟨⟨_, rfl⟩, ?_⟩
  refine se σ H1 Hf1 ρ1 (fun y ρ2 => ∃ c, joinD (.str z) y = some c ∧ P c ρ2) _ e1 q1 fun y H2 Hf2 dy ρ2 e2 m2 r2 q2 => ?_
  obtain ⟨c, hc, p⟩ := q2
  have fin : ∀ ys : List Str, (if (ys.map (·.length)).sum + ys.length * z.length ≤ 100000 then some (Res.fz (.str (Txt.join z ys))) else none) = some c → (ys.map (·.length)).sum + ys.length * z.length ≤ 16777216 ∧ Q (.str (Txt.join z ys)) H2 := by
    intro ys h
    split at h
    · rename_i hz
      cases h
      exact ⟨Nat.le_trans hz (by decide), k _ H2 Hf2 (.fz (.str (Txt.join z ys))) ρ2 e2 (m1.trans m2) (Rep.str _) p⟩
    · cases h
  cases r2 <;> first | (simp [joinD] at hc; done) | skip
  · rename_i p xs ds hp rp
    simp only [joinD] at hc
    cases e : strsOf ds with
    | none => rw [e] at hc; cases hc
    | some ys =>
      rw [e] at hc
      have zz := rp.strs e
      subst zz
      exact ⟨z, p, ys, rfl, rfl, .inr (sqT_same e2.sub hp), fin ys hc⟩
  · rename_i p xs ds hp rp
    simp only [joinD] at hc
    cases e : strsOf ds with
    | none => rw [e] at hc; cases hc
    | some ys =>
      rw [e] at hc
      have zz := rp.strs e
      subst zz
      exact ⟨z, p, ys, rfl, rfl, .inl (.inl (.inl (e2.sub _ _ hp))), fin ys hc⟩
end DL
/-! The data layer, 6: contracts, calls, lists of one's own, statements, defs. -/
namespace DL
open PySem L2
/-! ### what a def promises, by data -/
abbrev FS0 := List D → (Res → Prop) → Prop
abbrev FS1 := List D → List D → (Res → List D → Prop) → Prop
def sp0 (K : Fg) (n : Nat) (f : FS0) : Sp := fun vs H Q _ => ∃ (Hf : Hp) (ds : List D) (P : Res → Prop), (∀ b o, Hf b = some o → H b = some o) ∧ RepL K Hf vs ds ∧ ds.length = n ∧ f ds P ∧
  ∀ v H' Hf' r, Ext H H' Hf Hf' → ResOk K H H' Hf' v r → P r → Q v H'
/-- the first parameter is a list that is changed -/
structure ExtB (a : Addr) (H H' Hf Hf' : Hp) : Prop where
  same : ∀ b o, H b = some o → b ≠ a → H' b = some o
  live : ∀ b, H' b = none → H b = none
  sub : ∀ b o, Hf' b = some o → H' b = some o
  grow : ∀ b o, Hf b = some o → Hf' b = some o
  new : ∀ b o, Hf' b = some o → Hf b = some o ∨ H b = none
def sp1 (K : Fg) (n : Nat) (f : FS1) : Sp := fun vs H Q _ => ∃ (Hf : Hp) (a : Addr) (us ys : List V) (xs ds : List D) (P : Res → List D → Prop), vs = .ref a :: us ∧ (∀ b o, Hf b = some o → H b = some o) ∧ H a = some (.lst ys) ∧ Hf a = none ∧ RepL K Hf ys xs ∧
  RepL K Hf us ds ∧ ds.length + 1 = n ∧ f xs ds P ∧ ∀ v H' Hf' r ys' xs', ExtB a H H' Hf Hf' → H' a = some (.lst ys') → Hf' a = none → RepL K Hf' ys' xs' → ResOk K H H' Hf' v r → P r xs' → Q v H'
section
variable {X : Cx} {pos p : Pos} {e : Expr} {es : List Expr} {τ : TD} {τs : TDA} {x : Str} {f : Addr} {fd : FuncData} {ps : List Str} {k n : Nat}
def tCall0 (g : FS0) (τ : TDA) : TD := fun ρ P => τ ρ fun ds ρ1 => g ds fun r => P r ρ1
theorem de_call0 {g : FS0} (F : FnOk X.prog X.w X.K X.mg X.base CX0 k f fd ps (sp0 X.K n g)) (hr : Room k X.A) (hg : Gl X x) (hm : X.mg x = some (.ref f)) (hk : PySem.W.keepIn X.K (.ref f) = true) (hb : Binds X.K fd ps [])
    (ha : DA X (e :: es) τs) (hl : (e :: es).length = n := by rfl) (hdb : (x == ("__debug__" : Str)) = false := by decide) (he : starEach (e :: es) X.env = (false, eval e X.env) :: starEach es X.env := by rfl) (hpl : (backTo pos (starEach es X.env)).any (·.1) = false := by rfl) :
    DE X (.Call (.Name x p) (e :: es) [] pos) (tCall0 g τs) := by
  refine DE.of (pe_call F hr hg hm hk hb .nil pass0 ha.pa hdb he hpl) fun σ H Hf ρ P Q e q k => ⟨Hf, ρ, _, e, q, fun vs H1 Hf1 ds ρ1 e1 m1 r1 hds p1 => ?_⟩
  show sp0 X.K n g (vs ++ []) H1 Q _
  rw [List.append_nil]
  exact ⟨Hf1, ds, _, e1.sub, r1, hds.trans hl, p1, fun v H2 Hf2 r x2 ok p2 => k v H2 Hf2 r ρ1 (x2.env e1) (m1.trans x2.mv) (ok.back m1.live) p2⟩
end
/-! ### lists of one's own -/
theorem own_upd {K : Fg} {H Hf : Hp} {σ : St} {ρ : Ev} {i : Nat} {p : Bool} {xs xs' : List D} {a : Addr} {ys' : List V} (e : DEnv K H Hf σ ρ) (h : ρ[i]? = some (some (.ow p xs))) (ha : σ[i]? = some (some (.ref a))) (r : RepL K Hf ys' xs') :
    DEnv K (upd H a (.lst ys')) Hf σ (ρ.set i (some (.ow p xs'))) ∧ Mv σ ρ (ρ.set i (some (.ow p xs'))) H (upd H a (.lst ys')) Hf Hf := by
  obtain ⟨b, ys, h1, h2, h3, h4⟩ := e.sl i _ h
  rw [ha] at h1
  cases h1
  have hlt := lt_of h
  refine ⟨⟨fun b o q => ?_, fun j s q => ?_, fun j k b pj us pk zs q1 q2 q3 q4 => ?_, by rw [List.length_set]; exact e.len⟩, ⟨fun b o q hn => ?_, fun b q => ?_, fun _ _ q => q, fun b o q => .inl q, fun j p' us q => ?_, fun j us q => ?_⟩⟩
  · rw [upd_ne (ne_of_none q h3)]
    exact e.sub b o q
  · rw [set_get] at q
    by_cases hj : i = j
    · subst hj
      rw [if_pos rfl, if_pos hlt] at q
      cases q
      exact ⟨a, ys', ha, upd_same, h3, r⟩
    · rw [if_neg hj] at q
      have z := e.sl j s q
      cases s with
      | fz d => exact z
      | ow pp us =>
        obtain ⟨b, zs, z1, z2, z3, z4⟩ := z
        have hb : b ≠ a := fun w => by
          subst w
          exact hj (e.sep i j b _ _ _ _ h q ha z1)
        exact ⟨b, zs, z1, by rw [upd_ne hb]; exact z2, z3, z4⟩
  · have back : ∀ {m : Nat} {pp : Bool} {vs : List D}, (ρ.set i (some (.ow p xs')))[m]? = some (some (.ow pp vs)) → ∃ p2 vs2, ρ[m]? = some (some (.ow p2 vs2)) := by
      intro m pp vs q
      rw [set_get] at q
      by_cases hm : i = m
      · subst hm
        exact ⟨_, _, h⟩
      · rw [if_neg hm] at q
        exact ⟨_, _, q⟩
    obtain ⟨_, _, w1⟩ := back q1
    obtain ⟨_, _, w2⟩ := back q2
    exact e.sep j k b _ _ _ _ w1 w2 q3 q4
  · rw [upd_ne (fun z => hn ⟨i, p, xs, h, by rw [z]; exact ha⟩)]
    exact q
  · by_cases hb : b = a
    · subst hb
      rw [upd_same] at q
      cases q
    · rw [upd_ne hb] at q
      exact q
  · rw [set_get] at q
    by_cases hj : i = j
    · subst hj
      rw [if_pos rfl, if_pos hlt] at q
      cases q
      exact ⟨xs, h⟩
    · rw [if_neg hj] at q
      exact ⟨us, q⟩
  · by_cases hj : i = j
    · subst hj
      rw [h] at q
      cases q
      exact ⟨xs', by rw [set_get, if_pos rfl, if_pos hlt]⟩
    · exact ⟨us, by rw [set_get, if_neg hj]; exact q⟩
section
variable {X : Cx} {pos p apos : Pos} {b e : Expr} {es : List Expr} {τ τb : TD} {τs : TDA} {x : Str}
/-- x[e] -/
def tIxO (i : Nat) (τb : TD) : TD := fun ρ P => (∃ p xs, ρ[i]? = some (some (.ow p xs))) ∧ τb ρ fun y ρ1 => ∃ p xs k d, ρ1[i]? = some (some (.ow p xs)) ∧ y.dat = .int k ∧ atI xs k = some d ∧ P (.fz d) ρ1
theorem de_ixO (i : Nat) (hb : DE X b τb) (hs : PlainIx b) (hN : X.N[i]? = some x := by rfl) (hv : Vis X.env.scope x := by first | exact Or.inl rfl | exact Or.inr (Or.inl rfl) | exact Or.inr (Or.inr rfl)) (hd : (x == ("__debug__" : Str)) = false := by decide) (hcd : (x == ("__classdict__" : Str)) = false := by decide) :
    DE X (.Subscript (.Name x p) b pos) (tIxO i τb) := by
  obtain ⟨tb, pb, sb⟩ := hb.fz
  refine DE.of (pe_ix ix_seq (pe_var hN hv hd hcd) pb hs) fun σ H Hf ρ P Q e ⟨⟨p0, xs0, h0⟩, q⟩ k => ?_
  obtain ⟨a, ys, h1, _⟩ := e.sl i _ h0
  refine ⟨.ref a, h1, sb σ H Hf ρ (fun y ρ1 => ∃ p xs k d, ρ1[i]? = some (some (.ow p xs)) ∧ y = .int k ∧ atI xs k = some d ∧ P (.fz d) ρ1) _ e q fun y H1 Hf1 dy ρ1 e1 m1 r1 ⟨p1, xs, kk, d, g1, g2, g3, g4⟩ => ?_⟩
  subst g2
  obtain ⟨a', ys1, z1, z2, z3, z4⟩ := e1.sl i _ g1
  rw [h1] at z1
  cases z1
  obtain ⟨v, w1, w2⟩ := z4.atI g3
  cases r1
  exact .inl ⟨a, ys1, kk, v, rfl, rfl, .inl (.inl z2), w1, k v H1 Hf1 (.fz d) ρ1 e1 m1 w2 g4⟩
/-- len(x) -/
def tLenO (i : Nat) : TD := fun ρ P => ∃ p xs, ρ[i]? = some (some (.ow p xs)) ∧ P (.fz (.int (List.length xs : Int))) ρ
theorem de_lenO (i : Nat) (hg : Gl X "len") (hm : X.mg "len" = none) (hN : X.N[i]? = some x := by rfl) (hv : Vis X.env.scope x := by first | exact Or.inl rfl | exact Or.inr (Or.inl rfl) | exact Or.inr (Or.inr rfl)) (hd : (x == ("__debug__" : Str)) = false := by decide) (hcd : (x == ("__classdict__" : Str)) = false := by decide) :
    DE X (.Call (.Name "len" p) [.Name x apos] [] pos) (tLenO i) := by
  refine DE.of (pe_callB call_len hg hm PySem.boot_len (pa_cons (pe_var hN hv hd hcd) pa_nil)) fun σ H Hf ρ P Q e ⟨p0, xs, h0, q⟩ k => ?_
  obtain ⟨a, ys, h1, h2, h3, h4⟩ := e.sl i _ h0
  refine ⟨.ref a, h1, .ref a, xs.length, rfl, .inl ⟨ys, .inl (.inl h2), h4.length.symm⟩, ?_⟩
  exact k _ H Hf (.fz (.int xs.length)) ρ e (Mv.refl ..) (Rep.int _) q
/-- x.pop(e) -/
def tPopO (i : Nat) (τ : TDA) : TD := fun ρ P => (∃ p xs, ρ[i]? = some (some (.ow p xs))) ∧ τ ρ fun ds ρ1 => ∃ p xs k j d, ρ1[i]? = some (some (.ow p xs)) ∧ ds = [.int k] ∧ (-(2 ^ 63) ≤ k ∧ k < 2 ^ 63) ∧ seqIndex? k xs.length = some j ∧ xs[j]? = some d ∧ P (.fz d) (ρ1.set i (some (.ow p (xs.eraseIdx j))))
theorem de_popO (i : Nat) (ha : DA X [e] τs) (hN : X.N[i]? = some x := by rfl) (hv : Vis X.env.scope x := by first | exact Or.inl rfl | exact Or.inr (Or.inl rfl) | exact Or.inr (Or.inr rfl)) (hd : (x == ("__debug__" : Str)) = false := by decide) (hcd : (x == ("__classdict__" : Str)) = false := by decide)
    (he : starEach [e] X.env = (false, eval e X.env) :: starEach [] X.env := by rfl) (hbase : attributeBase (.Name x p) "pop" X.env (eval (.Name x p) X.env) = eval (.Name x p) X.env := by rfl) (hfew : ((backTo pos (starEach [e] X.env)).all (fun x => !x.1) && (backToKw pos (keywordEach [] X.env)).all (fun x => x.1.isSome) && decide ([e].length + ([] : List Keyword).length + (if ([] : List Keyword).isEmpty then 0 else 1) < 30)) = true := by rfl) (hline : (apos.endLine == pos.line) = true := by rfl) :
    DE X (.Call (.Attribute (.Name x p) "pop" apos) [e] [] pos) (tPopO i τs) := by
  refine DE.of (pe_bm PySem.F.plainAttrs_list PySem.F.slot_list_pop PySem.F.type_list_pop mt_popAt (pe_var hN hv hd hcd) ha.pa hbase hfew hline he rfl) fun σ H Hf ρ P Q e ⟨⟨p0, xs0, h0⟩, q⟩ k => ?_
  obtain ⟨a, ys, h1, h2, h3, h4⟩ := e.sl i _ h0
  refine ⟨.ref a, h1, .inl ⟨rfl, ys, .inl (.inl h2)⟩, ⟨Hf, ρ, _, e, q, fun vs H1 Hf1 ds ρ1 e1 m1 r1 _ ⟨p1, xs, kk, j, d, g1, g2, g3, g4, g5, g6⟩ => ?_⟩⟩
  subst g2
  cases r1 with
  | cons ra rr =>
    cases rr
    cases ra
    obtain ⟨a', ys1, z1, z2, z3, z4⟩ := e1.sl i _ g1
    rw [h1] at z1
    cases z1
    obtain ⟨v, w1, w2⟩ := z4.get g5
    obtain ⟨e2, m2⟩ := own_upd e1 g1 h1 (z4.eraseIdx j)
    refine ⟨a, ys1, kk, j, v, rfl, rfl, z2, g3.1, g3.2, by rw [z4.length]; exact g4, w1, ?_⟩
    exact k v _ Hf1 (.fz d) _ e2 (m1.trans m2) w2 g6
/-- x.append(e) -/
def tAppO (i : Nat) (τ : TDA) : TD := fun ρ P => (∃ p xs, ρ[i]? = some (some (.ow p xs))) ∧ τ ρ fun ds ρ1 => ∃ p xs d, ρ1[i]? = some (some (.ow p xs)) ∧ ds = [d] ∧ List.length xs < 16000 ∧ P (.fz .non) (ρ1.set i (some (.ow p (xs ++ [d]))))
theorem de_appO (i : Nat) (ha : DA X [e] τs) (hN : X.N[i]? = some x := by rfl) (hv : Vis X.env.scope x := by first | exact Or.inl rfl | exact Or.inr (Or.inl rfl) | exact Or.inr (Or.inr rfl)) (hd : (x == ("__debug__" : Str)) = false := by decide) (hcd : (x == ("__classdict__" : Str)) = false := by decide)
    (he : starEach [e] X.env = (false, eval e X.env) :: starEach [] X.env := by rfl) (hbase : attributeBase (.Name x p) "append" X.env (eval (.Name x p) X.env) = eval (.Name x p) X.env := by rfl) (hfew : ((backTo pos (starEach [e] X.env)).all (fun x => !x.1) && (backToKw pos (keywordEach [] X.env)).all (fun x => x.1.isSome) && decide ([e].length + ([] : List Keyword).length + (if ([] : List Keyword).isEmpty then 0 else 1) < 30)) = true := by rfl) (hline : (apos.endLine == pos.line) = true := by rfl) :
    DE X (.Call (.Attribute (.Name x p) "append" apos) [e] [] pos) (tAppO i τs) := by
  refine DE.of (pe_bm PySem.F.plainAttrs_list PySem.F.slot_list_append PySem.F.type_list_append mt_append (pe_var hN hv hd hcd) ha.pa hbase hfew hline he rfl) fun σ H Hf ρ P Q e ⟨⟨p0, xs0, h0⟩, q⟩ k => ?_
  obtain ⟨a, ys, h1, h2, h3, h4⟩ := e.sl i _ h0
  refine ⟨.ref a, h1, .inl ⟨rfl, ys, .inl (.inl h2)⟩, ⟨Hf, ρ, _, e, q, fun vs H1 Hf1 ds ρ1 e1 m1 r1 _ ⟨p1, xs, d, g1, g2, g3, g6⟩ => ?_⟩⟩
  subst g2
  cases r1 with
  | cons ra rr =>
    cases rr
    obtain ⟨a', ys1, z1, z2, z3, z4⟩ := e1.sl i _ g1
    rw [h1] at z1
    cases z1
    obtain ⟨e2, m2⟩ := own_upd e1 g1 h1 (z4.append (.cons ra .nil))
    have hz : ys1.length < sizeLine := by rw [z4.length]; exact Nat.lt_of_lt_of_le g3 (by decide)
    refine ⟨a, ys1, _, rfl, rfl, z2, hz, ?_⟩
    exact k .non _ Hf1 (.fz .non) _ e2 (m1.trans m2) Rep.non g6
end
end DL
/-! The data layer, 7: targets, statements, defs. -/
namespace DL
open PySem L2
/-! ### targets -/
abbrev TDG := D → Ev → (Ev → Prop) → Prop
abbrev TDGs := List D → Ev → (Ev → Prop) → Prop
def pinB (ρ : Ev) (i : Nat) : Bool := match ρ[i]? with
  | some (some (.ow true _)) => true
  | _ => false
/-- slots are set to data that stay, the others are as they were -/
structure SetTo (is : List Nat) (σ σ' : St) (ρ ρ' : Ev) : Prop where
  each : ∀ i : Nat, (σ'[i]? = σ[i]? ∧ ρ'[i]? = ρ[i]?) ∨ ((∃ d, ρ'[i]? = some (some (.fz d))) ∧ pinB ρ i = false ∧ i ∈ is)
  len : σ'.length = σ.length
theorem SetTo.refl (is : List Nat) (σ : St) (ρ : Ev) : SetTo is σ σ ρ ρ := ⟨fun _ => .inl ⟨rfl, rfl⟩, rfl⟩
theorem SetTo.trans {is js : List Nat} {σ σ1 σ2 : St} {ρ ρ1 ρ2 : Ev} (a : SetTo is σ σ1 ρ ρ1) (b : SetTo js σ1 σ2 ρ1 ρ2) : SetTo (is ++ js) σ σ2 ρ ρ2 := ⟨fun i => by
  rcases b.each i with ⟨h1, h2⟩ | ⟨h1, h2, h2'⟩
  · rcases a.each i with ⟨h3, h4⟩ | ⟨⟨d, h3⟩, h4, h5⟩
    · exact .inl ⟨h1.trans h3, h2.trans h4⟩
    · exact .inr ⟨⟨d, h2.trans h3⟩, h4, List.mem_append_left _ h5⟩
  · rcases a.each i with ⟨h3, h4⟩ | ⟨h3, h4, h5⟩
    · exact .inr ⟨h1, by unfold pinB at h2 ⊢; rw [h4] at h2; exact h2, List.mem_append_right _ h2'⟩
    · exact .inr ⟨h1, h4, List.mem_append_left _ h5⟩, b.len.trans a.len⟩
def canG (K : Fg) (is : List Nat) (γ : TDG) : TG := fun v σ H Q => ∃ (Hf : Hp) (ρ : Ev) (d : D) (P : Ev → Prop), DEnv K H Hf σ ρ ∧ Rep K Hf v d ∧ γ d ρ P ∧ ∀ σ' H' Hf' ρ', DEnv K H' Hf' σ' ρ' → Ext H H' Hf Hf' → SetTo is σ σ' ρ ρ' → P ρ' → Q σ' H'
def canGs (K : Fg) (is : List Nat) (γ : TDGs) : TGs := fun vs σ H Q => ∃ (Hf : Hp) (ρ : Ev) (ds : List D) (P : Ev → Prop), DEnv K H Hf σ ρ ∧ RepL K Hf vs ds ∧ γ ds ρ P ∧ ∀ σ' H' Hf' ρ', DEnv K H' Hf' σ' ρ' → Ext H H' Hf Hf' → SetTo is σ σ' ρ ρ' → P ρ' → Q σ' H'
structure DG (X : Cx) (tg : Expr) (is : List Nat) (γ : TDG) : Prop where
  pg : PG X tg (canG X.K is γ)
structure DGs (X : Cx) (tgs : List Expr) (is : List Nat) (γ : TDGs) : Prop where
  pgs : PGs X tgs (canGs X.K is γ)
/-- a slot is set -/
theorem set_slot {K : Fg} {H Hf : Hp} {σ : St} {ρ : Ev} {i : Nat} {v : V} {d : D} (e : DEnv K H Hf σ ρ) (r : Rep K Hf v d) : DEnv K H Hf (σ.set i (some v)) (ρ.set i (some (.fz d))) where
  sub := e.sub
  sl := fun j s h => by
    rw [set_get] at h
    by_cases hj : i = j
    · subst hj
      rw [if_pos rfl] at h
      split at h
      · rename_i hlt
        cases h
        exact ⟨v, by rw [List.getElem?_set, if_pos rfl, if_pos (by rw [e.len]; exact hlt)], r⟩
      · cases h
    · rw [if_neg hj] at h
      have z := e.sl j s h
      have es : (σ.set i (some v))[j]? = σ[j]? := by rw [List.getElem?_set, if_neg hj]
      cases s with
      | fz d => rw [es]; exact z
      | ow p us => rw [es]; exact z
  sep := fun j k a p xs q ys h1 h2 h3 h4 => by
    rw [set_get] at h1 h2
    by_cases hj : i = j
    · rw [if_pos hj] at h1
      split at h1 <;> cases h1
    by_cases hk : i = k
    · rw [if_pos hk] at h2
      split at h2 <;> cases h2
    rw [if_neg hj] at h1
    rw [if_neg hk] at h2
    rw [List.getElem?_set, if_neg hj] at h3
    rw [List.getElem?_set, if_neg hk] at h4
    exact e.sep j k a p xs q ys h1 h2 h3 h4
  len := by rw [List.length_set, List.length_set]; exact e.len
theorem setTo_slot {σ : St} {ρ : Ev} {i : Nat} {v : V} {d : D} (hl : σ.length = ρ.length) (hp : pinB ρ i = false) : SetTo [i] σ (σ.set i (some v)) ρ (ρ.set i (some (.fz d))) := ⟨fun j => by
  by_cases hj : i = j
  · subst hj
    by_cases hlt : i < ρ.length
    · exact .inr ⟨⟨d, by rw [set_get, if_pos rfl, if_pos hlt]⟩, hp, List.mem_singleton.mpr rfl⟩
    · exact .inl ⟨by rw [List.set_eq_of_length_le (by omega)], by rw [List.set_eq_of_length_le (by omega)]⟩
  · exact .inl ⟨by rw [List.getElem?_set, if_neg hj], by rw [set_get, if_neg hj]⟩, by rw [List.length_set]⟩
section
variable {X : Cx} {pos : Pos} {e : Expr} {es : List Expr} {γ : TDG} {γs : TDGs} {is js : List Nat}
def gN (i : Nat) : TDG := fun d ρ P => pinB ρ i = false ∧ P (ρ.set i (some (.fz d)))
theorem DG.of {t : TG} (h : PG X e t) (k : ∀ (v : V) (σ : St) (H Hf : Hp) (ρ : Ev) (d : D) (P : Ev → Prop) (Q : St → Hp → Prop), DEnv X.K H Hf σ ρ → Rep X.K Hf v d → γ d ρ P → (∀ σ' H' Hf' ρ', DEnv X.K H' Hf' σ' ρ' → Ext H H' Hf Hf' → SetTo is σ σ' ρ ρ' → P ρ' → Q σ' H') → t v σ H Q) : DG X e is γ :=
  ⟨⟨fun pins s σ H v u Q I r ⟨Hf, ρ, d, P, e1, r1, q, kk⟩ => h.run pins s σ H v u Q I r (k v σ H Hf ρ d P Q e1 r1 q kk)⟩⟩
theorem DGs.of {t : TGs} (h : PGs X es t) (k : ∀ (vs : List V) (σ : St) (H Hf : Hp) (ρ : Ev) (ds : List D) (P : Ev → Prop) (Q : St → Hp → Prop), DEnv X.K H Hf σ ρ → RepL X.K Hf vs ds → γs ds ρ P → (∀ σ' H' Hf' ρ', DEnv X.K H' Hf' σ' ρ' → Ext H H' Hf Hf' → SetTo is σ σ' ρ ρ' → P ρ' → Q σ' H') → t vs σ H Q) : DGs X es is γs :=
  ⟨⟨fun pins s σ H v u Q I r ⟨Hf, ρ, d, P, e1, r1, q, kk⟩ => h.run pins s σ H v u Q I r (k v σ H Hf ρ d P Q e1 r1 q kk)⟩⟩
theorem dg_n {x : Str} (i : Nat) (hN : X.N.Nodup) (hi : X.N[i]? = some x) (hx : Loc X.env.scope x) (hf : X.fn x = true ∨ X.env.scope.names.lookup x = some .local := by first | exact .inl rfl | exact .inr rfl | assumption) : DG X (.Name x pos) [i] (gN i) :=
  DG.of (pg_name hN hi hx hf) fun v σ H Hf ρ d P Q e r ⟨h1, h2⟩ k => k _ H Hf _ (set_slot e r) (Ext.refl e.sub) (setTo_slot e.len h1) h2
def gNilD : TDGs := fun ds ρ P => ds = [] ∧ P ρ
def gConsD (a : TDG) (r : TDGs) : TDGs := fun ds ρ P => ∃ d es, ds = d :: es ∧ a d ρ fun ρ1 => r es ρ1 P
theorem dgs_nil : DGs X [] [] gNilD := DGs.of pgs_nil fun vs σ H Hf ρ ds P Q e r ⟨h1, h2⟩ k => by
  subst h1
  cases r
  exact ⟨rfl, k σ H Hf ρ e (Ext.refl e.sub) (SetTo.refl ..) h2⟩
theorem dgs_cons (h1 : DG X e is γ) (h2 : DGs X es js γs) (hs : (assignEach (e :: es) X.env).map (·.2) = assign e X.env :: (assignEach es X.env).map (·.2) := by rfl) : DGs X (e :: es) (is ++ js) (gConsD γ γs) :=
  DGs.of (pgs_cons h1.pg h2.pgs hs) fun vs σ H Hf ρ ds P Q e r ⟨d, es, hd, q⟩ k => by
  subst hd
  cases r with
  | cons ra rr =>
    refine ⟨_, _, rfl, Hf, ρ, d, _, e, ra, q, fun σ1 H1 Hf1 ρ1 e1 x1 s1 p1 => ⟨Hf1, ρ1, es, P, e1, rr.mono x1.grow, p1, fun σ2 H2 Hf2 ρ2 e2 x2 s2 p2 => k σ2 H2 Hf2 ρ2 e2 (x1.trans x2) (s1.trans s2) p2⟩⟩
/-- (a, b, ..) = a tuple; a list -/
def gTupD (n : Nat) (γ : TDGs) : TDG := fun d ρ P => ∃ ds, d = .tup ds ∧ ds.length = n ∧ γ ds ρ P
def gUnlD (n : Nat) (γ : TDGs) : TDG := fun d ρ P => ∃ ds, d = .lst ds ∧ ds.length = n ∧ γ ds ρ P
theorem dg_tup {k n : Nat} (hc : X.calm = true) (h : DGs X es is γs) (hn : (assignEach es X.env).length = n := by rfl) (hst : (assignEach es X.env).findIdx? (·.1) = none := by rfl) : DG X (.Tuple es k pos) is (gTupD n γs) :=
  DG.of (pg_tup hc h.pgs hn hst) fun v σ H Hf ρ d P Q e r ⟨ds, hd, hl, q⟩ k => by
    subst hd
    cases r with
    | tup hp rp => exact ⟨_, _, rfl, sqT_same e.sub hp, rp.length.trans hl, Hf, ρ, ds, P, e, rp, q, k⟩
theorem dg_unl {k n : Nat} (hc : X.calm = true) (h : DGs X es is γs) (hn : (assignEach es X.env).length = n := by rfl) (hst : (assignEach es X.env).findIdx? (·.1) = none := by rfl) : DG X (.Tuple es k pos) is (gUnlD n γs) :=
  DG.of (pg_unl hc h.pgs hn hst) fun v σ H Hf ρ d P Q e r ⟨ds, hd, hl, q⟩ k => by
    subst hd
    cases r with
    | lst hp rp => exact ⟨_, _, rfl, .inl (.inl (e.sub _ _ hp)), rp.length.trans hl, Hf, ρ, ds, P, e, rp, q, k⟩
/-- (a, .., *r) = a tuple or a list -/
def gStarD (n : Nat) (γ : TDGs) : TDG := fun d ρ P => ∃ ds es, (d = .tup (ds ++ es) ∨ d = .lst (ds ++ es)) ∧ ds.length = n ∧ (ds ++ es).length ≤ 16000 ∧ γ (ds ++ [.lst es]) ρ P
theorem dgs_star {p : Pos} (h1 : DG X e is γ) : DGs X [.Starred e p] is (gConsD γ gNilD) :=
  DGs.of (pgs_star h1.pg) fun vs σ H Hf ρ ds P Q e r ⟨d, es, hd, q⟩ k => by
    subst hd
    cases r with
    | cons ra rr =>
      refine ⟨_, _, rfl, Hf, ρ, d, _, e, ra, q, fun σ1 H1 Hf1 ρ1 e1 x1 s1 ⟨p0, p1⟩ => ?_⟩
      subst p0
      cases rr
      exact ⟨rfl, k σ1 H1 Hf1 ρ1 e1 x1 s1 p1⟩
theorem dg_star {k i : Nat} (hc : X.calm = true) (h : DGs X es is γs) (hn : (assignEach es X.env).length = i + 1 := by rfl) (hst : (assignEach es X.env).findIdx? (·.1) = some i := by rfl) : DG X (.Tuple es k pos) is (gStarD i γs) :=
  DG.of (pg_star hc h.pgs hn hst) fun v σ H Hf ρ d P Q e r ⟨ds, es, hd, hl, hz, q⟩ k => by
    have fin : ∀ {a : Addr} {vs : List V}, v = .ref a → (SqT X.K H a vs ∨ SqL X.K H a vs) → RepL X.K Hf vs (ds ++ es) → gStar X.K i (canGs X.K is γs) v σ H Q := by
      intro a vs hv hs rp
      obtain ⟨us, ws, e1, r1, r2⟩ := rp.split
      subst e1
      refine ⟨a, us, ws, hv, hs, r1.length.trans hl, by rw [rp.length]; exact hz, fun n hn => ?_⟩
      have x1 := Ext.add e.sub (.lst ws) hn
      refine ⟨upd Hf n (.lst ws), ρ, ds ++ [.lst es], P, x1.env e, (r1.mono x1.grow).append (.cons (.lst upd_same (r2.mono x1.grow)) .nil), q, fun σ2 H2 Hf2 ρ2 e2 x2 s2 p2 => k σ2 H2 Hf2 ρ2 e2 (x1.trans x2) s2 p2⟩
    rcases hd with hd | hd
    · subst hd
      cases r with
      | tup hp rp => exact fin rfl (.inl (sqT_same e.sub hp)) rp
    · subst hd
      cases r with
      | lst hp rp => exact fin rfl (.inr (.inl (.inl (e.sub _ _ hp)))) rp
end
/-! ### statements -/
structure DEnds where
  nx : Ev → Prop
  rt : Res → Ev → Prop
  bk : Ev → Prop := fun _ => False
  ct : Ev → Prop := fun _ => False
abbrev TDS := DEnds → Ev → Prop
/-- where a def began: the heap, what was frozen, the lists that it may change (slot, address) -/
structure Bs where
  H0 : Hp
  Hf0 : Hp
  S : List (Nat × Addr)
structure SEnv (K : Fg) (B : Bs) (H Hf : Hp) (σ : St) (ρ : Ev) : Prop where
  env : DEnv K H Hf σ ρ
  keep : ∀ b o, B.H0 b = some o → (∀ p ∈ B.S, p.2 ≠ b) → H b = some o
  grow : ∀ b o, B.Hf0 b = some o → Hf b = some o
  live : ∀ b, H b = none → B.H0 b = none
  new : ∀ b o, Hf b = some o → B.Hf0 b = some o ∨ B.H0 b = none
  own : ∀ (i : Nat) (a : Addr) (xs : List D), ρ[i]? = some (some (.ow false xs)) → σ[i]? = some (some (.ref a)) → B.H0 a = none
  pin : ∀ (i : Nat) (a : Addr) (xs : List D), ρ[i]? = some (some (.ow true xs)) → σ[i]? = some (some (.ref a)) → (i, a) ∈ B.S
  pins : ∀ p ∈ B.S, σ[p.1]? = some (some (.ref p.2)) ∧ ∃ xs, ρ[p.1]? = some (some (.ow true xs))
section
variable {K : Fg} {B : Bs} {H H1 Hf Hf1 : Hp} {σ σ1 : St} {ρ ρ1 : Ev}
theorem SEnv.mv (s : SEnv K B H Hf σ ρ) (e1 : DEnv K H1 Hf1 σ ρ1) (m : Mv σ ρ ρ1 H H1 Hf Hf1) : SEnv K B H1 Hf1 σ ρ1 where
  env := e1
  keep := fun b o h hn => m.keep b o (s.keep b o h hn) fun ⟨i, p, xs, h1, h2⟩ => by
    cases p with
    | false =>
      have z := s.own i b xs h1 h2
      rw [h] at z
      cases z
    | true => exact hn _ (s.pin i b xs h1 h2) rfl
  grow := fun b o h => m.grow b o (s.grow b o h)
  live := fun b h => s.live b (m.live b h)
  new := fun b o h => by
    rcases m.new b o h with h1 | h1 | ⟨i, p, xs, h1, h2⟩
    · exact s.new b o h1
    · exact .inr (s.live b h1)
    · cases p with
      | false => exact .inr (s.own i b xs h1 h2)
      | true =>
        obtain ⟨ys, h3⟩ := m.pin i xs h1
        obtain ⟨a, zs, z1, _, z3, _⟩ := e1.sl i _ h3
        rw [h2] at z1
        cases z1
        rw [z3] at h
        cases h
  own := fun i a xs h1 h2 => by
    obtain ⟨ys, h3⟩ := m.own i false xs h1
    exact s.own i a ys h3 h2
  pin := fun i a xs h1 h2 => by
    obtain ⟨ys, h3⟩ := m.own i true xs h1
    exact s.pin i a ys h3 h2
  pins := fun p hp => by
    obtain ⟨h1, xs, h2⟩ := s.pins p hp
    exact ⟨h1, m.pin p.1 xs h2⟩
theorem SEnv.setTo (s : SEnv K B H Hf σ ρ) (e1 : DEnv K H1 Hf1 σ1 ρ1) (x : Ext H H1 Hf Hf1) {is : List Nat} (t : SetTo is σ σ1 ρ ρ1) : SEnv K B H1 Hf1 σ1 ρ1 where
  env := e1
  keep := fun b o h hn => x.same b o (s.keep b o h hn)
  grow := fun b o h => x.grow b o (s.grow b o h)
  live := fun b h => s.live b (x.live b h)
  new := fun b o h => by
    rcases x.new b o h with h1 | h1
    · exact s.new b o h1
    · exact .inr (s.live b h1)
  own := fun i a xs h1 h2 => by
    rcases t.each i with ⟨t1, t2⟩ | ⟨⟨d, t1⟩, _⟩
    · rw [t1] at h2
      rw [t2] at h1
      exact s.own i a xs h1 h2
    · rw [t1] at h1
      cases h1
  pin := fun i a xs h1 h2 => by
    rcases t.each i with ⟨t1, t2⟩ | ⟨⟨d, t1⟩, _⟩
    · rw [t1] at h2
      rw [t2] at h1
      exact s.pin i a xs h1 h2
    · rw [t1] at h1
      cases h1
  pins := fun p hp => by
    obtain ⟨h1, xs, h2⟩ := s.pins p hp
    rcases t.each p.1 with ⟨t1, t2⟩ | ⟨_, t2, _⟩
    · rw [t1, t2]
      exact ⟨h1, xs, h2⟩
    · unfold pinB at t2
      rw [h2] at t2
      cases t2
theorem ResOk.base {v : V} {r : Res} {H0 H2 Hf2 : Hp} (s : SEnv K B H Hf σ ρ) (h : ResOk K H H2 Hf2 v r) : ResOk K B.H0 H2 Hf2 v r := h.back s.live
end
structure Links (K : Fg) (B : Bs) (PD : DEnds) (D : Ends) : Prop where
  nx : ∀ σ H Hf ρ, SEnv K B H Hf σ ρ → PD.nx ρ → D.nx σ H
  rt : ∀ v σ H Hf ρ r, SEnv K B H Hf σ ρ → ResOk K B.H0 H Hf v r → PD.rt r ρ → D.rt v H
  bk : ∀ σ H Hf ρ, SEnv K B H Hf σ ρ → PD.bk ρ → D.bk σ H
  ct : ∀ σ H Hf ρ, SEnv K B H Hf σ ρ → PD.ct ρ → D.ct σ H
def canS (K : Fg) (τ : TDS) : TS := fun D σ H => ∃ (B : Bs) (Hf : Hp) (ρ : Ev) (PD : DEnds), SEnv K B H Hf σ ρ ∧ τ PD ρ ∧ Links K B PD D
structure DS (X : Cx) (st : Stmt) (τ : TDS) : Prop where
  ps : PS X st (canS X.K τ)
structure DSs (X : Cx) (sts : List Stmt) (τ : TDS) : Prop where
  pss : PSs X sts (canS X.K τ)
section
variable {X : Cx} {pos pos' : Pos} {st : Stmt} {rest sts sts2 : List Stmt} {e c tg : Expr} {τ τ1 : TDS} {τe : TD} {τc : TDT} {γ : TDG} {x : Str}
theorem DS.of {t : TS} (h : PS X st t) (k : ∀ (D : Ends) (σ : St) (H Hf : Hp) (B : Bs) (ρ : Ev) (PD : DEnds), SEnv X.K B H Hf σ ρ → τ PD ρ → Links X.K B PD D → t D σ H) : DS X st τ :=
  ⟨⟨fun pins s σ H D I ⟨B, Hf, ρ, PD, e, q, l⟩ => h.run pins s σ H D I (k D σ H Hf B ρ PD e q l)⟩⟩
def tNextD : TDS := fun PD ρ => PD.nx ρ
def tSeqD (t u : TDS) : TDS := fun PD ρ => t { PD with nx := u PD } ρ
theorem dss_nil : DSs X [] tNextD := ⟨⟨fun pins s σ H D I ⟨B, Hf, ρ, PD, e, q, l⟩ => pss_nil.run pins s σ H D I (l.nx σ H Hf ρ e q)⟩⟩
theorem dss_one (h : DS X st τ) : DSs X [st] τ := ⟨pss_one h.ps⟩
theorem dss_cons (h : DS X st τ) (h2 : DSs X rest τ1) : DSs X (st :: rest) (tSeqD τ τ1) :=
  ⟨⟨fun pins s σ H D I ⟨B, Hf, ρ, PD, e, q, l⟩ => (pss_cons h.ps h2.pss).run pins s σ H D I ⟨B, Hf, ρ, { PD with nx := τ1 PD }, e, q, ⟨fun σ1 H1 Hf1 ρ1 e1 q1 => ⟨B, Hf1, ρ1, PD, e1, q1, l⟩, l.rt, l.bk, l.ct⟩⟩⟩⟩
/-- an expression within a statement -/
theorem DE.inS {t : TE} (h : PE X e t) (hc : ∀ σ H Q, canE X.K τe σ H Q → t σ H Q) {B : Bs} {σ : St} {H Hf : Hp} {ρ : Ev} {P : Res → Ev → Prop} {Q : VK} (s : SEnv X.K B H Hf σ ρ) (q : τe ρ P)
    (k : ∀ v H' Hf' r ρ', SEnv X.K B H' Hf' σ ρ' → ResOk X.K B.H0 H' Hf' v r → P r ρ' → Q v H') : t σ H Q :=
  hc σ H Q ⟨Hf, ρ, P, s.env, q, fun v H' Hf' r ρ' e1 m1 r1 p1 => k v H' Hf' r ρ' (s.mv e1 m1) (r1.back s.live) p1⟩
/-- its result frozen -/
theorem inS_fz (B : Bs) {σ : St} {H Hf : Hp} {ρ : Ev} {P : D → Ev → Prop} {Q : VK} (s : SEnv X.K B H Hf σ ρ) (q : τe ρ (fun r ρ' => P r.dat ρ'))
    (k : ∀ v H' Hf' d ρ', SEnv X.K B H' Hf' σ ρ' → Rep X.K Hf' v d → P d ρ' → Q v H') : canE X.K τe σ H Q :=
  ⟨Hf, ρ, _, s.env, q, fun v H' Hf' r ρ' e1 m1 r1 p1 => by
    obtain ⟨Hf2, e2, m2, r2⟩ := r1.freeze s.env e1 m1
    exact k v H' Hf2 r.dat ρ' (s.mv e2 m2) r2 p1⟩
def tSetD (i : Nat) (τe : TD) : TDS := fun PD ρ => τe ρ fun r ρ1 => pinB ρ1 i = false ∧ PD.nx (ρ1.set i (some (.fz r.dat)))
theorem ds_set (i : Nat) (hN : X.N.Nodup) (hi : X.N[i]? = some x) (hx : Loc X.env.scope x) (he : DE X e τe) (hs : swapsWith e (some (.Name x pos')) pos.line X.env = pure false := by rfl) (hf : X.fn x = true ∨ X.env.scope.names.lookup x = some .local := by first | exact .inl rfl | exact .inr rfl | assumption) :
    DS X (.Assign [.Name x pos'] e pos) (tSetD i τe) :=
  DS.of (ps_set hN hi hx he.pe hs hf) fun D σ H Hf B ρ PD s q l => inS_fz B s (P := fun d ρ1 => pinB ρ1 i = false ∧ PD.nx (ρ1.set i (some (.fz d)))) q fun v H1 Hf1 d ρ1 s1 r1 ⟨p1, p2⟩ =>
    l.nx _ H1 Hf1 _ (s1.setTo (set_slot s1.env r1) (Ext.refl s1.env.sub) (setTo_slot s1.env.len p1)) p2
/-- x = e, a new list of one's own -/
def tSetO (i : Nat) (τe : TD) : TDS := fun PD ρ => τe ρ fun r ρ1 => ∃ xs, r = .fr xs ∧ pinB ρ1 i = false ∧ PD.nx (ρ1.set i (some (.ow false xs)))
theorem SEnv.setOwn {K : Fg} {B : Bs} {H Hf : Hp} {σ : St} {ρ : Ev} {i : Nat} {a : Addr} {ys : List V} {xs : List D} (s : SEnv K B H Hf σ ρ) (hp : pinB ρ i = false) (h0 : B.H0 a = none) (h1 : H a = some (.lst ys)) (h2 : Hf a = none) (h3 : RepL K Hf ys xs) (hn : ¬ Own σ ρ a) :
    SEnv K B H Hf (σ.set i (some (.ref a))) (ρ.set i (some (.ow false xs))) where
  env := {
    sub := s.env.sub
    sl := fun j t h => by
      rw [set_get] at h
      by_cases hj : i = j
      · subst hj
        rw [if_pos rfl] at h
        split at h
        · rename_i hlt
          cases h
          exact ⟨a, ys, by rw [List.getElem?_set, if_pos rfl, if_pos (by rw [s.env.len]; exact hlt)], h1, h2, h3⟩
        · cases h
      · rw [if_neg hj] at h
        have z := s.env.sl j t h
        have es : (σ.set i (some (.ref a)))[j]? = σ[j]? := by rw [List.getElem?_set, if_neg hj]
        cases t with
        | fz d => rw [es]; exact z
        | ow p us => rw [es]; exact z
    sep := fun j k b p us q zs q1 q2 q3 q4 => by
      have key : ∀ {m m' : Nat} {pp : Bool} {vs : List D} {pp' : Bool} {vs' : List D}, i = m → ¬ i = m' → (σ.set i (some (.ref a)))[m]? = some (some (.ref b)) → (ρ.set i (some (.ow false xs)))[m']? = some (some (.ow pp' vs')) → (σ.set i (some (.ref a)))[m']? = some (some (.ref b)) → False := by
        intro m m' pp vs pp' vs' hm hm' w1 w2 w3
        subst hm
        rw [set_get, if_neg hm'] at w2
        rw [List.getElem?_set, if_neg hm'] at w3
        rw [List.getElem?_set, if_pos rfl] at w1
        split at w1
        · cases w1
          exact hn ⟨m', _, _, w2, w3⟩
        · cases w1
      by_cases hj : i = j
      · by_cases hk : i = k
        · exact hj.symm.trans hk
        · exact (key (pp := p) (vs := us) hj hk q3 q2 q4).elim
      · by_cases hk : i = k
        · exact (key (pp := p) (vs := us) hk hj q4 q1 q3).elim
        · rw [set_get, if_neg hj] at q1
          rw [set_get, if_neg hk] at q2
          rw [List.getElem?_set, if_neg hj] at q3
          rw [List.getElem?_set, if_neg hk] at q4
          exact s.env.sep j k b p us q zs q1 q2 q3 q4
    len := by rw [List.length_set, List.length_set]; exact s.env.len }
  keep := s.keep
  grow := s.grow
  live := s.live
  new := s.new
  own := fun j b us q1 q2 => by
    by_cases hj : i = j
    · subst hj
      rw [List.getElem?_set, if_pos rfl] at q2
      split at q2
      · cases q2
        exact h0
      · cases q2
    · rw [set_get, if_neg hj] at q1
      rw [List.getElem?_set, if_neg hj] at q2
      exact s.own j b us q1 q2
  pin := fun j b us q1 q2 => by
    by_cases hj : i = j
    · subst hj
      rw [set_get, if_pos rfl] at q1
      split at q1 <;> cases q1
    · rw [set_get, if_neg hj] at q1
      rw [List.getElem?_set, if_neg hj] at q2
      exact s.pin j b us q1 q2
  pins := fun p hp' => by
    obtain ⟨w1, us, w2⟩ := s.pins p hp'
    have hj : ¬ i = p.1 := fun z => by
      unfold pinB at hp
      rw [z, w2] at hp
      cases hp
    exact ⟨by rw [List.getElem?_set, if_neg hj]; exact w1, us, by rw [set_get, if_neg hj]; exact w2⟩
theorem own_fresh {K : Fg} {B : Bs} {H H1 Hf Hf1 : Hp} {σ : St} {ρ ρ1 : Ev} {a : Addr} (s : SEnv K B H Hf σ ρ) (m : Mv σ ρ ρ1 H H1 Hf Hf1) (h : H a = none) : ¬ Own σ ρ1 a := fun z => not_own s.env h (m.ow z)
theorem setO_reading {t : TE} (i : Nat) {D : Ends} {σ : St} {H Hf : Hp} {B : Bs} {ρ : Ev} {PD : DEnds} (s : SEnv X.K B H Hf σ ρ) (q : tSetO i τe PD ρ) (l : Links X.K B PD D) : tAsg (canE X.K τe) (gName i) D σ H := by
  refine ⟨Hf, ρ, _, s.env, q, fun v H1 Hf1 r ρ1 e1 m1 r1 ⟨xs, hr, p1, p2⟩ => ?_⟩
  subst hr
  obtain ⟨a, ys, rfl, h1, h2, h3, h4⟩ := r1
  have s1 := s.mv e1 m1
  exact l.nx _ H1 Hf1 _ (s1.setOwn p1 (s.live a h3) h1 h2 h4 (own_fresh s m1 h3)) p2
theorem ds_setO (i : Nat) (hN : X.N.Nodup) (hi : X.N[i]? = some x) (hx : Loc X.env.scope x) (he : DE X e τe) (hs : swapsWith e (some (.Name x pos')) pos.line X.env = pure false := by rfl) (hf : X.fn x = true ∨ X.env.scope.names.lookup x = some .local := by first | exact .inl rfl | exact .inr rfl | assumption) :
    DS X (.Assign [.Name x pos'] e pos) (tSetO i τe) :=
  DS.of (ps_set hN hi hx he.pe hs hf) fun D σ H Hf B ρ PD s q l => setO_reading (t := canE X.K τe) i s q l
/-- target = e -/
def tAsgD (τe : TD) (γ : TDG) : TDS := fun PD ρ => τe ρ fun r ρ1 => γ r.dat ρ1 PD.nx
theorem ds_asg (he : DE X e τe) {is : List Nat} (hg : DG X tg is γ) (hs : swapsWithSole [tg] e pos.line X.env = pure false := by rfl) (hw : swappedStores [tg] e X.env = pure none := by rfl) (h1 : (assignEach [tg] X.env).map (·.2) = [assign tg X.env] := by rfl) : DS X (.Assign [tg] e pos) (tAsgD τe γ) :=
  DS.of (ps_asg he.pe hg.pg hs hw h1) fun D σ H Hf B ρ PD s q l => inS_fz B s (P := fun d ρ1 => γ d ρ1 PD.nx) q fun v H1 Hf1 d ρ1 s1 r1 p1 =>
    ⟨Hf1, ρ1, d, PD.nx, s1.env, r1, p1, fun σ2 H2 Hf2 ρ2 e2 x2 t2 p2 => l.nx σ2 H2 Hf2 ρ2 (s1.setTo e2 x2 t2) p2⟩
/-- if -/
def tIfD (c : TDT) (t u : TDS) : TDS := fun PD ρ => c ρ fun b ρ1 => if b = true then t PD ρ1 else u PD ρ1
theorem ds_if (hc : DT X c τc) (ha : DSs X sts τ) (hb : DSs X sts2 τ1) : DS X (.If c sts sts2 pos) (tIfD τc τ τ1) :=
  DS.of (ps_if hc.pt ha.pss hb.pss) fun D σ H Hf B ρ PD s q l => ⟨Hf, ρ, _, s.env, q, fun b H1 Hf1 ρ1 e1 m1 p1 => by
    cases b with
    | true => exact ⟨B, Hf1, ρ1, PD, s.mv e1 m1, p1, l⟩
    | false => exact ⟨B, Hf1, ρ1, PD, s.mv e1 m1, p1, l⟩⟩
/-- return e -/
def tRetD (τe : TD) : TDS := fun PD ρ => τe ρ PD.rt
theorem ds_ret (he : DE X e τe) : DS X (.Return (some e) pos) (tRetD τe) :=
  DS.of (ps_ret he.pe) fun D σ H Hf B ρ PD s q l => ⟨Hf, ρ, _, s.env, q, fun v H1 Hf1 r ρ1 e1 m1 r1 p1 => l.rt v σ H1 Hf1 ρ1 r (s.mv e1 m1) (r1.back s.live) p1⟩
/-- return x, a list of one's own -/
def tRetO (i : Nat) : TDS := fun PD ρ => ∃ xs, ρ[i]? = some (some (.ow false xs)) ∧ PD.rt (.fr xs) (ρ.set i none)
theorem DEnv.drop {K : Fg} {H Hf : Hp} {σ : St} {ρ : Ev} (i : Nat) (e : DEnv K H Hf σ ρ) : DEnv K H Hf σ (ρ.set i none) where
  sub := e.sub
  sl := fun j s h => by
    rw [set_get] at h
    by_cases hj : i = j
    · rw [if_pos hj] at h
      split at h <;> cases h
    · rw [if_neg hj] at h
      exact e.sl j s h
  sep := fun j k a p xs q ys h1 h2 h3 h4 => by
    rw [set_get] at h1 h2
    by_cases hj : i = j
    · rw [if_pos hj] at h1
      split at h1 <;> cases h1
    by_cases hk : i = k
    · rw [if_pos hk] at h2
      split at h2 <;> cases h2
    rw [if_neg hj] at h1
    rw [if_neg hk] at h2
    exact e.sep j k a p xs q ys h1 h2 h3 h4
  len := by rw [List.length_set]; exact e.len
theorem ds_retO (i : Nat) {p : Pos} (hN : X.N[i]? = some x := by rfl) (hv : Vis X.env.scope x := by first | exact Or.inl rfl | exact Or.inr (Or.inl rfl) | exact Or.inr (Or.inr rfl)) (hd : (x == ("__debug__" : Str)) = false := by decide) (hcd : (x == ("__classdict__" : Str)) = false := by decide) :
    DS X (.Return (some (.Name x p)) pos) (tRetO i) :=
  DS.of (ps_ret (pe_var hN hv hd hcd)) fun D σ H Hf B ρ PD s ⟨xs, h, q⟩ l => by
    obtain ⟨a, ys, h1, h2, h3, h4⟩ := s.env.sl i _ h
    have m : Mv σ ρ (ρ.set i none) H H Hf Hf := ⟨fun _ _ q _ => q, fun _ q => q, fun _ _ q => q, fun _ _ q => .inl q, fun j p us q => by
      rw [set_get] at q
      by_cases hj : i = j
      · rw [if_pos hj] at q
        split at q <;> cases q
      · rw [if_neg hj] at q
        exact ⟨us, q⟩, fun j us q => by
      by_cases hj : i = j
      · subst hj
        rw [h] at q
        cases q
      · exact ⟨us, by rw [set_get, if_neg hj]; exact q⟩⟩
    exact ⟨.ref a, h1, l.rt _ σ H Hf _ (.fr xs) (s.mv (s.env.drop i) m) ⟨a, ys, rfl, h2, h3, s.own i a xs h h1, h4⟩ q⟩
/-- e; its value is dropped -/
def tDropD (τe : TD) : TDS := fun PD ρ => τe ρ fun _ ρ1 => PD.nx ρ1
theorem ds_expr (he : DE X e τe) (hs : swapsWith e none pos.line X.env = pure false := by rfl) : DS X (.Expr e pos) (tDropD τe) :=
  DS.of (ps_expr he.pe hs) fun D σ H Hf B ρ PD s q l => ⟨Hf, ρ, _, s.env, q, fun v H1 Hf1 r ρ1 e1 m1 r1 p1 => l.nx σ H1 Hf1 ρ1 (s.mv e1 m1) p1⟩
/-- x[k] = e, x a list of one's own -/
def tSubO (i : Nat) (τe τk : TD) : TDS := fun PD ρ => τe ρ fun r ρ1 => (∃ p xs, ρ1[i]? = some (some (.ow p xs))) ∧ τk ρ1 fun y ρ2 => ∃ p xs k j, ρ2[i]? = some (some (.ow p xs)) ∧ y.dat = .int k ∧ ixN (List.length xs) k = some j ∧ PD.nx (ρ2.set i (some (.ow p (xs.set j r.dat))))
theorem ds_subO (i : Nat) {k : Expr} {τk : TD} {p p2 : Pos} (he : DE X e τe) (hk : DE X k τk) (hN : X.N[i]? = some x := by rfl) (hv : Vis X.env.scope x := by first | exact Or.inl rfl | exact Or.inr (Or.inl rfl) | exact Or.inr (Or.inr rfl)) (hd : (x == ("__debug__" : Str)) = false := by decide) (hcd : (x == ("__classdict__" : Str)) = false := by decide)
    (ha : ∀ v, assign (.Subscript (.Name x p) k p2) X.env v = (do
      let ov ← holding [v] (eval (.Name x p) X.env)
      let iv ← holding [v, ov] (eval k X.env)
      standAt p2
      holding [v, ov, iv] (setItem ov iv v)
      release [v, ov, iv] []) := by intro _; rfl)
    (hs : swapsWithSole [.Subscript (.Name x p) k p2] e pos.line X.env = pure false := by rfl) (hw : swappedStores [.Subscript (.Name x p) k p2] e X.env = pure none := by rfl) :
    DS X (.Assign [.Subscript (.Name x p) k p2] e pos) (tSubO i τe τk) := by
  refine DS.of (ps_asg he.pe (pg_sub (pe_var hN hv hd hcd) hk.pe set_list ha) hs hw) fun D σ H Hf B ρ PD s q l => ?_
  refine inS_fz B s (P := fun d ρ1 => (∃ p xs, ρ1[i]? = some (some (.ow p xs))) ∧ τk ρ1 fun y ρ2 => ∃ p xs k j, ρ2[i]? = some (some (.ow p xs)) ∧ y.dat = .int k ∧ ixN (List.length xs) k = some j ∧ PD.nx (ρ2.set i (some (.ow p (xs.set j d))))) q fun v H1 Hf1 d ρ1 s1 r1 ⟨⟨p0, xs0, h0⟩, q1⟩ => ?_
  obtain ⟨a, ys, h1, h2, h3, h4⟩ := s1.env.sl i _ h0
  refine ⟨.ref a, h1, ⟨Hf1, ρ1, _, s1.env, q1, fun y H2 Hf2 ry ρ2 e2 m2 r2 ⟨p3, xs, kk, j, g1, g2, g3, g4⟩ => ?_⟩⟩
  obtain ⟨Hf3, e3, m3, r3⟩ := r2.freeze s1.env e2 m2
  rw [g2] at r3
  obtain ⟨a', ys1, z1, z2, z3, z4⟩ := e3.sl i _ g1
  rw [h1] at z1
  cases z1
  obtain ⟨e4, m4⟩ := own_upd e3 g1 h1 (z4.set (r1.mono m3.grow) j)
  have s3 := s1.mv e3 m3
  refine ⟨a, ys1, kk, j, rfl, r3.int_inv, z2, by rw [z4.length]; exact g3, ?_⟩
  exact l.nx σ _ _ _ (s3.mv e4 m4) g4
/-- x, y = a, b -/
def tParD (i j : Nat) (τ : TDA) : TDS := fun PD ρ => τ ρ fun ds ρ1 => ∃ d d', ds = [d, d'] ∧ pinB ρ1 i = false ∧ pinB ρ1 j = false ∧ PD.nx ((ρ1.set i (some (.fz d))).set j (some (.fz d')))
theorem ds_par {i j : Nat} {x y : Str} {a b : Expr} {τs : TDA} {px py pt : Pos} {kt k2 : Nat} {pt2 : Pos} (hc : X.calm = true) (hN : X.N.Nodup) (hi : X.N[i]? = some x) (hj : X.N[j]? = some y) (hij : i ≠ j)
    (hx : X.env.scope.names.lookup x = some .local) (hy : X.env.scope.names.lookup y = some .local) (ha : DA X [a, b] τs)
    (hw : swappedStores [.Tuple [.Name x px, .Name y py] kt pt] (.Tuple [a, b] k2 pt2) X.env = pure (some [x, y]))
    (hs : swapsWithSole [.Tuple [.Name x px, .Name y py] kt pt] (.Tuple [a, b] k2 pt2) pos.line X.env = pure false := by rfl) :
    DS X (.Assign [.Tuple [.Name x px, .Name y py] kt pt] (.Tuple [a, b] k2 pt2) pos) (tParD i j τs) :=
  DS.of (ps_par hc hN hi hj hij hx hy ha.pa hw hs) fun D σ H Hf B ρ PD s q l => ⟨Hf, ρ, _, s.env, q, fun vs H1 Hf1 ds ρ1 e1 m1 r1 _ ⟨d, d', hd, p1, p2, p3⟩ => by
    subst hd
    cases r1 with
    | cons ra rr =>
      cases rr with
      | cons rb rr =>
        cases rr
        have s1 := s.mv e1 m1
        have s2 := s1.setTo (set_slot (i := i) s1.env ra) (Ext.refl s1.env.sub) (setTo_slot s1.env.len p1)
        have p2' : pinB (ρ1.set i (some (.fz d))) j = false := by
          unfold pinB at p2 ⊢
          rw [set_get, if_neg hij]
          exact p2
        have s3 := s2.setTo (set_slot (i := j) s2.env rb) (Ext.refl s2.env.sub) (setTo_slot s2.env.len p2')
        exact ⟨_, _, rfl, l.nx _ H1 Hf1 _ s3 p3⟩⟩
end
/-! ### defs -/
def startD (n : Nat) (ds : List D) : Ev := ds.map (fun d => some (.fz d)) ++ List.replicate (n - ds.length) none
def startD1 (n : Nat) (xs ds : List D) : Ev := some (.ow true xs) :: (ds.map (fun d => some (.fz d)) ++ List.replicate (n - (ds.length + 1)) none)
theorem start_len (N : List Str) (vs : List V) (h : vs.length ≤ N.length) : (L2.start N vs).length = N.length := by
  unfold L2.start
  rw [List.length_append, List.length_map, List.length_replicate]
  omega
theorem startD_get {n : Nat} {ds : List D} {i : Nat} {s : Sl} (h : (startD n ds)[i]? = some (some s)) : ∃ d, ds[i]? = some d ∧ s = .fz d := by
  unfold startD at h
  by_cases hi : i < ds.length
  · rw [List.getElem?_append_left (by rw [List.length_map]; exact hi), List.getElem?_map] at h
    cases e : ds[i]? with
    | none => rw [e] at h; cases h
    | some d =>
      rw [e] at h
      cases h
      exact ⟨d, rfl, rfl⟩
  · rw [List.getElem?_append_right (by rw [List.length_map]; omega)] at h
    rw [List.getElem?_replicate] at h
    split at h <;> cases h
theorem start_get {N : List Str} {vs : List V} {i : Nat} {v : V} (h : vs[i]? = some v) : (L2.start N vs)[i]? = some (some v) := by
  unfold L2.start
  have hi : i < vs.length := (List.getElem?_eq_some_iff.mp h).1
  rw [List.getElem?_append_left (by rw [List.length_map]; exact hi), List.getElem?_map, h]
  rfl
section
variable {P : Program} {w : World} {K : Fg} {mg : Str → Option Value} {base : Heap} {x qual : Str} {st : Stmt} {f : Addr} {fd : FuncData} {N ps : List Str} {k : Nat}
/-- THE RULE for a def without a list that it changes -/
theorem okD0 {g : FS0} {τ : TDS} (F : Fun K x qual st f fd) (S : FnScope N ps (defScope st)) (hps : ps.length ≤ N.length)
    (hb : ∀ (cdv : Value) (A : Around) (outer : List Env) (s : Shared) (H : Hp) (E : XK), Room k (A.deeper (PyProof.Rows.envOfC qual (defScope st) s.heap.objs.size f cdv)) → DSs (cxOf CX0 P w K mg base N qual (defScope st) f cdv A outer s H E).nox (defBody st) τ)
    (hq : ∀ ds Q, ds.length = ps.length → g ds Q → τ { nx := fun _ => Q (.fz .non), rt := fun r _ => Q r } (startD N.length ds)) : FnOk P w K mg base CX0 (k + 1) f fd ps (sp0 K ps.length g) := by
  refine F.ok S (fun vs H Q E h => ?_) (fun cdv A outer s H vs Q E hr h => ?_)
  · obtain ⟨Hf, ds, P, _, r, hl, _⟩ := h
    exact r.length.trans hl
  obtain ⟨Hf, ds, PQ, hf, r, hl, hg, kk⟩ := h
  have hvl := r.length
  refine ⟨_, (hb cdv A outer s H E hr).pss, ⟨⟨H, Hf, []⟩, Hf, startD N.length ds, _, ?_, hq ds PQ hl hg, ?_⟩⟩
  · refine ⟨⟨hf, fun i t h => ?_, fun i j a p us q zs h1 => ?_, ?_⟩, fun b o h _ => h, fun b o h => h, fun b h => h, fun b o h => .inl h, fun i a us h => ?_, fun i a us h => ?_, fun p hp => nomatch hp⟩
    · obtain ⟨d, h1, rfl⟩ := startD_get h
      obtain ⟨v, h2, h3⟩ := r.get h1
      exact ⟨v, start_get h2, h3⟩
    · obtain ⟨d, _, h2⟩ := startD_get h1
      cases h2
    · rw [start_len N vs (by omega)]
      unfold startD
      rw [List.length_append, List.length_map, List.length_replicate]
      omega
    · obtain ⟨d, _, h2⟩ := startD_get h
      cases h2
    · obtain ⟨d, _, h2⟩ := startD_get h
      cases h2
  · refine ⟨fun σ H1 Hf1 ρ e q => ?_, fun v σ H1 Hf1 ρ r1 e ok q => ?_, fun _ _ _ _ _ z => z.elim, fun _ _ _ _ _ z => z.elim⟩
    · exact kk .non H1 Hf1 (.fz .non) ⟨fun b o h => e.keep b o h (fun _ z => nomatch z), e.env.sub, e.grow, e.new⟩ Rep.non q
    · exact kk v H1 Hf1 r1 ⟨fun b o h => e.keep b o h (fun _ z => nomatch z), e.env.sub, e.grow, e.new⟩ ok q
/-- THE RULE for a def that changes its first argument, a list -/
theorem okD1 {g : FS1} {τ : TDS} (F : Fun K x qual st f fd) (S : FnScope N ps (defScope st)) (hps : ps.length ≤ N.length)
    (hb : ∀ (cdv : Value) (A : Around) (outer : List Env) (s : Shared) (H : Hp) (E : XK), Room k (A.deeper (PyProof.Rows.envOfC qual (defScope st) s.heap.objs.size f cdv)) → DSs (cxOf CX0 P w K mg base N qual (defScope st) f cdv A outer s H E).nox (defBody st) τ)
    (hq : ∀ xs ds Q, ds.length + 1 = ps.length → g xs ds Q → τ { nx := fun ρ => ∃ xs', ρ[0]? = some (some (.ow true xs')) ∧ Q (.fz .non) xs', rt := fun r ρ => ∃ xs', ρ[0]? = some (some (.ow true xs')) ∧ Q r xs' } (startD1 N.length xs ds)) : FnOk P w K mg base CX0 (k + 1) f fd ps (sp1 K ps.length g) := by
  refine F.ok S (fun vs H Q E h => ?_) (fun cdv A outer s H vs Q E hr h => ?_)
  · obtain ⟨Hf, a, us, ys, xs, ds, P, rfl, _, _, _, _, r, hl, _⟩ := h
    rw [List.length_cons, r.length]
    exact hl
  obtain ⟨Hf, a, us, ys, xs, ds, PQ, rfl, hf, ha, hfa, rx, r, hl, hg, kk⟩ := h
  have hvl := r.length
  have e0 : startD1 N.length xs ds = some (.ow true xs) :: startD (N.length - 1) ds := by
    unfold startD1 startD
    rw [show N.length - (ds.length + 1) = N.length - 1 - ds.length by omega]
  have es : L2.start N (.ref a :: us) = some (.ref a) :: (us.map some ++ List.replicate (N.length - (us.length + 1)) none) := rfl
  have gs : ∀ (i : Nat) (s : Sl), (startD1 N.length xs ds)[i + 1]? = some (some s) → ∃ d v, s = .fz d ∧ (L2.start N (.ref a :: us))[i + 1]? = some (some v) ∧ Rep K Hf v d := by
    intro i s h
    rw [e0, List.getElem?_cons_succ] at h
    obtain ⟨d, h1, rfl⟩ := startD_get h
    obtain ⟨v, h2, h3⟩ := r.get h1
    exact ⟨d, v, rfl, start_get (by rw [List.getElem?_cons_succ]; exact h2), h3⟩
  refine ⟨_, (hb cdv A outer s H E hr).pss, ⟨⟨H, Hf, [(0, a)]⟩, Hf, startD1 N.length xs ds, _, ?_, hq xs ds PQ hl hg, ?_⟩⟩
  · refine ⟨⟨hf, fun i t h => ?_, fun i j b p us' q zs h1 h2 h3 h4 => ?_, ?_⟩, fun b o h _ => h, fun b o h => h, fun b h => h, fun b o h => .inl h, fun i b us' h h2 => ?_, fun i b us' h h2 => ?_, fun p hp => ?_⟩
    · cases i with
      | zero =>
        cases h
        exact ⟨a, ys, rfl, ha, hfa, rx⟩
      | succ i =>
        obtain ⟨d, v, rfl, h1, h2⟩ := gs i t h
        exact ⟨v, h1, h2⟩
    · cases i with
      | zero =>
        cases j with
        | zero => rfl
        | succ j =>
          obtain ⟨d, v, z, _⟩ := gs j _ h2
          cases z
      | succ i =>
        obtain ⟨d, v, z, _⟩ := gs i _ h1
        cases z
    · rw [start_len N _ (by rw [List.length_cons]; omega), e0, List.length_cons]
      unfold startD
      rw [List.length_append, List.length_map, List.length_replicate]
      omega
    · cases i with
      | zero => cases h
      | succ i =>
        obtain ⟨d, v, z, _⟩ := gs i _ h
        cases z
    · cases i with
      | zero =>
        cases h2
        exact List.mem_cons_self ..
      | succ i =>
        obtain ⟨d, v, z, _⟩ := gs i _ h
        cases z
    · rw [List.mem_singleton.mp hp]
      exact ⟨rfl, xs, rfl⟩
  · have fin : ∀ v σ H1 Hf1 ρ r1, SEnv K ⟨H, Hf, [(0, a)]⟩ H1 Hf1 σ ρ → ResOk K H H1 Hf1 v r1 → (∃ xs', ρ[0]? = some (some (.ow true xs')) ∧ PQ r1 xs') → Q v H1 := by
      intro v σ H1 Hf1 ρ r1 e ok ⟨xs', h1, q⟩
      obtain ⟨w1, _⟩ := e.pins (0, a) (List.mem_cons_self ..)
      obtain ⟨b, ys', z1, z2, z3, z4⟩ := e.env.sl 0 _ h1
      have w1' : σ[0]? = some (some (.ref a)) := w1
      rw [w1'] at z1
      cases z1
      exact kk v H1 Hf1 r1 ys' xs' ⟨fun b o h hb => e.keep b o h (fun p hp => by rw [List.mem_singleton.mp hp]; exact fun z => hb z.symm), e.live, e.env.sub, e.grow, e.new⟩ z2 z3 z4 ok q
    exact ⟨fun σ H1 Hf1 ρ e q => fin .non σ H1 Hf1 ρ (.fz .non) e Rep.non q, fun v σ H1 Hf1 ρ r1 e ok q => fin v σ H1 Hf1 ρ r1 e ok q, fun _ _ _ _ _ z => z.elim, fun _ _ _ _ _ z => z.elim⟩
end
end DL
/-! The data layer, 8: what is walked; for; comprehensions; calls that change their first argument. -/
namespace L2
open PySem PySem.Spec PyProof.Rows
/-- a list, a tuple or a text that is walked -/
def iSeq (K : PySem.W.Frag) (te : TE) : TI := fun σ H R => te σ H fun x H1 => (∃ a, x = .ref a ∧ (∃ xs, SqL K H1 a xs) ∧ R (Itl K a) H1) ∨ (∃ a, x = .ref a ∧ (∃ xs, SqT K H1 a xs) ∧ R (Itt K a) H1) ∨ (∃ z, x = .str z ∧ R (Its z) H1)
theorem pi_seq {X : Cx} {tg l : Expr} {tl : TE} (hl : PE X l tl) : PI X tg l (iSeq X.K tl) := by
  refine ⟨fun pins s σ H R I h => ?_⟩
  refine thn (hl.run pins s σ H _ I h) fun v s1 ⟨x, H1, I1, r1, q1⟩ => ?_
  rcases q1 with ⟨a, e, ⟨xs, hq⟩, q⟩ | ⟨a, e, ⟨xs, hq⟩, q⟩ | ⟨z, e, q⟩
  · subst e
    cases r1
    obtain ⟨its, rv, p, hz⟩ := I1.list hq
    refine wpAny_pyIter_list p.isList ?_
    refine ⟨s1.heap.objs.size, [s1.heap.objs.size], _, _, H1, rfl, I1.kept (t' := s1.toks) fun b o e => Heap.get?_push_of_some _ e, turn_list a _, ⟨_, Heap.get?_push_size _ rfl, rfl, rfl⟩, fun b hb => ?_, q⟩
    have e : b = s1.heap.objs.size := by simpa using hb
    subst e
    exact I1.fpOk (Nat.le_refl _) (I1.hok.fresh (Nat.le_refl _))
  · subst e
    cases r1
    obtain ⟨its, rv, p, hz⟩ := I1.tuple hq
    refine wpAny_pyIter_tuple (show s1.heap.IsTuple a its.toArray from p) ?_
    refine ⟨s1.heap.objs.size, [s1.heap.objs.size], _, _, H1, rfl, I1.kept (t' := s1.toks) fun b o e => Heap.get?_push_of_some _ e, turn_tuple a _, ⟨_, Heap.get?_push_size _ rfl, rfl, rfl⟩, fun b hb => ?_, q⟩
    have e : b = s1.heap.objs.size := by simpa using hb
    subst e
    exact I1.fpOk (Nat.le_refl _) (I1.hok.fresh (Nat.le_refl _))
  · subst e
    obtain ⟨t, rfl⟩ := r1
    cases ha : z.cps.all (· < 128)
    · exact wpAny_pyIter_wide ha (pi_one (tk := s1.toks) I1 _ (turn_str _ z t "str_iterator" (.inr rfl)) ⟨_, Heap.get?_push_size _ rfl, rfl, rfl⟩ q)
    · exact wpAny_pyIter_ascii ha (pi_one (tk := s1.toks) I1 _ (turn_str _ z t "str_ascii_iterator" (.inl rfl)) ⟨_, Heap.get?_push_size _ rfl, rfl, rfl⟩ q)
end L2
namespace DL
open PySem L2
/-! ### what is walked -/
structure DIt (K : Fg) (J : It) (Hf : Hp) (ds : List D) : Prop where
  item : ∀ (i : Nat) (d : D) (H' Hf' : Hp), (∀ b o, Hf' b = some o → H' b = some o) → (∀ b o, Hf b = some o → Hf' b = some o) → ds[i]? = some d → J.go i H' ∧ ∀ x H'', J.yld i H' x H'' → ∃ Hf'', Ext H' H'' Hf' Hf'' ∧ Rep K Hf'' x d
  stop : ∀ (i : Nat) (H' Hf' : Hp), (∀ b o, Hf' b = some o → H' b = some o) → (∀ b o, Hf b = some o → Hf' b = some o) → ds.length ≤ i → J.stop i H'
abbrev TDI := Ev → (List D → Ev → Prop) → Prop
def canI (K : Fg) (τ : TDI) : TI := fun σ H R => ∃ (Hf : Hp) (ρ : Ev) (P : List D → Ev → Prop), DEnv K H Hf σ ρ ∧ τ ρ P ∧ ∀ J H' Hf' ds ρ', DEnv K H' Hf' σ ρ' → Mv σ ρ ρ' H H' Hf Hf' → DIt K J Hf' ds → P ds ρ' → R J H'
structure DI (X : Cx) (tg iter : Expr) (τ : TDI) : Prop where
  pi : PI X tg iter (canI X.K τ)
/-- the items of what is walked -/
def itemsD : D → Option (List D)
  | .lst ds => some ds
  | .tup ds => some ds
  | .str z => some (signsD z)
  | .scr ns => some (ns.map .int)
  | _ => none
section
variable {X : Cx} {tg e : Expr} {τe : TD} {τs : TDA} {p pos : Pos}
theorem DI.of {iter : Expr} {τ : TDI} {t : TI} (h : PI X tg iter t) (k : ∀ (σ : St) (H Hf : Hp) (ρ : Ev) (P : List D → Ev → Prop) (R : It → Hp → Prop), DEnv X.K H Hf σ ρ → τ ρ P → (∀ J H' Hf' ds ρ', DEnv X.K H' Hf' σ ρ' → Mv σ ρ ρ' H H' Hf Hf' → DIt X.K J Hf' ds → P ds ρ' → R J H') → t σ H R) : DI X tg iter τ :=
  ⟨⟨fun pins s σ H R I ⟨Hf, ρ, P, e, q, kk⟩ => h.run pins s σ H R I (k σ H Hf ρ P R e q kk)⟩⟩
def tSeqI (τe : TD) : TDI := fun ρ P => τe ρ fun r ρ1 => ∃ ds, itemsD r.dat = some ds ∧ P ds ρ1
theorem itl_it {K : Fg} {Hf : Hp} {a : Addr} {vs : List V} {ds : List D} (hs : SqL K Hf a vs) (r : RepL K Hf vs ds) : DIt K (Itl K a) Hf ds where
  item := fun i d H' Hf' sub grow hd => by
    obtain ⟨v, h1, h2⟩ := r.get hd
    have q : SqL K H' a vs := sqL_same (fun b o h => sub b o (grow b o h)) hs
    refine ⟨⟨vs, v, q, h1⟩, fun x H'' y => ?_⟩
    obtain ⟨rfl, y⟩ := y
    have e := y vs q
    rw [h1] at e
    cases e
    exact ⟨Hf', Ext.refl sub, h2.mono grow⟩
  stop := fun i H' Hf' sub grow hl => ⟨vs, sqL_same (fun b o h => sub b o (grow b o h)) hs, by rw [r.length]; exact hl⟩
theorem itt_it {K : Fg} {Hf : Hp} {a : Addr} {vs : List V} {ds : List D} (hs : SqT K Hf a vs) (r : RepL K Hf vs ds) : DIt K (Itt K a) Hf ds where
  item := fun i d H' Hf' sub grow hd => by
    obtain ⟨v, h1, h2⟩ := r.get hd
    have q : SqT K H' a vs := sqT_same (fun b o h => sub b o (grow b o h)) hs
    refine ⟨⟨vs, v, q, h1⟩, fun x H'' y => ?_⟩
    obtain ⟨rfl, y⟩ := y
    have e := y vs q
    rw [h1] at e
    cases e
    exact ⟨Hf', Ext.refl sub, h2.mono grow⟩
  stop := fun i H' Hf' sub grow hl => ⟨vs, sqT_same (fun b o h => sub b o (grow b o h)) hs, by rw [r.length]; exact hl⟩
theorem its_it {K : Fg} {Hf : Hp} {z : Str} : DIt K (Its z) Hf (signsD z) where
  item := fun i d H' Hf' sub grow hd => by
    unfold signsD at hd
    rw [List.getElem?_map] at hd
    cases e : z.cps.toList[i]? with
    | none => rw [e] at hd; cases hd
    | some c =>
      rw [e] at hd
      cases hd
      have hlt : i < z.cps.toList.length := (List.getElem?_eq_some_iff.mp e).1
      rw [Array.length_toList] at hlt
      refine ⟨hlt, fun x H'' y => ?_⟩
      obtain ⟨rfl, c', h1, rfl⟩ := y
      rw [Array.getElem?_toList, h1] at e
      cases e
      exact ⟨Hf', Ext.refl sub, .str _⟩
  stop := fun i H' Hf' sub grow hl => by
    unfold signsD at hl
    rw [List.length_map, Array.length_toList] at hl
    exact hl
theorem repL_ints {K : Fg} {H : Hp} : ∀ ns : List Int, RepL K H (ns.map V.int) (ns.map D.int)
  | [] => .nil
  | n :: ns => .cons (.int n) (repL_ints ns)
/-- over a list, a tuple, a text -/
theorem di_seq (he : DE X e τe) : DI X tg e (tSeqI τe) := by
  obtain ⟨t, pe, se⟩ := he.fz
  refine DI.of (pi_seq pe) fun σ H Hf ρ P R e q k => se σ H Hf ρ (fun d ρ1 => ∃ ds, itemsD d = some ds ∧ P ds ρ1) _ e q fun v H1 Hf1 d ρ1 e1 m1 r1 zz => ?_
  obtain ⟨ds, hd, p1⟩ := zz
  cases r1 <;> first | (simp [itemsD] at hd; done) | skip
  · rename_i z
    simp only [itemsD, Option.some.injEq] at hd
    subst hd
    exact .inr (.inr ⟨z, rfl, k _ H1 Hf1 _ ρ1 e1 m1 its_it p1⟩)
  · rename_i a ns hp
    simp only [itemsD, Option.some.injEq] at hd
    subst hd
    exact .inl ⟨a, rfl, ⟨_, sqL_same e1.sub hp⟩, k _ H1 Hf1 _ ρ1 e1 m1 (itl_it hp (repL_ints ns)) p1⟩
  · rename_i a vs es hp rp
    simp only [itemsD, Option.some.injEq] at hd
    subst hd
    exact .inr (.inl ⟨a, rfl, ⟨_, sqT_same e1.sub hp⟩, k _ H1 Hf1 _ ρ1 e1 m1 (itt_it hp rp) p1⟩)
  · rename_i a vs es hp rp
    simp only [itemsD, Option.some.injEq] at hd
    subst hd
    exact .inl ⟨a, rfl, ⟨_, .inl (.inl (e1.sub _ _ hp))⟩, k _ H1 Hf1 _ ρ1 e1 m1 (itl_it (.inl (.inl hp)) rp) p1⟩
/-- range -/
def rangeD (lo : Int) (n : Nat) : List D := (List.range n).map fun (i : Nat) => D.int (lo + i)
theorem itr_it {K : Fg} {Hf : Hp} {lo : Int} {n : Nat} : DIt K (Itr lo n) Hf (rangeD lo n) where
  item := fun i d H' Hf' sub grow hd => by
    unfold rangeD at hd
    rw [List.getElem?_map] at hd
    by_cases hi : i < n
    · rw [List.getElem?_range hi] at hd
      cases hd
      refine ⟨hi, fun x H'' y => ?_⟩
      obtain ⟨rfl, rfl⟩ := y
      exact ⟨Hf', Ext.refl sub, .int _⟩
    · rw [List.getElem?_eq_none (by rw [List.length_range]; omega)] at hd
      cases hd
  stop := fun i H' Hf' sub grow hl => by
    unfold rangeD at hl
    rw [List.length_map, List.length_range] at hl
    exact hl
def tRng1 (τ : TDA) : TDI := fun ρ P => τ ρ fun ds ρ1 => ∃ j : Int, ds = [.int j] ∧ (-(2 ^ 62) ≤ j ∧ j < 2 ^ 62) ∧ P (rangeD 0 j.toNat) ρ1
def tRng2 (τ : TDA) : TDI := fun ρ P => τ ρ fun ds ρ1 => ∃ i j : Int, ds = [.int i, .int j] ∧ (-(2 ^ 62) ≤ i ∧ i < 2 ^ 62 ∧ -(2 ^ 62) ≤ j ∧ j < 2 ^ 62) ∧ P (rangeD i (j - i).toNat) ρ1
theorem di_range1 {a : Expr} (hg : Gl X "range") (hm : X.mg "range" = none) (ha : DA X [a] τs) (hs : starEach [a] X.env = [(false, eval a X.env)] := by rfl) : DI X tg (.Call (.Name "range" p) [a] [] pos) (tRng1 τs) :=
  DI.of (pi_range1 hg hm ha.pa hs) fun σ H Hf ρ P R e q k => ⟨Hf, ρ, _, e, q, fun vs H1 Hf1 ds ρ1 e1 m1 r1 _ ⟨j, hd, hj, p1⟩ => by
    subst hd
    cases r1 with
    | cons ra rr =>
      cases rr
      cases ra
      exact ⟨j, rfl, hj.1, hj.2, k _ H1 Hf1 _ ρ1 e1 m1 itr_it p1⟩⟩
theorem di_range2 {a b : Expr} (hg : Gl X "range") (hm : X.mg "range" = none) (ha : DA X [a, b] τs) (hs : starEach [a, b] X.env = [(false, eval a X.env), (false, eval b X.env)] := by rfl) (hs2 : starEach [b] X.env = [(false, eval b X.env)] := by rfl) : DI X tg (.Call (.Name "range" p) [a, b] [] pos) (tRng2 τs) :=
  DI.of (pi_range2 hg hm ha.pa hs hs2) fun σ H Hf ρ P R e q k => ⟨Hf, ρ, _, e, q, fun vs H1 Hf1 ds ρ1 e1 m1 r1 _ ⟨i, j, hd, hj, p1⟩ => by
    subst hd
    cases r1 with
    | cons ra rr =>
      cases rr with
      | cons rb rr =>
        cases rr
        cases ra
        cases rb
        exact ⟨i, j, rfl, hj, k _ H1 Hf1 _ ρ1 e1 m1 itr_it p1⟩⟩
end
/-! ### for -/
def loopD (γ : TDG) (τb : TDS) (PD : DEnds) : List D → Ev → Prop
  | [], ρ => PD.nx ρ
  | d :: ds, ρ => γ d ρ fun ρ1 => τb { PD with nx := loopD γ τb PD ds, ct := loopD γ τb PD ds, bk := PD.nx } ρ1
def tForD (τi : TDI) (γ : TDG) (τb : TDS) : TDS := fun PD ρ => τi ρ fun ds ρ1 => loopD γ τb PD ds ρ1
theorem SEnv.re {K : Fg} {B : Bs} {H Hf : Hp} {σ : St} {ρ : Ev} (s : SEnv K B H Hf σ ρ) : SEnv K { B with Hf0 := Hf } H Hf σ ρ := ⟨s.env, s.keep, fun _ _ h => h, s.live, fun _ _ h => .inl h, s.own, s.pin, s.pins⟩
theorem SEnv.un {K : Fg} {B : Bs} {H H1 Hf Hf1 : Hp} {σ σ1 : St} {ρ ρ1 : Ev} (s : SEnv K B H Hf σ ρ) (s1 : SEnv K { B with Hf0 := Hf } H1 Hf1 σ1 ρ1) : SEnv K B H1 Hf1 σ1 ρ1 := ⟨s1.env, s1.keep, fun b o h => s1.grow b o (s.grow b o h), s1.live, fun b o h => by
  rcases s1.new b o h with h | h
  · exact s.new b o h
  · exact .inr h, s1.own, s1.pin, s1.pins⟩
theorem ds_for {X : Cx} {tg iter : Expr} {body : List Stmt} {is : List Nat} {τi : TDI} {γ : TDG} {τb : TDS} {pos : Pos} (hp : PassesOwn (model X.prog X.w) X.A X.env X.xe) (hc : X.calm = true) (hi : DI X tg iter τi) (hg : DG X tg is γ) (hb : DSs X body τb)
    (hs : ∀ x, foldedSetIterable iter X.env x = pure x := by intro _; rfl) : DS X (.For tg iter body [] pos) (tForD τi γ τb) := by
  refine DS.of (ps_for hp hc hi.pi hg.pg hb.pss hs) fun D σ H Hf B ρ PD s q l => ⟨Hf, ρ, _, s.env, q, fun J H1 Hf1 ds ρ1 e1 m1 it p1 => ?_⟩
  have s1 := s.mv e1 m1
  refine ⟨fun i m σ' H' => ∃ Hf' ρ', SEnv X.K { B with Hf0 := Hf1 } H' Hf' σ' ρ' ∧ loopD γ τb PD (ds.drop i) ρ' ∧ m = ds.length - i ∧ i ≤ ds.length, ⟨ds.length, Hf1, ρ1, s1.re, by rw [List.drop_zero]; exact p1, by omega, Nat.zero_le _⟩, ?_⟩
  rintro i m σ2 H2 ⟨Hf2, ρ2, s2, q2, hm, hil⟩
  by_cases hlt : i < ds.length
  · have hd : ds[i]? = some ds[i] := List.getElem?_eq_getElem hlt
    obtain ⟨go, yl⟩ := it.item i ds[i] H2 Hf2 s2.env.sub s2.grow hd
    rw [List.drop_eq_getElem_cons hlt] at q2
    refine .inr ⟨go, fun σ' H' => ∃ Hf' ρ', SEnv X.K { B with Hf0 := Hf1 } H' Hf' σ' ρ' ∧ loopD γ τb PD (ds.drop (i + 1)) ρ', fun σ' H' ⟨Hf', ρ', a1, a2⟩ => ⟨ds.length - (i + 1), by omega, Hf', ρ', a1, a2, rfl, hlt⟩, fun x H3 y => ?_⟩
    obtain ⟨Hf3, x3, r3⟩ := yl x H3 y
    have e3 := x3.env s2.env
    refine ⟨Hf3, ρ2, ds[i], _, e3, r3, q2, fun σ4 H4 Hf4 ρ4 e4 x4 t4 p4 => ?_⟩
    have s4 : SEnv X.K { B with Hf0 := Hf1 } H4 Hf4 σ4 ρ4 := s2.setTo e4 (x3.trans x4) t4
    refine ⟨{ B with Hf0 := Hf1 }, Hf4, ρ4, _, s4, p4, ⟨fun σ5 H5 Hf5 ρ5 e5 q5 => ⟨Hf5, ρ5, e5, q5⟩, fun v σ5 H5 Hf5 ρ5 r e5 ok q5 => l.rt v σ5 H5 Hf5 ρ5 r (s1.un e5) ok q5, fun σ5 H5 Hf5 ρ5 e5 q5 => l.nx σ5 H5 Hf5 ρ5 (s1.un e5) q5, fun σ5 H5 Hf5 ρ5 e5 q5 => ⟨Hf5, ρ5, e5, q5⟩⟩⟩
  · have e : i = ds.length := by omega
    subst e
    rw [List.drop_length] at q2
    exact .inl ⟨it.stop _ H2 Hf2 s2.env.sub s2.grow (Nat.le_refl _), l.nx σ2 H2 Hf2 ρ2 (s1.un s2) q2⟩
end DL
/-! The data layer, 9: comprehensions; calls that change their first argument. -/
namespace DL
open PySem L2
def wipeD (ρ : Ev) : List Nat → Ev
  | [] => ρ
  | v :: vs => (wipeD ρ vs).set v none
theorem wipeD_len (ρ : Ev) : ∀ vs, (wipeD ρ vs).length = ρ.length
  | [] => rfl
  | v :: vs => by unfold wipeD; rw [List.length_set, wipeD_len ρ vs]
theorem wipeD_out (ρ : Ev) {i : Nat} : ∀ {vs : List Nat}, i ∉ vs → (wipeD ρ vs)[i]? = ρ[i]?
  | [], _ => rfl
  | v :: vs, h => by
    unfold wipeD
    rw [set_get, if_neg (fun z => h (by rw [z]; exact List.mem_cons_self ..)), wipeD_out ρ (fun z => h (List.mem_cons_of_mem _ z))]
theorem wipeD_in (ρ : Ev) {i : Nat} {s : Sl} : ∀ {vs : List Nat}, i ∈ vs → (wipeD ρ vs)[i]? = some (some s) → False
  | v :: vs, h, q => by
    unfold wipeD at q
    rw [set_get] at q
    by_cases hv : v = i
    · rw [if_pos hv] at q
      split at q <;> cases q
    · rw [if_neg hv] at q
      rcases List.mem_cons.mp h with e | e
      · exact hv e.symm
      · exact wipeD_in ρ e q
theorem wipe_out (σ : St) {i : Nat} : ∀ {vs : List Nat}, i ∉ vs → (wipe σ vs)[i]? = σ[i]?
  | [], _ => rfl
  | v :: vs, h => by
    unfold wipe
    rw [List.getElem?_set, if_neg (fun z => h (by rw [z]; exact List.mem_cons_self ..)), wipe_out σ (fun z => h (List.mem_cons_of_mem _ z))]
theorem wipe_eq {σ σ2 : St} (hl : σ2.length = σ.length) : ∀ {vs : List Nat}, (∀ i, i ∉ vs → σ2[i]? = σ[i]?) → wipe σ2 vs = wipe σ vs := fun {vs} h => by
  apply List.ext_getElem?
  intro i
  by_cases hi : i ∈ vs
  · have key : ∀ (σ : St) (vs : List Nat), i ∈ vs → (wipe σ vs)[i]? = if i < σ.length then some none else none := by
      intro σ vs
      induction vs with
      | nil => intro h; cases h
      | cons v vs ih =>
        intro h
        unfold wipe
        rw [List.getElem?_set, wipe_length]
        by_cases hv : v = i
        · rw [if_pos hv, hv]
        · rw [if_neg hv]
          rcases List.mem_cons.mp h with e | e
          · exact absurd e.symm hv
          · exact ih e
    rw [key σ2 vs hi, key σ vs hi, hl]
  · rw [wipe_out _ hi, wipe_out _ hi]
    exact h i hi
/-- the slots of a block as they were ahead of it -/
def resto (ρ1 ρ2 : Ev) : List Nat → Ev
  | [] => ρ2
  | v :: vs => (resto ρ1 ρ2 vs).set v (ρ1.getD v none)
theorem resto_len (ρ1 ρ2 : Ev) : ∀ vs, (resto ρ1 ρ2 vs).length = ρ2.length
  | [] => rfl
  | v :: vs => by unfold resto; rw [List.length_set, resto_len ρ1 ρ2 vs]
theorem resto_out (ρ1 ρ2 : Ev) {i : Nat} : ∀ {vs : List Nat}, i ∉ vs → (resto ρ1 ρ2 vs)[i]? = ρ2[i]?
  | [], _ => rfl
  | v :: vs, h => by
    unfold resto
    rw [set_get, if_neg (fun z => h (by rw [z]; exact List.mem_cons_self ..)), resto_out ρ1 ρ2 (fun z => h (List.mem_cons_of_mem _ z))]
theorem resto_in (ρ1 ρ2 : Ev) {i : Nat} {s : Sl} (hl : ρ1.length = ρ2.length) : ∀ {vs : List Nat}, i ∈ vs → (resto ρ1 ρ2 vs)[i]? = some (some s) → ρ1[i]? = some (some s)
  | v :: vs, h, q => by
    unfold resto at q
    rw [set_get] at q
    by_cases hv : v = i
    · subst hv
      rw [if_pos rfl, resto_len] at q
      split at q
      · rename_i hlt
        rw [List.getElem?_eq_getElem (by omega)]
        rw [List.getD_eq_getElem?_getD, List.getElem?_eq_getElem (by omega)] at q
        simpa using q
      · cases q
    · rw [if_neg hv] at q
      rcases List.mem_cons.mp h with e | e
      · exact absurd e.symm hv
      · exact resto_in ρ1 ρ2 hl e q
def notOw (ρ : Ev) (i : Nat) : Bool := match ρ[i]? with
  | some (some (.ow _ _)) => false
  | _ => true
theorem notOw_no {ρ : Ev} {i : Nat} {p : Bool} {xs : List D} (h : notOw ρ i = true) : ρ[i]? ≠ some (some (.ow p xs)) := fun z => by
  unfold notOw at h
  rw [z] at h
  cases h
/-- a comprehension's turns -/
def lcD (vs : List Nat) (γ : TDG) (τt : TDT) (τe : TD) : List D → Ev → List D → (List D → Ev → Prop) → Prop
  | [], ρ, acc, P => P acc ρ
  | d :: ds, ρ, acc, P => γ d ρ fun ρ1 => τt ρ1 fun b ρ2 => if b = true then τe ρ2 fun r ρ3 => acc.length < 16000 ∧ lcD vs γ τt τe ds (wipeD ρ3 vs) (acc ++ [r.dat]) P else lcD vs γ τt τe ds (wipeD ρ2 vs) acc P
def tLcD (τi : TDI) (γ : TDG) (τt : TDT) (τe : TD) (vs : List Nat) : TD := fun ρ P => τi ρ fun ds ρ1 => vs.all (notOw ρ1) = true ∧ lcD vs γ τt τe ds (wipeD ρ1 vs) [] fun acc ρ2 => P (.fr acc) (resto ρ1 ρ2 vs)
/-- a movement by the owned addresses alone -/
structure MvO (O : Addr → Prop) (H H' Hf Hf' : Hp) : Prop where
  keep : ∀ b o, H b = some o → ¬ O b → H' b = some o
  live : ∀ b, H' b = none → H b = none
  grow : ∀ b o, Hf b = some o → Hf' b = some o
  new : ∀ b o, Hf' b = some o → Hf b = some o ∨ H b = none ∨ O b
theorem MvO.refl (O : Addr → Prop) (H Hf : Hp) : MvO O H H Hf Hf := ⟨fun _ _ h _ => h, fun _ h => h, fun _ _ h => h, fun _ _ h => .inl h⟩
theorem MvO.trans {O : Addr → Prop} {H H1 H2 Hf Hf1 Hf2 : Hp} (m : MvO O H H1 Hf Hf1) (n : MvO O H1 H2 Hf1 Hf2) : MvO O H H2 Hf Hf2 :=
  ⟨fun b o h ho => n.keep b o (m.keep b o h ho) ho, fun b h => m.live b (n.live b h), fun b o h => n.grow b o (m.grow b o h), fun b o h => by
    rcases n.new b o h with h | h | h
    · exact m.new b o h
    · exact .inr (.inl (m.live b h))
    · exact .inr (.inr h)⟩
theorem Ext.mvO {O : Addr → Prop} {H H1 Hf Hf1 : Hp} (x : Ext H H1 Hf Hf1) : MvO O H H1 Hf Hf1 := ⟨fun b o h _ => x.same b o h, x.live, x.grow, fun b o h => (x.new b o h).imp id .inl⟩
theorem Mv.mvO {O : Addr → Prop} {σ : St} {ρ ρ1 : Ev} {H H1 Hf Hf1 : Hp} (m : Mv σ ρ ρ1 H H1 Hf Hf1) (h : ∀ a, Own σ ρ a → O a) : MvO O H H1 Hf Hf1 :=
  ⟨fun b o q hn => m.keep b o q fun z => hn (h b z), m.live, m.grow, fun b o q => (m.new b o q).imp id fun z => z.imp id (h b)⟩
/-- owned slots: none comes, a pinned one stays -/
structure Ix (a b : Ev) : Prop where
  own : ∀ (i : Nat) (p : Bool) (xs : List D), b[i]? = some (some (.ow p xs)) → ∃ ys, a[i]? = some (some (.ow p ys))
  pin : ∀ (i : Nat) (xs : List D), a[i]? = some (some (.ow true xs)) → ∃ ys, b[i]? = some (some (.ow true ys))
theorem Ix.refl (a : Ev) : Ix a a := ⟨fun _ _ xs h => ⟨xs, h⟩, fun _ xs h => ⟨xs, h⟩⟩
theorem Ix.trans {a b c : Ev} (x : Ix a b) (y : Ix b c) : Ix a c := ⟨fun i p xs h => let ⟨ys, h1⟩ := y.own i p xs h; x.own i p ys h1, fun i xs h => let ⟨ys, h1⟩ := x.pin i xs h; y.pin i ys h1⟩
theorem Mv.ix {σ : St} {ρ ρ1 : Ev} {H H1 Hf Hf1 : Hp} (m : Mv σ ρ ρ1 H H1 Hf Hf1) : Ix ρ ρ1 := ⟨m.own, m.pin⟩
theorem SetTo.ix {is : List Nat} {σ σ1 : St} {ρ ρ1 : Ev} (t : SetTo is σ σ1 ρ ρ1) : Ix ρ ρ1 where
  own := fun i p xs h => by
    rcases t.each i with ⟨_, h2⟩ | ⟨⟨d, h2⟩, _⟩
    · exact ⟨xs, by rw [← h2]; exact h⟩
    · rw [h2] at h
      cases h
  pin := fun i xs h => by
    rcases t.each i with ⟨_, h2⟩ | ⟨_, h2, _⟩
    · exact ⟨xs, by rw [h2]; exact h⟩
    · unfold pinB at h2
      rw [h] at h2
      cases h2
/-- an object of no slot changes -/
theorem DEnv.updFree {K : Fg} {H Hf : Hp} {σ : St} {ρ : Ev} {a : Addr} {o : HO} (e : DEnv K H Hf σ ρ) (hf : Hf a = none) (hn : ¬ Own σ ρ a) : DEnv K (upd H a o) Hf σ ρ where
  sub := fun b u h => by rw [upd_ne (ne_of_none h hf)]; exact e.sub b u h
  sl := fun i s h => by
    have z := e.sl i s h
    cases s with
    | fz d => exact z
    | ow p xs =>
      obtain ⟨b, ys, z1, z2, z3, z4⟩ := z
      exact ⟨b, ys, z1, by rw [upd_ne (fun w => hn ⟨i, p, xs, h, by rw [← w]; exact z1⟩)]; exact z2, z3, z4⟩
  sep := e.sep
  len := e.len
/-- the slots of a block are forgotten -/
theorem DEnv.wipe {K : Fg} {H Hf : Hp} {σ σ' : St} {ρ : Ev} (vs : List Nat) (e : DEnv K H Hf σ ρ) (hs : ∀ i, i ∉ vs → σ'[i]? = σ[i]?) (hl : σ'.length = σ.length) : DEnv K H Hf σ' (wipeD ρ vs) where
  sub := e.sub
  sl := fun i s h => by
    have hi : i ∉ vs := fun z => wipeD_in ρ z h
    rw [wipeD_out ρ hi] at h
    rw [hs i hi]
    exact e.sl i s h
  sep := fun i j a p xs q ys h1 h2 h3 h4 => by
    have hi : i ∉ vs := fun z => wipeD_in ρ z h1
    have hj : j ∉ vs := fun z => wipeD_in ρ z h2
    rw [wipeD_out ρ hi] at h1
    rw [wipeD_out ρ hj] at h2
    rw [hs i hi] at h3
    rw [hs j hj] at h4
    exact e.sep i j a p xs q ys h1 h2 h3 h4
  len := by rw [wipeD_len, hl]; exact e.len
theorem ix_wipe {ρ : Ev} {vs : List Nat} (h : ∀ v ∈ vs, ∀ p xs, ρ[v]? ≠ some (some (.ow p xs))) : Ix ρ (wipeD ρ vs) := ⟨fun i p xs q => by
  have hi : i ∉ vs := fun z => wipeD_in ρ z q
  rw [wipeD_out ρ hi] at q
  exact ⟨xs, q⟩, fun i xs q => by
  have hi : i ∉ vs := fun z => h i z true xs q
  exact ⟨xs, by rw [wipeD_out ρ hi]; exact q⟩⟩
section
variable {X : Cx} {pos : Pos}
structure DTs (X : Cx) (ifs : List Expr) (τ : TDT) : Prop where
  pts : PTs X ifs (canT X.K τ)
def tYesD : TDT := fun ρ P => P true ρ
theorem dts_nil : DTs X [] tYesD := ⟨⟨fun pins s σ H Q I ⟨Hf, ρ, P, e, q, k⟩ => pts_nil.run pins s σ H Q I (k true H Hf ρ e (Mv.refl ..) q)⟩⟩
theorem dts_one {c : Expr} {τ : TDT} (h : DT X c τ) : DTs X [c] τ := ⟨pts_one h.pt⟩
theorem lc_reading {K : Fg} {is : List Nat} {τi : TDI} {γ : TDG} {τt : TDT} {τe : TD} {vs : List Nat} (hv : ∀ i ∈ is, i ∈ vs) {σ : St} {H Hf : Hp} {ρ : Ev} {P : Res → Ev → Prop} {Q : VK} (e : DEnv K H Hf σ ρ) (q : tLcD τi γ τt τe vs ρ P)
    (k : ∀ v H' Hf' r ρ', DEnv K H' Hf' σ ρ' → Mv σ ρ ρ' H H' Hf Hf' → ResOk K H H' Hf' v r → P r ρ' → Q v H') : tLc (canI K τi) (canG K is γ) (canT K τt) (canE K τe) vs σ H Q := by
  refine ⟨Hf, ρ, _, e, q, fun J H1 Hf1 ds ρ1 e1 m1 it ⟨hno, p1⟩ n hn => ?_⟩
  have hno' : ∀ v ∈ vs, ∀ p xs, ρ1[v]? ≠ some (some (.ow p xs)) := fun v hv' p xs => notOw_no (List.all_eq_true.mp hno v hv')
  have nfree : Hf1 n = none := free_of e1.sub hn
  have nown : ¬ Own σ ρ1 n := not_own e1 hn
  let O : Addr → Prop := Own σ ρ1
  let σw := wipe σ vs
  have hσw : ∀ i, i ∉ vs → σw[i]? = σ[i]? := fun i hi => wipe_out σ hi
  have hlw : σw.length = σ.length := wipe_length σ vs
  have x0 : Ext H1 (upd H1 n (.lst [])) Hf1 Hf1 := Ext.add' e1.sub _ hn
  -- owned in a wiped environment
  have ownO : ∀ {ρ' : Ev} {σ' : St}, Ix (wipeD ρ1 vs) ρ' → (∀ i, i ∉ vs → σ'[i]? = σ[i]?) → ∀ a, Own σ' ρ' a → O a := by
    intro ρ' σ' ix hs a ⟨i, p, xs, h1, h2⟩
    obtain ⟨ys, h3⟩ := ix.own i p xs h1
    have hi : i ∉ vs := fun z => wipeD_in ρ1 z h3
    rw [wipeD_out ρ1 hi] at h3
    exact ⟨i, p, ys, h3, by rw [← hs i hi]; exact h2⟩
  refine ⟨fun i m H' => ∃ Hf' ρ' accV acc, DEnv K H' Hf' σw ρ' ∧ Ix (wipeD ρ1 vs) ρ' ∧ MvO O H1 H' Hf1 Hf' ∧ H' n = some (.lst accV) ∧ Hf' n = none ∧ RepL K Hf' accV acc ∧ lcD vs γ τt τe (ds.drop i) ρ' acc (fun acc ρ2 => P (.fr acc) (resto ρ1 ρ2 vs)) ∧ m = ds.length - i ∧ i ≤ ds.length,
    ⟨ds.length, Hf1, wipeD ρ1 vs, [], [], (x0.env e1).wipe vs hσw hlw, Ix.refl _, x0.mvO, upd_same, nfree, .nil, by rw [List.drop_zero]; exact p1, by omega, Nat.zero_le _⟩, ?_⟩
  rintro i m H2 ⟨Hf2, ρ2, accV, acc, e2, ix2, mv2, hD, fD, rD, q2, hm, hil⟩
  have On : ¬ O n := nown
  by_cases hlt : i < ds.length
  · have hd : ds[i]? = some ds[i] := List.getElem?_eq_getElem hlt
    obtain ⟨go, yl⟩ := it.item i ds[i] H2 Hf2 e2.sub mv2.grow hd
    rw [List.drop_eq_getElem_cons hlt] at q2
    let Nx : Hp → Prop := fun H' => ∃ Hf' ρ' accV acc, DEnv K H' Hf' σw ρ' ∧ Ix (wipeD ρ1 vs) ρ' ∧ MvO O H1 H' Hf1 Hf' ∧ H' n = some (.lst accV) ∧ Hf' n = none ∧ RepL K Hf' accV acc ∧ lcD vs γ τt τe (ds.drop (i + 1)) ρ' acc (fun acc ρ2 => P (.fr acc) (resto ρ1 ρ2 vs))
    refine .inr ⟨go, Nx, fun H' ⟨a1, a2, a3, a4, b1, b2, b3, b4, b5, b6, b7⟩ => ⟨ds.length - (i + 1), by omega, a1, a2, a3, a4, b1, b2, b3, b4, b5, b6, b7, rfl, hlt⟩, fun x H3 y => ?_⟩
    obtain ⟨Hf3, x3, r3⟩ := yl x H3 y
    have e3 := x3.env e2
    refine ⟨Hf3, ρ2, ds[i], _, e3, r3, q2, fun σ4 H4 Hf4 ρ4 e4 x4 t4 p4 => ?_⟩
    have hs4 : ∀ j, j ∉ vs → σ4[j]? = σw[j]? := fun j hj => by
      rcases t4.each j with ⟨t, _⟩ | ⟨_, _, t⟩
      · exact t
      · exact absurd (hv j t) hj
    have hs4' : ∀ j, j ∉ vs → σ4[j]? = σ[j]? := fun j hj => (hs4 j hj).trans (hσw j hj)
    have hl4 : σ4.length = σw.length := t4.len
    refine ⟨wipe_eq (hl4.trans hlw) hs4', ?_⟩
    have ix4 : Ix (wipeD ρ1 vs) ρ4 := ix2.trans t4.ix
    have x34 := x3.trans x4
    have mv4 : MvO O H1 H4 Hf1 Hf4 := mv2.trans x34.mvO
    have keepD : ∀ {H5 Hf5 : Hp}, MvO O H4 H5 Hf4 Hf5 → H5 n = some (.lst accV) ∧ Hf5 n = none := fun {H5 Hf5} mm => by
      have d4 : H4 n = some (.lst accV) := x34.same n _ hD
      refine ⟨mm.keep n _ d4 On, ?_⟩
      cases z : Hf5 n with
      | none => rfl
      | some o =>
        rcases mm.new n o z with z | z | z
        · rcases x34.new n o z with z | z
          · rw [fD] at z; cases z
          · rw [hD] at z; cases z
        · rw [d4] at z; cases z
        · exact absurd z On
    have back : ∀ {ρ' : Ev}, Ix (wipeD ρ1 vs) ρ' → ∀ v ∈ vs, ∀ p xs, ρ'[v]? ≠ some (some (.ow p xs)) := fun {ρ'} ix v hv' p xs z => by
      obtain ⟨ys, h⟩ := ix.own v p xs z
      exact wipeD_in ρ1 hv' h
    refine ⟨Hf4, ρ4, _, e4, p4, fun b H5 Hf5 ρ5 e5 m5 p5 => ?_⟩
    have ix5 := ix4.trans m5.ix
    have mm5 : MvO O H4 H5 Hf4 Hf5 := m5.mvO (ownO ix4 hs4')
    cases b with
    | false =>
      have p5' : lcD vs γ τt τe (ds.drop (i + 1)) (wipeD ρ5 vs) acc (fun acc ρ2 => P (.fr acc) (resto ρ1 ρ2 vs)) := p5
      obtain ⟨d5, f5⟩ := keepD mm5
      exact ⟨Hf5, wipeD ρ5 vs, accV, acc, e5.wipe vs (fun j hj => (hs4 j hj).symm) hl4.symm, ix5.trans (ix_wipe (back ix5)), mv4.trans mm5, d5, f5, rD.mono fun b o h => mm5.grow b o (x34.grow b o h), p5'⟩
    | true =>
      refine ⟨Hf5, ρ5, _, e5, p5, fun y H6 Hf6 r ρ6 e6 m6 r6 ⟨hz, p6⟩ => ?_⟩
      obtain ⟨Hf7, e7, m7, r7⟩ := r6.freeze e5 e6 m6
      have ix7 := ix5.trans m7.ix
      have mm7 : MvO O H4 H6 Hf4 Hf7 := mm5.trans (m7.mvO (ownO ix5 hs4'))
      obtain ⟨d7, f7⟩ := keepD mm7
      have rD7 : RepL K Hf7 accV acc := rD.mono fun b o h => mm7.grow b o (x34.grow b o h)
      have nown7 : ¬ Own σ4 ρ6 n := fun z => On (ownO ix7 hs4' n z)
      refine ⟨accV, d7, by rw [rD7.length]; exact Nat.lt_of_lt_of_le hz (by decide), ?_⟩
      have mm8 : MvO O H1 H6 Hf1 Hf7 := mv4.trans mm7
      refine ⟨Hf7, wipeD ρ6 vs, accV ++ [y], acc ++ [r.dat], (e7.updFree f7 nown7).wipe vs (fun j hj => (hs4 j hj).symm) hl4.symm, ix7.trans (ix_wipe (back ix7)), ⟨fun b o h hb => ?_, fun b h => ?_, mm8.grow, mm8.new⟩, upd_same, f7, rD7.append (.cons r7 .nil), p6⟩
      · rw [upd_ne (ne_of_none h hn)]
        exact mm8.keep b o h hb
      · by_cases hb : b = n
        · subst hb
          exact hn
        · rw [upd_ne hb] at h
          exact mm8.live b h
  · have ei : i = ds.length := by omega
    subst ei
    rw [List.drop_length] at q2
    refine .inl ⟨it.stop _ H2 Hf2 e2.sub mv2.grow (Nat.le_refl _), ?_⟩
    have hl12 : ρ1.length = ρ2.length := by rw [← e1.len, ← e2.len, hlw]
    have eo : DEnv K H2 Hf2 σ (resto ρ1 ρ2 vs) := {
      sub := e2.sub
      sl := fun j s h => by
        by_cases hj : j ∈ vs
        · have h1 := resto_in ρ1 ρ2 hl12 hj h
          cases s with
          | fz d =>
            obtain ⟨v, z1, z2⟩ := e1.sl j _ h1
            exact ⟨v, z1, z2.mono mv2.grow⟩
          | ow p xs => exact absurd h1 (hno' j hj p xs)
        · rw [resto_out ρ1 ρ2 hj] at h
          rw [← hσw j hj]
          exact e2.sl j s h
      sep := fun j k a p xs q ys h1 h2 h3 h4 => by
        have hj : j ∉ vs := fun z => hno' j z p xs (resto_in ρ1 ρ2 hl12 z h1)
        have hk : k ∉ vs := fun z => hno' k z q ys (resto_in ρ1 ρ2 hl12 z h2)
        rw [resto_out ρ1 ρ2 hj] at h1
        rw [resto_out ρ1 ρ2 hk] at h2
        rw [← hσw j hj] at h3
        rw [← hσw k hk] at h4
        exact e2.sep j k a p xs q ys h1 h2 h3 h4
      len := by rw [resto_len, ← e2.len, hlw] }
    have mo : Mv σ ρ1 (resto ρ1 ρ2 vs) H1 H2 Hf1 Hf2 := {
      keep := mv2.keep
      live := mv2.live
      grow := mv2.grow
      new := mv2.new
      own := fun j p xs h => by
        have hj : j ∉ vs := fun z => hno' j z p xs (resto_in ρ1 ρ2 hl12 z h)
        rw [resto_out ρ1 ρ2 hj] at h
        obtain ⟨ys, h1⟩ := ix2.own j p xs h
        rw [wipeD_out ρ1 hj] at h1
        exact ⟨ys, h1⟩
      pin := fun j xs h => by
        have hj : j ∉ vs := fun z => hno' j z true xs h
        obtain ⟨ys, h1⟩ := ix2.pin j xs (by rw [wipeD_out ρ1 hj]; exact h)
        exact ⟨ys, by rw [resto_out ρ1 ρ2 hj]; exact h1⟩ }
    exact k _ H2 Hf2 (.fr acc) _ eo (m1.trans mo) ⟨n, accV, rfl, hD, fD, m1.live n hn, rD⟩ q2
/-- [e for x in xs if c] -/
theorem de_lc {elt tg iter : Expr} {ifs : List Expr} {scope : Scope} {own : List (Str × Nat)} {is : List Nat} {τi : TDI} {γ : TDG} {τt : TDT} {τe : TD} (hc : X.calm = true) (hN : X.N.Nodup) (hi : DI X tg iter τi) (ok : BlkOk X.N X.env.scope scope own)
    (hg : ∀ (s : Shared) (H : Hp) (C : Addr) (cl : List (Str × Addr)) (fp : List Addr), DG (X.blk s H scope (compEnvC scope cl C X.env) fp) tg is γ) (ht : ∀ (s : Shared) (H : Hp) (C : Addr) (cl : List (Str × Addr)) (fp : List Addr), DTs (X.blk s H scope (compEnvC scope cl C X.env) fp) ifs τt)
    (he : ∀ (s : Shared) (H : Hp) (C : Addr) (cl : List (Str × Addr)) (fp : List Addr), DE (X.blk s H scope (compEnvC scope cl C X.env) fp) elt τe) (hv : ∀ i ∈ is, i ∈ own.map (·.2) := by decide) (hs : ∀ x, foldedSetIterable iter X.env x = pure x := by intro _; rfl) :
    DE X (.ListComp elt [⟨tg, iter, ifs, 0⟩] scope pos) (tLcD τi γ τt τe (own.map (·.2))) :=
  DE.of (pe_lc hc hN hi.pi ok (fun s H C cl fp => (hg s H C cl fp).pg) (fun s H C cl fp => (ht s H C cl fp).pts) (fun s H C cl fp => (he s H C cl fp).pe) hs) fun σ H Hf ρ P Q e q k => lc_reading hv e q k
/-- y = [e for x in xs if c], frozen -/
theorem ds_setLc {i : Nat} {y : Str} {py : Pos} {elt tg iter : Expr} {ifs : List Expr} {scope : Scope} {own : List (Str × Nat)} {is : List Nat} {spos : Pos} {τi : TDI} {γ : TDG} {τt : TDT} {τe : TD} (hc : X.calm = true) (hN : X.N.Nodup) (hy : X.N[i]? = some y) (hyl : X.env.scope.names.lookup y = some .local)
    (hsw : swapsWith (.ListComp elt [⟨tg, iter, ifs, 0⟩] scope pos) (some (.Name y py)) spos.line X.env = pure true) (hi : DI X tg iter τi) (ok : BlkOk X.N X.env.scope scope own)
    (hg : ∀ (s : Shared) (H : Hp) (C : Addr) (cl : List (Str × Addr)) (fp : List Addr), DG (X.blk s H scope (compEnvC scope cl C X.env) fp) tg is γ) (ht : ∀ (s : Shared) (H : Hp) (C : Addr) (cl : List (Str × Addr)) (fp : List Addr), DTs (X.blk s H scope (compEnvC scope cl C X.env) fp) ifs τt)
    (he : ∀ (s : Shared) (H : Hp) (C : Addr) (cl : List (Str × Addr)) (fp : List Addr), DE (X.blk s H scope (compEnvC scope cl C X.env) fp) elt τe) (hv : ∀ i ∈ is, i ∈ own.map (·.2) := by decide) (hs : ∀ x, foldedSetIterable iter X.env x = pure x := by intro _; rfl) :
    DS X (.Assign [.Name y py] (.ListComp elt [⟨tg, iter, ifs, 0⟩] scope pos) spos) (tSetD i (tLcD τi γ τt τe (own.map (·.2)))) :=
  DS.of (ps_setLc hc hN hy hyl hsw hi.pi ok (fun s H C cl fp => (hg s H C cl fp).pg) (fun s H C cl fp => (ht s H C cl fp).pts) (fun s H C cl fp => (he s H C cl fp).pe) hs) fun D σ H Hf B ρ PD s q l =>
    lc_reading hv s.env q fun v H1 Hf1 r ρ1 e1 m1 r1 ⟨p1, p2⟩ => by
      obtain ⟨Hf2, e2, m2, r2⟩ := r1.freeze s.env e1 m1
      have s1 := s.mv e2 m2
      exact l.nx _ H1 Hf2 _ (s1.setTo (set_slot s1.env r2) (Ext.refl s1.env.sub) (setTo_slot s1.env.len p1)) p2
/-- .. a list of one's own -/
theorem ds_setLcO {i : Nat} {y : Str} {py : Pos} {elt tg iter : Expr} {ifs : List Expr} {scope : Scope} {own : List (Str × Nat)} {is : List Nat} {spos : Pos} {τi : TDI} {γ : TDG} {τt : TDT} {τe : TD} (hc : X.calm = true) (hN : X.N.Nodup) (hy : X.N[i]? = some y) (hyl : X.env.scope.names.lookup y = some .local)
    (hsw : swapsWith (.ListComp elt [⟨tg, iter, ifs, 0⟩] scope pos) (some (.Name y py)) spos.line X.env = pure true) (hi : DI X tg iter τi) (ok : BlkOk X.N X.env.scope scope own)
    (hg : ∀ (s : Shared) (H : Hp) (C : Addr) (cl : List (Str × Addr)) (fp : List Addr), DG (X.blk s H scope (compEnvC scope cl C X.env) fp) tg is γ) (ht : ∀ (s : Shared) (H : Hp) (C : Addr) (cl : List (Str × Addr)) (fp : List Addr), DTs (X.blk s H scope (compEnvC scope cl C X.env) fp) ifs τt)
    (he : ∀ (s : Shared) (H : Hp) (C : Addr) (cl : List (Str × Addr)) (fp : List Addr), DE (X.blk s H scope (compEnvC scope cl C X.env) fp) elt τe) (hv : ∀ i ∈ is, i ∈ own.map (·.2) := by decide) (hs : ∀ x, foldedSetIterable iter X.env x = pure x := by intro _; rfl) :
    DS X (.Assign [.Name y py] (.ListComp elt [⟨tg, iter, ifs, 0⟩] scope pos) spos) (tSetO i (tLcD τi γ τt τe (own.map (·.2)))) :=
  DS.of (ps_setLc hc hN hy hyl hsw hi.pi ok (fun s H C cl fp => (hg s H C cl fp).pg) (fun s H C cl fp => (ht s H C cl fp).pts) (fun s H C cl fp => (he s H C cl fp).pe) hs) fun D σ H Hf B ρ PD s q l =>
    lc_reading hv s.env q fun v H1 Hf1 r ρ1 e1 m1 r1 ⟨xs, hr, p1, p2⟩ => by
      subst hr
      obtain ⟨a, ys, rfl, h1, h2, h3, h4⟩ := r1
      have s1 := s.mv e1 m1
      exact l.nx _ H1 Hf1 _ (s1.setOwn p1 (s.live a h3) h1 h2 h4 (own_fresh s m1 h3)) p2
end
/-! ### f(x, ..), x a list of one's own that f changes -/
section
variable {X : Cx} {pos p p0 : Pos} {es : List Expr} {τs : TDA} {x y : Str} {f : Addr} {fd : FuncData} {ps : List Str} {k n : Nat}
def tCall1 (g : FS1) (i : Nat) (τ : TDA) : TD := fun ρ P => (∃ p xs, ρ[i]? = some (some (.ow p xs))) ∧ τ ρ fun ds ρ1 => ∃ p xs, ρ1[i]? = some (some (.ow p xs)) ∧ g xs ds fun r xs' => P r (ρ1.set i (some (.ow p xs')))
theorem de_call1 (i : Nat) {g : FS1} (F : FnOk X.prog X.w X.K X.mg X.base CX0 k f fd ps (sp1 X.K n g)) (hr : Room k X.A) (hg : Gl X x) (hm : X.mg x = some (.ref f)) (hk : PySem.W.keepIn X.K (.ref f) = true) (hb : Binds X.K fd ps [])
    (ha : DA X es τs) (hl : es.length + 1 = n := by rfl) (hN : X.N[i]? = some y := by rfl) (hv : Vis X.env.scope y := by first | exact Or.inl rfl | exact Or.inr (Or.inl rfl) | exact Or.inr (Or.inr rfl)) (hd : (y == ("__debug__" : Str)) = false := by decide) (hcd : (y == ("__classdict__" : Str)) = false := by decide)
    (hdb : (x == ("__debug__" : Str)) = false := by decide) (he : starEach (.Name y p0 :: es) X.env = (false, eval (.Name y p0) X.env) :: starEach es X.env := by rfl) (hpl : (backTo pos (starEach es X.env)).any (·.1) = false := by rfl) :
    DE X (.Call (.Name x p) (.Name y p0 :: es) [] pos) (tCall1 g i τs) := by
  refine DE.of (pe_call F hr hg hm hk hb .nil pass0 (pa_cons (pe_var hN hv hd hcd) ha.pa he) hdb he hpl) fun σ H Hf ρ P Q e ⟨⟨p1, xs0, h0⟩, q⟩ kk => ?_
  obtain ⟨a, ys0, h1, _⟩ := e.sl i _ h0
  refine ⟨.ref a, h1, Hf, ρ, _, e, q, fun vs H1 Hf1 ds ρ1 e1 m1 r1 hds ⟨p2, xs, g1, q1⟩ => ?_⟩
  show sp1 X.K n g ((.ref a :: vs) ++ []) H1 Q _
  rw [List.append_nil]
  obtain ⟨a', ys, z1, z2, z3, z4⟩ := e1.sl i _ g1
  rw [h1] at z1
  cases z1
  refine ⟨Hf1, a, vs, ys, xs, ds, _, rfl, e1.sub, z2, z3, z4, r1, by rw [hds]; exact hl, q1, fun v H2 Hf2 r ys' xs' x2 hy' hf' ry ok p3 => ?_⟩
  have hlt := lt_of g1
  have hga : ∀ b, Own σ ρ1 b → Hf2 b = none := fun b ⟨j, pj, us, w1, w2⟩ => by
    obtain ⟨b', zs, w3, w4, w5, _⟩ := e1.sl j _ w1
    rw [w2] at w3
    cases w3
    cases z : Hf2 b with
    | none => rfl
    | some o =>
      rcases x2.new b o z with z | z
      · rw [w5] at z; cases z
      · rw [w4] at z; cases z
  have e2 : DEnv X.K H2 Hf2 σ (ρ1.set i (some (.ow p2 xs'))) := {
    sub := x2.sub
    sl := fun j s h => by
      rw [set_get] at h
      by_cases hj : i = j
      · subst hj
        rw [if_pos rfl, if_pos hlt] at h
        cases h
        exact ⟨a, ys', h1, hy', hf', ry⟩
      · rw [if_neg hj] at h
        have z := e1.sl j s h
        cases s with
        | fz d =>
          obtain ⟨v, w1, w2⟩ := z
          exact ⟨v, w1, w2.mono x2.grow⟩
        | ow pj us =>
          obtain ⟨b, zs, w1, w2, w3, w4⟩ := z
          have hb : b ≠ a := fun w => by
            subst w
            exact hj (e1.sep i j b _ _ _ _ g1 h h1 w1)
          exact ⟨b, zs, w1, x2.same b _ w2 hb, hga b ⟨j, pj, us, h, w1⟩, w4.mono x2.grow⟩
    sep := fun j k b pj us pk zs q1 q2 q3 q4 => by
      have bk : ∀ {m : Nat} {pp : Bool} {vs : List D}, (ρ1.set i (some (.ow p2 xs')))[m]? = some (some (.ow pp vs)) → ∃ p2 vs2, ρ1[m]? = some (some (.ow p2 vs2)) := by
        intro m pp vs q
        rw [set_get] at q
        by_cases hm : i = m
        · subst hm
          exact ⟨_, _, g1⟩
        · rw [if_neg hm] at q
          exact ⟨_, _, q⟩
      obtain ⟨_, _, w1⟩ := bk q1
      obtain ⟨_, _, w2⟩ := bk q2
      exact e1.sep j k b _ _ _ _ w1 w2 q3 q4
    len := by rw [List.length_set]; exact e1.len }
  have m2 : Mv σ ρ1 (ρ1.set i (some (.ow p2 xs'))) H1 H2 Hf1 Hf2 := {
    keep := fun b o q hn => x2.same b o q fun z => hn ⟨i, p2, xs, g1, by rw [z]; exact h1⟩
    live := x2.live
    grow := x2.grow
    new := fun b o q => (x2.new b o q).imp id .inl
    own := fun j pj us q => by
      rw [set_get] at q
      by_cases hj : i = j
      · subst hj
        rw [if_pos rfl, if_pos hlt] at q
        cases q
        exact ⟨xs, g1⟩
      · rw [if_neg hj] at q
        exact ⟨us, q⟩
    pin := fun j us q => by
      by_cases hj : i = j
      · subst hj
        rw [g1] at q
        cases q
        exact ⟨xs', by rw [set_get, if_pos rfl, if_pos hlt]⟩
      · exact ⟨us, by rw [set_get, if_neg hj]; exact q⟩ }
  exact kk v H2 Hf2 r _ e2 (m1.trans m2) (ok.back m1.live) p3
end
end DL
/-! The data layer, 10: short words. -/
namespace DL
open PySem L2
/-- the def of the name x stands, at level k, and keeps the promise -/
def Fn0 (P : Program) (w : World) (K : Fg) (mg : Str → Option Value) (base : Heap) (x : Str) (k n : Nat) (g : FS0) : Prop := ∃ f fd ps, FnOk P w K mg base CX0 k f fd ps (sp0 K n g) ∧ mg x = some (.ref f) ∧ PySem.W.keepIn K (.ref f) = true ∧ Binds K fd ps []
def Fn1 (P : Program) (w : World) (K : Fg) (mg : Str → Option Value) (base : Heap) (x : Str) (k n : Nat) (g : FS1) : Prop := ∃ f fd ps, FnOk P w K mg base CX0 k f fd ps (sp1 K n g) ∧ mg x = some (.ref f) ∧ PySem.W.keepIn K (.ref f) = true ∧ Binds K fd ps []
/-- a constant of the module -/
def Gc (K : Fg) (mg : Str → Option Value) (x : Str) (d : D) : Prop := ∃ v u, mg x = some u ∧ RelV v u ∧ ∀ H, Rep K H v d
section
variable {P : Program} {w : World} {K : Fg} {mg : Str → Option Value} {base : Heap} {x qual : Str} {st : Stmt} {f : Addr} {fd : FuncData} {N ps : List Str} {k j n : Nat}
theorem Fn0.mono {g : FS0} (h : Fn0 P w K mg base x j n g) (hj : j ≤ k) : Fn0 P w K mg base x k n g := let ⟨f, fd, ps, a, b⟩ := h; ⟨f, fd, ps, a.mono hj, b⟩
theorem Fn1.mono {g : FS1} (h : Fn1 P w K mg base x j n g) (hj : j ≤ k) : Fn1 P w K mg base x k n g := let ⟨f, fd, ps, a, b⟩ := h; ⟨f, fd, ps, a.mono hj, b⟩
theorem Fn0.imp {g g' : FS0} (h : Fn0 P w K mg base x k n g) (i : ∀ ds Q, g' ds Q → g ds Q) : Fn0 P w K mg base x k n g' := let ⟨f, fd, ps, a, b⟩ := h; ⟨f, fd, ps, a.imp fun vs H Q E ⟨Hf, ds, P, h1, h2, h3, h4, h5⟩ => ⟨Hf, ds, P, h1, h2, h3, i ds P h4, h5⟩, b⟩
theorem Fn1.imp {g g' : FS1} (h : Fn1 P w K mg base x k n g) (i : ∀ xs ds Q, g' xs ds Q → g xs ds Q) : Fn1 P w K mg base x k n g' := let ⟨f, fd, ps, a, b⟩ := h; ⟨f, fd, ps, a.imp fun vs H Q E ⟨Hf, a, us, ys, xs, ds, P, h1, h2, h3, h4, h5, h6, h7, h8, h9⟩ => ⟨Hf, a, us, ys, xs, ds, P, h1, h2, h3, h4, h5, h6, h7, i xs ds P h8, h9⟩, b⟩
/-- where a def stands in the text: its object, its name, how arguments bind -/
structure At (K : Fg) (mg : Str → Option Value) (x : Str) (ps : List Str) (st : Stmt) (f : Addr) (fd : FuncData) : Prop where
  fn : Fun K x x st f fd
  mg : mg x = some (.ref f)
  bd : Binds K fd ps []
theorem At.fn0 {g : FS0} (A : At K mg x ps st f fd) (h : FnOk P w K mg base CX0 k f fd ps (sp0 K n g)) : Fn0 P w K mg base x k n g := ⟨f, fd, ps, h, A.mg, A.fn.kp, A.bd⟩
theorem At.fn1 {g : FS1} (A : At K mg x ps st f fd) (h : FnOk P w K mg base CX0 k f fd ps (sp1 K n g)) : Fn1 P w K mg base x k n g := ⟨f, fd, ps, h, A.mg, A.fn.kp, A.bd⟩
end
section
variable {X : Cx} {pos p p0 apos : Pos} {a b c e : Expr} {es : List Expr} {τa τb τc : TD} {τs : TDA} {x y : Str} {k n : Nat}
theorem de_g {d : D} (h : Gc X.K X.mg x d) (hg : Gl X x) (hd : (x == ("__debug__" : Str)) = false := by decide) : DE X (.Name x pos) (tK d) := let ⟨_, _, h1, h2, h3⟩ := h; de_glob hg h1 h2 h3 hd
theorem de_c0 {g : FS0} (h : Fn0 X.prog X.w X.K X.mg X.base x k n g) (hr : Room k X.A) (hg : Gl X x) (ha : DA X (e :: es) τs) (hl : (e :: es).length = n := by rfl) (hdb : (x == ("__debug__" : Str)) = false := by decide) (he : starEach (e :: es) X.env = (false, eval e X.env) :: starEach es X.env := by rfl) (hpl : (backTo pos (starEach es X.env)).any (·.1) = false := by rfl) :
    DE X (.Call (.Name x p) (e :: es) [] pos) (tCall0 g τs) := let ⟨_, _, _, h1, h2, h3, h4⟩ := h; de_call0 h1 hr hg h2 h3 h4 ha hl hdb he hpl
theorem de_c1 (i : Nat) {g : FS1} (h : Fn1 X.prog X.w X.K X.mg X.base x k n g) (hr : Room k X.A) (hg : Gl X x) (ha : DA X es τs) (hl : es.length + 1 = n := by rfl) (hN : X.N[i]? = some y := by rfl) (hv : Vis X.env.scope y := by first | exact Or.inl rfl | exact Or.inr (Or.inl rfl) | exact Or.inr (Or.inr rfl)) (hd : (y == ("__debug__" : Str)) = false := by decide) (hcd : (y == ("__classdict__" : Str)) = false := by decide)
    (hdb : (x == ("__debug__" : Str)) = false := by decide) (he : starEach (.Name y p0 :: es) X.env = (false, eval (.Name y p0) X.env) :: starEach es X.env := by rfl) (hpl : (backTo pos (starEach es X.env)).any (·.1) = false := by rfl) :
    DE X (.Call (.Name x p) (.Name y p0 :: es) [] pos) (tCall1 g i τs) := let ⟨_, _, _, h1, h2, h3, h4⟩ := h; de_call1 i h1 hr hg h2 h3 h4 ha hl hN hv hd hcd hdb he hpl
theorem opS_sub {K : Fg} : OpS K (rI0 fun i j => .int (i - j)) subD := opS_intI
theorem opS_fdiv {K : Fg} : OpS K (rI CDiv fun i j => .int (i / j)) fdivD := opS_int fun i j h => (show 0 < j ∧ j < 1073741824 from of_decide_eq_true h)
theorem opS_mod {K : Fg} : OpS K (rI (fun _ j => 0 < j) fun i j => .int (i % j)) modD := opS_int fun _ _ h => of_decide_eq_true h
theorem opS_pow {K : Fg} : OpS K (rI CPow fun i j => .int (i ^ j.toNat)) powD := opS_int fun i j h => (show 0 ≤ j ∧ j ≤ 1000000 ∧ i.natAbs < 2 ^ 64 from of_decide_eq_true h)
theorem opS_lt {K : Fg} : OpS K (rI0 fun i j => .bl (decide (i < j))) ltD := opS_intB
theorem opS_le {K : Fg} : OpS K (rI0 fun i j => .bl (decide (i ≤ j))) leD := opS_intB
theorem opS_gt {K : Fg} : OpS K (rI0 fun i j => .bl (decide (j < i))) gtD := opS_intB
theorem opS_ge {K : Fg} : OpS K (rI0 fun i j => .bl (decide (j ≤ i))) geD := opS_intB
theorem de_add (ha : DE X a τa) (hb : DE X b τb) : DE X (.BinOp a .Add b pos) (tBin addD τa τb) := de_bin op_addD opS_add ha hb
theorem de_sub (ha : DE X a τa) (hb : DE X b τb) : DE X (.BinOp a .Sub b pos) (tBin subD τa τb) := de_bin op_sub opS_sub ha hb
theorem de_mul (ha : DE X a τa) (hb : DE X b τb) : DE X (.BinOp a .Mult b pos) (tBin mulD τa τb) := de_bin op_mulD opS_mul ha hb
theorem de_fdiv (ha : DE X a τa) (hb : DE X b τb) : DE X (.BinOp a .FloorDiv b pos) (tBin fdivD τa τb) := de_bin op_fdiv opS_fdiv ha hb
theorem de_mod (ha : DE X a τa) (hb : DE X b τb) : DE X (.BinOp a .Mod b pos) (tBin modD τa τb) := de_bin op_mod opS_mod ha hb
theorem de_pow (ha : DE X a τa) (hb : DE X b τb) : DE X (.BinOp a .Pow b pos) (tBin powD τa τb) := de_bin op_pow opS_pow ha hb
theorem de_eq (hr : Room k X.A) (ha : DE X a τa) (hb : DE X b τb) : DE X (.Compare a [.Eq] [b] pos) (tBin eqD τa τb) := de_cmp (op_eqD' hr.units) opS_eq ha hb (nomark _)
theorem de_ne (hr : Room k X.A) (ha : DE X a τa) (hb : DE X b τb) : DE X (.Compare a [.NotEq] [b] pos) (tBin neD τa τb) := de_cmp (op_neD' hr.units) opS_ne ha hb (nomark _)
theorem de_lt (ha : DE X a τa) (hb : DE X b τb) : DE X (.Compare a [.Lt] [b] pos) (tBin ltD τa τb) := de_cmp op_lt opS_lt ha hb (nomark _)
theorem de_le (ha : DE X a τa) (hb : DE X b τb) : DE X (.Compare a [.LtE] [b] pos) (tBin leD τa τb) := de_cmp op_le opS_le ha hb (nomark _)
theorem de_gt (ha : DE X a τa) (hb : DE X b τb) : DE X (.Compare a [.Gt] [b] pos) (tBin gtD τa τb) := de_cmp op_gt opS_gt ha hb (nomark _)
theorem de_ge (ha : DE X a τa) (hb : DE X b τb) : DE X (.Compare a [.GtE] [b] pos) (tBin geD τa τb) := de_cmp op_ge opS_ge ha hb (nomark _)
theorem de_is (ha : DE X a τa) (hb : DE X b τb) : DE X (.Compare a [.Is] [b] pos) (tBin isD τa τb) := de_cmp op_isN opS_is ha hb (nomark _)
theorem de_isnt (ha : DE X a τa) (hb : DE X b τb) : DE X (.Compare a [.IsNot] [b] pos) (tBin isntD τa τb) := de_cmp op_notN opS_isnt ha hb (nomark _)
theorem de_in (ha : DE X a τa) (hb : DE X b τb) (hm : behindInMarks .In b = false := by rfl) : DE X (.Compare a [.In] [b] pos) (tBin inD τa τb) := de_cmp op_inD opS_in ha hb hm
theorem de_notin (ha : DE X a τa) (hb : DE X b τb) (hm : behindInMarks .NotIn b = false := by rfl) : DE X (.Compare a [.NotIn] [b] pos) (tBin notinD τa τb) := de_cmp op_notinD opS_notin ha hb hm
theorem dt_eq (hr : Room k X.A) (ha : DE X a τa) (hb : DE X b τb) : DT X (.Compare a [.Eq] [b] pos) (tT (tBin eqD τa τb)) := dt_cmp (op_eqD' hr.units) opS_eq ha hb (nomark _)
theorem dt_ne (hr : Room k X.A) (ha : DE X a τa) (hb : DE X b τb) : DT X (.Compare a [.NotEq] [b] pos) (tT (tBin neD τa τb)) := dt_cmp (op_neD' hr.units) opS_ne ha hb (nomark _)
theorem dt_lt (ha : DE X a τa) (hb : DE X b τb) : DT X (.Compare a [.Lt] [b] pos) (tT (tBin ltD τa τb)) := dt_cmp op_lt opS_lt ha hb (nomark _)
theorem dt_le (ha : DE X a τa) (hb : DE X b τb) : DT X (.Compare a [.LtE] [b] pos) (tT (tBin leD τa τb)) := dt_cmp op_le opS_le ha hb (nomark _)
theorem dt_gt (ha : DE X a τa) (hb : DE X b τb) : DT X (.Compare a [.Gt] [b] pos) (tT (tBin gtD τa τb)) := dt_cmp op_gt opS_gt ha hb (nomark _)
theorem dt_ge (ha : DE X a τa) (hb : DE X b τb) : DT X (.Compare a [.GtE] [b] pos) (tT (tBin geD τa τb)) := dt_cmp op_ge opS_ge ha hb (nomark _)
theorem dt_is (ha : DE X a τa) (hb : DE X b τb) : DT X (.Compare a [.Is] [b] pos) (tT (tBin isD τa τb)) := dt_cmp op_isN opS_is ha hb (nomark _)
theorem dt_isnt (ha : DE X a τa) (hb : DE X b τb) : DT X (.Compare a [.IsNot] [b] pos) (tT (tBin isntD τa τb)) := dt_cmp op_notN opS_isnt ha hb (nomark _)
theorem dt_in (ha : DE X a τa) (hb : DE X b τb) (hm : behindInMarks .In b = false := by rfl) : DT X (.Compare a [.In] [b] pos) (tT (tBin inD τa τb)) := dt_cmp op_inD opS_in ha hb hm
theorem dt_notin (ha : DE X a τa) (hb : DE X b τb) (hm : behindInMarks .NotIn b = false := by rfl) : DT X (.Compare a [.NotIn] [b] pos) (tT (tBin notinD τa τb)) := dt_cmp op_notinD opS_notin ha hb hm
theorem de_lele (ha : DE X a τa) (hb : DE X b τb) (hc : DE X c τc) (hm : lastMarks [.LtE, .LtE] [b, c] = false := by with_unfolding_all rfl) : DE X (.Compare a [.LtE, .LtE] [b, c] pos) (tChn leD leD τa τb τc) := de_chn op_le opS_le op_le opS_le ha hb hc hm
theorem dt_lele (ha : DE X a τa) (hb : DE X b τb) (hc : DE X c τc) (hm : lastMarks [.LtE, .LtE] [b, c] = false := by with_unfolding_all rfl) : DT X (.Compare a [.LtE, .LtE] [b, c] pos) (tT (tChn leD leD τa τb τc)) := dt_chn op_le opS_le op_le opS_le ha hb hc hm
/-! built-ins by name -/
variable {he : starEach (e :: es) X.env = (false, eval e X.env) :: starEach es X.env}
theorem de_len (hg : Gl X "len") (hm : X.mg "len" = none) (ha : DA X (e :: es) τs) (he : starEach (e :: es) X.env = (false, eval e X.env) :: starEach es X.env := by rfl) (hpl : (backTo pos (starEach es X.env)).any (·.1) = false := by rfl) : DE X (.Call (.Name "len" p) (e :: es) [] pos) (tCallG lenD τs) := de_callB call_len callS_len hg hm PySem.boot_len ha (he := he) (hpl := hpl)
theorem de_isi (hg : Gl X "isinstance") (hm : X.mg "isinstance" = none) (ha : DA X (e :: es) τs) (he : starEach (e :: es) X.env = (false, eval e X.env) :: starEach es X.env := by rfl) (hpl : (backTo pos (starEach es X.env)).any (·.1) = false := by rfl) : DE X (.Call (.Name "isinstance" p) (e :: es) [] pos) (tCallG isiD τs) := de_callB call_isi callS_isi hg hm (by decide +kernel) ha (he := he) (hpl := hpl)
theorem de_max2 (hc : X.calm = true) (hg : Gl X "max") (hm : X.mg "max" = none) (ha : DA X (e :: es) τs) (he : starEach (e :: es) X.env = (false, eval e X.env) :: starEach es X.env := by rfl) (hpl : (backTo pos (starEach es X.env)).any (·.1) = false := by rfl) : DE X (.Call (.Name "max" p) (e :: es) [] pos) (tCallG max2D τs) := de_callB (call_max2 hc) callS_max2 hg hm (by decide +kernel) ha (he := he) (hpl := hpl)
theorem de_sum (hc : X.calm = true) (hg : Gl X "sum") (hm : X.mg "sum" = none) (ha : DA X (e :: es) τs) (he : starEach (e :: es) X.env = (false, eval e X.env) :: starEach es X.env := by rfl) (hpl : (backTo pos (starEach es X.env)).any (·.1) = false := by rfl) : DE X (.Call (.Name "sum" p) (e :: es) [] pos) (tCallG sumD τs) := de_callB (cr_sum hc) callS_sum hg hm (by decide +kernel) ha (he := he) (hpl := hpl)
theorem de_all (hc : X.calm = true) (hg : Gl X "all") (hm : X.mg "all" = none) (ha : DA X (e :: es) τs) (he : starEach (e :: es) X.env = (false, eval e X.env) :: starEach es X.env := by rfl) (hpl : (backTo pos (starEach es X.env)).any (·.1) = false := by rfl) : DE X (.Call (.Name "all" p) (e :: es) [] pos) (tCallG allD τs) := de_callB (cr_all hc) callS_all hg hm (by decide +kernel) ha (he := he) (hpl := hpl)
theorem de_any (hc : X.calm = true) (hg : Gl X "any") (hm : X.mg "any" = none) (ha : DA X (e :: es) τs) (he : starEach (e :: es) X.env = (false, eval e X.env) :: starEach es X.env := by rfl) (hpl : (backTo pos (starEach es X.env)).any (·.1) = false := by rfl) : DE X (.Call (.Name "any" p) (e :: es) [] pos) (tCallG anyD τs) := de_callB (cr_any hc) callS_any hg hm (by decide +kernel) ha (he := he) (hpl := hpl)
theorem de_list (hc : X.calm = true) (hg : Gl X "list") (hm : X.mg "list" = none) (ha : DA X (e :: es) τs) (he : starEach (e :: es) X.env = (false, eval e X.env) :: starEach es X.env := by rfl) (hpl : (backTo pos (starEach es X.env)).any (·.1) = false := by rfl) : DE X (.Call (.Name "list" p) (e :: es) [] pos) (tCallG listD τs) := de_callTy (callR_list hc) callS_list hg hm (by decide +kernel) ha (he := he) (hpl := hpl)
theorem de_tuple (hg : Gl X "tuple") (hm : X.mg "tuple" = none) (ha : DA X (e :: es) τs) (he : starEach (e :: es) X.env = (false, eval e X.env) :: starEach es X.env := by rfl) (hpl : (backTo pos (starEach es X.env)).any (·.1) = false := by rfl) : DE X (.Call (.Name "tuple" p) (e :: es) [] pos) (tCallG tupleD τs) := de_callTy call_tuple_of callS_tuple hg hm (by decide +kernel) ha (he := he) (hpl := hpl)
theorem de_intc (hg : Gl X "int") (hm : X.mg "int" = none) (ha : DA X (e :: es) τs) (he : starEach (e :: es) X.env = (false, eval e X.env) :: starEach es X.env := by rfl) (hpl : (backTo pos (starEach es X.env)).any (·.1) = false := by rfl) : DE X (.Call (.Name "int" p) (e :: es) [] pos) (tCallG intOfD τs) := de_callTy call_int1 callS_int hg hm (by decide +kernel) ha (he := he) (hpl := hpl)
end
end DL
/-! The data layer, 11: comprehensions and loops whose turns are plain. -/
namespace DL
open PySem L2
/-- a comprehension that changes nothing, over what a list gives -/
theorem lc_pure {α : Type} {φ : α → D} {v : Nat} {τt : TDT} {τe : TD} {b : α → Bool} {f : α → D} {ρ : Ev} {P : List D → Ev → Prop} (hv : ρ.set v none = ρ) (hp : pinB ρ v = false) : ∀ (l : List α) (acc : List D),
    (∀ a ∈ l, ∀ Q, Q (b a) (ρ.set v (some (.fz (φ a)))) → τt (ρ.set v (some (.fz (φ a)))) Q) → (∀ a ∈ l, b a = true → ∀ Q : Res → Ev → Prop, (∀ r, r.dat = f a → Q r (ρ.set v (some (.fz (φ a))))) → τe (ρ.set v (some (.fz (φ a)))) Q) →
    acc.length + l.length ≤ 16000 → P (acc ++ (l.filter b).map f) ρ → lcD [v] (gN v) τt τe (l.map φ) ρ acc P
  | [], acc, _, _, _, q => by simpa [lcD] using q
  | a :: l, acc, ht, he, hz, q => by
    have hw : wipeD (ρ.set v (some (.fz (φ a)))) [v] = ρ := by
      show (ρ.set v (some (.fz (φ a)))).set v none = ρ
      rw [List.set_set]
      exact hv
    rw [List.length_cons] at hz
    refine ⟨hp, ht a (List.mem_cons_self ..) _ ?_⟩
    cases hb : b a with
    | true =>
      rw [if_pos rfl]
      refine he a (List.mem_cons_self ..) hb _ fun r hr => ⟨by omega, ?_⟩
      rw [hw, hr]
      refine lc_pure hv hp l (acc ++ [f a]) (fun d' hd => ht d' (List.mem_cons_of_mem _ hd)) (fun d' hd => he d' (List.mem_cons_of_mem _ hd)) (by rw [List.length_append, List.length_singleton]; omega) ?_
      rw [List.append_assoc]
      simpa [List.filter_cons, hb] using q
    | false =>
      rw [if_neg (by decide), hw]
      refine lc_pure hv hp l acc (fun d' hd => ht d' (List.mem_cons_of_mem _ hd)) (fun d' hd => he d' (List.mem_cons_of_mem _ hd)) (by omega) ?_
      simpa [List.filter_cons, hb] using q
/-- .. without tests -/
theorem lc_map {α : Type} {φ : α → D} {v : Nat} {τe : TD} {f : α → D} {ρ : Ev} {P : List D → Ev → Prop} (l : List α) (hv : ρ.set v none = ρ) (hp : pinB ρ v = false)
    (he : ∀ a ∈ l, ∀ Q : Res → Ev → Prop, (∀ r, r.dat = f a → Q r (ρ.set v (some (.fz (φ a))))) → τe (ρ.set v (some (.fz (φ a)))) Q) (hz : l.length ≤ 16000) (q : P (l.map f) ρ) : lcD [v] (gN v) tYesD τe (l.map φ) ρ [] P :=
  lc_pure (b := fun _ => true) hv hp l [] (fun d _ Q h => h) (fun d hd _ Q h => he d hd Q h) (by simpa using hz) (by rw [List.filter_eq_self.mpr (fun _ _ => rfl)]; simpa using q)
theorem lc_mapD {v : Nat} {τe : TD} {f : D → D} {ρ : Ev} {P : List D → Ev → Prop} (l : List D) (hv : ρ.set v none = ρ) (hp : pinB ρ v = false)
    (he : ∀ a ∈ l, ∀ Q : Res → Ev → Prop, (∀ r, r.dat = f a → Q r (ρ.set v (some (.fz a)))) → τe (ρ.set v (some (.fz a))) Q) (hz : l.length ≤ 16000) (q : P (l.map f) ρ) : lcD [v] (gN v) tYesD τe l ρ [] P := by
  have := lc_map (φ := id) l hv hp he hz q
  rw [List.map_id] at this
  exact this
/-- a test whose answer is told by a fact -/
theorem ifd {p : Prop} [Decidable p] {c : Bool} {A B : Prop} (hc : c = decide p) (h1 : p → A) (h2 : ¬ p → B) : if c = true then A else B := by
  subst hc
  by_cases h : p
  · rw [if_pos (decide_eq_true h)]
    exact h1 h
  · rw [if_neg (by rw [decide_eq_false h]; decide)]
    exact h2 h
theorem ifT {c : Bool} {A B : Prop} (hc : c = true) (h : A) : if c = true then A else B := by rw [if_pos hc]; exact h
theorem ifF {c : Bool} {A B : Prop} (hc : c = false) (h : B) : if c = true then A else B := by rw [if_neg (by rw [hc]; decide)]; exact h
theorem ifB {c : Bool} {A B : Prop} (h1 : c = true → A) (h2 : c = false → B) : if c = true then A else B := by
  cases c with
  | true => exact ifT rfl (h1 rfl)
  | false => exact ifF rfl (h2 rfl)
theorem intsOf_map {α : Type} (f : α → Int) : ∀ l : List α, intsOf (l.map fun x => D.int (f x)) = some (l.map f)
  | [] => rfl
  | x :: l => by
    rw [List.map_cons, intsOf, intsOf_map f l]
    rfl
theorem blsOf_map {α : Type} (f : α → Bool) : ∀ l : List α, blsOf (l.map fun x => D.bl (f x)) = some (l.map f)
  | [] => rfl
  | x :: l => by
    rw [List.map_cons, blsOf, blsOf_map f l]
    rfl
theorem all_map {α : Type} (p : α → Bool) (l : List α) : allD [.lst (l.map fun d => .bl (p d))] = some (.fz (.bl ((l.map p).all id))) := by
  show (blsOf (l.map fun d => .bl (p d))).map _ = _
  rw [blsOf_map]
  rfl
theorem sum_map {α : Type} (p : α → Int) (l : List α) : sumD [.lst (l.map fun d => .int (p d))] = some (.fz (.int (l.map p).sum)) := by
  show (intsOf (l.map fun d => .int (p d))).map _ = _
  rw [intsOf_map]
  rfl
/-- nothing is asked of such a def -/
theorem At.none0 {P : Program} {w : World} {K : Fg} {mg : Str → Option Value} {base : Heap} {x : Str} {ps : List Str} {st : Stmt} {f : Addr} {fd : FuncData} {k n : Nat} {g : FS0} (A : At K mg x ps st f fd) (h : ∀ ds Q, ¬ g ds Q) : Fn0 P w K mg base x k n g :=
  A.fn0 ⟨fun vs H Q E ⟨_, ds, P, _, _, _, hg, _⟩ => absurd hg (h ds P), fun _ _ _ _ _ _ _ _ _ _ _ _ _ ⟨_, ds, P, _, _, _, hg, _⟩ => absurd hg (h ds P)⟩
/-- texts of one sign joined -/
theorem strsOf_signs : ∀ cs : List Nat, strsOf (cs.map fun c => D.str ⟨#[c]⟩) = some (cs.map fun c => (⟨#[c]⟩ : Str))
  | [] => rfl
  | c :: cs => by
    rw [List.map_cons, strsOf, strsOf_signs cs]
    rfl
/-! texts as lists of signs -/
abbrev Str.l (s : Str) : List Nat := s.cps.toList
def ofL (cs : List Nat) : Str := ⟨cs.toArray⟩
@[simp] theorem ofL_l (cs : List Nat) : (ofL cs).cps.toList = cs := by simp [ofL]
@[simp] theorem l_ofL (s : Str) : ofL s.cps.toList = s := by cases s; simp [ofL]
theorem str_ext {s t : Str} (h : s.cps.toList = t.cps.toList) : s = t := by rw [← l_ofL s, ← l_ofL t, h]
theorem len_l (s : Str) : s.length = s.cps.toList.length := by simp [Str.length]
theorem l_append (s t : Str) : (s ++ t).cps.toList = s.cps.toList ++ t.cps.toList := by
  show (Str.append s t).cps.toList = _
  simp [Str.append]
theorem sjoin_empty : ∀ ys : List Str, (Str.join Str.empty ys).cps.toList = (ys.map fun y => y.cps.toList).flatten
  | [] => rfl
  | [y] => by simp [Str.join]
  | y :: z :: r => by
    show (y ++ Str.empty ++ Str.join Str.empty (z :: r)).cps.toList = _
    rw [l_append, l_append, sjoin_empty (z :: r)]
    simp [Str.empty]
theorem join_empty (ys : List Str) : (Txt.join Str.empty ys).cps.toList = (ys.map fun y => y.cps.toList).flatten := by
  rw [show Txt.join Str.empty ys = Str.join Str.empty ys from TL.join_eq _ _, sjoin_empty]
theorem join_signs (cs : List Nat) : Txt.join Str.empty (cs.map fun c => (⟨#[c]⟩ : Str)) = ofL cs := by
  apply str_ext
  rw [join_empty, ofL_l, List.map_map]
  induction cs with
  | nil => rfl
  | cons c cs ih => rw [List.map_cons, List.flatten_cons, ih]; rfl
theorem joinD_signs (cs : List Nat) (h : cs.length ≤ 50000) : joinD (.str "") (.lst (cs.map fun c => .str ⟨#[c]⟩)) = some (.fz (.str (ofL cs))) := by
  have e0 : ("" : Str) = Str.empty := by decide +kernel
  have hz : ((cs.map fun c => (⟨#[c]⟩ : Str)).map (fun s : Str => s.length)).sum + (cs.map fun c => (⟨#[c]⟩ : Str)).length * ("" : Str).length ≤ 100000 := by
    rw [e0, show Str.empty.length = 0 from rfl, Nat.mul_zero, Nat.add_zero, List.map_map]
    have : ∀ l : List Nat, (l.map ((fun s : Str => s.length) ∘ fun c => (⟨#[c]⟩ : Str))).sum = l.length := by
      intro l
      induction l with
      | nil => rfl
      | cons c l ih => rw [List.map_cons, List.sum_cons, ih, List.length_cons]; show 1 + l.length = _; omega
    rw [this]
    omega
  show (match strsOf (cs.map fun c => D.str ⟨#[c]⟩) with | some ys => if (ys.map (fun s : Str => s.length)).sum + ys.length * ("" : Str).length ≤ 100000 then some (Res.fz (.str (Txt.join "" ys))) else none | none => none) = _
  rw [strsOf_signs]
  show (if _ then _ else _) = _
  rw [if_pos hz, e0, join_signs]
theorem eqS_eq' (a b : Str) : eqS a b = decide (b = a) := by
  rw [eqS_eq]
  by_cases h : a = b
  · rw [decide_eq_true h, decide_eq_true h.symm]
  · rw [decide_eq_false h, decide_eq_false fun z => h z.symm]
theorem mod_ok {i j : Int} (h : 0 < j) : modD (.int i) (.int j) = some (.fz (.int (i % j))) := by
  show (if _ then _ else _) = _
  rw [if_pos (decide_eq_true h)]
theorem fdiv_ok {i j : Int} (h : 0 < j) (h2 : j < 1073741824) : fdivD (.int i) (.int j) = some (.fz (.int (i / j))) := by
  show (if _ then _ else _) = _
  rw [if_pos (decide_eq_true ⟨h, h2⟩)]
theorem pow_ok {i j : Int} (h : 0 ≤ j) (h2 : j ≤ 1000000) (h3 : i.natAbs < 2 ^ 64) : powD (.int i) (.int j) = some (.fz (.int (i ^ j.toNat))) := by
  show (if _ then _ else _) = _
  rw [if_pos (decide_eq_true ⟨h, h2, h3⟩)]
theorem mul_okL {i j : Int} (h : -(2 ^ 64) < i) (h2 : i < 2 ^ 64) : mulD (.int i) (.int j) = some (.fz (.int (i * j))) := by
  show (if _ then _ else _) = _
  rw [if_pos (decide_eq_true (.inl ⟨h, h2⟩))]
theorem mul_okR {i j : Int} (h : -(2 ^ 64) < j) (h2 : j < 2 ^ 64) : mulD (.int i) (.int j) = some (.fz (.int (i * j))) := by
  show (if _ then _ else _) = _
  rw [if_pos (decide_eq_true (.inr ⟨h, h2⟩))]
theorem atI_get {α : Type} {xs : List α} {i : Int} (h0 : 0 ≤ i) (h1 : i < (xs.length : Int)) : atI xs i = xs[i.toNat]? := by
  unfold atI ixN
  rw [if_pos h0, if_pos h1]
  rfl
theorem atI_ok {α : Type} {xs : List α} {i : Int} (h0 : 0 ≤ i) (h1 : i < (xs.length : Int)) : ∃ x, atI xs i = some x ∧ x ∈ xs := by
  have hl : i.toNat < xs.length := by omega
  exact ⟨xs[i.toNat], by rw [atI_get h0 h1]; exact List.getElem?_eq_getElem hl, List.getElem_mem hl⟩
theorem ix_lst {xs : List D} {i : Int} {d : D} (h : atI xs i = some d) : ixD (.lst xs) (.int i) = some (.fz d) := by
  show (atI xs i).map _ = _
  rw [h]
  rfl
theorem ix_tup' {xs : List D} {i : Int} {d : D} (h : atI xs i = some d) : ixD (.tup xs) (.int i) = some (.fz d) := by
  show (atI xs i).map _ = _
  rw [h]
  rfl
theorem atI_0 {α : Type} (x : α) (xs : List α) : atI (x :: xs) 0 = some x := by
  unfold atI ixN
  rw [if_pos (by decide), if_pos (by rw [List.length_cons]; omega)]
  rfl
theorem ix_t0 (x : D) (xs : List D) : ixD (.tup (x :: xs)) (.int 0) = some (.fz x) := by
  show (atI (x :: xs) 0).map Res.fz = _
  rw [atI_0]
  rfl
theorem ix_l0 (x : D) (xs : List D) : ixD (.lst (x :: xs)) (.int 0) = some (.fz x) := by
  show (atI (x :: xs) 0).map Res.fz = _
  rw [atI_0]
  rfl
end DL
/-! set(xs) of a list of ints, so that the set may be walked -/
namespace L2
open PySem PySem.Spec PyProof.Rows PySem.Calls
section
variable {P : Program} {w : World} {A : Around} {E : Value → Shared → Prop} {s : Shared}
/-- the set that is made first -/
abbrev so (w : World) : Obj := { cls := .type "set", dict := none, data := .set #[] 0 (.fresh 0 0 (!w.params.followText "set-order")) }
set_option maxHeartbeats 3200000 in
theorem set_lst {l : Addr} {its : Array Value} (ns : List Int) {Q : Value → Shared → Prop} (h0 : A.handled = none) (hL : s.heap.IsList l its) (hI : IntsAre its.toList ns) (hb : ns.length + 1 < scanBound)
    (k : ∀ (h' : Heap) (tk c : Nat), SetR w h' s.heap.objs.size (fun j => decide (j ∈ ns)) c → c ≤ ns.length → (∀ b o, s.heap.get? b = some o → h'.get? b = some o) → Q (.ref s.heap.objs.size) { s with heap := h', toks := tk }) :
    wpAny (model P w) A (call (.type "set") [.ref l]) Q E s := by
  have hz : its.size = ns.length := (Array.length_toList).symm.trans (IntsAre.length hI)
  obtain ⟨mc, mt, m1⟩ := F.called_set.mro
  have m2 := F.called_set.made
  have m3 := F.called_set.sub
  refine wpAny_call (codeAny_of_tree (wpAny_pure ⟨Code.quiet_builtin _ (by decide +kernel), codeAny_builtin F.entry_type_call ?_⟩))
  rw [Around.under_plain (weight_type_call_type "set" [.ref l] []) rfl]
  have m4 := F.called_set.notType
  have m5 := F.called_set.canCreate
  have m6 := F.typeCall_set_1 (.ref l)
  repeat (any_goals (first | assumption | wp_step))
  let s1 : Shared := { s with heap := s.heap.push (so w) }
  refine codeAny_mono (code_set_led1 (.ref l) (E := E) (Q₁ := fun v t => v = .ref s.heap.objs.size ∧ t = s1) ⟨rfl, rfl⟩) fun r t hr => ?_
  match r, hr with
  | .error e, hr => exact hr
  | .ok (.ret v), hr =>
    obtain ⟨rfl, rfl⟩ := hr
    have n1 : s1.heap.get? s.heap.objs.size = some (so w) := Heap.get?_push_size _ rfl
    have n2 : Shared.TypeIs s1 (.ref s.heap.objs.size) "set" := ⟨_, n1, rfl⟩
    have n3 := F.called_set.init.lookup
    have n4 := F.called_set.init.bind (.ref s.heap.objs.size)
    repeat (any_goals (first | assumption | wp_step))
    refine codeAny_mono (codeAny_call_builtin (R := wants (fun v t => v = .none ∧ ∃ h' tk c, t = { s with heap := h', toks := tk } ∧ SetR w h' s.heap.objs.size (fun j => decide (j ∈ ns)) c ∧ c ≤ ns.length ∧ ∀ b o, s.heap.get? b = some o → h'.get? b = some o) E) F.called_set.init.plain F.entry_set_init (check_set_init_1 n2 ?_)) fun r2 t2 hr2 => ?_
    · obtain ⟨⟨oc, od, ox, os⟩, hol, hcl, nl, hdl⟩ := hL
      simp only at hcl hdl
      subst hcl hdl
      have p1 : s1.heap.get? l = some { cls := .type "list", dict := od, data := .seq its nl, slots := os } := Heap.get?_push_of_some _ hol
      have p2 := F.sub_list_set
      have p3 := F.sub_list_frozenset
      have p4 : (Value.type "list" == Value.type "dict") = false := by decide
      have p5 : s1.heap.IsList l its := ⟨_, p1, rfl, nl, rfl⟩
      unfold Builtin.«set.__init__» noKeywords Builtin.Frozenset.updateFrom
      generalize hp : pyIter = pI
      wp_walk
      subst hp
      refine wpAny_pyIter_list p5 (wpAny_bind (wpAny_runValue ?_))
      have q1 : l < s.heap.objs.size := Heap.lt_size hol
      have q2 : A.in1.in1.in1.handled = none := by simp [h0]
      have q3 : s1.heap.objs.size = s.heap.objs.size + 1 := Heap.size_push ..
      have q4 : l ≠ s1.heap.objs.size := by rw [q3]; exact Nat.ne_of_lt (Nat.lt_succ_of_lt q1)
      have q5 : s.heap.objs.size ∉ [s1.heap.objs.size, l] := by
        rw [q3]
        simp only [List.mem_cons, List.not_mem_nil, or_false, not_or]
        exact ⟨Nat.ne_of_lt (Nat.lt_succ_self _), Nat.ne_of_gt q1⟩
      have q6 : ∀ (i : Nat) (v : Value), its[i]? = some v → ∃ n t, ns[i]? = some n ∧ v = .int n t := fun i v hv => by
        have hi : i < ns.length := hz ▸ (Array.getElem?_eq_some_iff.mp hv).1
        obtain ⟨t, e⟩ := IntsAre.int_at hI i v (by rw [Array.getElem?_toList]; exact hv)
        exact ⟨ns[i], t, List.getElem?_eq_getElem hi, by rw [e, List.getD_eq_getElem?_getD, List.getElem?_eq_getElem hi]; rfl⟩
      refine set_update_ints (Walks.list q2 _ l q4 its).toS s.heap.objs.size q5 ns hz hb q6 its.size 0 _ (by omega) (Nat.zero_le _) ⟨⟨_, Heap.get?_push_size _ rfl, rfl, rfl⟩, p5.push _⟩ ⟨0, Nat.le_refl 0, setR_new_at (Heap.get?_push_of_some _ n1)⟩ ?_
      rintro ⟨h', g', d', tk', os'⟩ c hm hc hS
      have e1 : g' = s.gens := hm.gens
      have e2 : d' = s.drawn := hm.drawn
      have e3 : os' = s.os := hm.os
      subst e1 e2 e3
      refine wpAny_pure (wpAny_pure ⟨rfl, h', tk', c, rfl, hS, hz ▸ hc, fun b o e => ?_⟩)
      have e4 : b < s.heap.objs.size := Heap.lt_size e
      refine hm.heap b o ?_ (Heap.get?_push_of_some _ (Heap.get?_push_of_some _ e))
      rw [q3]
      simp only [List.mem_cons, List.not_mem_nil, or_false, not_or]
      exact ⟨Nat.ne_of_lt e4, Nat.ne_of_lt (Nat.lt_succ_of_lt e4)⟩
    · match r2, hr2 with
      | .error e, hr2 => exact hr2
      | .ok (.ret v), hr2 =>
        obtain ⟨rfl, h', tk, c, rfl, a1, a2, a3⟩ := hr2
        repeat (any_goals (first | assumption | wp_step))
        exact k _ _ _ a1 a2 a3
end
section
variable {X : Cx}
/-- set(xs), a list of ints -/
def rSetInts (K : PySem.W.Frag) (w : World) : List V → Hp → VK → Prop := fun vs H Q => ∃ (l : Addr) (ns : List Int), vs = [V.ref l] ∧ SqL K H l (ns.map V.int) ∧ ns.length ≤ 1000 ∧ ∀ (p : Addr) (c : Nat), c ≤ ns.length → H p = none → Q (.ref p) (upd H p (SetO w p (fun j => decide (j ∈ ns)) c))
theorem cr_setL (hc : X.calm = true) : CallR X (.type "set") (rSetInts X.K X.w) := by
  intro pins s σ H vs us Q I r h
  obtain ⟨l, ns, rfl, hq, hl, q⟩ := h
  rw [Vals.ref1 r]
  obtain ⟨its, rv, pl, hz⟩ := I.list hq
  refine set_lst ns (I.ok.hd hc) pl.isList (show IntsAre its.toArray.toList ns from ints_of_vals rv) (by unfold scanBound; omega) fun h' tk c R hcn kk => ?_
  have hn : H s.heap.objs.size = none := I.hok.fresh (Nat.le_refl _)
  exact ⟨.ref _, upd H s.heap.objs.size (SetO X.w s.heap.objs.size (fun j => decide (j ∈ ns)) c), I.laid (t' := tk) kk (Nat.le_refl _) (setO_new R), rfl, q _ c hcn hn⟩
end
end L2
/-! The data layer, 12: loops by what holds ahead of a turn; minus, min, find, sorted(set(..)), text[::-1]. -/
namespace DL
open PySem L2 PySem.Spec PyProof.Rows
/-- a loop by what holds ahead of each turn -/
theorem loop_inv {γ : TDG} {τb : TDS} {PD : DEnds} (I : List D → Ev → Prop) : ∀ (ds : List D) (ρ : Ev), I ds ρ → (∀ d es ρ (R : Ev → Prop), I (d :: es) ρ → (∀ ρ', I es ρ' → R ρ') → γ d ρ fun ρ1 => τb { PD with nx := R, ct := R, bk := PD.nx } ρ1) → (∀ ρ, I [] ρ → PD.nx ρ) → loopD γ τb PD ds ρ
  | [], ρ, h, _, q => q ρ h
  | d :: ds, ρ, h, t, q => t d ds ρ _ h fun ρ' h' => loop_inv I ds ρ' h' t q
/-- a comprehension by what holds ahead of each turn -/
theorem lc_inv {vs : List Nat} {γ : TDG} {τt : TDT} {τe : TD} {P : List D → Ev → Prop} (I : List D → Ev → List D → Prop) : ∀ (ds : List D) (ρ : Ev) (acc : List D), I ds ρ acc →
    (∀ d es ρ acc (R : Ev → List D → Prop), I (d :: es) ρ acc → (∀ ρ' acc', I es ρ' acc' → R ρ' acc') → γ d ρ fun ρ1 => τt ρ1 fun b ρ2 => if b = true then τe ρ2 fun r ρ3 => acc.length < 16000 ∧ R (wipeD ρ3 vs) (acc ++ [r.dat]) else R (wipeD ρ2 vs) acc) →
    (∀ ρ acc, I [] ρ acc → P acc ρ) → lcD vs γ τt τe ds ρ acc P
  | [], ρ, acc, h, _, q => q ρ acc h
  | d :: ds, ρ, acc, h, t, q => t d ds ρ acc (fun ρ' acc' => lcD vs γ τt τe ds ρ' acc' P) h fun ρ' acc' h' => lc_inv I ds ρ' acc' h' t q
/-- a slot that is not a parameter's list -/
def NP : Option Sl → Prop
  | some (.ow true _) => False
  | _ => True
theorem pin_np {ρ : Ev} {i : Nat} {s : Option Sl} (h : ρ[i]? = some s) (n : NP s) : pinB ρ i = false := by
  unfold pinB
  rw [h]
  match s, n with
  | none, _ => rfl
  | some (.fz _), _ => rfl
  | some (.ow false _), _ => rfl
theorem At.none1 {P : Program} {w : World} {K : Fg} {mg : Str → Option Value} {base : Heap} {x : Str} {ps : List Str} {st : Stmt} {f : Addr} {fd : FuncData} {k n : Nat} {g : FS1} (A : At K mg x ps st f fd) (h : ∀ xs ds Q, ¬ g xs ds Q) : Fn1 P w K mg base x k n g :=
  A.fn1 ⟨fun vs H Q E ⟨_, _, _, _, xs, ds, P, _, _, _, _, _, _, _, hg, _⟩ => absurd hg (h xs ds P), fun _ _ _ _ _ _ _ _ _ _ _ _ _ ⟨_, _, _, _, xs, ds, P, _, _, _, _, _, _, _, hg, _⟩ => absurd hg (h xs ds P)⟩
section
variable {X : Cx} {pos p p2 q apos : Pos} {a b c e o : Expr} {es : List Expr} {τa τb τe τo : TD} {τs : TDA}
/-- -a -/
def tNegE (τ : TD) : TD := fun ρ P => τ ρ fun x ρ1 => ∃ i, x.dat = .int i ∧ P (.fz (.int (-i))) ρ1
theorem de_neg (ha : DE X a τa) : DE X (.UnaryOp .USub a pos) (tNegE τa) := by
  obtain ⟨ta, pa, sa⟩ := ha.fz
  refine DE.of (pe_un un_neg pa) fun σ H Hf ρ P Q e q k => sa σ H Hf ρ (fun d ρ1 => ∃ i, d = .int i ∧ P (.fz (.int (-i))) ρ1) _ e q fun v H1 Hf1 d ρ1 e1 m1 r1 ⟨i, hi, p1⟩ => ?_
  subst hi
  cases r1
  exact ⟨i, rfl, k _ H1 Hf1 (.fz (.int (-i))) ρ1 e1 m1 (.int _) p1⟩
theorem callS_min2 {K : Fg} : CallS K (fun xs H Q => ∃ i j, xs = [.int i, .int j] ∧ Q (.int (if j < i then j else i)) H) min2D := by
  intro H Hf xs ds c Q hf r hg k
  match ds, hg with
  | [.int i, .int j], hg =>
    cases r with
    | cons ra rs =>
      cases rs with
      | cons rb rs =>
        cases rs
        cases ra
        cases rb
        cases hg
        exact ⟨i, j, rfl, k _ _ _ (Ext.refl hf) (.int _)⟩
theorem de_min2 (hc : X.calm = true) (hg : Gl X "min") (hm : X.mg "min" = none) (ha : DA X (e :: es) τs) (he : starEach (e :: es) X.env = (false, eval e X.env) :: starEach es X.env := by rfl) (hpl : (backTo pos (starEach es X.env)).any (·.1) = false := by rfl) : DE X (.Call (.Name "min" p) (e :: es) [] pos) (tCallG min2D τs) := de_callB (call_min2 hc) callS_min2 hg hm (by decide +kernel) ha (he := he) (hpl := hpl)
/-- a text's method with one argument that is a text -/
def tMS1 (g : Str → Str → D) (τo τe : TD) : TD := fun ρ P => τo ρ fun x ρ1 => ∃ z, x.dat = .str z ∧ τe ρ1 fun y ρ2 => ∃ t, y.dat = .str t ∧ P (.fz (g z t)) ρ2
theorem de_find (ho : DE X o τo) (he : DE X e τe) (hs : starEach [e] X.env = [(false, eval e X.env)] := by rfl) (hbase : attributeBase o "find" X.env (eval o X.env) = eval o X.env := by rfl) (hline : (apos.endLine == pos.line) = true := by rfl) :
    DE X (.Call (.Attribute o "find" apos) [e] [] pos) (tMS1 (fun z t => .int (Txt.find z t)) τo τe) := by
  obtain ⟨to, po, so⟩ := ho.fz
  obtain ⟨te, pe, se⟩ := he.fz
  refine DE.of (pe_m1 F.slot_str_find F.type_str_find mt_find po pe hs hbase hline) fun σ H Hf ρ P Q e q k => ?_
  refine so σ H Hf ρ (fun x ρ1 => ∃ z, x = .str z ∧ τe ρ1 fun y ρ2 => ∃ t, y.dat = .str t ∧ P (.fz (.int (Txt.find z t))) ρ2) _ e q fun x H1 Hf1 dx ρ1 e1 m1 r1 ⟨z, hz, q1⟩ => ?_
  subst hz
  cases r1
  refine ⟨⟨_, rfl⟩, ?_⟩
  refine se σ H1 Hf1 ρ1 (fun y ρ2 => ∃ t, y = .str t ∧ P (.fz (.int (Txt.find z t))) ρ2) _ e1 q1 fun y H2 Hf2 dy ρ2 e2 m2 r2 ⟨t, ht, q2⟩ => ?_
  subst ht
  cases r2
  exact ⟨z, t, rfl, rfl, k _ H2 Hf2 (.fz (.int (Txt.find z t))) ρ2 e2 (m1.trans m2) (.int _) q2⟩
/-- sorted(set(xs)), a list of ints -/
def tSortSet (τ : TD) : TD := fun ρ P => τ ρ fun x ρ1 => ∃ ns : List Int, x.dat = .lst (ns.map D.int) ∧ ns.length < 64 ∧ ∀ ns' : List Int, ns'.Pairwise (· < ·) → (∀ k : Int, k ∈ ns' ↔ k ∈ ns) → P (.fr (ns'.map D.int)) ρ1
theorem de_sortset (hc : X.calm = true) (hg : Gl X "sorted") (hm : X.mg "sorted" = none) (hg2 : Gl X "set") (hm2 : X.mg "set" = none) (he : DE X e τe) (hs : starEach [e] X.env = (false, eval e X.env) :: starEach [] X.env := by rfl)
    (hs2 : starEach [.Call (.Name "set" p2) [e] [] q] X.env = (false, eval (.Call (.Name "set" p2) [e] [] q) X.env) :: starEach [] X.env := by rfl) :
    DE X (.Call (.Name "sorted" p) [.Call (.Name "set" p2) [e] [] q] [] pos) (tSortSet τe) := by
  obtain ⟨te, pe, se⟩ := he.fz
  refine DE.of (pe_callB (cr_sortedSet hc) hg hm (by decide +kernel) (pa_cons (pe_callTy (cr_setL hc) hg2 hm2 (by decide +kernel) (pa_cons pe pa_nil hs) (he := hs)) pa_nil hs2) (he := hs2)) fun σ H Hf ρ P Q e q k => ?_
  refine se σ H Hf ρ (fun x ρ1 => ∃ ns : List Int, x = .lst (ns.map D.int) ∧ ns.length < 64 ∧ ∀ ns' : List Int, ns'.Pairwise (· < ·) → (∀ k : Int, k ∈ ns' ↔ k ∈ ns) → P (.fr (ns'.map D.int)) ρ1) _ e q fun x H1 Hf1 dx ρ1 e1 m1 r1 ⟨ns, hx, hl, q1⟩ => ?_
  subst hx
  cases r1 with
  | lst hp rp =>
    have ev := rp.ints ((intsOf_map (fun n : Int => n) ns).trans (by rw [List.map_id'']; intro n; rfl))
    subst ev
    refine ⟨_, ns, rfl, .inl (.inl (e1.sub _ _ hp)), by omega, fun s c hcl hn => ?_⟩
    have x2 := Ext.add' e1.sub (SetO X.w s (fun j => decide (j ∈ ns)) c) hn
    refine ⟨s, _, c, rfl, upd_same, by omega, fun ns' p' h1 h2 h3 hn2 => ?_⟩
    have x3 := Ext.add' x2.sub (.lst (ns'.map V.int)) hn2
    have x := x2.trans x3
    refine k _ _ Hf1 (.fr (ns'.map D.int)) ρ1 (x.env e1) (m1.trans x.mv) ?_ (q1 ns' h1 fun k => by rw [h2 k]; exact decide_eq_true_iff)
    have hz := x2.live p' hn2
    refine ⟨p', ns'.map V.int, rfl, upd_same, ?_, m1.live p' hz, repL_ints ns'⟩
    cases hq : Hf1 p' with
    | none => rfl
    | some o => rw [e1.sub _ _ hq] at hz; cases hz
/-- z[::-1] -/
def revS (z : Str) : Str := ⟨((Builtin.Str.strSliceIndices none none (-1) z.length).filterMap (z.cps[·]?)).toArray⟩
theorem de_revS {k : Nat} {p1 p3 : Pos} (he : DE X e τe) : DE X (.Subscript e (.Slice none none (some (.UnaryOp .USub (.Constant (.int 1) k p1) p2)) p3) pos) (fun ρ P => τe ρ fun x ρ1 => ∃ z, x.dat = .str z ∧ (revS z).length ≤ 100000 ∧ P (.fz (.str (revS z))) ρ1) := by
  obtain ⟨te, pe, se⟩ := he.fz
  refine DE.of (t := fun σ H Q => te σ H fun x H1 => ∃ z, x = .str z ∧ (revS z).length ≤ 100000 ∧ Q (.str (revS z)) H1) ⟨fun pins s σ H Q I h => ?_⟩ fun σ H Hf ρ P Q e q k => ?_
  · refine Subscript_ (thn (pe.run pins s σ H _ I h) fun v s1 ⟨x, H1, I1, r1, q1⟩ => ?_)
    obtain ⟨z, rfl, hz, q⟩ := q1
    obtain ⟨t, rfl⟩ := r1
    have step : PO X (some (.UnaryOp .USub (.Constant (.int 1) k p1) p2)) _ := po_some (pe_un un_neg pe_int)
    refine wpAny_Slice (thn (po_none.run pins s1 σ H1 (fun o H2 => o = none ∧ H2 = H1) I1 ⟨rfl, rfl⟩) fun vl s2 ⟨l, H2, I2, pl, el, e2⟩ => ?_)
    subst el e2
    refine thn (po_none.run pins s2 σ H2 (fun o H3 => o = none ∧ H3 = H2) I2 ⟨rfl, rfl⟩) fun vu s3 ⟨u, H3, I3, pu, eu, e3⟩ => ?_
    subst eu e3
    refine thn (step.run pins s3 σ H3 (fun o H4 => o = some (-1) ∧ H4 = H3) I3 ⟨1, rfl, -1, rfl, rfl, rfl⟩) fun vs s4 ⟨o, H4, I4, ps, eo, e4⟩ => ?_
    subst eo e4
    cases pl
    cases pu
    cases ps with
    | int i tk =>
      have I5 : Inv X pins σ H4 { s4 with heap := s4.heap.push { cls := .type "slice", data := .fields #[.none, .none, .int (-1) tk] } } := I4.kept (t' := s4.toks) fun b ob q => Heap.get?_push_of_some _ q
      refine tail_any (o := .str z t) (i := .ref s4.heap.objs.size) (ops := [.str z t, .ref s4.heap.objs.size]) (typeIs_str _ _ _) F.slot_str_getitem.lookup ?_ (by with_unfolding_all rfl)
      refine wpAny_getItem_str_slice (l := none) (u := none) (st := some (-1, tk)) ⟨_, Heap.get?_push_size _ rfl, rfl, rfl⟩ rfl ?_
      exact ⟨Nat.le_trans hz (by decide), .str (revS z), H4, I5.tok _, ⟨_, rfl⟩, q⟩
  · refine se σ H Hf ρ (fun x ρ1 => ∃ z, x = .str z ∧ (revS z).length ≤ 100000 ∧ P (.fz (.str (revS z))) ρ1) _ e q fun x H1 Hf1 dx ρ1 e1 m1 r1 ⟨z, hz, hl, q1⟩ => ?_
    subst hz
    cases r1
    exact ⟨z, rfl, hl, k _ H1 Hf1 (.fz (.str (revS z))) ρ1 e1 m1 (.str _) q1⟩
end
end DL
/-! The data layer, 13: joins behind tests. -/
namespace DL
open PySem L2
theorem ite_cut {c : Bool} {τ1 τ2 : TDS} {PD : DEnds} {ρ : Ev} (I : Ev → Prop) (h : ∀ R : Ev → Prop, (∀ ρ', I ρ' → R ρ') → if c = true then τ1 { PD with nx := R } ρ else τ2 { PD with nx := R } ρ) (h2 : ∀ ρ', I ρ' → PD.nx ρ') : if c = true then τ1 PD ρ else τ2 PD ρ := h PD.nx h2
/-- both ways set the slot i to d -/
theorem ite_set {c : Bool} {τ1 τ2 : TDS} {PD : DEnds} {ρ : Ev} (i : Nat) (d : D) (h : ∀ R : Ev → Prop, R (ρ.set i (some (.fz d))) → if c = true then τ1 { PD with nx := R } ρ else τ2 { PD with nx := R } ρ) (h2 : PD.nx (ρ.set i (some (.fz d)))) : if c = true then τ1 PD ρ else τ2 PD ρ := h PD.nx h2
theorem iteE_cut {c : Bool} {τ1 τ2 : TD} {P : Res → Ev → Prop} {ρ : Ev} (r : Res) (h : ∀ P' : Res → Ev → Prop, P' r ρ → if c = true then τ1 ρ P' else τ2 ρ P') (h2 : P r ρ) : if c = true then τ1 ρ P else τ2 ρ P := h P h2
/-- a and b -/
theorem and_cut {c : Bool} {τ : TD} {P : Res → Ev → Prop} {ρ : Ev} (b : Bool) (h1 : c = true → ∀ P' : Res → Ev → Prop, P' (.fz (.bl b)) ρ → τ ρ P') (h2 : c = false → b = false) (h3 : P (.fz (.bl b)) ρ) : if c = true then τ ρ P else P (.fz (.bl false)) ρ := by
  cases c with
  | true => exact h1 rfl P h3
  | false => rw [h2 rfl] at h3; exact h3
theorem or_cut {c : Bool} {τ : TD} {P : Res → Ev → Prop} {ρ : Ev} (b : Bool) (h1 : c = false → ∀ P' : Res → Ev → Prop, P' (.fz (.bl b)) ρ → τ ρ P') (h2 : c = true → b = true) (h3 : P (.fz (.bl b)) ρ) : if c = true then P (.fz (.bl true)) ρ else τ ρ P := by
  cases c with
  | false => exact h1 rfl P h3
  | true => rw [h2 rfl] at h3; exact h3
/-- the tests of ifs -/
theorem andT_cut {c : Bool} {τ : TDT} {P : Bool → Ev → Prop} {ρ : Ev} (b : Bool) (h1 : c = true → ∀ P' : Bool → Ev → Prop, P' b ρ → τ ρ P') (h2 : c = false → b = false) (h3 : P b ρ) : if c = true then τ ρ P else P false ρ := by
  cases c with
  | true => exact h1 rfl P h3
  | false => rw [h2 rfl] at h3; exact h3
theorem orT_cut {c : Bool} {τ : TDT} {P : Bool → Ev → Prop} {ρ : Ev} (b : Bool) (h1 : c = false → ∀ P' : Bool → Ev → Prop, P' b ρ → τ ρ P') (h2 : c = true → b = true) (h3 : P b ρ) : if c = true then P true ρ else τ ρ P := by
  cases c with
  | false => exact h1 rfl P h3
  | true => rw [h2 rfl] at h3; exact h3
end DL
/-! Patterns as plain Lean: values, expressions, widths. -/
namespace Cut
open PySem L2 DL
/-! ### values -/
mutual
def val : D → Bool
  | .non | .bl _ | .int _ => true
  | .str s => decide (s.length ≤ 10000)
  | .tup ds => decide (ds.length ≤ 10000) && valL ds
  | .lst ds => decide (ds.length ≤ 10000) && valL ds
  | _ => false
def valL : List D → Bool
  | [] => true
  | d :: ds => val d && valL ds
end
mutual
def dep : D → Nat
  | .tup ds => depL ds + 1
  | .lst ds => depL ds + 1
  | _ => 0
def depL : List D → Nat
  | [] => 0
  | d :: ds => max (dep d) (depL ds)
end
theorem valL_mem : ∀ {ds : List D}, valL ds = true → ∀ d ∈ ds, val d = true
  | _ :: _, h, d, hd => by
    rw [valL, Bool.and_eq_true] at h
    rcases List.mem_cons.mp hd with e | e
    · rw [e]; exact h.1
    · exact valL_mem h.2 d e
theorem depL_mem : ∀ {ds : List D} {n : Nat}, depL ds < n → ∀ d ∈ ds, dep d < n
  | _ :: _, n, h, d, hd => by
    rw [depL] at h
    rcases List.mem_cons.mp hd with e | e
    · rw [e]; omega
    · exact depL_mem (by omega) d e
/-! ### expressions over an alphabet -/
def isInt : D → Bool
  | .int _ => true
  | _ => false
def isSetM (A : Str) : List D → Bool
  | [.str s] => decide (s = ofL (A.cps.toList.filter fun c => decide (c ∈ s.cps.toList)))
  | _ => false
def hiB (l : Int) : D → Bool
  | .non => true
  | .int h => decide (l ≤ h) && decide (h ≤ 4)
  | _ => false
def loB (hi : D) : D → Bool
  | .int l => decide (0 ≤ l) && decide (l ≤ 4) && hiB l hi
  | _ => false
def againB : List D → List Bool → Bool
  | [_, lo, hi], [b, _, _] => b && loB hi lo
  | _, _ => false
def exprB (A w : Str) (ps : List D) (bs : List Bool) : Bool :=
  if w = "set" then isSetM A ps else if w = "again" then againB ps bs else
  if (w = "not" ∧ ps.length ≠ 1) ∨ ¬ (w = "row" ∨ w = "any" ∨ w = "all" ∨ w = "not") then false else bs.all id
mutual
def isExpr (A : Str) : D → Bool
  | .tup (.str w :: ps) => exprB A w ps (isExprM A ps)
  | _ => false
def isExprM (A : Str) : List D → List Bool
  | [] => []
  | d :: ds => isExpr A d :: isExprM A ds
end
theorem isExprM_map (A : Str) : ∀ ds, isExprM A ds = ds.map (isExpr A)
  | [] => rfl
  | d :: ds => by rw [isExprM, isExprM_map A ds]; rfl
theorem k1 : ¬ (("row" : Str) = "set") := by decide +kernel
theorem k2 : ¬ (("row" : Str) = "again") := by decide +kernel
theorem k3 : ¬ (("row" : Str) = "not") := by decide +kernel
theorem k4 : ¬ (("any" : Str) = "set") := by decide +kernel
theorem k5 : ¬ (("any" : Str) = "again") := by decide +kernel
theorem k6 : ¬ (("any" : Str) = "not") := by decide +kernel
theorem k7 : ¬ (("all" : Str) = "set") := by decide +kernel
theorem k8 : ¬ (("all" : Str) = "again") := by decide +kernel
theorem k9 : ¬ (("all" : Str) = "not") := by decide +kernel
theorem k10 : ¬ (("not" : Str) = "set") := by decide +kernel
theorem k11 : ¬ (("not" : Str) = "again") := by decide +kernel
theorem k12 : ¬ (("again" : Str) = "set") := by decide +kernel
theorem k13 : ¬ (("set" : Str) = "again") := by decide +kernel
theorem k14 : ¬ (("any" : Str) = "row") := by decide +kernel
theorem k15 : ¬ (("all" : Str) = "row") := by decide +kernel
theorem k16 : ¬ (("not" : Str) = "row") := by decide +kernel
theorem k17 : ¬ (("again" : Str) = "row") := by decide +kernel
theorem k18 : ¬ (("set" : Str) = "row") := by decide +kernel
theorem k19 : ¬ (("row" : Str) = "all") := by decide +kernel
theorem k20 : ¬ (("any" : Str) = "all") := by decide +kernel
theorem k21 : ¬ (("not" : Str) = "all") := by decide +kernel
theorem k22 : ¬ (("again" : Str) = "all") := by decide +kernel
theorem k23 : ¬ (("set" : Str) = "all") := by decide +kernel
theorem k24 : ¬ (("set" : Str) = "not") := by decide +kernel
theorem k25 : ¬ (("again" : Str) = "not") := by decide +kernel
theorem k26 : ¬ (("all" : Str) = "any") := by decide +kernel
theorem k27 : ¬ (("row" : Str) = "any") := by decide +kernel
theorem k28 : ¬ (("not" : Str) = "any") := by decide +kernel
theorem k29 : ¬ (("again" : Str) = "any") := by decide +kernel
theorem k30 : ¬ (("set" : Str) = "any") := by decide +kernel
/-! ### patterns as a datatype -/
inductive Rx where
  | set (s : Str) | row (ps : List Rx) | any (ps : List Rx) | all (ps : List Rx) | no (p : Rx) | again (p : Rx) (lo : Int) (hi : Option Int)
def hiD : Option Int → D
  | none => .non
  | some h => .int h
mutual
def toD : Rx → D
  | .set s => .tup [.str "set", .str s]
  | .row ps => .tup (.str "row" :: toDL ps)
  | .any ps => .tup (.str "any" :: toDL ps)
  | .all ps => .tup (.str "all" :: toDL ps)
  | .no p => .tup [.str "not", toD p]
  | .again p lo hi => .tup [.str "again", toD p, .int lo, hiD hi]
def toDL : List Rx → List D
  | [] => []
  | p :: ps => toD p :: toDL ps
end
theorem toDL_map : ∀ ps, toDL ps = ps.map toD
  | [] => rfl
  | p :: ps => by rw [toDL, toDL_map ps]; rfl
theorem toDL_len (ps : List Rx) : (toDL ps).length = ps.length := by rw [toDL_map, List.length_map]
def Rx.word : Rx → Str
  | .set _ => "set" | .row _ => "row" | .any _ => "any" | .all _ => "all" | .no _ => "not" | .again _ _ _ => "again"
def Rx.parts : Rx → List Rx
  | .set _ => []
  | .row ps | .any ps | .all ps => ps
  | .no p => [p]
  | .again p _ _ => [p]
def Rx.tail : Rx → List D
  | .set s => [.str s]
  | .row ps | .any ps | .all ps => toDL ps
  | .no p => [toD p]
  | .again p lo hi => [toD p, .int lo, hiD hi]
theorem toD_eq (r : Rx) : toD r = .tup (.str r.word :: r.tail) := by cases r <;> simp [toD, Rx.word, Rx.tail]
mutual
def rdep : Rx → Nat
  | .set _ => 0
  | .row ps | .any ps | .all ps => rdepL ps + 1
  | .no p => rdep p + 1
  | .again p _ _ => rdep p + 1
def rdepL : List Rx → Nat
  | [] => 0
  | p :: ps => max (rdep p) (rdepL ps)
end
theorem rdepL_mem : ∀ {ps : List Rx} {n : Nat}, rdepL ps < n → ∀ p ∈ ps, rdep p < n
  | _ :: _, n, h, d, hd => by
    rw [rdepL] at h
    rcases List.mem_cons.mp hd with e | e
    · rw [e]; omega
    · exact rdepL_mem (by omega) d e
theorem rdep_parts {r : Rx} {n : Nat} (h : rdep r < n + 1) (h0 : r.parts ≠ []) : ∀ p ∈ r.parts, rdep p < n := by
  intro p hp
  cases r with
  | set s => cases hp
  | row ps => rw [rdep] at h; exact rdepL_mem (ps := ps) (by omega) p hp
  | any ps => rw [rdep] at h; exact rdepL_mem (ps := ps) (by omega) p hp
  | all ps => rw [rdep] at h; exact rdepL_mem (ps := ps) (by omega) p hp
  | no q =>
    rw [rdep] at h
    rw [List.mem_singleton.mp hp]
    omega
  | again q lo hi =>
    rw [rdep] at h
    rw [List.mem_singleton.mp hp]
    omega
/-! the numbers of agains within their bounds, not too many parts -/
def hiOk (lo : Int) : Option Int → Bool
  | none => true
  | some h => decide (lo ≤ h) && decide (h ≤ 4)
mutual
def okR : Rx → Bool
  | .set s => decide (s.length ≤ 10000)
  | .row ps | .any ps | .all ps => decide (ps.length ≤ 9999) && okRL ps
  | .no p => okR p
  | .again p lo hi => okR p && decide (0 ≤ lo) && decide (lo ≤ 4) && hiOk lo hi
def okRL : List Rx → Bool
  | [] => true
  | p :: ps => okR p && okRL ps
end
theorem okRL_mem : ∀ {ps : List Rx}, okRL ps = true → ∀ p ∈ ps, okR p = true
  | _ :: _, h, d, hd => by
    rw [okRL, Bool.and_eq_true] at h
    rcases List.mem_cons.mp hd with e | e
    · rw [e]; exact h.1
    · exact okRL_mem h.2 d e
theorem okR_parts {r : Rx} (h : okR r = true) : ∀ p ∈ r.parts, okR p = true := by
  intro p hp
  cases r with
  | set s => cases hp
  | row ps => rw [okR, Bool.and_eq_true] at h; exact okRL_mem h.2 p hp
  | any ps => rw [okR, Bool.and_eq_true] at h; exact okRL_mem h.2 p hp
  | all ps => rw [okR, Bool.and_eq_true] at h; exact okRL_mem h.2 p hp
  | no q =>
    rw [okR] at h
    rw [List.mem_singleton.mp hp]
    exact h
  | again q lo hi =>
    rw [okR, Bool.and_eq_true, Bool.and_eq_true, Bool.and_eq_true] at h
    rw [List.mem_singleton.mp hp]
    exact h.1.1.1
theorem okR_len {r : Rx} (h : okR r = true) : r.parts.length ≤ 9999 := by
  cases r with
  | set s => exact Nat.zero_le _
  | row ps => rw [okR, Bool.and_eq_true] at h; exact of_decide_eq_true h.1
  | any ps => rw [okR, Bool.and_eq_true] at h; exact of_decide_eq_true h.1
  | all ps => rw [okR, Bool.and_eq_true] at h; exact of_decide_eq_true h.1
  | no q => show 1 ≤ 9999; decide
  | again q lo hi => show 1 ≤ 9999; decide
def mx1 (j : Int) : Int := if j > 1 then j else 1
def Rx.fac : Rx → Int
  | .again _ lo none => lo + 1
  | .again _ _ (some h) => mx1 h
  | _ => 1
mutual
def wd : Rx → Int
  | .set _ => 1
  | .row ps | .any ps | .all ps => mx1 (wdL ps).sum
  | .no p => mx1 (wd p)
  | .again p lo none => mx1 (wd p) * (lo + 1)
  | .again p lo (some h) => mx1 (wd p) * mx1 h
def wdL : List Rx → List Int
  | [] => []
  | p :: ps => wd p :: wdL ps
end
theorem wdL_map : ∀ ps, wdL ps = ps.map wd
  | [] => rfl
  | p :: ps => by rw [wdL, wdL_map ps]; rfl
mutual
def cnt : Rx → Int
  | .set _ => 1
  | .row ps | .any ps | .all ps => 1 + (cntL ps).sum
  | .no p => 1 + cnt p
  | .again p _ _ => 1 + cnt p
def cntL : List Rx → List Int
  | [] => []
  | p :: ps => cnt p :: cntL ps
end
theorem cntL_map : ∀ ps, cntL ps = ps.map cnt
  | [] => rfl
  | p :: ps => by rw [cntL, cntL_map ps]; rfl
theorem cnt_eq (r : Rx) : cnt r = 1 + (r.parts.map cnt).sum := by
  cases r <;> simp [cnt, Rx.parts, cntL_map]
mutual
def plain : Rx → Bool
  | .set _ => true
  | .row ps | .any ps => (plainL ps).all id
  | .all _ | .no _ => false
  | .again p _ _ => plain p
def plainL : List Rx → List Bool
  | [] => []
  | p :: ps => plain p :: plainL ps
end
theorem plainL_map : ∀ ps, plainL ps = ps.map plain
  | [] => rfl
  | p :: ps => by rw [plainL, plainL_map ps]; rfl
theorem plain_eq (r : Rx) : plain r = (!(decide (r.word = "all") || decide (r.word = "not")) && (r.parts.map plain).all id) := by
  cases r <;> simp [plain, Rx.parts, plainL_map, Rx.word, k19, k3, k20, k6, k22, k25, k23, k24]
mutual
def hasP : Rx → Bool
  | .set _ => true
  | .row ps => (plainL ps).all id
  | .again p _ _ => plain p
  | .any ps | .all ps => (hasPL ps).all id
  | .no p => hasP p
def hasPL : List Rx → List Bool
  | [] => []
  | p :: ps => hasP p :: hasPL ps
end
theorem hasPL_map : ∀ ps, hasPL ps = ps.map hasP
  | [] => rfl
  | p :: ps => by rw [hasPL, hasPL_map ps]; rfl
theorem hasP_eq (r : Rx) : hasP r = if r.word = "row" ∨ r.word = "again" then plain r else (r.parts.map hasP).all id := by
  cases r <;> simp [hasP, plain, Rx.parts, hasPL_map, Rx.word, k18, k13, k14, k5, k15, k8, k16, k11]
mutual
theorem toD_inj : ∀ r r', toD r = toD r' → r = r'
  | .set s, r', h => by
    cases r' <;> simp [toD, k1, k4, k7, k10, k12, k13, k18, k23, k24, k30] at h
    rw [h]
  | .row ps, r', h => by
    cases r' <;> simp [toD, k1, k2, k3, k14, k15, k16, k17, k18, k19, k27] at h
    rw [toDL_inj _ _ h]
  | .any ps, r', h => by
    cases r' <;> simp [toD, k4, k5, k6, k14, k20] at h
    rw [toDL_inj _ _ h]
  | .all ps, r', h => by
    cases r' <;> simp [toD, k7, k8, k9, k15, k26] at h
    rw [toDL_inj _ _ h]
  | .no p, r', h => by
    cases r' <;> simp [toD, k10, k11, k16, k21, k28] at h
    rw [toD_inj _ _ h]
  | .again p lo hi, r', h => by
    cases r' <;> simp [toD, k12, k17, k22, k25, k29] at h
    rename_i p' lo' hi'
    obtain ⟨h1, h2, h3⟩ := h
    rw [toD_inj _ _ h1, h2]
    cases hi <;> cases hi' <;> simp [hiD] at h3
    · rfl
    · rw [h3]
theorem toDL_inj : ∀ ps ps', toDL ps = toDL ps' → ps = ps'
  | [], [], _ => rfl
  | [], _ :: _, h => by simp [toDL] at h
  | _ :: _, [], h => by simp [toDL] at h
  | p :: ps, p' :: ps', h => by
    simp only [toDL, List.cons.injEq] at h
    rw [toD_inj _ _ h.1, toDL_inj _ _ h.2]
end
def patR (r : Rx) : Bool := hasP r && (decide (cnt r ≤ 20) && decide (wd r ≤ 10))
theorem cutD_1 (x : D) (xs : List D) : cutD (x :: xs) (some 1) none = xs := by
  unfold cutD
  have h1 : HT.sIx (x :: xs).length 0 (some 1) = 1 := by
    have := HT.sIx_nat (x :: xs).length 0 1
    rw [List.length_cons] at this
    exact this.trans (by omega)
  rw [h1, show HT.sIx (x :: xs).length (x :: xs).length none = (x :: xs).length from rfl, List.length_cons, Nat.add_sub_cancel]
  exact List.take_length
/-! ### what is an expression is a pattern's value -/
mutual
theorem ofExpr (A : Str) : ∀ d, val d = true → isExpr A d = true → ∃ r, d = toD r ∧ okR r = true ∧ rdep r ≤ dep d
  | .tup (.str w :: ps), hv, h => by
    rw [isExpr] at h
    rw [val, Bool.and_eq_true, valL, Bool.and_eq_true] at hv
    have hl : ps.length + 1 ≤ 10000 := by have := of_decide_eq_true hv.1; simpa using this
    unfold exprB at h
    by_cases h1 : w = "set"
    · rw [if_pos h1] at h
      subst h1
      unfold isSetM at h
      split at h
      · rename_i s
        have hs : val (.str s) = true := by have := hv.2.2; rw [valL, Bool.and_eq_true] at this; exact this.1
        rw [val] at hs
        exact ⟨.set s, by rw [toD], by rw [okR]; exact hs, by rw [rdep]; exact Nat.zero_le _⟩
      · cases h
    rw [if_neg h1] at h
    by_cases h2 : w = "again"
    · rw [if_pos h2] at h
      subst h2
      match ps, h, hv with
      | [p, lo, hi], h, hv =>
        rw [isExprM, isExprM, isExprM, isExprM, againB, Bool.and_eq_true] at h
        have hv2 := hv.2.2
        rw [valL, Bool.and_eq_true] at hv2
        obtain ⟨r, e, o, dd⟩ := ofExpr A p hv2.1 h.1
        have hlo := h.2
        unfold loB at hlo
        split at hlo
        · rename_i l
          rw [Bool.and_eq_true, Bool.and_eq_true] at hlo
          obtain ⟨⟨q1, q2⟩, q3⟩ := hlo
          have hd : rdep r + 1 ≤ dep (.tup [.str "again", p, .int l, hi]) := by
            rw [dep, depL, depL]
            omega
          unfold hiB at q3
          split at q3
          · exact ⟨.again r l none, by rw [toD, e]; rfl, by rw [okR, o, q1, q2]; rfl, by rw [rdep]; exact hd⟩
          · rename_i hh
            exact ⟨.again r l (some hh), by rw [toD, e]; rfl, by rw [okR, o, q1, q2]; simpa [hiOk] using q3, by rw [rdep]; exact hd⟩
          · cases q3
        · cases hlo
      | [], h, _ => simp [againB] at h
      | [_], h, _ => simp [againB, isExprM] at h
      | [_, _], h, _ => simp [againB, isExprM] at h
      | _ :: _ :: _ :: _ :: _, h, _ => simp [againB, isExprM] at h
    rw [if_neg h2] at h
    by_cases h3 : (w = "not" ∧ ps.length ≠ 1) ∨ ¬ (w = "row" ∨ w = "any" ∨ w = "all" ∨ w = "not")
    · rw [if_pos h3] at h
      cases h
    rw [if_neg h3] at h
    obtain ⟨rs, e, o, dd⟩ := ofExprL A ps hv.2.2 h
    have hd : rdepL rs + 1 ≤ dep (.tup (.str w :: ps)) := by
      rw [dep, depL]
      omega
    have hlr : rs.length = ps.length := by rw [e, toDL_len]
    have ho : (decide (rs.length ≤ 9999) && okRL rs) = true := by rw [decide_eq_true (by omega), o]; rfl
    by_cases w1 : w = "not"
    · subst w1
      have l1 : ps.length = 1 := Classical.byContradiction fun z => h3 (.inl ⟨rfl, z⟩)
      match rs, hlr, e, ho, hd, o with
      | [r], _, e, _, hd, o =>
        rw [okRL, okRL, Bool.and_true] at o
        exact ⟨.no r, by rw [toD, e]; rfl, by rw [okR]; exact o, by rw [rdep]; rw [rdepL, rdepL] at hd; omega⟩
      | [], hlr, _, _, _, _ => simp at hlr; omega
      | _ :: _ :: _, hlr, _, _, _, _ => simp at hlr; omega
    have w2 : w = "row" ∨ w = "any" ∨ w = "all" := by
      rcases Classical.not_not.mp (fun z => h3 (.inr z)) with z | z | z | z
      · exact .inl z
      · exact .inr (.inl z)
      · exact .inr (.inr z)
      · exact absurd z w1
    rcases w2 with rfl | rfl | rfl
    · exact ⟨.row rs, by rw [toD, e], by rw [okR]; exact ho, by rw [rdep]; exact hd⟩
    · exact ⟨.any rs, by rw [toD, e], by rw [okR]; exact ho, by rw [rdep]; exact hd⟩
    · exact ⟨.all rs, by rw [toD, e], by rw [okR]; exact ho, by rw [rdep]; exact hd⟩
  | .tup [], _, h => by simp [isExpr] at h
  | .tup (.non :: _), _, h => by simp [isExpr] at h
  | .tup (.bl _ :: _), _, h => by simp [isExpr] at h
  | .tup (.int _ :: _), _, h => by simp [isExpr] at h
  | .tup (.tup _ :: _), _, h => by simp [isExpr] at h
  | .tup (.lst _ :: _), _, h => by simp [isExpr] at h
  | .tup (.obj _ _ :: _), _, h => by simp [isExpr] at h
  | .tup (.ty _ :: _), _, h => by simp [isExpr] at h
  | .tup (.raw _ :: _), _, h => by simp [isExpr] at h
  | .tup (.scr _ :: _), _, h => by simp [isExpr] at h
  | .non, _, h => by simp [isExpr] at h
  | .bl _, _, h => by simp [isExpr] at h
  | .int _, _, h => by simp [isExpr] at h
  | .str _, _, h => by simp [isExpr] at h
  | .lst _, _, h => by simp [isExpr] at h
  | .obj _ _, _, h => by simp [isExpr] at h
  | .ty _, _, h => by simp [isExpr] at h
  | .raw _, _, h => by simp [isExpr] at h
  | .scr _, _, h => by simp [isExpr] at h
theorem ofExprL (A : Str) : ∀ ds, valL ds = true → (isExprM A ds).all id = true → ∃ rs, ds = toDL rs ∧ okRL rs = true ∧ rdepL rs ≤ depL ds
  | [], _, _ => ⟨[], rfl, rfl, Nat.le_refl _⟩
  | d :: ds, hv, h => by
    rw [valL, Bool.and_eq_true] at hv
    rw [isExprM, List.all_cons, Bool.and_eq_true] at h
    obtain ⟨r, e, o, dd⟩ := ofExpr A d hv.1 h.1
    obtain ⟨rs, e2, o2, d2⟩ := ofExprL A ds hv.2 h.2
    exact ⟨r :: rs, by rw [toDL, ← e, ← e2], by rw [okRL, o, o2]; rfl, by rw [rdepL, depL]; omega⟩
end
end Cut
namespace Cut
open PySem L2 DL
def top (i : Nat) : Stmt := PySem.Challenge.pw_cutscribe_k81_notations_spoilt.main.body.getD i (.Pass ⟨0, 0, 0, 0⟩)
local macro_rules | `(tactic| walk_at "s") => `(tactic| repeat (first | with_reducible refine ⟨_, rfl, ?_⟩ | refine ⟨_, rfl, ?_⟩ | refine ⟨rfl, ?_⟩ | refine ⟨_, _, rfl, rfl, ?_⟩ | refine ⟨_, _, rfl, ?_⟩ | refine iteT ?_ | refine iteF ?_ | refine ⟨⟨_, rfl⟩, ?_⟩ | refine ⟨Nat.le_of_ble_eq_true rfl, ?_⟩ | refine ⟨(by decide), ?_⟩ | refine ⟨_, ix_t0 _ _, ?_⟩ | refine ⟨_, ix_l0 _ _, ?_⟩))
abbrev s_is_integer : Stmt := top 8
abbrev N_is_integer : List Str := ["value"]
theorem sc_is_integer : FnScope N_is_integer ["value"] (defScope s_is_integer) := ⟨rfl, rfl, rfl, by decide +kernel, rfl, by decide +kernel, by decide +kernel⟩
abbrev s_is_set : Stmt := top 9
abbrev N_is_set : List Str := ["alphabet", "parts", "character"]
theorem sc_is_set : FnScope N_is_set ["alphabet", "parts"] (defScope s_is_set) := ⟨rfl, rfl, rfl, by decide +kernel, rfl, by decide +kernel, by decide +kernel⟩
abbrev s_is_again : Stmt := top 10
abbrev N_is_again : List Str := ["alphabet", "parts", "low", "high"]
theorem sc_is_again : FnScope N_is_again ["alphabet", "parts"] (defScope s_is_again) := ⟨rfl, rfl, rfl, by decide +kernel, rfl, by decide +kernel, by decide +kernel⟩
abbrev s_is_expression : Stmt := top 11
abbrev N_is_expression : List Str := ["alphabet", "value", "word", "parts", "part"]
theorem sc_is_expression : FnScope N_is_expression ["alphabet", "value"] (defScope s_is_expression) := ⟨rfl, rfl, rfl, by decide +kernel, rfl, by decide +kernel, by decide +kernel⟩
abbrev s_parts_of : Stmt := top 12
abbrev N_parts_of : List Str := ["expression"]
theorem sc_parts_of : FnScope N_parts_of ["expression"] (defScope s_parts_of) := ⟨rfl, rfl, rfl, by decide +kernel, rfl, by decide +kernel, by decide +kernel⟩
abbrev s_count_tuples : Stmt := top 13
abbrev N_count_tuples : List Str := ["expression", "part"]
theorem sc_count_tuples : FnScope N_count_tuples ["expression"] (defScope s_count_tuples) := ⟨rfl, rfl, rfl, by decide +kernel, rfl, by decide +kernel, by decide +kernel⟩
abbrev s_width : Stmt := top 14
abbrev N_width : List Str := ["expression", "total", "part", "low", "high"]
theorem sc_width : FnScope N_width ["expression"] (defScope s_width) := ⟨rfl, rfl, rfl, by decide +kernel, rfl, by decide +kernel, by decide +kernel⟩
abbrev s_is_plain : Stmt := top 15
abbrev N_is_plain : List Str := ["expression", "part"]
theorem sc_is_plain : FnScope N_is_plain ["expression"] (defScope s_is_plain) := ⟨rfl, rfl, rfl, by decide +kernel, rfl, by decide +kernel, by decide +kernel⟩
abbrev s_has_plain_repeats : Stmt := top 16
abbrev N_has_plain_repeats : List Str := ["expression", "part"]
theorem sc_has_plain_repeats : FnScope N_has_plain_repeats ["expression"] (defScope s_has_plain_repeats) := ⟨rfl, rfl, rfl, by decide +kernel, rfl, by decide +kernel, by decide +kernel⟩
abbrev s_is_pattern : Stmt := top 17
abbrev N_is_pattern : List Str := ["alphabet", "value"]
theorem sc_is_pattern : FnScope N_is_pattern ["alphabet", "value"] (defScope s_is_pattern) := ⟨rfl, rfl, rfl, by decide +kernel, rfl, by decide +kernel, by decide +kernel⟩
section
variable {P : Program} {w : World} {K : Fg} {mg : Str → Option Value} {base : Heap} {f f2 : Addr} {fd fd2 : FuncData}
def D.top : D → Bool
  | .non | .bl _ | .int _ | .str _ | .tup _ | .lst _ => true
  | _ => false
theorem val_top {d : D} (h : val d = true) : D.top d = true := by cases d <;> first | rfl | (simp [val] at h)
def g_is_integer : FS0 := fun ds Q => ∃ d, ds = [d] ∧ D.top d = true ∧ Q (.fz (.bl (isInt d)))
theorem ok_is_integer (A : At K mg "is_integer" ["value"] s_is_integer f fd) (m_isinstance : mg "isinstance" = none) (m_int : mg "int" = none) (m_bool : mg "bool" = none) : Fn0 P w K mg base "is_integer" 1 1 g_is_integer := by
  refine A.fn0 (okD0 (k := 0) A.fn sc_is_integer (by decide) (fun cdv A outer s H E hr => (dss_one (ds_ret (de_and (de_isi (by rfl) m_isinstance (da_cons (de_v 0) (da_cons (de_ty (n := "int") (by rfl) m_int (by decide +kernel)) da_nil))) (de_one (de_not (de_isi (by rfl) m_isinstance (da_cons (de_v 0) (da_cons (de_ty (n := "bool") (by rfl) m_bool (by decide +kernel)) da_nil))))))))) ?_)
  rintro ds Q hl ⟨d, rfl, ht, q⟩
  cases d <;> first | (simp [D.top] at ht; done) | skip
  all_goals (walk_at "s"; exact q)
def g_is_set : FS0 := fun ds Q => ∃ A ps, ds = [.str A, .lst ps] ∧ A.length ≤ 1000 ∧ valL ps = true ∧ Q (.fz (.bl (isSetM A ps)))
theorem isSetM_2 (A : Str) (a b : D) (t : List D) : isSetM A (a :: b :: t) = false := by cases a <;> rfl
theorem ok_is_set (A : At K mg "is_set" ["alphabet", "parts"] s_is_set f fd) (m_isinstance : mg "isinstance" = none) (m_str : mg "str" = none) (m_len : mg "len" = none) : Fn0 P w K mg base "is_set" 1 2 g_is_set := by
  refine A.fn0 (okD0 (k := 0) A.fn sc_is_set (by decide) (fun cdv A outer s H E hr => (dss_cons (ds_if (DW.dt (dw_or (dt_ne hr (de_len (by rfl) m_len (da_cons (de_v 1) da_nil)) de_int) (dw_or1 (dt_not (dt_val (de_isi (by rfl) m_isinstance (da_cons (de_ix (de_v 1) de_int (fun _ _ => rfl)) (da_cons (de_ty (n := "str") (by rfl) m_str (by decide +kernel)) da_nil)))))))) (dss_one (ds_ret de_bl)) dss_nil)
      (dss_one (ds_ret (de_eq hr (de_ix (de_v 1) de_int (fun _ _ => rfl)) (de_join de_str (de_lc (own := [("character", 2)]) rfl sc_is_set.nd (di_seq (de_v 0)) (blkOk_by (N := N_is_set) (sc := defScope s_is_set) (own := [("character", 2)]) (by decide +kernel)) (fun _ _ _ _ _ => (dg_n 2 sc_is_set.nd rfl (by first | exact Or.inl rfl | exact Or.inr rfl))) (fun _ _ _ _ _ => (dts_one (dt_in (de_v 2) (de_ix (de_v 1) de_int (fun _ _ => rfl))))) (fun _ _ _ _ _ => (de_v 2))))))))) ?_)
  rintro ds Q hl ⟨A, ps, rfl, hA, hv, q⟩
  match ps, hv, q with
  | [], _, q => walk_at "s"; exact q
  | [d], hv, q =>
    rw [valL, valL, Bool.and_true] at hv
    cases d <;> first | (simp [val] at hv; done) | skip
    all_goals (walk_at "s")
    all_goals try exact q
    rename_i s
    refine lc_pure (φ := fun c => .str ⟨#[c]⟩) (b := fun c => decide (c ∈ s.cps.toList)) (f := fun c => .str ⟨#[c]⟩) rfl rfl A.cps.toList [] (fun c _ Q q => ⟨_, rfl, _, rfl, _, rfl, _, rfl, _, rfl, q⟩) (fun c _ _ Q q => ⟨_, rfl, q _ rfl⟩) (by rw [← len_l]; simpa using Nat.le_trans hA (by decide)) ?_
    refine ⟨_, joinD_signs _ ?_, _, rfl, ?_⟩
    · have := List.length_filter_le (fun c => decide (c ∈ s.cps.toList)) A.cps.toList
      rw [← len_l] at this
      omega
    · have e : isSetM A [.str s] = eqS s (ofL (A.cps.toList.filter fun c => decide (c ∈ s.cps.toList))) := by rw [eqS_eq]; rfl
      rw [e] at q
      exact q
  | a :: b :: t, _, q =>
    rw [isSetM_2] at q
    walk_at "s"
    first | exact q | skip
    all_goals refine ifT ?_ q
    all_goals show (!decide (((t.length + 1 + 1 : Nat) : Int) = 1)) = true
    all_goals rw [decide_eq_false (by omega)]
    all_goals rfl
def g_is_expression (n : Nat) : FS0 := fun ds Q => ∃ A d, ds = [.str A, d] ∧ A.length ≤ 1000 ∧ val d = true ∧ dep d < n ∧ Q (.fz (.bl (isExpr A d)))
def g_is_again (n : Nat) : FS0 := fun ds Q => ∃ A ps, ds = [.str A, .lst ps] ∧ A.length ≤ 1000 ∧ valL ps = true ∧ depL ps < n ∧ Q (.fz (.bl (againB ps (isExprM A ps))))
theorem againB_ne {ps : List D} {bs : List Bool} (h : ps.length ≠ 3) : againB ps bs = false := by
  match ps, h with
  | [], _ => rfl
  | [_], _ => rfl
  | [_, _], _ => rfl
  | [_, _, _], h => exact absurd rfl h
  | _ :: _ :: _ :: _ :: _, _ => rfl
theorem ok_is_again {n : Nat} (A : At K mg "is_again" ["alphabet", "parts"] s_is_again f fd) (m_len : mg "len" = none) (c_is_integer : Fn0 P w K mg base "is_integer" 1 1 g_is_integer) (c_MOST_REPEATS : Gc K mg "MOST_REPEATS" (.int 4))
    (c_is_expression : Fn0 P w K mg base "is_expression" (2 * n + 1) 2 (g_is_expression n)) : Fn0 P w K mg base "is_again" (2 * n + 2) 2 (g_is_again n) := by
  refine A.fn0 (okD0 (k := 2 * n + 1) A.fn sc_is_again (by decide) (fun cdv A outer s H E hr => (dss_cons (ds_if (DW.dt (dw_or (dt_ne hr (de_len (by rfl) m_len (da_cons (de_v 1) da_nil)) de_int) (dw_or1 (dt_not (dt_val (de_c0 c_is_expression (hr.mono (by omega)) (by rfl) (da_cons (de_v 0) (da_cons (de_ix (de_v 1) de_int (fun _ _ => rfl)) da_nil)))))))) (dss_one (ds_ret de_bl)) dss_nil)
      (dss_cons (ds_asg (de_sl (de_v 1) (do_some de_int) do_none) (dg_unl (n := 2) rfl (dgs_cons (dg_n 2 sc_is_again.nd rfl (by first | exact Or.inl rfl | exact Or.inr rfl)) (dgs_cons (dg_n 3 sc_is_again.nd rfl (by first | exact Or.inl rfl | exact Or.inr rfl)) dgs_nil))))
      (dss_cons (ds_if (DW.dt (dw_or (dt_not (dt_val (de_c0 c_is_integer (hr.mono (by omega)) (by rfl) (da_cons (de_v 2) da_nil)))) (dw_or1 (dt_not (dt_lele de_int (de_v 2) (de_g c_MOST_REPEATS (by rfl))))))) (dss_one (ds_ret de_bl)) dss_nil)
      (dss_one (ds_ret (de_or (de_is (de_v 3) de_non) (de_one (de_and (de_c0 c_is_integer (hr.mono (by omega)) (by rfl) (da_cons (de_v 3) da_nil)) (de_one (de_lele (de_v 2) (de_v 3) (de_g c_MOST_REPEATS (by rfl))))))))))))) ?_)
  rintro ds Q hl ⟨A, ps, rfl, hA, hv, hd, q⟩
  by_cases h3 : ps.length = 3
  · match ps, h3, hv, hd, q with
    | [p, lo, hi], _, hv, hd, q =>
      rw [valL, valL, valL, valL, Bool.and_eq_true, Bool.and_eq_true, Bool.and_true] at hv
      have hp : dep p < n := depL_mem hd p (by simp)
      walk_at "s"
      refine ⟨hA, hv.1, hp, _, rfl, ?_⟩
      have e : againB [p, lo, hi] (isExprM A [p, lo, hi]) = (isExpr A p && loB hi lo) := rfl
      rw [e] at q
      refine ifB (fun hE => ?_) (fun hE => ?_)
      · have hE' : isExpr A p = false := by simpa using hE
        rw [hE'] at q
        exact q
      · have hE' : isExpr A p = true := by simpa using hE
        rw [hE', Bool.true_and] at q
        walk_at "s"
        refine ⟨val_top hv.2.1, ?_⟩
        cases lo <;> first | (walk_at "s"; exact q) | skip
        rename_i l _
        walk_at "s"
        have e2 : loB hi (.int l) = (decide (0 ≤ l) && decide (l ≤ 4) && hiB l hi) := rfl
        rw [e2] at q
        refine ifB (fun h => ?_) (fun h => ?_)
        · rw [h, Bool.true_and] at q
          walk_at "s"
          refine ifB (fun h2 => ?_) (fun h2 => ?_)
          · have h2' : decide (l ≤ 4) = false := by simpa using h2
            rw [h2'] at q
            exact q
          · have h2' : decide (l ≤ 4) = true := by simpa using h2
            rw [h2', Bool.true_and] at q
            cases hi <;> first | (simp [val] at hv; done) | skip
            all_goals walk_at "s"
            all_goals try exact q
            rename_i hh _
            have e3 : hiB l (.int hh) = (decide (l ≤ hh) && decide (hh ≤ 4)) := rfl
            rw [e3] at q
            refine ifB (fun h4 => ?_) (fun h4 => ?_)
            · rw [h4, Bool.true_and] at q
              walk_at "s"
              exact q
            · rw [h4] at q
              exact q
        · rw [h] at q
          walk_at "s"
          exact q
  · rw [againB_ne h3] at q
    walk_at "s"
    refine ifT ?_ q
    show (!decide (((ps.length : Nat) : Int) = 3)) = true
    rw [decide_eq_false (by omega)]
    rfl
theorem exprB_eq (A : Str) (w : Str) (ps : List D) : isExpr A (.tup (.str w :: ps)) = exprB A w ps (ps.map (isExpr A)) := by rw [isExpr, isExprM_map]
theorem ok_is_expression_step {n : Nat} (A : At K mg "is_expression" ["alphabet", "value"] s_is_expression f fd) (m_len : mg "len" = none) (m_isinstance : mg "isinstance" = none) (m_tuple : mg "tuple" = none) (m_str : mg "str" = none) (m_all : mg "all" = none)
    (c_LISTED : Gc K mg "LISTED" (.tup [.str "row", .str "any", .str "all"])) (c_is_set : Fn0 P w K mg base "is_set" 1 2 g_is_set) (c_is_again : Fn0 P w K mg base "is_again" (2 * n + 2) 2 (g_is_again n))
    (c_is_expression : Fn0 P w K mg base "is_expression" (2 * n + 1) 2 (g_is_expression n)) : Fn0 P w K mg base "is_expression" (2 * (n + 1) + 1) 2 (g_is_expression (n + 1)) := by
  refine A.fn0 (okD0 (k := 2 * n + 2) A.fn sc_is_expression (by decide) (fun cdv A outer s H E hr => (dss_cons (ds_if (DW.dt (dw_or (dt_not (dt_val (de_isi (by rfl) m_isinstance (da_cons (de_v 1) (da_cons (de_ty (n := "tuple") (by rfl) m_tuple (by decide +kernel)) da_nil))))) (dw_or (dt_eq hr (de_len (by rfl) m_len (da_cons (de_v 1) da_nil)) de_int) (dw_or1 (dt_not (dt_val (de_isi (by rfl) m_isinstance (da_cons (de_ix (de_v 1) de_int (fun _ _ => rfl)) (da_cons (de_ty (n := "str") (by rfl) m_str (by decide +kernel)) da_nil))))))))) (dss_one (ds_ret de_bl)) dss_nil)
      (dss_cons (ds_asg (de_v 1) (dg_star (i := 1) rfl (dgs_cons (dg_n 2 sc_is_expression.nd rfl (by first | exact Or.inl rfl | exact Or.inr rfl)) (dgs_star (dg_n 3 sc_is_expression.nd rfl (by first | exact Or.inl rfl | exact Or.inr rfl))))))
      (dss_cons (ds_if (dt_eq hr (de_v 2) de_str) (dss_one (ds_ret (de_c0 c_is_set (hr.mono (by omega)) (by rfl) (da_cons (de_v 0) (da_cons (de_v 3) da_nil))))) dss_nil)
      (dss_cons (ds_if (dt_eq hr (de_v 2) de_str) (dss_one (ds_ret (de_c0 c_is_again (hr.mono (by omega)) (by rfl) (da_cons (de_v 0) (da_cons (de_v 3) da_nil))))) dss_nil)
      (dss_cons (ds_if (DW.dt (dw_or (DW.dt (dw_and (dt_eq hr (de_v 2) de_str) (dw_and1 (dt_ne hr (de_len (by rfl) m_len (da_cons (de_v 3) da_nil)) de_int)))) (dw_or1 (dt_notin (de_v 2) (de_add (de_g c_LISTED (by rfl)) (de_tup (da_cons de_str da_nil))))))) (dss_one (ds_ret de_bl)) dss_nil)
      (dss_one (ds_ret (de_all rfl (by rfl) m_all (da_cons (de_lc (own := [("part", 4)]) rfl sc_is_expression.nd (di_seq (de_v 3)) (blkOk_by (N := N_is_expression) (sc := defScope s_is_expression) (own := [("part", 4)]) (by decide +kernel)) (fun _ _ _ _ _ => (dg_n 4 sc_is_expression.nd rfl (by first | exact Or.inl rfl | exact Or.inr rfl))) (fun _ _ _ _ _ => dts_nil) (fun _ _ _ _ _ => (de_c0 c_is_expression (hr.mono (by omega)) (by rfl) (da_cons (de_v 0) (da_cons (de_v 4) da_nil))))) da_nil)))))))))) ?_)
  rintro ds Q hl ⟨A, d, rfl, hA, hv, hd, q⟩
  match d, hv, hd, q with
  | .non, _, _, q => walk_at "s"; exact q
  | .bl _, _, _, q => walk_at "s"; exact q
  | .int _, _, _, q => walk_at "s"; exact q
  | .str _, _, _, q => walk_at "s"; exact q
  | .lst _, _, _, q => walk_at "s"; exact q
  | .tup [], _, _, q => walk_at "s"; exact q
  | .tup (x :: ps), hv, hd, q =>
    rw [val, valL, Bool.and_eq_true, Bool.and_eq_true] at hv
    have hlen : ps.length + 1 ≤ 10000 := by simpa using of_decide_eq_true hv.1
    have h0 : eqB (.int (((x :: ps).length : Nat) : Int)) (.int 0) = false := by
      show decide (((ps.length + 1 : Nat) : Int) = 0) = false
      exact decide_eq_false (by omega)
    cases x <;> first | (simp [val] at hv; done) | skip
    all_goals walk_at "s"
    all_goals try refine ifF h0 ?_
    all_goals walk_at "s"
    all_goals try exact q
    rename_i w
    rw [exprB_eq] at q
    have hdp : depL ps < n := by
      rw [dep, depL] at hd
      omega
    have hvp : valL ps = true := hv.2.2
    refine ⟨[.str w], ps, .inl rfl, rfl, by show ps.length + 1 ≤ 16000; omega, ?_⟩
    walk_at "s"
    refine ifd (eqS_eq w "set") (fun h1 => ?_) (fun h1 => ?_)
    · unfold exprB at q
      rw [if_pos h1] at q
      walk_at "s"
      exact ⟨hA, hvp, q⟩
    unfold exprB at q
    rw [if_neg h1] at q
    walk_at "s"
    refine ifd (eqS_eq w "again") (fun h2 => ?_) (fun h2 => ?_)
    · rw [if_pos h2] at q
      walk_at "s"
      exact ⟨hA, hvp, hdp, by rw [isExprM_map]; exact q⟩
    rw [if_neg h2] at q
    walk_at "s"
    have hin : (([.str "row", .str "any", .str "all", .str "not"] : List D).any fun b => eqB b (.str w)) = decide (w = "row" ∨ w = "any" ∨ w = "all" ∨ w = "not") := by
      show (eqS "row" w || (eqS "any" w || (eqS "all" w || (eqS "not" w || false)))) = _
      rw [eqS_eq', eqS_eq', eqS_eq', eqS_eq', Bool.or_false]
      simp only [Bool.decide_or]
    have fin : ∀ {ρ : Ev} {Q' : Res → Ev → Prop}, ρ = [some (.fz (.str A)), some (.fz (.tup (.str w :: ps))), some (.fz (.str w)), some (.fz (.lst ps)), none] → (∀ ρ, Q' (.fz (.bl ((ps.map (isExpr A)).all id))) ρ) →
        (tCallG allD (tACons (tLcD (tSeqI (tV 3)) (gN 4) tYesD (tCall0 (g_is_expression n) (tACons (tV 0) (tACons (tV 4) tANil))) [4]) tANil)) ρ Q' := by
      intro ρ Q' hρ q'
      subst hρ
      walk_at "s"
      refine lc_mapD (f := fun d => .bl (isExpr A d)) ps rfl rfl (fun d hd' Q2 q2 => ⟨_, rfl, _, rfl, A, d, rfl, hA, valL_mem hvp d hd', depL_mem hdp d hd', q2 _ rfl⟩) (by omega) ?_
      exact ⟨_, all_map _ _, q' _⟩
    refine ifd (eqS_eq w "not") (fun h3 => ?_) (fun h3 => ?_)
    · walk_at "s"
      refine ifB (fun h4 => ?_) (fun h4 => ?_)
      · have h4' : ps.length ≠ 1 := by
          intro z
          have h5 : (!decide (((ps.length : Nat) : Int) = 1)) = true := h4
          rw [decide_eq_true (by omega)] at h5
          cases h5
        rw [if_pos (.inl ⟨h3, h4'⟩)] at q
        exact q
      · have h4' : ps.length = 1 := by
          have h5 : (!decide (((ps.length : Nat) : Int) = 1)) = false := h4
          have h6 : ((ps.length : Nat) : Int) = 1 := by simpa using h5
          omega
        rw [if_neg (by rintro (⟨_, z⟩ | z); exact z h4'; exact z (.inr (.inr (.inr h3))))] at q
        walk_at "s"
        refine ifF (by show (!(([.str "row", .str "any", .str "all", .str "not"] : List D).any fun b => eqB b (.str w))) = false; rw [hin, decide_eq_true (.inr (.inr (.inr h3)))]; rfl) ?_
        exact fin rfl fun _ => q
    · walk_at "s"
      refine ifB (fun h4 => ?_) (fun h4 => ?_)
      · have h4' : ¬ (w = "row" ∨ w = "any" ∨ w = "all" ∨ w = "not") := by
          have h5 : (!(([.str "row", .str "any", .str "all", .str "not"] : List D).any fun b => eqB b (.str w))) = true := h4
          rw [hin] at h5
          simpa only [Bool.not_eq_true', decide_eq_false_iff_not] using h5
        rw [if_pos (.inr h4')] at q
        exact q
      · have h4' : (w = "row" ∨ w = "any" ∨ w = "all" ∨ w = "not") := by
          have h5 : (!(([.str "row", .str "any", .str "all", .str "not"] : List D).any fun b => eqB b (.str w))) = false := h4
          rw [hin] at h5
          simpa only [Bool.not_eq_false', decide_eq_true_eq] using h5
        rw [if_neg (by rintro (⟨z, _⟩ | z); exact h3 z; exact z h4')] at q
        exact fin rfl fun _ => q
theorem ok_is_expression (A : At K mg "is_expression" ["alphabet", "value"] s_is_expression f fd) (A2 : At K mg "is_again" ["alphabet", "parts"] s_is_again f2 fd2) (m_len : mg "len" = none) (m_isinstance : mg "isinstance" = none) (m_tuple : mg "tuple" = none) (m_str : mg "str" = none) (m_all : mg "all" = none)
    (c_LISTED : Gc K mg "LISTED" (.tup [.str "row", .str "any", .str "all"])) (c_MOST_REPEATS : Gc K mg "MOST_REPEATS" (.int 4)) (c_is_set : Fn0 P w K mg base "is_set" 1 2 g_is_set) (c_is_integer : Fn0 P w K mg base "is_integer" 1 1 g_is_integer) :
    ∀ n, Fn0 P w K mg base "is_expression" (2 * n + 1) 2 (g_is_expression n)
  | 0 => A.none0 fun ds Q ⟨_, _, _, _, _, h, _⟩ => absurd h (Nat.not_lt_zero _)
  | n + 1 => by
    have ih := ok_is_expression A A2 m_len m_isinstance m_tuple m_str m_all c_LISTED c_MOST_REPEATS c_is_set c_is_integer n
    exact ok_is_expression_step A m_len m_isinstance m_tuple m_str m_all c_LISTED c_is_set (ok_is_again A2 m_len c_is_integer c_MOST_REPEATS ih) ih
def g_parts_of : FS0 := fun ds Q => ∃ r, ds = [toD r] ∧ Q (.fz (.tup (toDL r.parts)))
theorem ok_parts_of (A : At K mg "parts_of" ["expression"] s_parts_of f fd) : Fn0 P w K mg base "parts_of" 1 1 g_parts_of := by
  refine A.fn0 (okD0 (k := 0) A.fn sc_parts_of (by decide) (fun cdv A outer s H E hr => (dss_cons (ds_if (dt_eq hr (de_ix (de_v 0) de_int (fun _ _ => rfl)) de_str) (dss_one (ds_ret (de_tup da_nil))) dss_nil)
      (dss_one (ds_ret (de_if (dt_eq hr (de_ix (de_v 0) de_int (fun _ _ => rfl)) de_str) (de_sl (de_v 0) (do_some de_int) (do_some de_int)) (de_sl (de_v 0) (do_some de_int) do_none)))))) ?_)
  rintro ds Q hl ⟨r, rfl, q⟩
  rw [toD_eq]
  walk_at "s"
  refine ifd (eqS_eq r.word "set") (fun h => ?_) (fun h => ?_)
  · cases r <;> first | (simp [Rx.word, k1, k4, k7, k10, k12] at h; done) | skip
    walk_at "s"
    exact q
  · walk_at "s"
    refine ifd (eqS_eq r.word "again") (fun h2 => ?_) (fun h2 => ?_)
    · cases r <;> first | (simp [Rx.word, k2, k5, k8, k11, k13] at h2; done) | skip
      walk_at "s"
      exact q
    · cases r <;> first | (simp [Rx.word] at h h2; done) | skip
      all_goals
        walk_at "s"
        rw [cutD_1]
        exact q
def g_count (n : Nat) : FS0 := fun ds Q => ∃ r, ds = [toD r] ∧ okR r = true ∧ rdep r < n ∧ Q (.fz (.int (cnt r)))
theorem ok_count (A : At K mg "count_tuples" ["expression"] s_count_tuples f fd) (m_sum : mg "sum" = none) (c_parts_of : Fn0 P w K mg base "parts_of" 1 1 g_parts_of) : ∀ n, Fn0 P w K mg base "count_tuples" (n + 1) 1 (g_count n)
  | 0 => A.none0 fun ds Q ⟨_, _, _, h, _⟩ => absurd h (Nat.not_lt_zero _)
  | n + 1 => by
    have c_count_tuples := ok_count A m_sum c_parts_of n
    refine A.fn0 (okD0 (k := n + 1) A.fn sc_count_tuples (by decide) (fun cdv A outer s H E hr => (dss_one (ds_ret (de_add de_int (de_sum rfl (by rfl) m_sum (da_cons (de_lc (own := [("part", 1)]) rfl sc_count_tuples.nd (di_seq (de_c0 c_parts_of (hr.mono (by omega)) (by rfl) (da_cons (de_v 0) da_nil))) (blkOk_by (N := N_count_tuples) (sc := defScope s_count_tuples) (own := [("part", 1)]) (by decide +kernel)) (fun _ _ _ _ _ => (dg_n 1 sc_count_tuples.nd rfl (by first | exact Or.inl rfl | exact Or.inr rfl))) (fun _ _ _ _ _ => dts_nil) (fun _ _ _ _ _ => (de_c0 c_count_tuples (hr.mono (by omega)) (by rfl) (da_cons (de_v 1) da_nil)))) da_nil)))))) ?_)
    rintro ds Q hl ⟨r, rfl, ho, hd, q⟩
    walk_at "s"
    rw [toDL_map]
    refine lc_map (φ := toD) (f := fun p => .int (cnt p)) r.parts rfl rfl (fun p hp Q2 q2 => ?_) (Nat.le_trans (okR_len ho) (by decide)) ?_
    · exact ⟨_, rfl, p, rfl, okR_parts ho p hp, rdep_parts hd (List.ne_nil_of_mem hp) p hp, q2 _ rfl⟩
    · refine ⟨_, sum_map _ _, _, rfl, ?_⟩
      rw [cnt_eq] at q
      exact q
def g_width (n : Nat) : FS0 := fun ds Q => ∃ r, ds = [toD r] ∧ okR r = true ∧ rdep r < n ∧ Q (.fz (.int (wd r)))
theorem wd_eq (r : Rx) (h : r.word ≠ "set") : wd r = mx1 (r.parts.map wd).sum * r.fac := by
  cases r with
  | set s => exact absurd rfl h
  | row ps => simp [wd, Rx.parts, wdL_map, Rx.fac]
  | any ps => simp [wd, Rx.parts, wdL_map, Rx.fac]
  | all ps => simp [wd, Rx.parts, wdL_map, Rx.fac]
  | no p => simp [wd, Rx.parts, Rx.fac]
  | again p lo hi => cases hi <;> simp [wd, Rx.parts, Rx.fac]
theorem ok_width (A : At K mg "width" ["expression"] s_width f fd) (m_sum : mg "sum" = none) (m_max : mg "max" = none) (c_parts_of : Fn0 P w K mg base "parts_of" 1 1 g_parts_of) : ∀ n, Fn0 P w K mg base "width" (n + 1) 1 (g_width n)
  | 0 => A.none0 fun ds Q ⟨_, _, _, h, _⟩ => absurd h (Nat.not_lt_zero _)
  | n + 1 => by
    have c_width := ok_width A m_sum m_max c_parts_of n
    refine A.fn0 (okD0 (k := n + 1) A.fn sc_width (by decide) (fun cdv A outer s H E hr => (dss_cons (ds_if (dt_eq hr (de_ix (de_v 0) de_int (fun _ _ => rfl)) de_str) (dss_one (ds_ret de_int)) dss_nil)
      (dss_cons (ds_set 1 sc_width.nd rfl (by first | exact Or.inl rfl | exact Or.inr rfl) (de_max2 rfl (by rfl) m_max (da_cons de_int (da_cons (de_sum rfl (by rfl) m_sum (da_cons (de_lc (own := [("part", 2)]) rfl sc_width.nd (di_seq (de_c0 c_parts_of (hr.mono (by omega)) (by rfl) (da_cons (de_v 0) da_nil))) (blkOk_by (N := N_width) (sc := defScope s_width) (own := [("part", 2)]) (by decide +kernel)) (fun _ _ _ _ _ => (dg_n 2 sc_width.nd rfl (by first | exact Or.inl rfl | exact Or.inr rfl))) (fun _ _ _ _ _ => dts_nil) (fun _ _ _ _ _ => (de_c0 c_width (hr.mono (by omega)) (by rfl) (da_cons (de_v 2) da_nil)))) da_nil)) da_nil))))
      (dss_cons (ds_if (dt_ne hr (de_ix (de_v 0) de_int (fun _ _ => rfl)) de_str) (dss_one (ds_ret (de_v 1))) dss_nil)
      (dss_cons (ds_asg (de_sl (de_v 0) (do_some de_int) do_none) (dg_tup (n := 2) rfl (dgs_cons (dg_n 3 sc_width.nd rfl (by first | exact Or.inl rfl | exact Or.inr rfl)) (dgs_cons (dg_n 4 sc_width.nd rfl (by first | exact Or.inl rfl | exact Or.inr rfl)) dgs_nil))))
      (dss_one (ds_ret (de_mul (de_v 1) (de_if (dt_is (de_v 4) de_non) (de_add (de_v 3) de_int) (de_max2 rfl (by rfl) m_max (da_cons de_int (da_cons (de_v 4) da_nil)))))))))))) ?_)
    rintro ds Q hl ⟨r, rfl, ho, hd, q⟩
    have et := toD_eq r
    rw [et]
    walk_at "s"
    refine ifd (eqS_eq r.word "set") (fun h => ?_) (fun h => ?_)
    · cases r <;> first | (simp [Rx.word, k1, k4, k7, k10, k12] at h; done) | skip
      walk_at "s"
      rw [wd] at q
      exact q
    · walk_at "s"
      refine ⟨r, by rw [et]; rfl, ?_⟩
      rw [toDL_map]
      walk_at "s"
      refine lc_map (φ := toD) (f := fun p => .int (wd p)) r.parts rfl rfl (fun p hp Q2 q2 => ?_) (Nat.le_trans (okR_len ho) (by decide)) ?_
      · exact ⟨_, rfl, p, rfl, okR_parts ho p hp, rdep_parts hd (List.ne_nil_of_mem hp) p hp, q2 _ rfl⟩
      · refine ⟨_, sum_map _ _, ?_⟩
        rw [wd_eq r h] at q
        walk_at "s"
        refine ifB (fun h2 => ?_) (fun h2 => ?_)
        · have h2' : r.word ≠ "again" := by
            have h3 : (!eqS r.word "again") = true := h2
            rw [eqS_eq] at h3
            simpa using h3
          have hf : r.fac = 1 := by cases r <;> first | rfl | (simp [Rx.word] at h2')
          rw [hf, Int.mul_one] at q
          walk_at "s"
          exact q
        · have h2' : r.word = "again" := by
            have h3 : (!eqS r.word "again") = false := h2
            rw [eqS_eq] at h3
            simpa using h3
          cases r <;> first | (simp [Rx.word, k2, k5, k8, k11, k13] at h2'; done) | skip
          rename_i p lo hi
          rw [okR, Bool.and_eq_true, Bool.and_eq_true, Bool.and_eq_true] at ho
          have l1 := of_decide_eq_true ho.1.1.2
          have l2 := of_decide_eq_true ho.1.2
          have key : ∀ (x y : Int), 0 ≤ y → y ≤ 5 → mulD (.int x) (.int y) = some (.fz (.int (x * y))) := by
            intro x y h1 h2
            show (if _ then _ else _) = _
            rw [if_pos (decide_eq_true (.inr ⟨by omega, by omega⟩))]
          cases hi with
          | none =>
            walk_at "s"
            exact ⟨_, key _ _ (by omega) (by omega), q⟩
          | some hh =>
            have hk := ho.2
            rw [hiOk, Bool.and_eq_true] at hk
            have l3 := of_decide_eq_true hk.2
            walk_at "s"
            exact ⟨_, key _ _ (by show 0 ≤ mx1 hh; unfold mx1; split <;> omega) (by show mx1 hh ≤ 5; unfold mx1; split <;> omega), q⟩
def g_is_plain (n : Nat) : FS0 := fun ds Q => ∃ r, ds = [toD r] ∧ okR r = true ∧ rdep r < n ∧ Q (.fz (.bl (plain r)))
theorem ok_is_plain (A : At K mg "is_plain" ["expression"] s_is_plain f fd) (m_all : mg "all" = none) (c_parts_of : Fn0 P w K mg base "parts_of" 1 1 g_parts_of) : ∀ n, Fn0 P w K mg base "is_plain" (n + 1) 1 (g_is_plain n)
  | 0 => A.none0 fun ds Q ⟨_, _, _, h, _⟩ => absurd h (Nat.not_lt_zero _)
  | n + 1 => by
    have c_is_plain := ok_is_plain A m_all c_parts_of n
    refine A.fn0 (okD0 (k := n + 1) A.fn sc_is_plain (by decide) (fun cdv A outer s H E hr => (dss_one (ds_ret (de_and (de_notin (de_ix (de_v 0) de_int (fun _ _ => rfl)) (de_tup (da_cons de_str (da_cons de_str da_nil)))) (de_one (de_all rfl (by rfl) m_all (da_cons (de_lc (own := [("part", 1)]) rfl sc_is_plain.nd (di_seq (de_c0 c_parts_of (hr.mono (by omega)) (by rfl) (da_cons (de_v 0) da_nil))) (blkOk_by (N := N_is_plain) (sc := defScope s_is_plain) (own := [("part", 1)]) (by decide +kernel)) (fun _ _ _ _ _ => (dg_n 1 sc_is_plain.nd rfl (by first | exact Or.inl rfl | exact Or.inr rfl))) (fun _ _ _ _ _ => dts_nil) (fun _ _ _ _ _ => (de_c0 c_is_plain (hr.mono (by omega)) (by rfl) (da_cons (de_v 1) da_nil)))) da_nil))))))) ?_)
    rintro ds Q hl ⟨r, rfl, ho, hd, q⟩
    have et := toD_eq r
    rw [et]
    walk_at "s"
    have hin : (([.str "all", .str "not"] : List D).any fun b => eqB b (.str r.word)) = (decide (r.word = "all") || decide (r.word = "not")) := by
      show (eqS "all" r.word || (eqS "not" r.word || false)) = _
      rw [eqS_eq', eqS_eq', Bool.or_false]
    rw [plain_eq, ← hin] at q
    refine ifB (fun h => ?_) (fun h => ?_)
    · have h' : (!(([.str "all", .str "not"] : List D).any fun b => eqB b (.str r.word))) = true := h
      rw [h', Bool.true_and] at q
      walk_at "s"
      refine ⟨r, by rw [et]; rfl, ?_⟩
      walk_at "s"
      rw [toDL_map]
      refine lc_map (φ := toD) (f := fun p => .bl (plain p)) r.parts rfl rfl (fun p hp Q2 q2 => ?_) (Nat.le_trans (okR_len ho) (by decide)) ?_
      · exact ⟨_, rfl, p, rfl, okR_parts ho p hp, rdep_parts hd (List.ne_nil_of_mem hp) p hp, q2 _ rfl⟩
      · exact ⟨_, all_map _ _, q⟩
    · have h' : (!(([.str "all", .str "not"] : List D).any fun b => eqB b (.str r.word))) = false := h
      rw [h', Bool.false_and] at q
      exact q
def g_hasP (n : Nat) : FS0 := fun ds Q => ∃ r, ds = [toD r] ∧ okR r = true ∧ rdep r < n ∧ Q (.fz (.bl (hasP r)))
theorem ok_hasP {m : Nat} (A : At K mg "has_plain_repeats" ["expression"] s_has_plain_repeats f fd) (m_all : mg "all" = none) (c_parts_of : Fn0 P w K mg base "parts_of" 1 1 g_parts_of) (c_is_plain : Fn0 P w K mg base "is_plain" (m + 1) 1 (g_is_plain m)) : ∀ n, n ≤ m → Fn0 P w K mg base "has_plain_repeats" (m + n + 2) 1 (g_hasP n)
  | 0, _ => A.none0 fun ds Q ⟨_, _, _, h, _⟩ => absurd h (Nat.not_lt_zero _)
  | n + 1, hn => by
    have c_has_plain_repeats := ok_hasP A m_all c_parts_of c_is_plain n (by omega)
    refine A.fn0 (okD0 (k := m + n + 2) A.fn sc_has_plain_repeats (by decide) (fun cdv A outer s H E hr => (dss_cons (ds_if (dt_in (de_ix (de_v 0) de_int (fun _ _ => rfl)) (de_tup (da_cons de_str (da_cons de_str da_nil)))) (dss_one (ds_ret (de_c0 c_is_plain (hr.mono (by omega)) (by rfl) (da_cons (de_v 0) da_nil)))) dss_nil)
      (dss_one (ds_ret (de_all rfl (by rfl) m_all (da_cons (de_lc (own := [("part", 1)]) rfl sc_has_plain_repeats.nd (di_seq (de_c0 c_parts_of (hr.mono (by omega)) (by rfl) (da_cons (de_v 0) da_nil))) (blkOk_by (N := N_has_plain_repeats) (sc := defScope s_has_plain_repeats) (own := [("part", 1)]) (by decide +kernel)) (fun _ _ _ _ _ => (dg_n 1 sc_has_plain_repeats.nd rfl (by first | exact Or.inl rfl | exact Or.inr rfl))) (fun _ _ _ _ _ => dts_nil) (fun _ _ _ _ _ => (de_c0 c_has_plain_repeats (hr.mono (by omega)) (by rfl) (da_cons (de_v 1) da_nil)))) da_nil)))))) ?_)
    rintro ds Q hl ⟨r, rfl, ho, hd, q⟩
    have et := toD_eq r
    rw [et]
    walk_at "s"
    have hin : (([.str "row", .str "again"] : List D).any fun b => eqB b (.str r.word)) = decide (r.word = "row" ∨ r.word = "again") := by
      show (eqS "row" r.word || (eqS "again" r.word || false)) = _
      rw [eqS_eq', eqS_eq', Bool.or_false]
      simp only [Bool.decide_or]
    rw [hasP_eq] at q
    refine ifd hin (fun h => ?_) (fun h => ?_)
    · rw [if_pos h] at q
      walk_at "s"
      exact ⟨r, by rw [et]; rfl, ho, by omega, q⟩
    · rw [if_neg h] at q
      walk_at "s"
      refine ⟨r, by rw [et]; rfl, ?_⟩
      walk_at "s"
      rw [toDL_map]
      refine lc_map (φ := toD) (f := fun p => .bl (hasP p)) r.parts rfl rfl (fun p hp Q2 q2 => ?_) (Nat.le_trans (okR_len ho) (by decide)) ?_
      · exact ⟨_, rfl, p, rfl, okR_parts ho p hp, rdep_parts hd (List.ne_nil_of_mem hp) p hp, q2 _ rfl⟩
      · exact ⟨_, all_map _ _, q⟩
def g_is_pattern : FS0 := fun ds Q => ∃ A d, ds = [.str A, d] ∧ A.length ≤ 1000 ∧ val d = true ∧ dep d < 90 ∧ (isExpr A d = false → Q (.fz (.bl false))) ∧ (∀ r, d = toD r → okR r = true → isExpr A d = true → Q (.fz (.bl (patR r))))
theorem ok_is_pattern (A : At K mg "is_pattern" ["alphabet", "value"] s_is_pattern f fd) (c_is_expression : Fn0 P w K mg base "is_expression" 181 2 (g_is_expression 90)) (c_has_plain_repeats : Fn0 P w K mg base "has_plain_repeats" 182 1 (g_hasP 90))
    (c_count_tuples : Fn0 P w K mg base "count_tuples" 91 1 (g_count 90)) (c_width : Fn0 P w K mg base "width" 91 1 (g_width 90)) (c_MOST_TUPLES : Gc K mg "MOST_TUPLES" (.int 20)) (c_MOST_WIDTH : Gc K mg "MOST_WIDTH" (.int 10)) : Fn0 P w K mg base "is_pattern" 183 2 g_is_pattern := by
  refine A.fn0 (okD0 (k := 182) A.fn sc_is_pattern (by decide) (fun cdv A outer s H E hr => (dss_cons (ds_if (DW.dt (dw_or (dt_not (dt_val (de_c0 c_is_expression (hr.mono (by decide)) (by rfl) (da_cons (de_v 0) (da_cons (de_v 1) da_nil))))) (dw_or1 (dt_not (dt_val (de_c0 c_has_plain_repeats (hr.mono (by decide)) (by rfl) (da_cons (de_v 1) da_nil))))))) (dss_one (ds_ret de_bl)) dss_nil)
      (dss_one (ds_ret (de_and (de_le (de_c0 c_count_tuples (hr.mono (by decide)) (by rfl) (da_cons (de_v 1) da_nil)) (de_g c_MOST_TUPLES (by rfl))) (de_one (de_le (de_c0 c_width (hr.mono (by decide)) (by rfl) (da_cons (de_v 1) da_nil)) (de_g c_MOST_WIDTH (by rfl))))))))) ?_)
  rintro ds Q hl ⟨A, d, rfl, hA, hv, hd, q1, q2⟩
  walk_at "s"
  refine ⟨hA, hv, hd, _, rfl, ?_⟩
  refine ifB (fun h => ?_) (fun h => ?_)
  · exact q1 (by simpa using h)
  have hE : isExpr A d = true := by simpa using h
  obtain ⟨r, e, o, dd⟩ := ofExpr A d hv hE
  have q := q2 r e o hE
  subst e
  have hrd : rdep r < 90 := by omega
  walk_at "s"
  refine ⟨o, hrd, _, rfl, ?_⟩
  unfold patR at q
  refine ifB (fun h2 => ?_) (fun h2 => ?_)
  · have h2' : hasP r = false := by simpa using h2
    rw [h2', Bool.false_and] at q
    exact q
  have h2' : hasP r = true := by simpa using h2
  rw [h2', Bool.true_and] at q
  walk_at "s"
  refine ⟨o, hrd, _, rfl, _, rfl, ?_⟩
  refine ifB (fun h3 => ?_) (fun h3 => ?_)
  · rw [show decide (cnt r ≤ 20) = true from h3, Bool.true_and] at q
    walk_at "s"
    exact ⟨o, hrd, _, rfl, q⟩
  · rw [show decide (cnt r ≤ 20) = false from h3, Bool.false_and] at q
    exact q
end
end Cut
namespace Cut
open PySem L2 DL
local macro_rules | `(tactic| walk_at "s") => `(tactic| repeat (first | with_reducible refine ⟨_, rfl, ?_⟩ | refine ⟨_, rfl, ?_⟩ | refine ⟨rfl, ?_⟩ | refine ⟨_, _, rfl, rfl, ?_⟩ | refine ⟨_, _, rfl, ?_⟩ | refine iteT ?_ | refine iteF ?_ | refine ⟨⟨_, rfl⟩, ?_⟩ | refine ⟨⟨_, _, rfl⟩, ?_⟩ | refine ⟨_, _, _, _, rfl, rfl, rfl, ?_⟩ | refine ⟨Nat.le_of_ble_eq_true rfl, ?_⟩ | refine ⟨(by decide), ?_⟩ | refine ⟨_, ix_t0 _ _, ?_⟩ | refine ⟨_, ix_l0 _ _, ?_⟩))
abbrev s_l_source : Stmt := top 24
abbrev N_l_source : List Str := ["_law_script", "_law_k", "_law_cell", "_law_deep"]
theorem sc_l_source : FnScope N_l_source ["_law_script", "_law_k"] (defScope s_l_source) := ⟨rfl, rfl, rfl, by decide +kernel, rfl, by decide +kernel, by decide +kernel⟩
abbrev s_l_draw : Stmt := top 25
abbrev N_l_draw : List Str := ["_law_source_here", "_law_many", "_law_digit", "_law_seed"]
theorem sc_l_draw : FnScope N_l_draw ["_law_source_here", "_law_many"] (defScope s_l_draw) := ⟨rfl, rfl, rfl, by decide +kernel, rfl, by decide +kernel, by decide +kernel⟩
abbrev s_l_alphabet : Stmt := top 26
abbrev N_l_alphabet : List Str := ["_law_source_here", "_law_many", "_law_left", "_law_k"]
theorem sc_l_alphabet : FnScope N_l_alphabet ["_law_source_here", "_law_many"] (defScope s_l_alphabet) := ⟨rfl, rfl, rfl, by decide +kernel, rfl, by decide +kernel, by decide +kernel⟩
abbrev s_l_set : Stmt := top 27
abbrev N_l_set : List Str := ["_law_source_here", "_law_alphabet_here", "_law_many", "_law_taken", "_law_k", "_law_at"]
theorem sc_l_set : FnScope N_l_set ["_law_source_here", "_law_alphabet_here"] (defScope s_l_set) := ⟨rfl, rfl, rfl, by decide +kernel, rfl, by decide +kernel, by decide +kernel⟩
abbrev s_l_row : Stmt := top 28
abbrev N_l_row : List Str := ["_law_source_here", "_law_alphabet_here", "_law_many", "_law_k"]
theorem sc_l_row : FnScope N_l_row ["_law_source_here", "_law_alphabet_here", "_law_many"] (defScope s_l_row) := ⟨rfl, rfl, rfl, by decide +kernel, rfl, by decide +kernel, by decide +kernel⟩
section
variable {P : Program} {w : World} {K : Fg} {mg : Str → Option Value} {base : Heap} {f f2 : Addr} {fd fd2 : FuncData}
/-- a source of draws, after at most c draws -/
def Src (c : Nat) (xs : List D) : Prop := ∃ a b n : Int, xs = [.int a, .int b, .int n] ∧ 0 ≤ b ∧ b ≤ 2 ^ 50 ∧ 0 ≤ n ∧ n ≤ c
theorem Src.mono {c c' : Nat} {xs : List D} (h : Src c xs) (hc : c ≤ c') : Src c' xs := let ⟨a, b, n, h1, h2, h3, h4, h5⟩ := h; ⟨a, b, n, h1, h2, h3, h4, by omega⟩
def g_source : FS0 := fun ds Q => ∃ (ns : List Int) (k : Int), ds = [.scr ns, .int k] ∧ 0 ≤ k ∧ k ≤ 1000000 ∧ ∀ xs, Src 0 xs → Q (.fr xs)
theorem ok_source (A : At K mg "_law_source" ["_law_script", "_law_k"] s_l_source f fd) (m_len : mg "len" = none) : Fn0 P w K mg base "_law_source" 1 2 g_source := by
  refine A.fn0 (okD0 (k := 0) A.fn sc_l_source (by decide) (fun cdv A outer s H E hr => (dss_cons (ds_set 2 sc_l_source.nd rfl (by first | exact Or.inl rfl | exact Or.inr rfl) de_int)
      (dss_cons (ds_set 3 sc_l_source.nd rfl (by first | exact Or.inl rfl | exact Or.inr rfl) de_int)
      (dss_cons (ds_if (dt_gt (de_len (by rfl) m_len (da_cons (de_v 0) da_nil)) de_int) (dss_one (ds_set 2 sc_l_source.nd rfl (by first | exact Or.inl rfl | exact Or.inr rfl) (de_ix (de_v 0) (de_mod (de_v 1) (de_len (by rfl) m_len (da_cons (de_v 0) da_nil))) (fun _ _ => rfl)))) dss_nil)
      (dss_cons (ds_if (DW.dt (dw_and (dt_lt (de_v 1) (de_len (by rfl) m_len (da_cons (de_v 0) da_nil))) (dw_and1 (dt_ge (de_v 2) (de_pow de_int de_int))))) (dss_one (ds_set 3 sc_l_source.nd rfl (by first | exact Or.inl rfl | exact Or.inr rfl) (de_v 2))) dss_nil)
      (dss_one (ds_ret (de_lst (da_cons (de_v 3) (da_cons (de_add (de_add (de_mod (de_v 2) de_int) (de_mul de_int (de_v 1))) de_int) (da_cons de_int da_nil))))))))))) ?_)
  rintro ds Q hl ⟨ns, k, rfl, hk, hk2, q⟩
  have fin : ∀ (a c : Int), (tRetD (tLstD (tACons (tV 3) (tACons (tBin addD (tBin addD (tBin modD (tV 2) (tK (.int 2147483647))) (tBin mulD (tK (.int 7919000)) (tV 1))) (tK (.int 104729))) (tACons (tK (.int 0)) tANil))))) { nx := fun _ => Q (.fz .non), rt := fun r _ => Q r } [some (.fz (.scr ns)), some (.fz (.int k)), some (.fz (.int c)), some (.fz (.int a))] := by
    intro a c
    walk_at "s"
    refine q _ ⟨a, c % 2147483647 + 7919000 * k + 104729, 0, rfl, ?_, ?_, by decide, by decide⟩
    · have := Int.emod_nonneg c (b := 2147483647) (by decide)
      omega
    · have := Int.emod_lt_of_pos c (b := 2147483647) (by decide)
      omega
  have mid : ∀ c : Int, (tSeqD (tIfD (tAndT (tT (tBin ltD (tV 1) (tCallG lenD (tACons (tV 0) tANil)))) (tT (tBin geD (tV 2) (tBin powD (tK (.int 10)) (tK (.int 18)))))) (tSetD 3 (tV 2)) tNextD)
      (tRetD (tLstD (tACons (tV 3) (tACons (tBin addD (tBin addD (tBin modD (tV 2) (tK (.int 2147483647))) (tBin mulD (tK (.int 7919000)) (tV 1))) (tK (.int 104729))) (tACons (tK (.int 0)) tANil)))))) { nx := fun _ => Q (.fz .non), rt := fun r _ => Q r } [some (.fz (.scr ns)), some (.fz (.int k)), some (.fz (.int c)), some (.fz (.int 0))] := by
    intro c
    walk_at "s"
    refine ifB (fun h => ?_) (fun h => ?_)
    · walk_at "s"
      refine ifB (fun h => ?_) (fun h => ?_)
      · exact ⟨_, rfl, rfl, fin c c⟩
      · exact fin 0 c
    · exact fin 0 c
  walk_at "s"
  refine ifB (fun h => ?_) (fun h => ?_)
  · have h1 : (0 : Int) < (ns.length : Int) := of_decide_eq_true h
    obtain ⟨x, hx, _⟩ := atI_ok (xs := ns) (Int.emod_nonneg k (by omega)) (Int.emod_lt_of_pos k h1)
    walk_at "s"
    refine ⟨_, mod_ok h1, .fz (.int x), by show (atI ns _).map _ = _; rw [hx]; rfl, rfl, mid x⟩
  · exact mid 0
def g_draw : FS1 := fun xs ds Q => ∃ (c : Nat) (m : Int), ds = [.int m] ∧ Src c xs ∧ c ≤ 2 ^ 40 ∧ 0 < m ∧ m ≤ 1000000 ∧ ∀ (i : Int) xs', 0 ≤ i → i < m → Src (c + 1) xs' → Q (.fz (.int i)) xs'
theorem ok_draw (A : At K mg "_law_draw" ["_law_source_here", "_law_many"] s_l_draw f fd) : Fn1 P w K mg base "_law_draw" 1 2 g_draw := by
  refine A.fn1 (okD1 (k := 0) A.fn sc_l_draw (by decide) (fun cdv A outer s H E hr => (dss_cons (ds_subO 0 (de_add (de_ixO 0 de_int (fun _ _ => rfl)) de_int) de_int)
      (dss_cons (ds_if (dt_gt (de_ixO 0 de_int (fun _ _ => rfl)) de_int) (dss_cons (ds_set 2 sc_l_draw.nd rfl (by first | exact Or.inl rfl | exact Or.inr rfl) (de_mod (de_ixO 0 de_int (fun _ _ => rfl)) (de_v 1)))
      (dss_cons (ds_subO 0 (de_fdiv (de_ixO 0 de_int (fun _ _ => rfl)) (de_v 1)) de_int)
      (dss_one (ds_ret (de_v 2))))) dss_nil)
      (dss_cons (ds_set 3 sc_l_draw.nd rfl (by first | exact Or.inl rfl | exact Or.inr rfl) (de_mod (de_pow (de_add (de_ixO 0 de_int (fun _ _ => rfl)) (de_mul de_int (de_ixO 0 de_int (fun _ _ => rfl)))) de_int) de_int))
      (dss_one (ds_ret (de_mod (de_fdiv (de_mod (de_mul (de_add (de_v 3) (de_ixO 0 de_int (fun _ _ => rfl))) de_int) de_int) de_int) (de_v 1)))))))) ?_)
  rintro xs ds Q hl ⟨c, m, rfl, ⟨a, b, n, rfl, b0, b1, n0, n1⟩, hc, m0, m1, q⟩
  walk_at "s"
  refine ifB (fun h => ?_) (fun h => ?_)
  · have h1 : 0 < a := of_decide_eq_true h
    walk_at "s"
    refine ⟨_, mod_ok m0, ?_⟩
    walk_at "s"
    refine ⟨_, fdiv_ok m0 (by omega), ?_⟩
    walk_at "s"
    exact q _ _ (Int.emod_nonneg a (by omega)) (Int.emod_lt_of_pos a m0) ⟨_, _, _, rfl, b0, b1, by omega, by omega⟩
  · walk_at "s"
    refine ⟨_, pow_ok (by decide) (by decide) (by omega), ?_⟩
    walk_at "s"
    refine ⟨_, mul_okR (by decide) (by decide), ?_⟩
    walk_at "s"
    refine ⟨_, mod_ok m0, ?_⟩
    walk_at "s"
    exact q _ _ (Int.emod_nonneg _ (by omega)) (Int.emod_lt_of_pos _ m0) ⟨_, _, _, rfl, b0, b1, by omega, by omega⟩
/-- the characters that alphabets are made of -/
def CH : List Nat := ((("abcdefghijklmnopqrstuvwxyz0123456789 -." : Str) ++ ("_" : Str))).cps.toList
theorem CH_eq : CH = [97, 98, 99, 100, 101, 102, 103, 104, 105, 106, 107, 108, 109, 110, 111, 112, 113, 114, 115, 116, 117, 118, 119, 120, 121, 122, 48, 49, 50, 51, 52, 53, 54, 55, 56, 57, 32, 45, 46, 95] := by decide +kernel
/-- an alphabet -/
structure Alp (A : Str) : Prop where
  lo : 1 ≤ A.length
  hi : A.length ≤ 6
  nd : A.cps.toList.Nodup
  ch : ∀ c ∈ A.cps.toList, c ∈ CH
def sgn (c : Nat) : D := .str ⟨#[c]⟩
def g_alphabet : FS1 := fun xs ds Q => ∃ (c : Nat) (m : Int), ds = [.int m] ∧ Src c xs ∧ c + 6 ≤ 2 ^ 40 ∧ 1 ≤ m ∧ m ≤ 6 ∧ ∀ A xs', Alp A → A.length = m.toNat → Src (c + 6) xs' → Q (.fz (.str A)) xs'
theorem rangeD_map (lo : Int) (n : Nat) : rangeD lo n = (List.range n).map fun (i : Nat) => D.int (lo + i) := rfl
theorem map_erase {α β : Type} (f : α → β) : ∀ (l : List α) (i : Nat), (l.map f).eraseIdx i = (l.eraseIdx i).map f
  | [], _ => rfl
  | _ :: _, 0 => rfl
  | a :: l, i + 1 => by
    show f a :: (l.map f).eraseIdx i = f a :: (l.eraseIdx i).map f
    rw [map_erase f l i]
theorem nd_erase {l : List Nat} (h : l.Nodup) {i : Nat} (hi : i < l.length) : l[i] ∉ l.eraseIdx i := by
  induction l generalizing i with
  | nil => exact absurd hi (Nat.not_lt_zero _)
  | cons a l ih =>
    rw [List.nodup_cons] at h
    cases i with
    | zero => exact h.1
    | succ i =>
      have hi' : i < l.length := by simpa using hi
      intro z
      have z' : l[i] ∈ a :: l.eraseIdx i := z
      rcases List.mem_cons.mp z' with e | e
      · exact h.1 (e ▸ List.getElem_mem (by simpa using hi))
      · exact ih h.2 (by simpa using hi) e
/-- the turns of the comprehension: characters are taken out of those left -/
theorem alpha_turns {Q : List D → Ev → Prop} {m : Int} : ∀ (n : Nat) (is : List Nat) (c : Nat) (xs : List D) (left acc : List Nat), is.length = n → Src c xs → c + n ≤ 2 ^ 40 → left.length ≥ n → left.length ≤ 1000 → acc.length + n ≤ 1000 → (∀ x ∈ left, x ∉ acc) → left.Nodup → acc.Nodup → (∀ x ∈ left, x ∈ CH) → (∀ x ∈ acc, x ∈ CH) →
    (∀ (acc' : List Nat) (xs' left' : List D), acc'.length = acc.length + n → acc'.Nodup → (∀ x ∈ acc', x ∈ CH) → Src (c + n) xs' → Q (acc'.map sgn) [some (.ow true xs'), some (.fz (.int m)), some (.ow false left'), none]) →
    lcD [3] (gN 3) tYesD (tPopO 2 (tACons (tCall1 g_draw 0 (tACons (tLenO 2) tANil)) tANil)) (is.map fun (i : Nat) => D.int (0 + i)) [some (.ow true xs), some (.fz (.int m)), some (.ow false (left.map sgn)), none] (acc.map sgn) Q
  | 0, [], c, xs, left, acc, _, hS, _, _, _, _, _, _, hn, _, hac, q => q acc xs _ rfl hn hac hS
  | n + 1, i :: is, c, xs, left, acc, hl, hS, hc, hll, hlm, ham, hdis, hnl, hna, hlc, hac, q => by
    refine ⟨rfl, ⟨_, _, rfl⟩, ⟨_, _, rfl⟩, _, _, rfl, _, _, rfl, c, _, rfl, hS, by omega, by rw [List.length_map]; omega, by rw [List.length_map]; omega, fun j xs' j0 j1 hS' => ?_⟩
    rw [List.length_map] at j1
    have hj : j.toNat < left.length := by omega
    refine ⟨_, _, _, j.toNat, sgn (left[j.toNat]), rfl, rfl, ⟨by omega, by omega⟩, ?_, ?_, by rw [List.length_map]; omega, ?_⟩
    · show seqIndex? j (left.map sgn).length = _
      rw [List.length_map]
      unfold seqIndex?
      simp
      omega
    · rw [List.getElem?_map, List.getElem?_eq_getElem hj]
      rfl
    · have e1 : (left.map sgn).eraseIdx j.toNat = (left.eraseIdx j.toNat).map sgn := map_erase ..
      have e2 : acc.map sgn ++ [sgn left[j.toNat]] = (acc ++ [left[j.toNat]]).map sgn := by rw [List.map_append]; rfl
      show lcD _ _ _ _ _ [some (.ow true xs'), some (.fz (.int m)), some (.ow false ((left.map sgn).eraseIdx j.toNat)), none] (acc.map sgn ++ [sgn left[j.toNat]]) Q
      rw [e1, e2]
      have hsub : ∀ x ∈ left.eraseIdx j.toNat, x ∈ left := fun x hx => List.mem_of_mem_eraseIdx hx
      have hne : ∀ x ∈ left.eraseIdx j.toNat, x ≠ left[j.toNat] := fun x hx e => nd_erase hnl hj (e ▸ hx)
      refine alpha_turns n is (c + 1) xs' (left.eraseIdx j.toNat) (acc ++ [left[j.toNat]]) (by simpa using hl) hS' (by omega) (by rw [List.length_eraseIdx_of_lt hj]; omega) (by rw [List.length_eraseIdx_of_lt hj]; omega) (by simp; omega) (fun x hx hm => ?_) (hnl.sublist (List.eraseIdx_sublist ..)) ?_ (fun x hx => hlc x (hsub x hx)) ?_ (fun acc' xs2 left' h1 h2 h3 h4 => q acc' xs2 left' (by rw [h1]; simp; omega) h2 h3 (by rw [show c + (n + 1) = c + 1 + n by omega]; exact h4))
      · rcases List.mem_append.mp hm with hm | hm
        · exact hdis x (hsub x hx) hm
        · exact hne x hx (List.mem_singleton.mp hm)
      · rw [List.nodup_append]
        refine ⟨hna, by simp, ?_⟩
        intro a ha b hb e
        rw [List.mem_singleton.mp hb] at e
        subst e
        exact hdis _ (List.getElem_mem hj) ha
      · intro x hx
        rcases List.mem_append.mp hx with hx | hx
        · exact hac x hx
        · rw [List.mem_singleton.mp hx]
          exact hlc _ (List.getElem_mem hj)
theorem ok_alphabet (A : At K mg "_law_alphabet" ["_law_source_here", "_law_many"] s_l_alphabet f fd) (m_len : mg "len" = none) (m_list : mg "list" = none) (m_range : mg "range" = none) (c_l_draw : Fn1 P w K mg base "_law_draw" 1 2 g_draw) : Fn1 P w K mg base "_law_alphabet" 2 2 g_alphabet := by
  refine A.fn1 (okD1 (k := 1) A.fn sc_l_alphabet (by decide) (fun cdv A outer s H E hr => (dss_cons (ds_setO 2 sc_l_alphabet.nd rfl (by first | exact Or.inl rfl | exact Or.inr rfl) (de_list rfl (by rfl) m_list (da_cons (de_add de_str de_str) da_nil)))
      (dss_one (ds_ret (de_join de_str (de_lc (own := [("_law_k", 3)]) rfl sc_l_alphabet.nd (di_range1 (by rfl) m_range (da_cons (de_v 1) da_nil)) (blkOk_by (N := N_l_alphabet) (sc := defScope s_l_alphabet) (own := [("_law_k", 3)]) (by decide +kernel)) (fun _ _ _ _ _ => (dg_n 3 sc_l_alphabet.nd rfl (by first | exact Or.inl rfl | exact Or.inr rfl))) (fun _ _ _ _ _ => dts_nil) (fun _ _ _ _ _ => (de_popO 2 (da_cons (de_c1 0 c_l_draw (hr.mono (by decide)) (by rfl) (da_cons (de_lenO 2 (by rfl) m_len) da_nil)) da_nil))))))))) ?_)
  rintro xs ds Q hl ⟨c, m, rfl, hS, hc, m0, m1, q⟩
  walk_at "s"
  refine ⟨⟨by omega, by omega⟩, rfl, ?_⟩
  refine alpha_turns (m := m) m.toNat (List.range m.toNat) c xs CH [] (by simp) hS (by omega) (by rw [CH_eq]; show 40 ≥ _; omega) (by rw [CH_eq]; decide) (by simp; omega) (by simp) (by rw [CH_eq]; decide) (by simp) (fun x hx => hx) (by simp) (fun acc' xs' left' h1 h2 h3 h4 => ?_)
  have hl6 : acc'.length = m.toNat := by simpa using h1
  have hlen : (ofL acc').length = acc'.length := by rw [len_l, ofL_l]
  exact ⟨_, joinD_signs acc' (by omega), xs', rfl, q (ofL acc') xs' ⟨by omega, by omega, by rw [ofL_l]; exact h2, by rw [ofL_l]; exact h3⟩ (by omega) (h4.mono (by omega))⟩
/-! ### sets -/
theorem map_range_getD (l : List Nat) : (List.range l.length).map (fun i => l.getD i 0) = l := by
  apply List.ext_getElem?
  intro i
  rw [List.getElem?_map]
  by_cases h : i < l.length
  · rw [List.getElem?_range h, List.getElem?_eq_getElem h]
    simp [List.getD_eq_getElem?_getD, List.getElem?_eq_getElem h]
  · rw [List.getElem?_eq_none (by rw [List.length_range]; omega), List.getElem?_eq_none (by omega)]
    rfl
theorem pick_set {l : List Nat} (hn : l.Nodup) (T : Nat → Bool) : l.filter (fun c => decide (c ∈ ((List.range l.length).filter T).map fun i => l.getD i 0)) = ((List.range l.length).filter T).map fun i => l.getD i 0 := by
  have e : ∀ p : Nat → Bool, l.filter p = ((List.range l.length).filter fun i => p (l.getD i 0)).map fun i => l.getD i 0 := by
    intro p
    have h := congrArg (List.filter p) (map_range_getD l)
    rw [List.filter_map] at h
    exact h.symm
  rw [e]
  congr 1
  apply List.filter_congr
  intro i hi
  have hi' : i < l.length := List.mem_range.mp hi
  by_cases hT : T i = true
  · rw [hT]
    exact decide_eq_true (List.mem_map.mpr ⟨i, List.mem_filter.mpr ⟨hi, hT⟩, rfl⟩)
  · rw [Bool.eq_false_iff.mpr hT]
    refine decide_eq_false fun z => ?_
    obtain ⟨j, hj, ej⟩ := List.mem_map.mp z
    obtain ⟨hj1, hj2⟩ := List.mem_filter.mp hj
    have hj' : j < l.length := List.mem_range.mp hj1
    have : i = j := by
      have e1 : l[j] = l[i] := by
        simpa [List.getD_eq_getElem?_getD, List.getElem?_eq_getElem hi', List.getElem?_eq_getElem hj'] using ej
      exact ((List.getElem_inj hn).mp e1).symm
    subst this
    exact hT hj2
theorem flat_ints : ∀ ns : List Int, (ns.map D.int).all D.flat = true
  | [] => rfl
  | n :: ns => by rw [List.map_cons, List.all_cons, flat_ints ns]; rfl
theorem in_ints (i : Int) (ns : List Int) : inD (.int i) (.lst (ns.map .int)) = some (.fz (.bl (decide (i ∈ ns)))) := by
  show (if ((D.int i).flat && (ns.map D.int).all D.flat) = true then some ((ns.map D.int).any fun b => eqB b (.int i)) else none).map _ = _
  rw [flat_ints, show ((D.int i).flat && true) = true from rfl, if_pos rfl]
  show some (Res.fz (.bl ((ns.map D.int).any fun b => eqB b (.int i)))) = _
  congr 3
  induction ns with
  | nil => rfl
  | cons n ns ih =>
    rw [List.map_cons, List.any_cons, ih]
    show (decide (n = i) || decide (i ∈ ns)) = decide (i ∈ n :: ns)
    rw [← Bool.decide_or]
    congr 1
    rw [List.mem_cons, show (i = n) = (n = i) from propext ⟨Eq.symm, Eq.symm⟩]
theorem ixS_ok {A : Str} {i : Nat} (h : i < A.cps.toList.length) (hz : A.length ≤ 100000) : ixD (.str A) (.int (0 + (i : Int))) = some (.fz (.str ⟨#[A.cps.toList.getD i 0]⟩)) := by
  show (if A.length ≤ 100000 then (atI A.cps.toList (0 + (i : Int))).map _ else none) = _
  rw [if_pos hz, atI_get (by omega) (by omega)]
  have e : (0 + (i : Int)).toNat = i := by omega
  rw [e, List.getElem?_eq_getElem h]
  simp [List.getD_eq_getElem?_getD, List.getElem?_eq_getElem h]
def g_set : FS1 := fun xs ds Q => ∃ (c : Nat) (A : Str), ds = [.str A] ∧ Alp A ∧ Src c xs ∧ c + 7 ≤ 2 ^ 40 ∧ ∀ s xs', isSetM A [.str s] = true → s.length ≤ 6 → Src (c + 7) xs' → Q (.fz (toD (.set s))) xs'
/-- draws in a comprehension -/
theorem draw_turns {Q : List D → Ev → Prop} {A : Str} {mm : D} (hA : A.length ≤ 100) (hA0 : 1 ≤ A.length) : ∀ (n : Nat) (is : List Nat) (c : Nat) (xs : List D) (acc : List Int), is.length = n → Src c xs → c + n ≤ 2 ^ 40 → acc.length + n ≤ 1000 →
    (∀ (acc' : List Int) (xs' : List D), Src (c + n) xs' → Q (acc'.map .int) [some (.ow true xs'), some (.fz (.str A)), some (.fz mm), none, none, none]) →
    lcD [4] (gN 4) tYesD (tCall1 g_draw 0 (tACons (tCallG lenD (tACons (tV 1) tANil)) tANil)) (is.map fun (i : Nat) => D.int (0 + i)) [some (.ow true xs), some (.fz (.str A)), some (.fz mm), none, none, none] (acc.map .int) Q
  | 0, [], c, xs, acc, _, hS, _, _, q => q acc xs hS
  | n + 1, i :: is, c, xs, acc, hl, hS, hc, ha, q => by
    refine ⟨rfl, ⟨_, _, rfl⟩, _, rfl, .fz (.int A.length), by show (if A.length ≤ 100000 then _ else _) = _; rw [if_pos (by omega)], _, _, rfl, c, _, rfl, hS, by omega, by omega, by omega, fun j xs' j0 j1 hS' => ⟨by rw [List.length_map]; omega, ?_⟩⟩
    show lcD _ _ _ _ _ [some (.ow true xs'), some (.fz (.str A)), some (.fz mm), none, none, none] (acc.map .int ++ [.int j]) Q
    rw [show acc.map D.int ++ [.int j] = (acc ++ [j]).map .int by rw [List.map_append]; rfl]
    exact draw_turns hA hA0 n is (c + 1) xs' (acc ++ [j]) (by simpa using hl) hS' (by omega) (by simp; omega) fun acc' xs2 h => q acc' xs2 (by rw [show c + (n + 1) = c + 1 + n by omega]; exact h)
theorem ok_set (A : At K mg "_law_set" ["_law_source_here", "_law_alphabet_here"] s_l_set f fd) (m_len : mg "len" = none) (m_range : mg "range" = none) (c_l_draw : Fn1 P w K mg base "_law_draw" 1 2 g_draw) : Fn1 P w K mg base "_law_set" 2 2 g_set := by
  refine A.fn1 (okD1 (k := 1) A.fn sc_l_set (by decide) (fun cdv A outer s H E hr => (dss_cons (ds_set 2 sc_l_set.nd rfl (by first | exact Or.inl rfl | exact Or.inr rfl) (de_ix (de_lst (da_cons de_int (da_cons de_int (da_cons de_int (da_cons de_int (da_cons de_int (da_cons de_int (da_cons de_int (da_cons de_int da_nil))))))))) (de_c1 0 c_l_draw (hr.mono (by decide)) (by rfl) (da_cons de_int da_nil)) (fun _ _ => rfl)))
      (dss_cons (ds_set 3 sc_l_set.nd rfl (by first | exact Or.inl rfl | exact Or.inr rfl) (de_lc (own := [("_law_k", 4)]) rfl sc_l_set.nd (di_range1 (by rfl) m_range (da_cons (de_v 2) da_nil)) (blkOk_by (N := N_l_set) (sc := defScope s_l_set) (own := [("_law_k", 4)]) (by decide +kernel)) (fun _ _ _ _ _ => (dg_n 4 sc_l_set.nd rfl (by first | exact Or.inl rfl | exact Or.inr rfl))) (fun _ _ _ _ _ => dts_nil) (fun _ _ _ _ _ => (de_c1 0 c_l_draw (hr.mono (by decide)) (by rfl) (da_cons (de_len (by rfl) m_len (da_cons (de_v 1) da_nil)) da_nil)))))
      (dss_one (ds_ret (de_tup (da_cons de_str (da_cons (de_join de_str (de_lc (own := [("_law_at", 5)]) rfl sc_l_set.nd (di_range1 (by rfl) m_range (da_cons (de_len (by rfl) m_len (da_cons (de_v 1) da_nil)) da_nil)) (blkOk_by (N := N_l_set) (sc := defScope s_l_set) (own := [("_law_at", 5)]) (by decide +kernel)) (fun _ _ _ _ _ => (dg_n 5 sc_l_set.nd rfl (by first | exact Or.inl rfl | exact Or.inr rfl))) (fun _ _ _ _ _ => (dts_one (dt_in (de_v 5) (de_v 3)))) (fun _ _ _ _ _ => (de_ix (de_v 1) (de_v 5) (fun _ _ => rfl))))) da_nil)))))))) ?_)
  rintro xs ds Q hl ⟨c, A, rfl, hA, hS, hc, q⟩
  have hA1 := hA.lo
  have hA6 := hA.hi
  walk_at "s"
  refine ⟨c, _, rfl, hS, by omega, by decide, by decide, fun j xs1 j0 j1 hS1 => ?_⟩
  obtain ⟨x, hx, hm⟩ := atI_ok (xs := ([.int 1, .int 1, .int 1, .int 1, .int 1, .int 2, .int 2, .int 6] : List D)) j0 j1
  obtain ⟨v, rfl, v1, v6⟩ : ∃ v : Int, x = .int v ∧ 0 ≤ v ∧ v ≤ 6 := by
    simp only [List.mem_cons, List.mem_nil_iff, or_false] at hm
    rcases hm with rfl | rfl | rfl | rfl | rfl | rfl | rfl | rfl <;> exact ⟨_, rfl, by decide, by decide⟩
  refine ⟨.fz (.int v), ix_lst hx, rfl, ?_⟩
  walk_at "s"
  refine ⟨⟨by omega, by omega⟩, rfl, ?_⟩
  refine draw_turns (A := A) (mm := .int v) (by omega) hA1 v.toNat (List.range v.toNat) (c + 1) xs1 [] (by simp) hS1 (by omega) (by simp; omega) fun taken xs2 hS2 => ?_
  walk_at "s"
  refine ⟨.fz (.int A.length), by show (if A.length ≤ 100000 then _ else _) = _; rw [if_pos (by omega)], ?_⟩
  walk_at "s"
  refine ⟨⟨by omega, by omega⟩, rfl, ?_⟩
  have el : ((A.length : Nat) : Int).toNat = A.cps.toList.length := by rw [len_l]; omega
  rw [show rangeD 0 ((A.length : Nat) : Int).toNat = (List.range A.cps.toList.length).map fun (i : Nat) => D.int (0 + i) by rw [el]; rfl]
  refine lc_pure (b := fun (i : Nat) => decide (0 + (i : Int) ∈ taken)) (f := fun i => .str ⟨#[A.cps.toList.getD i 0]⟩) rfl rfl (List.range A.cps.toList.length) [] (fun i _ Q2 q2 => ?_) (fun i hi _ Q2 q2 => ?_) (by rw [List.length_range, ← len_l]; simp; omega) ?_
  · exact ⟨_, rfl, _, rfl, _, in_ints _ taken, _, rfl, q2⟩
  · exact ⟨_, rfl, _, rfl, _, ixS_ok (List.mem_range.mp hi) (by omega), q2 _ rfl⟩
  · have hcl : ((((List.range A.cps.toList.length).filter fun (i : Nat) => decide (0 + (i : Int) ∈ taken)).map fun i => A.cps.toList.getD i 0)).length ≤ 6 := by
      rw [List.length_map]
      have := List.length_filter_le (fun (i : Nat) => decide (0 + (i : Int) ∈ taken)) (List.range A.cps.toList.length)
      rw [List.length_range] at this
      have := len_l A
      omega
    have hcs : ([] ++ ((List.range A.cps.toList.length).filter fun (i : Nat) => decide (0 + (i : Int) ∈ taken)).map fun i => D.str ⟨#[A.cps.toList.getD i 0]⟩) = (((List.range A.cps.toList.length).filter fun (i : Nat) => decide (0 + (i : Int) ∈ taken)).map fun i => A.cps.toList.getD i 0).map fun c => D.str ⟨#[c]⟩ := by
      rw [List.nil_append, List.map_map]
      rfl
    rw [hcs]
    generalize hcs2 : (((List.range A.cps.toList.length).filter fun (i : Nat) => decide (0 + (i : Int) ∈ taken)).map fun i => A.cps.toList.getD i 0) = cs at hcl
    refine ⟨_, joinD_signs cs (by omega), Nat.le_of_ble_eq_true rfl, xs2, rfl, q (ofL cs) xs2 ?_ (by rw [len_l, ofL_l]; exact hcl) (hS2.mono (by omega))⟩
    show decide (ofL cs = ofL (A.cps.toList.filter fun c => decide (c ∈ (ofL cs).cps.toList))) = true
    rw [ofL_l, ← hcs2, pick_set hA.nd]
    exact decide_eq_true rfl
/-! ### rows of sets -/
/-- the sets of a row -/
def setsOk (A : Str) (ss : List Str) : Prop := ∀ s ∈ ss, isSetM A [.str s] = true ∧ s.length ≤ 6
def g_row : FS1 := fun xs ds Q => ∃ (c : Nat) (A : Str) (m : Int), ds = [.str A, .int m] ∧ Alp A ∧ Src c xs ∧ 0 ≤ m ∧ m ≤ 100 ∧ c + 700 ≤ 2 ^ 40 ∧ ∀ ss xs', setsOk A ss → ss.length = m.toNat → Src (c + 700) xs' → Q (.fz (toD (.row (ss.map .set)))) xs'
theorem set_turns {Q : List D → Ev → Prop} {A : Str} {mm : D} (hA : Alp A) : ∀ (n : Nat) (is : List Nat) (c : Nat) (xs : List D) (acc : List Str), is.length = n → Src c xs → c + 7 * n ≤ 2 ^ 40 → acc.length + n ≤ 1000 → setsOk A acc →
    (∀ (acc' : List Str) (xs' : List D), setsOk A acc' → acc'.length = acc.length + n → Src (c + 7 * n) xs' → Q (acc'.map fun s => toD (.set s)) [some (.ow true xs'), some (.fz (.str A)), some (.fz mm), none]) →
    lcD [3] (gN 3) tYesD (tCall1 g_set 0 (tACons (tV 1) tANil)) (is.map fun (i : Nat) => D.int (0 + i)) [some (.ow true xs), some (.fz (.str A)), some (.fz mm), none] (acc.map fun s => toD (.set s)) Q
  | 0, [], c, xs, acc, _, hS, _, _, hs, q => q acc xs hs rfl hS
  | n + 1, i :: is, c, xs, acc, hl, hS, hc, ha, hs, q => by
    refine ⟨rfl, ⟨_, _, rfl⟩, _, rfl, _, _, rfl, c, A, rfl, hA, hS, by omega, fun s xs' h1 h2 hS' => ⟨by rw [List.length_map]; omega, ?_⟩⟩
    show lcD _ _ _ _ _ [some (.ow true xs'), some (.fz (.str A)), some (.fz mm), none] ((acc.map fun s => toD (.set s)) ++ [toD (.set s)]) Q
    rw [show (acc.map fun s => toD (.set s)) ++ [toD (.set s)] = (acc ++ [s]).map fun s => toD (.set s) by rw [List.map_append]; rfl]
    refine set_turns hA n is (c + 7) xs' (acc ++ [s]) (by simpa using hl) hS' (by omega) (by simp; omega) ?_ fun acc' xs2 h3 h4 h => q acc' xs2 h3 (by rw [h4]; simp; omega) (by rw [show c + 7 * (n + 1) = c + 7 + 7 * n by omega]; exact h)
    intro t ht
    rcases List.mem_append.mp ht with ht | ht
    · exact hs t ht
    · rw [List.mem_singleton.mp ht]
      exact ⟨h1, h2⟩
theorem ok_row (A : At K mg "_law_row" ["_law_source_here", "_law_alphabet_here", "_law_many"] s_l_row f fd) (m_tuple : mg "tuple" = none) (m_range : mg "range" = none) (c_l_set : Fn1 P w K mg base "_law_set" 2 2 g_set) : Fn1 P w K mg base "_law_row" 3 3 g_row := by
  refine A.fn1 (okD1 (k := 2) A.fn sc_l_row (by decide) (fun cdv A outer s H E hr => (dss_one (ds_ret (de_add (de_tup (da_cons de_str da_nil)) (de_tuple (by rfl) m_tuple (da_cons (de_lc (own := [("_law_k", 3)]) rfl sc_l_row.nd (di_range1 (by rfl) m_range (da_cons (de_v 2) da_nil)) (blkOk_by (N := N_l_row) (sc := defScope s_l_row) (own := [("_law_k", 3)]) (by decide +kernel)) (fun _ _ _ _ _ => (dg_n 3 sc_l_row.nd rfl (by first | exact Or.inl rfl | exact Or.inr rfl))) (fun _ _ _ _ _ => dts_nil) (fun _ _ _ _ _ => (de_c1 0 c_l_set (hr.mono (by decide)) (by rfl) (da_cons (de_v 1) da_nil)))) da_nil)))))) ?_)
  rintro xs ds Q hl ⟨c, A, m, rfl, hA, hS, m0, m1, hc, q⟩
  walk_at "s"
  refine ⟨⟨by omega, by omega⟩, rfl, ?_⟩
  refine set_turns (A := A) (mm := .int m) hA m.toNat (List.range m.toNat) c xs [] (by simp) hS (by omega) (by simp; omega) (by intro s hs; cases hs) fun ss xs2 h1 h2 hS2 => ?_
  walk_at "s"
  have hl2 : ss.length = m.toNat := by simpa using h2
  refine ⟨.fz (.tup (.str "row" :: ss.map fun s => toD (.set s))), ?_, xs2, rfl, ?_⟩
  · show (if ([D.str "row"].length + (ss.map fun s => toD (.set s)).length ≤ 16000) then _ else _) = _
    rw [if_pos (by simp; omega)]
    rfl
  · have := q ss xs2 h1 hl2 (hS2.mono (by omega))
    rw [toD, toDL_map, List.map_map] at this
    exact this
end
end Cut
namespace Cut
open PySem L2 DL
/-! ### expressions whose sets are those of the alphabet -/
mutual
def stR (A : Str) : Rx → Bool
  | .set s => isSetM A [.str s] && decide (s.length ≤ 6)
  | .row ps | .any ps | .all ps => stRL A ps
  | .no p => stR A p
  | .again p _ _ => stR A p
def stRL (A : Str) : List Rx → Bool
  | [] => true
  | p :: ps => stR A p && stRL A ps
end
theorem stRL_all (A : Str) : ∀ ps, (∀ p ∈ ps, stR A p = true) → stRL A ps = true
  | [], _ => rfl
  | p :: ps, h => by rw [stRL, h p (List.mem_cons_self ..), stRL_all A ps fun q hq => h q (List.mem_cons_of_mem _ hq)]; rfl
theorem okRL_all : ∀ ps, (∀ p ∈ ps, okR p = true) → okRL ps = true
  | [], _ => rfl
  | p :: ps, h => by rw [okRL, h p (List.mem_cons_self ..), okRL_all ps fun q hq => h q (List.mem_cons_of_mem _ hq)]; rfl
mutual
theorem exprR (A : Str) : ∀ r, stR A r = true → okR r = true → isExpr A (toD r) = true
  | .set s, h, _ => by
    rw [toD, isExpr, exprB, if_pos rfl]
    rw [stR, Bool.and_eq_true] at h
    exact h.1
  | .row ps, h, o => by
    rw [toD, isExpr, exprB, if_neg k1, if_neg k2, if_neg (by rintro (⟨z, _⟩ | z); exact k3 z; exact z (.inl rfl))]
    rw [okR, Bool.and_eq_true] at o
    exact exprRL A ps h o.2
  | .any ps, h, o => by
    rw [toD, isExpr, exprB, if_neg k4, if_neg k5, if_neg (by rintro (⟨z, _⟩ | z); exact k6 z; exact z (.inr (.inl rfl)))]
    rw [okR, Bool.and_eq_true] at o
    exact exprRL A ps h o.2
  | .all ps, h, o => by
    rw [toD, isExpr, exprB, if_neg k7, if_neg k8, if_neg (by rintro (⟨z, _⟩ | z); exact k9 z; exact z (.inr (.inr (.inl rfl))))]
    rw [okR, Bool.and_eq_true] at o
    exact exprRL A ps h o.2
  | .no p, h, o => by
    rw [toD, isExpr, exprB, if_neg k10, if_neg k11, if_neg (by rintro (⟨_, z⟩ | z); exact z rfl; exact z (.inr (.inr (.inr rfl)))), isExprM, isExprM, exprR A p h o]
    rfl
  | .again p lo hi, h, o => by
    rw [okR, Bool.and_eq_true, Bool.and_eq_true, Bool.and_eq_true] at o
    rw [toD, isExpr, exprB, if_neg k12, if_pos rfl, isExprM, isExprM, isExprM, isExprM, againB, exprR A p h o.1.1.1, Bool.true_and, loB, o.1.1.2, o.1.2]
    have o2 := o.2
    cases hi with
    | none => rfl
    | some hh => exact o2
theorem exprRL (A : Str) : ∀ ps, stRL A ps = true → okRL ps = true → (isExprM A (toDL ps)).all id = true
  | [], _, _ => rfl
  | p :: ps, h, o => by
    rw [stRL, Bool.and_eq_true] at h
    rw [okRL, Bool.and_eq_true] at o
    rw [toDL, isExprM, List.all_cons, exprR A p h.1 o.1, exprRL A ps h.2 o.2]
    rfl
end
/-! ### values, depths -/
theorem strlen_set : ("set" : Str).length = 3 := by decide +kernel
theorem strlen_row : ("row" : Str).length = 3 := by decide +kernel
theorem strlen_any : ("any" : Str).length = 3 := by decide +kernel
theorem strlen_all : ("all" : Str).length = 3 := by decide +kernel
theorem strlen_not : ("not" : Str).length = 3 := by decide +kernel
theorem strlen_again : ("again" : Str).length = 5 := by decide +kernel
theorem val_hi (hi : Option Int) : val (hiD hi) = true := by cases hi <;> rfl
theorem dep_hi (hi : Option Int) : dep (hiD hi) = 0 := by cases hi <;> rfl
mutual
theorem val_toD : ∀ r, okR r = true → val (toD r) = true
  | .set s, h => by
    rw [okR] at h
    simp only [toD, val, valL, strlen_set, h]
    rfl
  | .row ps, h => by
    rw [okR, Bool.and_eq_true] at h
    have := of_decide_eq_true h.1
    simp only [toD, val, valL, strlen_row, val_toDL ps h.2, List.length_cons, toDL_len]
    simp
    omega
  | .any ps, h => by
    rw [okR, Bool.and_eq_true] at h
    have := of_decide_eq_true h.1
    simp only [toD, val, valL, strlen_any, val_toDL ps h.2, List.length_cons, toDL_len]
    simp
    omega
  | .all ps, h => by
    rw [okR, Bool.and_eq_true] at h
    have := of_decide_eq_true h.1
    simp only [toD, val, valL, strlen_all, val_toDL ps h.2, List.length_cons, toDL_len]
    simp
    omega
  | .no p, h => by
    rw [okR] at h
    simp only [toD, val, valL, strlen_not, val_toD p h]
    rfl
  | .again p lo hi, h => by
    rw [okR, Bool.and_eq_true, Bool.and_eq_true, Bool.and_eq_true] at h
    simp only [toD, val, valL, strlen_again, val_toD p h.1.1.1, val_hi]
    rfl
theorem val_toDL : ∀ ps, okRL ps = true → valL (toDL ps) = true
  | [], _ => rfl
  | p :: ps, h => by
    rw [okRL, Bool.and_eq_true] at h
    rw [toDL, valL, val_toD p h.1, val_toDL ps h.2]
    rfl
end
mutual
theorem dep_toD : ∀ r, dep (toD r) ≤ rdep r + 1
  | .set s => by simp [toD, dep, depL]
  | .row ps => by have := dep_toDL ps; simp only [toD, dep, depL, rdep]; omega
  | .any ps => by have := dep_toDL ps; simp only [toD, dep, depL, rdep]; omega
  | .all ps => by have := dep_toDL ps; simp only [toD, dep, depL, rdep]; omega
  | .no p => by have := dep_toD p; simp only [toD, dep, depL, rdep]; omega
  | .again p lo hi => by have := dep_toD p; have := dep_hi hi; simp only [toD, dep, depL, rdep]; omega
theorem dep_toDL : ∀ ps, depL (toDL ps) ≤ rdepL ps + 1
  | [] => by simp [toDL, depL]
  | p :: ps => by have := dep_toD p; have := dep_toDL ps; simp only [toDL, depL, rdepL]; omega
end
/-- a pattern of the law: what is_pattern is asked of it -/
structure Okp (A : Str) (r : Rx) : Prop where
  st : stR A r = true
  ok : okR r = true
  dp : rdep r ≤ 50
theorem sum_const {α : Type} {f : α → Int} : ∀ (l : List α) (k : Int), (∀ a ∈ l, f a = k) → (l.map f).sum = k * l.length
  | [], k, _ => by simp
  | a :: l, k, h => by
    rw [List.map_cons, List.sum_cons, h a (List.mem_cons_self ..), sum_const l k fun b hb => h b (List.mem_cons_of_mem _ hb), List.length_cons]
    rw [show ((l.length + 1 : Nat) : Int) = (l.length : Int) + 1 by omega, Int.mul_add]
    omega
theorem all_const {α : Type} {f : α → Bool} (l : List α) (h : ∀ a ∈ l, f a = true) : (l.map f).all id = true := by
  rw [List.all_eq_true]
  intro x hx
  obtain ⟨a, ha, rfl⟩ := List.mem_map.mp hx
  exact h a ha
/-- an again's numbers -/
def fcI (lo : Int) (hi : Option Int) : Int := match hi with | none => lo + 1 | some h => mx1 h
theorem wd_again (p : Rx) (lo : Int) (hi : Option Int) : wd (.again p lo hi) = mx1 (wd p) * fcI lo hi := by cases hi <;> rfl
theorem stR_sets {A : Str} {ss : List Str} (h : setsOk A ss) : ∀ p ∈ ss.map Rx.set, stR A p = true := by
  intro p hp
  obtain ⟨s, hs, rfl⟩ := List.mem_map.mp hp
  rw [stR, (h s hs).1, decide_eq_true (h s hs).2]
  rfl
theorem okR_set {A : Str} {s : Str} (h : s.length ≤ 6) : okR (.set s) = true := by rw [okR]; exact decide_eq_true (by omega)
theorem okR_sets {A : Str} {ss : List Str} (h : setsOk A ss) : ∀ p ∈ ss.map Rx.set, okR p = true := by
  intro p hp
  obtain ⟨s, hs, rfl⟩ := List.mem_map.mp hp
  exact okR_set (A := A) (h s hs).2
theorem wd_sets (ss : List Str) : (wdL (ss.map Rx.set)).sum = (ss.length : Int) := by
  rw [wdL_map, sum_const _ 1 (by intro p hp; obtain ⟨s, _, rfl⟩ := List.mem_map.mp hp; rfl), List.length_map]
  omega
theorem cnt_sets (ss : List Str) : (cntL (ss.map Rx.set)).sum = (ss.length : Int) := by
  rw [cntL_map, sum_const _ 1 (by intro p hp; obtain ⟨s, _, rfl⟩ := List.mem_map.mp hp; rfl), List.length_map]
  omega
theorem plain_sets (ss : List Str) : (plainL (ss.map Rx.set)).all id = true := by
  rw [plainL_map]
  exact all_const _ (by intro p hp; obtain ⟨s, _, rfl⟩ := List.mem_map.mp hp; rfl)
theorem hasP_sets (ss : List Str) : (hasPL (ss.map Rx.set)).all id = true := by
  rw [hasPL_map]
  exact all_const _ (by intro p hp; obtain ⟨s, _, rfl⟩ := List.mem_map.mp hp; rfl)
theorem rdepL_le : ∀ (ps : List Rx) (n : Nat), (∀ p ∈ ps, rdep p ≤ n) → rdepL ps ≤ n
  | [], n, _ => Nat.zero_le _
  | p :: ps, n, h => by
    have h1 := h p (List.mem_cons_self ..)
    have h2 := rdepL_le ps n fun q hq => h q (List.mem_cons_of_mem _ hq)
    rw [rdepL]
    omega
theorem rdep_sets (ss : List Str) : rdepL (ss.map Rx.set) = 0 := by
  have := rdepL_le (ss.map Rx.set) 0 (by intro p hp; obtain ⟨s, _, rfl⟩ := List.mem_map.mp hp; exact Nat.le_refl _)
  omega
theorem mx1_of {j : Int} (h : 1 ≤ j) : mx1 j = j := by unfold mx1; split <;> omega
/-- row, any or all of parts -/
def mk (w : Nat) (ps : List Rx) : Rx := match w with | 0 => .row ps | 1 => .any ps | _ => .all ps
theorem toD_mk (w : Nat) (ps : List Rx) : toD (mk w ps) = .tup (.str (match w with | 0 => "row" | 1 => "any" | _ => "all") :: toDL ps) := by
  match w with
  | 0 => exact toD.eq_2 ps
  | 1 => exact toD.eq_3 ps
  | n + 2 => exact toD.eq_4 ps
theorem Okp.of {A : Str} {w : Nat} {ps : List Rx} (h1 : ∀ p ∈ ps, stR A p = true) (h2 : ∀ p ∈ ps, okR p = true) (h3 : ps.length ≤ 9999) (h4 : rdepL ps ≤ 40) : Okp A (Cut.mk w ps) := by
  have e1 := stRL_all A ps h1
  have e2 := okRL_all ps h2
  have e3 : (decide (ps.length ≤ 9999) && okRL ps) = true := by rw [decide_eq_true h3, e2]; rfl
  match w with
  | 0 => exact ⟨by show stR A (.row ps) = true; rw [stR]; exact e1, by show okR (.row ps) = true; rw [okR]; exact e3, by show rdep (.row ps) ≤ 50; rw [rdep]; omega⟩
  | 1 => exact ⟨by show stR A (.any ps) = true; rw [stR]; exact e1, by show okR (.any ps) = true; rw [okR]; exact e3, by show rdep (.any ps) ≤ 50; rw [rdep]; omega⟩
  | n + 2 => exact ⟨by show stR A (.all ps) = true; rw [stR]; exact e1, by show okR (.all ps) = true; rw [okR]; exact e3, by show rdep (.all ps) ≤ 50; rw [rdep]; omega⟩
theorem wd_mk (w : Nat) (ps : List Rx) : wd (mk w ps) = mx1 (wdL ps).sum := by
  match w with
  | 0 => exact wd.eq_2 ps
  | 1 => exact wd.eq_3 ps
  | n + 2 => exact wd.eq_4 ps
theorem cnt_mk (w : Nat) (ps : List Rx) : cnt (mk w ps) = 1 + (cntL ps).sum := by
  match w with
  | 0 => exact cnt.eq_2 ps
  | 1 => exact cnt.eq_3 ps
  | n + 2 => exact cnt.eq_4 ps
theorem hasP_mk (w : Nat) (ps : List Rx) (h1 : (plainL ps).all id = true) (h2 : (hasPL ps).all id = true) : hasP (mk w ps) = true := by
  match w with
  | 0 => exact (hasP.eq_2 ps).trans h1
  | 1 => show hasP (.any ps) = true; rw [hasP]; exact h2
  | n + 2 => show hasP (.all ps) = true; rw [hasP]; exact h2
/-- ["row", "any", "all"][draw] -/
theorem word3 {j : Int} (j0 : 0 ≤ j) (j1 : j < 3) : ∃ w : Nat, atI ([.str "row", .str "any", .str "all"] : List D) j = some (.str (match w with | 0 => "row" | 1 => "any" | _ => "all")) := by
  have h : j = 0 ∨ j = 1 ∨ j = 2 := by omega
  rcases h with rfl | rfl | rfl
  · exact ⟨0, rfl⟩
  · exact ⟨1, rfl⟩
  · exact ⟨2, rfl⟩
theorem add_tup {a b : List D} (h : a.length + b.length ≤ 16000) : addD (.tup a) (.tup b) = some (.fz (.tup (a ++ b))) := by
  show (if _ then _ else _) = _
  rw [if_pos h]
theorem mul_tup {a : List D} {k : Int} (h1 : a ≠ []) (h2 : 0 ≤ k) (h3 : k ≤ 1000) (h4 : a.length ≤ 1000) : mulD (.tup a) (.int k) = some (.fz (.tup (List.replicate k.toNat a).flatten)) := by
  show (if _ then _ else _) = _
  rw [if_pos (decide_eq_true ⟨h1, h2, h3, h4⟩)]
theorem rep_one {α : Type} (a : α) : ∀ n, (List.replicate n [a]).flatten = List.replicate n a
  | 0 => rfl
  | n + 1 => by rw [List.replicate_succ, List.flatten_cons, rep_one a n, List.replicate_succ]; rfl
theorem toDL_rep (r : Rx) (n : Nat) : toDL (List.replicate n r) = List.replicate n (toD r) := by rw [toDL_map, List.map_replicate]
/-! ### what the drawn patterns are -/
theorem wd_row (ps : List Rx) : wd (.row ps) = mx1 (wdL ps).sum := wd.eq_2 ps
theorem wd_any (ps : List Rx) : wd (.any ps) = mx1 (wdL ps).sum := wd.eq_3 ps
theorem wd_all (ps : List Rx) : wd (.all ps) = mx1 (wdL ps).sum := wd.eq_4 ps
theorem wd_no (p : Rx) : wd (.no p) = mx1 (wd p) := wd.eq_5 p
/-- a plain pattern of at most the width R -/
structure Pln (A : Str) (R : Int) (r : Rx) : Prop where
  st : stR A r = true
  ok : okR r = true
  dp : rdep r ≤ 3
  pl : plain r = true
  wl : wd r ≤ R
  w1 : 1 ≤ wd r
  ct : cnt r ≤ R + 3
structure Pat (A : Str) (R : Int) (r : Rx) : Prop where
  st : stR A r = true
  ok : okR r = true
  dp : rdep r ≤ 5
  hp : hasP r = true
  wl : wd r ≤ R
  w1 : 1 ≤ wd r
  ct : cnt r ≤ R + 8
mutual
theorem plain_hasP : ∀ r : Rx, plain r = true → hasP r = true
  | .set _, _ => rfl
  | .row ps, h => by rw [hasP]; rw [plain] at h; exact h
  | .any ps, h => by rw [hasP]; rw [plain] at h; exact plain_hasPL ps h
  | .all _, h => by rw [plain] at h; cases h
  | .no _, h => by rw [plain] at h; cases h
  | .again p _ _, h => by rw [hasP]; rw [plain] at h; exact h
theorem plain_hasPL : ∀ ps : List Rx, (plainL ps).all id = true → (hasPL ps).all id = true
  | [], _ => rfl
  | p :: ps, h => by
    rw [plainL, List.all_cons, Bool.and_eq_true] at h
    rw [hasPL, List.all_cons, Bool.and_eq_true]
    exact ⟨plain_hasP p h.1, plain_hasPL ps h.2⟩
end
theorem Pln.pat {A : Str} {R : Int} {r : Rx} (h : Pln A R r) : Pat A R r := ⟨h.st, h.ok, Nat.le_trans h.dp (by decide), plain_hasP r h.pl, h.wl, h.w1, by have := h.ct; omega⟩
theorem Pln.set {A s : Str} {R : Int} (h1 : isSetM A [.str s] = true) (h2 : s.length ≤ 6) (hR : 1 ≤ R) : Pln A R (.set s) :=
  ⟨by rw [stR, h1, decide_eq_true h2]; rfl, okR_set (A := A) h2, by rw [rdep]; decide, rfl, hR, Int.le_refl 1, by show (1 : Int) ≤ _; omega⟩
/-- the parts of a row of sets -/
structure Sets (A : Str) (n : Int) (ps : List Rx) : Prop where
  st : stRL A ps = true
  ok : okRL ps = true
  pl : (plainL ps).all id = true
  ws : (wdL ps).sum = n
  ct : (cntL ps).sum = n
  dp : rdepL ps = 0
  ln : (ps.length : Int) = n
theorem Sets.of {A : Str} {m : Int} {ss : List Str} (h : setsOk A ss) (hl : ss.length = m.toNat) (m0 : 0 ≤ m) : Sets A m (ss.map .set) := by
  have e : (ss.length : Int) = m := by omega
  exact ⟨stRL_all A _ (stR_sets h), okRL_all _ (okR_sets h), plain_sets ss, by rw [wd_sets, e], by rw [cnt_sets, e], rdep_sets ss, by rw [List.length_map]; exact e⟩
theorem Pln.row {A : Str} {R n : Int} {ps : List Rx} (h : Sets A n ps) (n1 : 1 ≤ n) (hn : n ≤ R) (hR : R ≤ 100) : Pln A R (.row ps) := by
  have := h.ln
  refine ⟨by rw [stR]; exact h.st, by rw [okR, decide_eq_true (by omega), h.ok]; rfl, by rw [rdep, h.dp]; decide, by rw [plain]; exact h.pl, ?_, ?_, ?_⟩
  · rw [wd_row, h.ws, mx1_of n1]
    exact hn
  · rw [wd_row, h.ws, mx1_of n1]
    exact n1
  · rw [cnt, h.ct]
    omega
theorem Pln.any2 {A : Str} {R n m : Int} {ps qs : List Rx} (h : Sets A n ps) (h' : Sets A m qs) (n1 : 1 ≤ n) (m1 : 1 ≤ m) (hn : n + m = R) (hR : R ≤ 100) : Pln A R (.any [.row ps, .row qs]) := by
  have a := Pln.row h n1 (Int.le_refl n) (by omega)
  have b := Pln.row h' m1 (Int.le_refl m) (by omega)
  have e1 : wd (.row ps) = n := by rw [wd_row, h.ws, mx1_of n1]
  have e2 : wd (.row qs) = m := by rw [wd_row, h'.ws, mx1_of m1]
  have e3 : wd (.any [.row ps, .row qs]) = R := by
    rw [wd_any, wdL, wdL, wdL, e1, e2, List.sum_cons, List.sum_cons, List.sum_nil, mx1_of (by omega)]
    omega
  refine ⟨by rw [stR, stRL, stRL, stRL, a.st, b.st]; rfl, by rw [okR, okRL, okRL, okRL, a.ok, b.ok]; rfl, ?_, by rw [plain, plainL, plainL, plainL, a.pl, b.pl]; rfl, by rw [e3]; exact Int.le_refl _, by rw [e3]; omega, ?_⟩
  · rw [rdep, rdepL, rdepL, rdepL, rdep, rdep, h.dp, h'.dp]
    decide
  · rw [cnt, cntL, cntL, cntL, cnt, cnt, h.ct, h'.ct, List.sum_cons, List.sum_cons, List.sum_nil]
    omega
/-- sets and one plain part behind or ahead of them -/
theorem Pln.rowWith {A : Str} {R n : Int} {ps qs : List Rx} {p : Rx} (h : Sets A n ps) (st : stR A p = true) (ok : okR p = true) (dp : rdep p ≤ 2) (pl : plain p = true) (w0 : 0 ≤ wd p) (wl : n + wd p ≤ R) (ct : n + cnt p ≤ R + 2) (n1 : 1 ≤ n) (hR : R ≤ 100) (hq : qs = ps ++ [p] ∨ qs = p :: ps) : Pln A R (.row qs) := by
  have hl := h.ln
  have e1 : stRL A qs = true := by
    refine stRL_all A qs fun q hq' => ?_
    have hm : ∀ x ∈ ps, stR A x = true := by
      have := h.st
      clear hl
      revert this
      clear h hq hq'
      induction ps with
      | nil => intro _ x hx; cases hx
      | cons a l ih =>
        intro z x hx
        rw [stRL, Bool.and_eq_true] at z
        rcases List.mem_cons.mp hx with e | e
        · rw [e]; exact z.1
        · exact ih z.2 x e
    rcases hq with rfl | rfl
    · rcases List.mem_append.mp hq' with z | z
      · exact hm q z
      · rw [List.mem_singleton.mp z]; exact st
    · rcases List.mem_cons.mp hq' with z | z
      · rw [z]; exact st
      · exact hm q z
  have e2 : okRL qs = true := by
    refine okRL_all qs fun q hq' => ?_
    rcases hq with rfl | rfl
    · rcases List.mem_append.mp hq' with z | z
      · exact okRL_mem h.ok q z
      · rw [List.mem_singleton.mp z]; exact ok
    · rcases List.mem_cons.mp hq' with z | z
      · rw [z]; exact ok
      · exact okRL_mem h.ok q z
  have e3 : (wdL qs).sum = n + wd p := by
    rcases hq with rfl | rfl
    · rw [wdL_map, List.map_append, List.sum_append, ← wdL_map, h.ws]
      simp
    · rw [wdL, List.sum_cons, h.ws]
      omega
  have e4 : (cntL qs).sum = n + cnt p := by
    rcases hq with rfl | rfl
    · rw [cntL_map, List.map_append, List.sum_append, ← cntL_map, h.ct]
      simp
    · rw [cntL, List.sum_cons, h.ct]
      omega
  have e5 : (plainL qs).all id = true := by
    rcases hq with rfl | rfl
    · rw [plainL_map, List.map_append, List.all_append, ← plainL_map, h.pl]
      simp [pl]
    · rw [plainL, List.all_cons, h.pl, pl]
      rfl
  have e6 : rdepL qs ≤ 2 := by
    refine rdepL_le qs 2 fun q hq' => ?_
    have hm : ∀ x ∈ ps, rdep x ≤ 2 := fun x hx => by
      have := rdepL_mem (n := 1) (by rw [h.dp]; decide) x hx
      omega
    rcases hq with rfl | rfl
    · rcases List.mem_append.mp hq' with z | z
      · exact hm q z
      · rw [List.mem_singleton.mp z]; exact dp
    · rcases List.mem_cons.mp hq' with z | z
      · rw [z]; exact dp
      · exact hm q z
  have e7 : qs.length = ps.length + 1 := by rcases hq with rfl | rfl <;> simp
  refine ⟨by rw [stR]; exact e1, by rw [okR, decide_eq_true (by omega), e2]; rfl, by rw [rdep]; omega, by rw [plain]; exact e5, ?_, ?_, ?_⟩
  · rw [wd_row, e3, mx1_of (by omega)]
    exact wl
  · rw [wd_row, e3, mx1_of (by omega)]
    omega
  · rw [cnt, e4]
    omega
theorem Pat.all2 {A : Str} {R n m : Int} {p q : Rx} (h : Pln A n p) (h' : Pln A m q) (hn : n + m = R) : Pat A R (.all [p, .no q]) := by
  have a := h.w1
  have b := h'.w1
  have c := h.wl
  have d := h'.wl
  have e3 : wd (.all [p, .no q]) = wd p + wd q := by
    rw [wd_all, wdL, wdL, wdL, wd_no, mx1_of b, List.sum_cons, List.sum_cons, List.sum_nil, mx1_of (by omega)]
    omega
  refine ⟨by rw [stR, stRL, stRL, stRL, stR, h.st, h'.st]; rfl, by rw [okR, okRL, okRL, okRL, okR, h.ok, h'.ok]; rfl, ?_, ?_, by rw [e3]; omega, by rw [e3]; omega, ?_⟩
  · have := h.dp
    have := h'.dp
    rw [rdep, rdepL, rdepL, rdepL, rdep]
    omega
  · rw [hasP, hasPL, hasPL, hasPL, hasP, plain_hasP p h.pl, plain_hasP q h'.pl]
    rfl
  · have := h.ct
    have := h'.ct
    rw [cnt, cntL, cntL, cntL, cnt, List.sum_cons, List.sum_cons, List.sum_nil]
    omega
end Cut
namespace Cut
open PySem L2 DL
local macro_rules | `(tactic| walk_at "s") => `(tactic| repeat (first | with_reducible refine ⟨_, rfl, ?_⟩ | refine ⟨_, rfl, ?_⟩ | refine ⟨rfl, ?_⟩ | refine ⟨_, _, rfl, rfl, ?_⟩ | refine ⟨_, _, rfl, ?_⟩ | refine iteT ?_ | refine iteF ?_ | refine ⟨⟨_, rfl⟩, ?_⟩ | refine ⟨⟨_, _, rfl⟩, ?_⟩ | refine ⟨_, _, _, _, rfl, rfl, rfl, ?_⟩ | refine ⟨Nat.le_of_ble_eq_true rfl, ?_⟩ | refine ⟨(by decide), ?_⟩ | refine ⟨_, ix_t0 _ _, ?_⟩ | refine ⟨_, ix_l0 _ _, ?_⟩))
abbrev s_l_plain : Stmt := top 29
abbrev N_l_plain : List Str := ["_law_source_here", "_law_alphabet_here", "_law_room", "_law_way", "_law_size", "_law_many", "_law_part", "_law_low", "_law_high"]
theorem sc_l_plain : FnScope N_l_plain ["_law_source_here", "_law_alphabet_here", "_law_room"] (defScope s_l_plain) := ⟨rfl, rfl, rfl, by decide +kernel, rfl, by decide +kernel, by decide +kernel⟩
abbrev s_l_pattern : Stmt := top 30
abbrev N_l_pattern : List Str := ["_law_source_here", "_law_alphabet_here", "_law_room", "_law_size", "_law_barred"]
theorem sc_l_pattern : FnScope N_l_pattern ["_law_source_here", "_law_alphabet_here", "_law_room"] (defScope s_l_pattern) := ⟨rfl, rfl, rfl, by decide +kernel, rfl, by decide +kernel, by decide +kernel⟩
section
variable {P : Program} {w : World} {K : Fg} {mg : Str → Option Value} {base : Heap} {f f2 : Addr} {fd fd2 : FuncData}
theorem add_row {ps rs : List Rx} {qs : List D} (hq : qs = toDL rs) (h : ps.length + rs.length ≤ 15000) : addD (toD (.row ps)) (.tup qs) = some (.fz (toD (.row (ps ++ rs)))) := by
  subst hq
  rw [toD.eq_2, toD.eq_2, add_tup (by rw [List.length_cons, toDL_len, toDL_len]; omega)]
  rw [show toDL (ps ++ rs) = toDL ps ++ toDL rs by rw [toDL_map, toDL_map, toDL_map, List.map_append]]
  rfl
theorem toD_again (p : Rx) (lo : Int) (hi : Option Int) : D.tup [.str "again", toD p, .int lo, hiD hi] = toD (.again p lo hi) := (toD.eq_6 p lo hi).symm
theorem fdiv_bd {a b : Int} (h0 : 1 ≤ b) (h1 : b ≤ a) : 1 ≤ a / b ∧ a / b ≤ a ∧ (a / b) * b ≤ a := by
  have h2 := Int.ediv_mul_le a (b := b) (by omega)
  have h3 : 1 ≤ a / b := (Int.le_ediv_iff_mul_le (by omega)).mpr (by omega)
  refine ⟨h3, ?_, h2⟩
  exact Int.ediv_le_self b (by omega)
def g_plain : FS1 := fun xs ds Q => ∃ (c : Nat) (A : Str) (R : Int), ds = [.str A, .int R] ∧ Alp A ∧ Src c xs ∧ 1 ≤ R ∧ R ≤ 20 ∧ c + 2000 ≤ 2 ^ 40 ∧ ∀ r xs', Pln A R r → Src (c + 2000) xs' → Q (.fz (toD r)) xs'
theorem ok_plain (A : At K mg "_law_plain" ["_law_source_here", "_law_alphabet_here", "_law_room"] s_l_plain f fd) (m_min : mg "min" = none) (m_int : mg "int" = none) (c_l_draw : Fn1 P w K mg base "_law_draw" 1 2 g_draw) (c_l_set : Fn1 P w K mg base "_law_set" 2 2 g_set) (c_l_row : Fn1 P w K mg base "_law_row" 3 3 g_row) : Fn1 P w K mg base "_law_plain" 4 3 g_plain := by
  refine A.fn1 (okD1 (k := 3) A.fn sc_l_plain (by decide) (fun cdv A outer s H E hr => (dss_cons (ds_set 3 sc_l_plain.nd rfl (by first | exact Or.inl rfl | exact Or.inr rfl) (de_c1 0 c_l_draw (hr.mono (by decide)) (by rfl) (da_cons de_int da_nil)))
      (dss_cons (ds_if (DW.dt (dw_or (dt_lt (de_v 2) de_int) (dw_or1 (dt_eq hr (de_v 3) de_int)))) (dss_one (ds_ret (de_c1 0 c_l_set (hr.mono (by decide)) (by rfl) (da_cons (de_v 1) da_nil)))) dss_nil)
      (dss_cons (ds_set 4 sc_l_plain.nd rfl (by first | exact Or.inl rfl | exact Or.inr rfl) (de_add de_int (de_c1 0 c_l_draw (hr.mono (by decide)) (by rfl) (da_cons (de_sub (de_v 2) de_int) da_nil))))
      (dss_cons (ds_if (dt_eq hr (de_v 3) de_int) (dss_one (ds_ret (de_tup (da_cons de_str (da_cons (de_c1 0 c_l_row (hr.mono (by decide)) (by rfl) (da_cons (de_v 1) (da_cons (de_v 4) da_nil))) (da_cons (de_c1 0 c_l_row (hr.mono (by decide)) (by rfl) (da_cons (de_v 1) (da_cons (de_sub (de_v 2) (de_v 4)) da_nil))) da_nil)))))) dss_nil)
      (dss_cons (ds_if (dt_eq hr (de_v 3) de_int) (dss_one (ds_ret (de_add (de_c1 0 c_l_row (hr.mono (by decide)) (by rfl) (da_cons (de_v 1) (da_cons (de_v 4) da_nil))) (de_tup (da_cons (de_tup (da_cons de_str (da_cons (de_c1 0 c_l_set (hr.mono (by decide)) (by rfl) (da_cons (de_v 1) da_nil)) (da_cons de_int (da_cons de_non da_nil))))) da_nil))))) dss_nil)
      (dss_cons (ds_if (dt_eq hr (de_v 3) de_int) (dss_one (ds_ret (de_add (de_tup (da_cons de_str (da_cons (de_tup (da_cons de_str (da_cons (de_c1 0 c_l_set (hr.mono (by decide)) (by rfl) (da_cons (de_v 1) da_nil)) (da_cons de_int (da_cons de_non da_nil))))) da_nil))) (de_sl (de_c1 0 c_l_row (hr.mono (by decide)) (by rfl) (da_cons (de_v 1) (da_cons (de_v 4) da_nil))) (do_some de_int) do_none)))) dss_nil)
      (dss_cons (ds_set 5 sc_l_plain.nd rfl (by first | exact Or.inl rfl | exact Or.inr rfl) (de_add de_int (de_c1 0 c_l_draw (hr.mono (by decide)) (by rfl) (da_cons (de_min2 rfl (by rfl) m_min (da_cons de_int (da_cons (de_sub (de_v 2) (de_v 4)) da_nil))) da_nil))))
      (dss_cons (ds_if (dt_eq hr (de_v 3) de_int) (dss_cons (ds_set 6 sc_l_plain.nd rfl (by first | exact Or.inl rfl | exact Or.inr rfl) (de_c1 0 c_l_row (hr.mono (by decide)) (by rfl) (da_cons (de_v 1) (da_cons (de_fdiv (de_sub (de_v 2) (de_v 4)) (de_v 5)) da_nil))))
      (dss_one (ds_ret (de_add (de_c1 0 c_l_row (hr.mono (by decide)) (by rfl) (da_cons (de_v 1) (da_cons (de_v 4) da_nil))) (de_tup (da_cons (de_tup (da_cons de_str (da_cons (de_v 6) (da_cons de_int (da_cons (de_v 5) da_nil))))) da_nil)))))) dss_nil)
      (dss_cons (ds_if (DW.dt (dw_or (dt_eq hr (de_v 3) de_int) (dw_or1 (dt_eq hr (de_v 3) de_int)))) (dss_cons (ds_set 7 sc_l_plain.nd rfl (by first | exact Or.inl rfl | exact Or.inr rfl) (de_add de_int (de_c1 0 c_l_draw (hr.mono (by decide)) (by rfl) (da_cons (de_v 5) da_nil))))
      (dss_cons (ds_set 8 sc_l_plain.nd rfl (by first | exact Or.inl rfl | exact Or.inr rfl) (de_ix (de_lst (da_cons (de_v 5) (da_cons de_non da_nil))) (de_mul (de_c1 0 c_l_draw (hr.mono (by decide)) (by rfl) (da_cons de_int da_nil)) (de_intc (by rfl) m_int (da_cons (de_lt (de_v 7) (de_v 5)) da_nil))) (fun _ _ => rfl)))
      (dss_one (ds_ret (de_tup (da_cons de_str (da_cons (de_c1 0 c_l_row (hr.mono (by decide)) (by rfl) (da_cons (de_v 1) (da_cons (de_fdiv (de_v 2) (de_v 5)) da_nil))) (da_cons (de_v 7) (da_cons (de_v 8) da_nil))))))))) dss_nil)
      (dss_one (ds_ret (de_c1 0 c_l_row (hr.mono (by decide)) (by rfl) (da_cons (de_v 1) (da_cons (de_add de_int (de_c1 0 c_l_draw (hr.mono (by decide)) (by rfl) (da_cons (de_v 2) da_nil))) da_nil))))))))))))))) ?_)
  rintro xs ds Q hl ⟨c, A, R, rfl, hA, hS, R1, R2, hc, q⟩
  walk_at "s"
  refine ⟨c, _, rfl, hS, by omega, by decide, by decide, fun way xs1 w0 w1 hS1 => ⟨rfl, ?_⟩⟩
  walk_at "s"
  refine ifB (fun h => ?_) (fun h => ?_)
  · walk_at "s"
    exact ⟨c + 1, A, rfl, hA, hS1, by omega, fun s xs3 h1 h2 hS3 => ⟨_, rfl, q _ _ (Pln.set h1 h2 R1) (hS3.mono (by omega))⟩⟩
  have R3 : 2 ≤ R := by
    have := of_decide_eq_false h
    omega
  walk_at "s"
  refine ifB (fun h => ?_) (fun h => ?_)
  · walk_at "s"
    exact ⟨c + 1, A, rfl, hA, hS1, by omega, fun s xs3 h1 h2 hS3 => ⟨_, rfl, q _ _ (Pln.set h1 h2 R1) (hS3.mono (by omega))⟩⟩
  walk_at "s"
  refine ⟨c + 1, _, rfl, hS1, by omega, by omega, by omega, fun sz xs2 s0 s1 hS2 => ?_⟩
  walk_at "s"
  -- way 1
  refine ifB (fun h => ?_) (fun h => ?_)
  · walk_at "s"
    refine ⟨c + 2, A, 1 + sz, rfl, hA, hS2, by omega, by omega, by omega, fun ss xs3 h3 h4 hS3 => ?_⟩
    walk_at "s"
    refine ⟨c + 702, A, R - (1 + sz), rfl, hA, hS3, by omega, by omega, by omega, fun ss' xs4 h5 h6 hS4 => ?_⟩
    walk_at "s"
    have := q _ xs4 (Pln.any2 (R := R) (Sets.of h3 h4 (by omega)) (Sets.of h5 h6 (by omega)) (by omega) (by omega) (by omega) (by omega)) (hS4.mono (by omega))
    rw [toD, toDL, toDL, toDL] at this
    exact this
  walk_at "s"
  -- way 2
  refine ifB (fun h => ?_) (fun h => ?_)
  · walk_at "s"
    refine ⟨c + 2, A, 1 + sz, rfl, hA, hS2, by omega, by omega, by omega, fun ss xs3 h3 h4 hS3 => ?_⟩
    walk_at "s"
    refine ⟨c + 702, A, rfl, hA, hS3, by omega, fun s xs4 h1 h2 hS4 => ?_⟩
    walk_at "s"
    have a := Pln.set (R := 1) h1 h2 (Int.le_refl 1)
    have := q (.row (ss.map .set ++ [.again (.set s) 0 none])) xs4 (Pln.rowWith (R := R) (n := 1 + sz) (Sets.of h3 h4 (by omega)) (p := .again (.set s) 0 none) (by rw [stR]; exact a.st) (by rw [okR, a.ok]; rfl) (by rw [rdep, rdep]; decide) rfl (by show (0 : Int) ≤ 1; decide) (by show 1 + sz + 1 ≤ R; omega) (by show 1 + sz + 2 ≤ R + 2; omega) (by omega) (by omega) (.inl rfl)) (hS4.mono (by omega))
    exact ⟨_, add_row (rs := [.again (.set s) 0 none]) (by rw [toDL, toDL, toD.eq_6]; rfl) (by rw [List.length_map]; show _ + 1 ≤ _; omega), _, rfl, this⟩
  walk_at "s"
  -- way 3
  refine ifB (fun h => ?_) (fun h => ?_)
  · walk_at "s"
    refine ⟨c + 2, A, rfl, hA, hS2, by omega, fun s xs3 h1 h2 hS3 => ?_⟩
    walk_at "s"
    refine ⟨c + 9, A, 1 + sz, rfl, hA, hS3, by omega, by omega, by omega, fun ss xs4 h3 h4 hS4 => ?_⟩
    walk_at "s"
    rw [cutD_1]
    refine ⟨_, add_tup (by rw [toDL_len, List.length_map]; show 2 + _ ≤ _; omega), ?_⟩
    have a := Pln.set (R := 1) h1 h2 (Int.le_refl 1)
    have := q (.row (.again (.set s) 0 none :: ss.map .set)) xs4 (Pln.rowWith (R := R) (n := 1 + sz) (Sets.of h3 h4 (by omega)) (p := .again (.set s) 0 none) (by rw [stR]; exact a.st) (by rw [okR, a.ok]; rfl) (by rw [rdep, rdep]; decide) rfl (by show (0 : Int) ≤ 1; decide) (by show 1 + sz + 1 ≤ R; omega) (by show 1 + sz + 2 ≤ R + 2; omega) (by omega) (by omega) (.inr rfl)) (hS4.mono (by omega))
    rw [toD.eq_2, toDL, toD.eq_6] at this
    exact ⟨_, rfl, this⟩
  walk_at "s"
  have mn : ∃ u : Int, (if R - (1 + sz) < 4 then R - (1 + sz) else 4) = u ∧ 1 ≤ u ∧ u ≤ 4 ∧ u ≤ R - (1 + sz) := by
    refine ⟨_, rfl, ?_, ?_, ?_⟩ <;> split <;> omega
  obtain ⟨u, hu, u1, u4, uR⟩ := mn
  rw [hu]
  refine ⟨c + 2, _, rfl, hS2, by omega, by omega, by omega, fun mj xs3 mj0 mj1 hS3 => ?_⟩
  walk_at "s"
  -- way 4
  refine ifB (fun h => ?_) (fun h => ?_)
  · walk_at "s"
    obtain ⟨b1, b2, b3⟩ := fdiv_bd (a := R - (1 + sz)) (b := 1 + mj) (by omega) (by omega)
    refine ⟨_, fdiv_ok (by omega) (by omega), ?_⟩
    walk_at "s"
    refine ⟨c + 3, A, (R - (1 + sz)) / (1 + mj), rfl, hA, hS3, by omega, by omega, by omega, fun ss' xs4 h5 h6 hS4 => ?_⟩
    walk_at "s"
    refine ⟨c + 703, A, 1 + sz, rfl, hA, hS4, by omega, by omega, by omega, fun ss xs5 h3 h4 hS5 => ?_⟩
    walk_at "s"
    have b := Pln.row (R := (R - (1 + sz)) / (1 + mj)) (Sets.of (A := A) h5 h6 (by omega)) b1 (Int.le_refl _) (by omega)
    have hb := Sets.of (A := A) h5 h6 (by omega)
    have ew : wd (.again (.row (ss'.map .set)) 0 (some (1 + mj))) = (R - (1 + sz)) / (1 + mj) * (1 + mj) := by
      rw [wd_again, wd_row, hb.ws, mx1_of b1, mx1_of b1]
      show _ * mx1 (1 + mj) = _
      rw [mx1_of (by omega)]
    have := q (.row (ss.map .set ++ [.again (.row (ss'.map .set)) 0 (some (1 + mj))])) xs5 (Pln.rowWith (R := R) (n := 1 + sz) (Sets.of h3 h4 (by omega)) (p := .again (.row (ss'.map .set)) 0 (some (1 + mj))) (by rw [stR]; exact b.st)
      (by rw [okR, b.ok, hiOk, decide_eq_true (by omega : (0 : Int) ≤ 1 + mj), decide_eq_true (by omega : 1 + mj ≤ 4)]; rfl) (by rw [rdep, rdep, hb.dp]; decide) (by rw [plain]; exact b.pl) (by rw [ew]; exact Int.mul_nonneg (by omega) (by omega)) (by rw [ew]; omega) (by rw [cnt, cnt, hb.ct]; omega) (by omega) (by omega) (.inl rfl)) (hS5.mono (by omega))
    exact ⟨_, add_row (rs := [.again (.row (ss'.map .set)) 0 (some (1 + mj))]) (by rw [toDL, toDL, toD.eq_6]; rfl) (by rw [List.length_map]; show _ + 1 ≤ _; omega), _, rfl, this⟩
  walk_at "s"
  have last : ∀ (xs4 : List D) (lo : Int) (hi : Option Int), 1 ≤ lo → lo ≤ 1 + mj → hiOk lo hi = true → fcI lo hi ≤ 1 + mj → 1 ≤ fcI lo hi → Src (c + 6) xs4 → g_row xs4 [.str A, .int (R / (1 + mj))] fun r xs' => ∀ d, d = D.tup [.str "again", r.dat, .int lo, hiD hi] → Q (.fz d) xs' := by
    intro xs4 lo hi l1 l2 l3 l4 l5 hS4
    obtain ⟨b1, b2, b3⟩ := fdiv_bd (a := R) (b := 1 + mj) (by omega) (by omega)
    refine ⟨c + 6, A, R / (1 + mj), rfl, hA, hS4, by omega, by omega, by omega, fun ss xs5 h3 h4 hS5 d hd => ?_⟩
    rw [hd]
    show Q (.fz (.tup [.str "again", toD (.row (ss.map .set)), .int lo, hiD hi])) xs5
    rw [toD_again]
    have hb := Sets.of (A := A) h3 h4 (by omega)
    have b := Pln.row hb b1 (Int.le_refl _) (by omega)
    have ew : wd (.again (.row (ss.map .set)) lo hi) = R / (1 + mj) * fcI lo hi := by rw [wd_again, wd_row, hb.ws, mx1_of b1, mx1_of b1]
    have em : R / (1 + mj) * fcI lo hi ≤ R / (1 + mj) * (1 + mj) := Int.mul_le_mul_of_nonneg_left l4 (by omega)
    have e1 : R / (1 + mj) * 1 ≤ R / (1 + mj) * fcI lo hi := Int.mul_le_mul_of_nonneg_left l5 (by omega)
    refine q _ xs5 ⟨by rw [stR]; exact b.st, by rw [okR, b.ok, decide_eq_true (by omega : 0 ≤ lo), decide_eq_true (by omega : lo ≤ 4), l3]; rfl, by rw [rdep, rdep, hb.dp]; decide, by rw [plain]; exact b.pl, by rw [ew]; omega, by rw [ew]; omega, by rw [cnt, cnt, hb.ct]; omega⟩ (hS5.mono (by omega))
  have pick : ∀ lj b : Int, 0 ≤ lj → lj < 1 + mj → 0 ≤ b → b < 2 → ∃ hi : Option Int, atI ([.int (1 + mj), .non] : List D) (b * (if decide (1 + lj < 1 + mj) = true then 1 else 0)) = some (hiD hi) ∧ hiOk (1 + lj) hi = true ∧ fcI (1 + lj) hi ≤ 1 + mj ∧ 1 ≤ fcI (1 + lj) hi := by
    intro lj b l0 l1 b0 b1
    have one : ∀ z : Int, z = 0 → ∃ hi : Option Int, atI ([.int (1 + mj), .non] : List D) z = some (hiD hi) ∧ hiOk (1 + lj) hi = true ∧ fcI (1 + lj) hi ≤ 1 + mj ∧ 1 ≤ fcI (1 + lj) hi := by
      rintro z rfl
      refine ⟨some (1 + mj), rfl, by rw [hiOk, decide_eq_true (by omega), decide_eq_true (by omega)]; rfl, ?_, ?_⟩
      · show mx1 (1 + mj) ≤ _
        rw [mx1_of (by omega)]
        omega
      · show 1 ≤ mx1 (1 + mj)
        rw [mx1_of (by omega)]
        omega
    by_cases hlt : 1 + lj < 1 + mj
    · rw [decide_eq_true hlt, if_pos rfl, Int.mul_one]
      rcases (show b = 0 ∨ b = 1 by omega) with e | e
      · exact one b e
      · subst e
        exact ⟨none, rfl, rfl, by show 1 + lj + 1 ≤ _; omega, by show 1 ≤ 1 + lj + 1; omega⟩
    · rw [decide_eq_false hlt, if_neg (by decide), Int.mul_zero]
      exact one 0 rfl
  -- ways 5, 6
  refine ifB (fun h => ?_) (fun h => ?_)
  · walk_at "s"
    refine ⟨c + 3, _, rfl, hS3, by omega, by omega, by omega, fun lj xs4 lj0 lj1 hS4 => ?_⟩
    walk_at "s"
    refine ⟨c + 4, _, rfl, hS4, by omega, by decide, by decide, fun b xs5 b0 b1 hS5 => ?_⟩
    walk_at "s"
    refine ⟨_, mul_okL (by omega) (by omega), ?_⟩
    obtain ⟨hi, hx, p1, p2, p3⟩ := pick lj b lj0 lj1 b0 b1
    refine ⟨_, ix_lst hx, rfl, ?_⟩
    walk_at "s"
    refine ⟨_, fdiv_ok (by omega) (by omega), ?_⟩
    walk_at "s"
    obtain ⟨c', A', m', e, a1, a2, a3, a4, a5, k⟩ := last xs5 (1 + lj) hi (by omega) (by omega) p1 p2 p3 (hS5.mono (by omega))
    refine ⟨c', A', m', e, a1, a2, a3, a4, a5, fun ss xs6 h1 h2 h3 => ?_⟩
    walk_at "s"
    exact k ss xs6 h1 h2 h3 _ rfl
  walk_at "s"
  refine ifB (fun h => ?_) (fun h => ?_)
  · walk_at "s"
    refine ⟨c + 3, _, rfl, hS3, by omega, by omega, by omega, fun lj xs4 lj0 lj1 hS4 => ?_⟩
    walk_at "s"
    refine ⟨c + 4, _, rfl, hS4, by omega, by decide, by decide, fun b xs5 b0 b1 hS5 => ?_⟩
    walk_at "s"
    refine ⟨_, mul_okL (by omega) (by omega), ?_⟩
    obtain ⟨hi, hx, p1, p2, p3⟩ := pick lj b lj0 lj1 b0 b1
    refine ⟨_, ix_lst hx, rfl, ?_⟩
    walk_at "s"
    refine ⟨_, fdiv_ok (by omega) (by omega), ?_⟩
    walk_at "s"
    obtain ⟨c', A', m', e, a1, a2, a3, a4, a5, k⟩ := last xs5 (1 + lj) hi (by omega) (by omega) p1 p2 p3 (hS5.mono (by omega))
    refine ⟨c', A', m', e, a1, a2, a3, a4, a5, fun ss xs6 h1 h2 h3 => ?_⟩
    walk_at "s"
    exact k ss xs6 h1 h2 h3 _ rfl
  walk_at "s"
  refine ⟨c + 3, _, rfl, hS3, by omega, by omega, by omega, fun j xs4 j0 j1 hS4 => ?_⟩
  walk_at "s"
  refine ⟨c + 4, A, 1 + j, rfl, hA, hS4, by omega, by omega, by omega, fun ss xs5 h3 h4 hS5 => ?_⟩
  walk_at "s"
  exact q _ xs5 (Pln.row (Sets.of h3 h4 (by omega)) (by omega) (by omega) (by omega)) (hS5.mono (by omega))
def g_pattern : FS1 := fun xs ds Q => ∃ (c : Nat) (A : Str) (R : Int), ds = [.str A, .int R] ∧ Alp A ∧ Src c xs ∧ 1 ≤ R ∧ R ≤ 20 ∧ c + 5000 ≤ 2 ^ 40 ∧ ∀ r xs', Pat A R r → Src (c + 5000) xs' → Q (.fz (toD r)) xs'
theorem ok_pattern (A : At K mg "_law_pattern" ["_law_source_here", "_law_alphabet_here", "_law_room"] s_l_pattern f fd) (c_l_draw : Fn1 P w K mg base "_law_draw" 1 2 g_draw) (c_l_plain : Fn1 P w K mg base "_law_plain" 4 3 g_plain) : Fn1 P w K mg base "_law_pattern" 5 3 g_pattern := by
  refine A.fn1 (okD1 (k := 4) A.fn sc_l_pattern (by decide) (fun cdv A outer s H E hr => (dss_cons (ds_if (DW.dt (dw_or (dt_lt (de_v 2) de_int) (dw_or1 (dt_gt (de_c1 0 c_l_draw (hr.mono (by decide)) (by rfl) (da_cons de_int da_nil)) de_int)))) (dss_one (ds_ret (de_c1 0 c_l_plain (hr.mono (by decide)) (by rfl) (da_cons (de_v 1) (da_cons (de_v 2) da_nil))))) dss_nil)
      (dss_cons (ds_set 3 sc_l_pattern.nd rfl (by first | exact Or.inl rfl | exact Or.inr rfl) (de_add de_int (de_c1 0 c_l_draw (hr.mono (by decide)) (by rfl) (da_cons (de_sub (de_v 2) de_int) da_nil))))
      (dss_cons (ds_set 4 sc_l_pattern.nd rfl (by first | exact Or.inl rfl | exact Or.inr rfl) (de_tup (da_cons de_str (da_cons (de_c1 0 c_l_plain (hr.mono (by decide)) (by rfl) (da_cons (de_v 1) (da_cons (de_sub (de_v 2) (de_v 3)) da_nil))) da_nil))))
      (dss_one (ds_ret (de_tup (da_cons de_str (da_cons (de_c1 0 c_l_plain (hr.mono (by decide)) (by rfl) (da_cons (de_v 1) (da_cons (de_v 3) da_nil))) (da_cons (de_v 4) da_nil)))))))))) ?_)
  rintro xs ds Q hl ⟨c, A, R, rfl, hA, hS, R1, R2, hc, q⟩
  walk_at "s"
  refine ifB (fun h => ?_) (fun h => ?_)
  · walk_at "s"
    refine ⟨c, A, R, rfl, hA, hS, R1, R2, by omega, fun r xs2 h1 hS2 => ?_⟩
    walk_at "s"
    exact q r xs2 h1.pat (hS2.mono (by omega))
  have R3 : 2 ≤ R := by
    have := of_decide_eq_false h
    omega
  walk_at "s"
  refine ⟨c, _, rfl, hS, by omega, by decide, by decide, fun j xs1 j0 j1 hS1 => ?_⟩
  walk_at "s"
  refine ifB (fun h => ?_) (fun h => ?_)
  · walk_at "s"
    refine ⟨c + 1, A, R, rfl, hA, hS1, R1, R2, by omega, fun r xs2 h1 hS2 => ?_⟩
    walk_at "s"
    exact q r xs2 h1.pat (hS2.mono (by omega))
  walk_at "s"
  refine ⟨c + 1, _, rfl, hS1, by omega, by omega, by omega, fun sz xs2 s0 s1 hS2 => ?_⟩
  walk_at "s"
  refine ⟨c + 2, A, R - (1 + sz), rfl, hA, hS2, by omega, by omega, by omega, fun r2 xs3 h2 hS3 => ?_⟩
  walk_at "s"
  refine ⟨c + 2002, A, 1 + sz, rfl, hA, hS3, by omega, by omega, by omega, fun r1 xs4 h1 hS4 => ?_⟩
  walk_at "s"
  have := q _ xs4 (Pat.all2 (R := R) h1 h2 (by omega)) (hS4.mono (by omega))
  rw [toD.eq_4, toDL, toDL, toDL, toD.eq_5] at this
  exact this
end
end Cut
namespace Cut
open PySem L2 DL
local macro_rules | `(tactic| walk_at "s") => `(tactic| repeat (first | with_reducible refine ⟨_, rfl, ?_⟩ | refine ⟨_, rfl, ?_⟩ | refine ⟨rfl, ?_⟩ | refine ⟨_, _, rfl, rfl, ?_⟩ | refine ⟨_, _, rfl, ?_⟩ | refine iteT ?_ | refine iteF ?_ | refine ⟨⟨_, rfl⟩, ?_⟩ | refine ⟨⟨_, _, rfl⟩, ?_⟩ | refine ⟨_, _, _, _, rfl, rfl, rfl, ?_⟩ | refine ⟨Nat.le_of_ble_eq_true rfl, ?_⟩ | refine ⟨(by decide), ?_⟩ | refine ⟨_, ix_t0 _ _, ?_⟩ | refine ⟨_, ix_l0 _ _, ?_⟩))
abbrev s_l_nested : Stmt := top 31
abbrev N_l_nested : List Str := ["_law_source_here", "_law_alphabet_here", "_law_depth", "_law_way", "_law_low", "_law_high", "_law_parts", "_law_k"]
theorem sc_l_nested : FnScope N_l_nested ["_law_source_here", "_law_alphabet_here", "_law_depth"] (defScope s_l_nested) := ⟨rfl, rfl, rfl, by decide +kernel, rfl, by decide +kernel, by decide +kernel⟩
abbrev s_l_measures : Stmt := top 32
abbrev N_l_measures : List Str := ["_law_value", "_law_word", "_law_found", "_law_part", "_law_wide", "_law_one", "_law_plain_here", "_law_right"]
theorem sc_l_measures : FnScope N_l_measures ["_law_value"] (defScope s_l_measures) := ⟨rfl, rfl, rfl, by decide +kernel, rfl, by decide +kernel, by decide +kernel⟩
/-! ### nested expressions -/
def ks : Nat → Nat
  | 0 => 10
  | n + 1 => 3 * ks n + 10
def cb : Nat → Int
  | 0 => 1
  | n + 1 => 3 * cb n + 1
theorem cb_pos : ∀ n, 1 ≤ cb n
  | 0 => by decide
  | n + 1 => by have := cb_pos n; rw [cb]; omega
structure Nst (A : Str) (n : Nat) (r : Rx) : Prop where
  st : stR A r = true
  ok : okR r = true
  dp : rdep r ≤ n
  ct : cnt r ≤ cb n
theorem Nst.set {A s : Str} {n : Nat} (h1 : isSetM A [.str s] = true) (h2 : s.length ≤ 6) : Nst A n (.set s) :=
  ⟨by rw [stR, h1, decide_eq_true h2]; rfl, okR_set (A := A) h2, by rw [rdep]; exact Nat.zero_le _, by show (1 : Int) ≤ _; exact cb_pos n⟩
theorem Nst.list {A : Str} {n w : Nat} {ps : List Rx} (h : ∀ p ∈ ps, Nst A n p) (hl : ps.length ≤ 3) : Nst A (n + 1) (Cut.mk w ps) := by
  have e1 := stRL_all A ps fun p hp => (h p hp).st
  have e2 := okRL_all ps fun p hp => (h p hp).ok
  have e3 := rdepL_le ps n fun p hp => (h p hp).dp
  have e4 : (cntL ps).sum ≤ cb n * ps.length := by
    rw [cntL_map]
    clear e1 e2 e3 hl
    induction ps with
    | nil => simp
    | cons p l ih =>
      have a := (h p (List.mem_cons_self ..)).ct
      have b := ih fun q hq => h q (List.mem_cons_of_mem _ hq)
      rw [List.map_cons, List.sum_cons, List.length_cons, show ((l.length + 1 : Nat) : Int) = (l.length : Int) + 1 by omega, Int.mul_add]
      omega
  have e5 : cb n * ps.length ≤ cb n * 3 := Int.mul_le_mul_of_nonneg_left (by omega) (by have := cb_pos n; omega)
  have e6 : (decide (ps.length ≤ 9999) && okRL ps) = true := by rw [decide_eq_true (by omega), e2]; rfl
  refine ⟨?_, ?_, ?_, ?_⟩
  · match w with
    | 0 => show stR A (.row ps) = true; rw [stR]; exact e1
    | 1 => show stR A (.any ps) = true; rw [stR]; exact e1
    | k + 2 => show stR A (.all ps) = true; rw [stR]; exact e1
  · match w with
    | 0 => show okR (.row ps) = true; rw [okR]; exact e6
    | 1 => show okR (.any ps) = true; rw [okR]; exact e6
    | k + 2 => show okR (.all ps) = true; rw [okR]; exact e6
  · match w with
    | 0 => show rdep (.row ps) ≤ _; rw [rdep]; omega
    | 1 => show rdep (.any ps) ≤ _; rw [rdep]; omega
    | k + 2 => show rdep (.all ps) ≤ _; rw [rdep]; omega
  · rw [cnt_mk, cb]
    omega
theorem Nst.no {A : Str} {n : Nat} {p : Rx} (h : Nst A n p) : Nst A (n + 1) (.no p) :=
  ⟨by rw [stR]; exact h.st, by rw [okR]; exact h.ok, by rw [rdep]; have := h.dp; omega, by rw [cnt, cb]; have := h.ct; have := cb_pos n; omega⟩
theorem Nst.again {A : Str} {n : Nat} {p : Rx} {lo : Int} {hi : Option Int} (h : Nst A n p) (l0 : 0 ≤ lo) (l1 : lo ≤ 4) (hh : hiOk lo hi = true) : Nst A (n + 1) (.again p lo hi) :=
  ⟨by rw [stR]; exact h.st, by rw [okR, h.ok, decide_eq_true l0, decide_eq_true l1, hh]; rfl, by rw [rdep]; have := h.dp; omega, by rw [cnt, cb]; have := h.ct; have := cb_pos n; omega⟩
section
variable {P : Program} {w : World} {K : Fg} {mg : Str → Option Value} {base : Heap} {f f2 : Addr} {fd fd2 : FuncData}
def g_nested (n : Nat) : FS1 := fun xs ds Q => ∃ (c m : Nat) (A : Str), ds = [.str A, .int m] ∧ Alp A ∧ m < n ∧ m ≤ 100 ∧ Src c xs ∧ c + ks m ≤ 2 ^ 40 ∧ ∀ r xs', Nst A m r → Src (c + ks m) xs' → Q (.fz (toD r)) xs'
theorem ok_nested (A : At K mg "_law_nested" ["_law_source_here", "_law_alphabet_here", "_law_depth"] s_l_nested f fd) (m_range : mg "range" = none) (m_tuple : mg "tuple" = none) (c_l_draw : Fn1 P w K mg base "_law_draw" 1 2 g_draw) (c_l_set : Fn1 P w K mg base "_law_set" 2 2 g_set) : ∀ n, Fn1 P w K mg base "_law_nested" (n + 3) 3 (g_nested n)
  | 0 => A.none1 fun xs ds Q ⟨_, _, _, _, _, h, _⟩ => absurd h (Nat.not_lt_zero _)
  | n + 1 => by
    have c_l_nested := ok_nested A m_range m_tuple c_l_draw c_l_set n
    refine A.fn1 (okD1 (k := n + 3) A.fn sc_l_nested (by decide) (fun cdv A outer s H E hr => (dss_cons (ds_set 3 sc_l_nested.nd rfl (by first | exact Or.inl rfl | exact Or.inr rfl) (de_c1 0 c_l_draw (hr.mono (by omega)) (by rfl) (da_cons de_int da_nil)))
      (dss_cons (ds_if (DW.dt (dw_or (dt_eq hr (de_v 2) de_int) (dw_or1 (dt_eq hr (de_v 3) de_int)))) (dss_one (ds_ret (de_c1 0 c_l_set (hr.mono (by omega)) (by rfl) (da_cons (de_v 1) da_nil)))) dss_nil)
      (dss_cons (ds_if (dt_eq hr (de_v 3) de_int) (dss_cons (ds_set 4 sc_l_nested.nd rfl (by first | exact Or.inl rfl | exact Or.inr rfl) (de_c1 0 c_l_draw (hr.mono (by omega)) (by rfl) (da_cons de_int da_nil)))
      (dss_cons (ds_set 5 sc_l_nested.nd rfl (by first | exact Or.inl rfl | exact Or.inr rfl) (de_ix (de_lst (da_cons de_non (da_cons (de_add (de_v 4) (de_c1 0 c_l_draw (hr.mono (by omega)) (by rfl) (da_cons (de_sub de_int (de_v 4)) da_nil))) da_nil))) (de_c1 0 c_l_draw (hr.mono (by omega)) (by rfl) (da_cons de_int da_nil)) (fun _ _ => rfl)))
      (dss_one (ds_ret (de_tup (da_cons de_str (da_cons (de_c1 0 c_l_nested (hr.mono (by omega)) (by rfl) (da_cons (de_v 1) (da_cons (de_sub (de_v 2) de_int) da_nil))) (da_cons (de_v 4) (da_cons (de_v 5) da_nil))))))))) dss_nil)
      (dss_cons (ds_if (dt_eq hr (de_v 3) de_int) (dss_one (ds_ret (de_tup (da_cons de_str (da_cons (de_c1 0 c_l_nested (hr.mono (by omega)) (by rfl) (da_cons (de_v 1) (da_cons (de_sub (de_v 2) de_int) da_nil))) da_nil))))) dss_nil)
      (dss_cons (ds_setLc (i := 6) (own := [("_law_k", 7)]) rfl sc_l_nested.nd rfl rfl (sw_true rfl rfl rfl (by decide +kernel)) (di_range1 (by rfl) m_range (da_cons (de_c1 0 c_l_draw (hr.mono (by omega)) (by rfl) (da_cons de_int da_nil)) da_nil)) (blkOk_by (N := N_l_nested) (sc := defScope s_l_nested) (own := [("_law_k", 7)]) (by decide +kernel)) (fun _ _ _ _ _ => (dg_n 7 sc_l_nested.nd rfl (by first | exact Or.inl rfl | exact Or.inr rfl))) (fun _ _ _ _ _ => dts_nil) (fun _ _ _ _ _ => (de_c1 0 c_l_nested (hr.mono (by omega)) (by rfl) (da_cons (de_v 1) (da_cons (de_sub (de_v 2) de_int) da_nil)))))
      (dss_one (ds_ret (de_add (de_tup (da_cons (de_ix (de_lst (da_cons de_str (da_cons de_str (da_cons de_str da_nil)))) (de_mod (de_v 3) de_int) (fun _ _ => rfl)) da_nil)) (de_tuple (by rfl) m_tuple (da_cons (de_v 6) da_nil))))))))))) ?_)
    rintro xs ds Q hl ⟨c, m, A, rfl, hA, hm, hm2, hS, hc, q⟩
    have hk : 10 ≤ ks m := by cases m <;> rw [ks] <;> omega
    walk_at "s"
    refine ⟨c, _, rfl, hS, by omega, by decide, by decide, fun way xs1 w0 w1 hS1 => ⟨rfl, ?_⟩⟩
    walk_at "s"
    refine ifB (fun h => ?_) (fun h => ?_)
    · walk_at "s"
      exact ⟨c + 1, A, rfl, hA, hS1, by omega, fun s xs3 h1 h2 hS3 => ⟨_, rfl, q _ _ (Nst.set h1 h2) (hS3.mono (by omega))⟩⟩
    walk_at "s"
    refine ifB (fun h => ?_) (fun h => ?_)
    · walk_at "s"
      exact ⟨c + 1, A, rfl, hA, hS1, by omega, fun s xs3 h1 h2 hS3 => ⟨_, rfl, q _ _ (Nst.set h1 h2) (hS3.mono (by omega))⟩⟩
    have hm0 : m ≠ 0 := by
      rename_i h1
      have h1' : decide ((m : Int) = 0) = false := h1
      have := of_decide_eq_false h1'
      omega
    obtain ⟨k, rfl⟩ : ∃ k, m = k + 1 := ⟨m - 1, by omega⟩
    have ek : ((k + 1 : Nat) : Int) - 1 = (k : Int) := by omega
    have eks : ks (k + 1) = 3 * ks k + 10 := rfl
    walk_at "s"
    refine ifB (fun h => ?_) (fun h => ?_)
    · walk_at "s"
      refine ⟨c + 1, _, rfl, hS1, by omega, by decide, by decide, fun lo xs2 l0 l1 hS2 => ?_⟩
      walk_at "s"
      refine ⟨c + 2, _, rfl, hS2, by omega, by omega, by omega, fun d xs3 d0 d1 hS3 => ?_⟩
      walk_at "s"
      refine ⟨c + 3, _, rfl, hS3, by omega, by decide, by decide, fun b xs4 b0 b1 hS4 => ?_⟩
      obtain ⟨hi, hx, hh⟩ : ∃ hi : Option Int, atI ([.non, .int (lo + d)] : List D) b = some (hiD hi) ∧ hiOk lo hi = true := by
        rcases (show b = 0 ∨ b = 1 by omega) with e | e
        · subst e
          exact ⟨none, rfl, rfl⟩
        · subst e
          exact ⟨some (lo + d), rfl, by rw [hiOk, decide_eq_true (by omega), decide_eq_true (by omega)]; rfl⟩
      refine ⟨_, ix_lst hx, rfl, ?_⟩
      walk_at "s"
      refine ⟨c + 4, k, A, congrArg (fun z : Int => [D.str A, .int z]) ek, hA, by omega, by omega, hS4, by omega, fun r xs5 hr hS5 => ?_⟩
      walk_at "s"
      have := q _ xs5 (hr.again l0 (by omega) hh) (hS5.mono (by omega))
      rw [toD.eq_6] at this
      exact this
    walk_at "s"
    refine ifB (fun h => ?_) (fun h => ?_)
    · walk_at "s"
      refine ⟨c + 1, k, A, congrArg (fun z : Int => [D.str A, .int z]) ek, hA, by omega, by omega, hS1, by omega, fun r xs5 hr hS5 => ?_⟩
      walk_at "s"
      have := q _ xs5 hr.no (hS5.mono (by omega))
      rw [toD.eq_5] at this
      exact this
    walk_at "s"
    refine ⟨c + 1, _, rfl, hS1, by omega, by decide, by decide, fun j xs2 j0 j1 hS2 => ?_⟩
    refine ⟨j, rfl, ⟨by omega, by omega⟩, rfl, ?_⟩
    refine lc_inv (fun es ρ acc => ∃ (xs : List D) (rs : List Rx), ρ = [some (.ow true xs), some (.fz (.str A)), some (.fz (.int ((k + 1 : Nat) : Int))), some (.fz (.int way)), none, none, none, none] ∧ acc = rs.map toD ∧ (∀ r ∈ rs, Nst A k r) ∧ rs.length + es.length = j.toNat ∧ Src (c + 2 + rs.length * ks k) xs) _ _ _ ⟨xs2, [], rfl, rfl, (by intro r hr; cases hr), by rw [rangeD_map]; simp, by simpa using hS2⟩ ?_ ?_
    · rintro d es ρ acc R ⟨xs3, rs, rfl, rfl, hrs, hlen, hS3⟩ hR
      rw [List.length_cons] at hlen
      have hb : rs.length * ks k ≤ 2 * ks k := Nat.mul_le_mul_right _ (by omega)
      refine ⟨rfl, ?_⟩
      walk_at "s"
      refine ⟨c + 2 + rs.length * ks k, k, A, congrArg (fun z : Int => [D.str A, .int z]) ek, hA, by omega, by omega, hS3, by omega, fun r xs4 hr hS4 => ?_⟩
      refine ⟨by rw [List.length_map]; omega, hR _ _ ⟨xs4, rs ++ [r], rfl, by rw [List.map_append]; rfl, ?_, ?_, ?_⟩⟩
      · intro t ht
        rcases List.mem_append.mp ht with ht | ht
        · exact hrs t ht
        · rw [List.mem_singleton.mp ht]
          exact hr
      · rw [List.length_append]
        show rs.length + 1 + es.length = _
        omega
      · rw [List.length_append]
        show Src (c + 2 + (rs.length + 1) * ks k) xs4
        rw [Nat.add_mul, Nat.one_mul, ← Nat.add_assoc]
        exact hS4
    · rintro ρ acc ⟨xs3, rs, rfl, rfl, hrs, hlen, hS3⟩
      have hl3 : rs.length ≤ 3 := by
        have : rs.length + 0 = j.toNat := hlen
        omega
      have hb : rs.length * ks k ≤ 3 * ks k := Nat.mul_le_mul_right _ hl3
      walk_at "s"
      obtain ⟨w, hw⟩ := word3 (Int.emod_nonneg way (b := 3) (by decide)) (Int.emod_lt_of_pos way (b := 3) (by decide))
      refine ⟨_, ix_lst hw, ?_⟩
      walk_at "s"
      refine ⟨_, add_tup (by rw [List.length_map]; show 1 + _ ≤ _; omega), ?_⟩
      walk_at "s"
      have := q _ xs3 (Nst.list (w := w) hrs hl3) (hS3.mono (by omega))
      rw [toD_mk, toDL_map] at this
      exact this
/-! ### measures -/
def meas (r : Rx) : D := .tup [.int (wd r), .int (cnt r), .bl (plain r), .bl (hasP r)]
def g_measures (n : Nat) : FS0 := fun ds Q => ∃ r, ds = [toD r] ∧ okR r = true ∧ rdep r < n ∧ Q (.fz (meas r))
/-- what stands behind the word: parts, and numbers or texts -/
def Rx.bits : Rx → List (Rx ⊕ D)
  | .set s => [.inr (.str s)]
  | .row ps | .any ps | .all ps => ps.map .inl
  | .no p => [.inl p]
  | .again p lo hi => [.inl p, .inr (.int lo), .inr (hiD hi)]
def bitD : Rx ⊕ D → D
  | .inl p => toD p
  | .inr d => d
theorem tail_bits (r : Rx) : r.tail = r.bits.map bitD := by
  cases r <;> simp [Rx.tail, Rx.bits, bitD, toDL_map] <;> rfl
theorem bits_parts (r : Rx) : (r.bits.filter Sum.isLeft).map (fun b => match b with | .inl p => meas p | .inr _ => .non) = r.parts.map meas := by
  have h : ∀ ps : List Rx, ((ps.map (Sum.inl (β := D))).filter Sum.isLeft).map (fun b => match b with | .inl p => meas p | .inr _ => .non) = ps.map meas := by
    intro ps
    rw [List.filter_eq_self.mpr (by intro a ha; obtain ⟨p, _, rfl⟩ := List.mem_map.mp ha; rfl), List.map_map]
    rfl
  cases r with
  | set s => rfl
  | row ps => exact h ps
  | any ps => exact h ps
  | all ps => exact h ps
  | no p => rfl
  | again p lo hi => rfl
theorem bits_isi (r : Rx) : ∀ b ∈ r.bits, isiD [bitD b, .ty "tuple"] = some (.fz (.bl b.isLeft)) := by
  have h1 : ∀ p : Rx, isiD [toD p, .ty "tuple"] = some (.fz (.bl true)) := fun p => by rw [toD_eq p]; rfl
  have h : ∀ ps : List Rx, ∀ b ∈ ps.map (Sum.inl (β := D)), isiD [bitD b, .ty "tuple"] = some (.fz (.bl b.isLeft)) := by
    intro ps b hb
    obtain ⟨p, _, rfl⟩ := List.mem_map.mp hb
    exact h1 p
  intro b hb
  cases r with
  | set s => rw [List.mem_singleton.mp hb]; rfl
  | row ps => exact h ps b hb
  | any ps => exact h ps b hb
  | all ps => exact h ps b hb
  | no p => rw [List.mem_singleton.mp hb]; exact h1 p
  | again p lo hi =>
    simp only [Rx.bits, List.mem_cons, List.mem_nil_iff, or_false] at hb
    rcases hb with rfl | rfl | rfl
    · exact h1 p
    · rfl
    · cases hi <;> rfl
theorem bits_mem (r : Rx) {p : Rx} (h : Sum.inl p ∈ r.bits) : p ∈ r.parts := by
  have g : ∀ ps : List Rx, Sum.inl p ∈ ps.map (Sum.inl (β := D)) → p ∈ ps := fun ps hp => by
    obtain ⟨q, hq, e⟩ := List.mem_map.mp hp
    cases e
    exact hq
  cases r with
  | set s => simp [Rx.bits] at h
  | row ps => exact g ps h
  | any ps => exact g ps h
  | all ps => exact g ps h
  | no q => simp [Rx.bits] at h; rw [h]; exact List.mem_singleton.mpr rfl
  | again q lo hi => simp [Rx.bits] at h; rw [h]; exact List.mem_singleton.mpr rfl
theorem bits_len (r : Rx) : r.bits.length ≤ r.parts.length + 2 := by
  cases r <;> simp [Rx.bits, Rx.parts]
theorem in_raa (w : Str) : (([.str "row", .str "any", .str "again"] : List D).any fun b => eqB b (.str w)) = (decide (w = "row") || (decide (w = "any") || decide (w = "again"))) := by
  show (eqS "row" w || (eqS "any" w || (eqS "again" w || false))) = _
  rw [eqS_eq', eqS_eq', eqS_eq', Bool.or_false]
theorem in_ra (w : Str) : (([.str "row", .str "again"] : List D).any fun b => eqB b (.str w)) = decide (w = "row" ∨ w = "again") := by
  show (eqS "row" w || (eqS "again" w || false)) = _
  rw [eqS_eq', eqS_eq', Bool.or_false]
  simp only [Bool.decide_or]
theorem plain_raa (r : Rx) (h : r.word ≠ "set") : plain r = ((decide (r.word = "row") || (decide (r.word = "any") || decide (r.word = "again"))) && (r.parts.map plain).all id) := by
  cases r with
  | set s => exact absurd rfl h
  | row ps => rw [plain, plainL_map]; simp [Rx.word, Rx.parts]
  | any ps => rw [plain, plainL_map]; simp [Rx.word, Rx.parts]
  | all ps => rw [plain]; simp [Rx.word, k15, k7, k8, k9, k20, k26, k6]
  | no p => rw [plain]; simp [Rx.word, k16, k10, k11, k21, k28]
  | again p lo hi => rw [plain]; simp [Rx.word, Rx.parts]
theorem meas_is {Q : Res → Prop} {r : Rx} (q : Q (.fz (meas r))) {a b : Int} {x y : Bool} (ha : a = wd r) (hb : b = cnt r) (hx : x = plain r) (hy : y = hasP r) : Q (.fz (.tup [.int a, .int b, .bl x, .bl y])) := by
  subst ha hb hx hy
  exact q
theorem ok_measures (A : At K mg "_law_measures" ["_law_value"] s_l_measures f fd) (m_isinstance : mg "isinstance" = none) (m_tuple : mg "tuple" = none) (m_sum : mg "sum" = none) (m_max : mg "max" = none) (m_all : mg "all" = none) : ∀ n, Fn0 P w K mg base "_law_measures" (n + 1) 1 (g_measures n)
  | 0 => A.none0 fun ds Q ⟨_, _, _, h, _⟩ => absurd h (Nat.not_lt_zero _)
  | n + 1 => by
    have c_l_measures := ok_measures A m_isinstance m_tuple m_sum m_max m_all n
    refine A.fn0 (okD0 (k := n + 1) A.fn sc_l_measures (by decide) (fun cdv A outer s H E hr => (dss_cons (ds_set 1 sc_l_measures.nd rfl (by first | exact Or.inl rfl | exact Or.inr rfl) (de_ix (de_v 0) de_int (fun _ _ => rfl)))
      (dss_cons (ds_if (dt_eq hr (de_v 1) de_str) (dss_one (ds_ret (de_tup (da_cons de_int (da_cons de_int (da_cons de_bl (da_cons de_bl da_nil))))))) dss_nil)
      (dss_cons (ds_setLc (i := 2) (own := [("_law_part", 3)]) rfl sc_l_measures.nd rfl rfl (sw_true rfl rfl rfl (by decide +kernel)) (di_seq (de_sl (de_v 0) (do_some de_int) do_none)) (blkOk_by (N := N_l_measures) (sc := defScope s_l_measures) (own := [("_law_part", 3)]) (by decide +kernel)) (fun _ _ _ _ _ => (dg_n 3 sc_l_measures.nd rfl (by first | exact Or.inl rfl | exact Or.inr rfl))) (fun _ _ _ _ _ => (dts_one (dt_val (de_isi (by rfl) m_isinstance (da_cons (de_v 3) (da_cons (de_ty (n := "tuple") (by rfl) m_tuple (by decide +kernel)) da_nil)))))) (fun _ _ _ _ _ => (de_c0 c_l_measures (hr.mono (by omega)) (by rfl) (da_cons (de_v 3) da_nil))))
      (dss_cons (ds_set 4 sc_l_measures.nd rfl (by first | exact Or.inl rfl | exact Or.inr rfl) (de_max2 rfl (by rfl) m_max (da_cons de_int (da_cons (de_sum rfl (by rfl) m_sum (da_cons (de_lc (own := [("_law_one", 5)]) rfl sc_l_measures.nd (di_seq (de_v 2)) (blkOk_by (N := N_l_measures) (sc := defScope s_l_measures) (own := [("_law_one", 5)]) (by decide +kernel)) (fun _ _ _ _ _ => (dg_n 5 sc_l_measures.nd rfl (by first | exact Or.inl rfl | exact Or.inr rfl))) (fun _ _ _ _ _ => dts_nil) (fun _ _ _ _ _ => (de_ix (de_v 5) de_int (fun _ _ => rfl)))) da_nil)) da_nil))))
      (dss_cons (ds_if (dt_eq hr (de_v 1) de_str) (dss_one (ds_set 4 sc_l_measures.nd rfl (by first | exact Or.inl rfl | exact Or.inr rfl) (de_mul (de_v 4) (de_max2 rfl (by rfl) m_max (da_cons de_int (da_cons (de_if (dt_is (de_ix (de_v 0) de_int (fun _ _ => rfl)) de_non) (de_add (de_ix (de_v 0) de_int (fun _ _ => rfl)) de_int) (de_ix (de_v 0) de_int (fun _ _ => rfl))) da_nil)))))) dss_nil)
      (dss_cons (ds_set 6 sc_l_measures.nd rfl (by first | exact Or.inl rfl | exact Or.inr rfl) (de_and (de_in (de_v 1) (de_tup (da_cons de_str (da_cons de_str (da_cons de_str da_nil))))) (de_one (de_all rfl (by rfl) m_all (da_cons (de_lc (own := [("_law_one", 5)]) rfl sc_l_measures.nd (di_seq (de_v 2)) (blkOk_by (N := N_l_measures) (sc := defScope s_l_measures) (own := [("_law_one", 5)]) (by decide +kernel)) (fun _ _ _ _ _ => (dg_n 5 sc_l_measures.nd rfl (by first | exact Or.inl rfl | exact Or.inr rfl))) (fun _ _ _ _ _ => dts_nil) (fun _ _ _ _ _ => (de_ix (de_v 5) de_int (fun _ _ => rfl)))) da_nil)))))
      (dss_cons (ds_set 7 sc_l_measures.nd rfl (by first | exact Or.inl rfl | exact Or.inr rfl) (de_if (dt_in (de_v 1) (de_tup (da_cons de_str (da_cons de_str da_nil)))) (de_v 6) (de_all rfl (by rfl) m_all (da_cons (de_lc (own := [("_law_one", 5)]) rfl sc_l_measures.nd (di_seq (de_v 2)) (blkOk_by (N := N_l_measures) (sc := defScope s_l_measures) (own := [("_law_one", 5)]) (by decide +kernel)) (fun _ _ _ _ _ => (dg_n 5 sc_l_measures.nd rfl (by first | exact Or.inl rfl | exact Or.inr rfl))) (fun _ _ _ _ _ => dts_nil) (fun _ _ _ _ _ => (de_ix (de_v 5) de_int (fun _ _ => rfl)))) da_nil))))
      (dss_one (ds_ret (de_tup (da_cons (de_v 4) (da_cons (de_add de_int (de_sum rfl (by rfl) m_sum (da_cons (de_lc (own := [("_law_one", 5)]) rfl sc_l_measures.nd (di_seq (de_v 2)) (blkOk_by (N := N_l_measures) (sc := defScope s_l_measures) (own := [("_law_one", 5)]) (by decide +kernel)) (fun _ _ _ _ _ => (dg_n 5 sc_l_measures.nd rfl (by first | exact Or.inl rfl | exact Or.inr rfl))) (fun _ _ _ _ _ => dts_nil) (fun _ _ _ _ _ => (de_ix (de_v 5) de_int (fun _ _ => rfl)))) da_nil))) (da_cons (de_v 6) (da_cons (de_v 7) da_nil))))))))))))))) ?_)
    rintro ds Q hl ⟨r, rfl, ho, hd, q⟩
    have et := toD_eq r
    rw [et]
    walk_at "s"
    refine ifd (eqS_eq r.word "set") (fun h => ?_) (fun h => ?_)
    · cases r <;> first | (simp [Rx.word, k1, k4, k7, k10, k12] at h; done) | skip
      walk_at "s"
      exact q
    · walk_at "s"
      rw [cutD_1, tail_bits]
      have hpl := okR_len ho
      refine lc_pure (φ := bitD) (b := Sum.isLeft) (f := fun b => match b with | .inl p => meas p | .inr _ => .non) rfl rfl r.bits [] (fun b hb Q2 q2 => ?_) (fun b hb hl Q2 q2 => ?_) (by have := bits_len r; simp; omega) ?_
      · exact ⟨_, rfl, _, bits_isi r b hb, b.isLeft, rfl, q2⟩
      · match b, hb, hl, q2 with
        | .inl p, hb, _, q2 =>
          have hp := bits_mem r hb
          exact ⟨_, rfl, p, rfl, okR_parts ho p hp, rdep_parts hd (List.ne_nil_of_mem hp) p hp, q2 _ rfl⟩
      rw [List.nil_append, bits_parts]
      walk_at "s"
      refine lc_map (φ := meas) (f := fun p => .int (wd p)) r.parts rfl rfl (fun p hp Q2 q2 => ?_) (by omega) ?_
      · exact ⟨_, rfl, _, rfl, q2 _ rfl⟩
      refine ⟨_, sum_map _ _, ?_⟩
      walk_at "s"
      have hwd := wd_eq r h
      refine ite_set 4 (.int (wd r)) (fun R hR => ?_) ?_
      · refine ifd (eqS_eq r.word "again") (fun h2 => ?_) (fun h2 => ?_)
        · obtain ⟨p, lo, hi, er⟩ : ∃ p lo hi, r = .again p lo hi := by
            cases r <;> first | (simp [Rx.word, k2, k5, k8, k11, k13] at h2; done) | skip
            exact ⟨_, _, _, rfl⟩
          have i2 : ixD (.tup (.str r.word :: r.bits.map bitD)) (.int 2) = some (.fz (.int lo)) := by rw [er]; rfl
          have i3 : ixD (.tup (.str r.word :: r.bits.map bitD)) (.int 3) = some (.fz (hiD hi)) := by rw [er]; rfl
          rw [er] at ho
          rw [okR, Bool.and_eq_true, Bool.and_eq_true, Bool.and_eq_true] at ho
          have l1 := of_decide_eq_true ho.1.1.2
          have l2 := of_decide_eq_true ho.1.2
          have key : ∀ (x y : Int), 0 ≤ y → y ≤ 5 → mulD (.int x) (.int y) = some (.fz (.int (x * y))) := by
            intro x y h1 h2
            exact mul_okR (by omega) (by omega)
          walk_at "s"
          refine ⟨_, i3, ?_⟩
          have hfac : r.fac = fcI lo hi := by
            rw [er]
            cases hi <;> rfl
          have hlo := ho.2
          cases hi with
          | none =>
            walk_at "s"
            refine ⟨_, i2, ?_⟩
            walk_at "s"
            refine ⟨_, key _ (mx1 (lo + 1)) (by unfold mx1; split <;> omega) (by rw [mx1_of (by omega)]; omega), rfl, ?_⟩
            have e1 : mx1 (lo + 1) = lo + 1 := mx1_of (by omega)
            show R (List.set _ 4 (some (.fz (.int (mx1 (r.parts.map wd).sum * mx1 (lo + 1))))))
            rw [e1]
            rw [hwd, hfac] at hR
            exact hR
          | some x =>
            walk_at "s"
            refine ⟨_, i3, ?_⟩
            have hu' : x ≤ 5 := by
              rw [hiOk, Bool.and_eq_true] at hlo
              have := of_decide_eq_true hlo.2
              omega
            refine ⟨_, rfl, ?_⟩
            refine ⟨_, key _ (mx1 x) (by unfold mx1; split <;> omega) (by unfold mx1; split <;> omega), rfl, ?_⟩
            show R (List.set _ 4 (some (.fz (.int (mx1 (r.parts.map wd).sum * mx1 x)))))
            rw [hwd, hfac] at hR
            exact hR
        · have hf : r.fac = 1 := by cases r <;> first | rfl | (simp [Rx.word] at h2)
          rw [hwd, hf, Int.mul_one] at hR
          exact hR
      walk_at "s"
      refine and_cut (plain r) (fun h3 P' q' => ?_) (fun h3 => ?_) ?_
      · walk_at "s"
        refine lc_map (φ := meas) (f := fun p => .bl (plain p)) r.parts rfl rfl (fun p hp Q2 q2 => ⟨_, rfl, _, rfl, q2 _ rfl⟩) (by omega) ?_
        refine ⟨_, all_map _ _, ?_⟩
        rw [plain_raa r h, (in_raa r.word).symm.trans h3, Bool.true_and] at q'
        exact q'
      · rw [plain_raa r h, (in_raa r.word).symm.trans h3, Bool.false_and]
      walk_at "s"
      refine iteE_cut (.fz (.bl (hasP r))) (fun P' q' => ?_) ?_
      · refine ifd (in_ra r.word) (fun h4 => ?_) (fun h4 => ?_)
        · walk_at "s"
          rw [hasP_eq, if_pos h4] at q'
          exact q'
        · walk_at "s"
          refine lc_map (φ := meas) (f := fun p => .bl (hasP p)) r.parts rfl rfl (fun p hp Q2 q2 => ⟨_, rfl, _, rfl, q2 _ rfl⟩) (by omega) ?_
          refine ⟨_, all_map _ _, ?_⟩
          rw [hasP_eq, if_neg h4] at q'
          exact q'
      walk_at "s"
      refine lc_map (φ := meas) (f := fun p => .int (cnt p)) r.parts rfl rfl (fun p hp Q2 q2 => ⟨_, rfl, _, rfl, q2 _ rfl⟩) (by omega) ?_
      refine ⟨_, sum_map _ _, ?_⟩
      walk_at "s"
      exact meas_is q rfl (cnt_eq r).symm rfl rfl
end
end Cut
/-! The second data layer, 1: objects that change, a heap of data, readings with a wish for what is raised. -/
namespace ML
open PySem L2 DL
/-- an object that may change -/
inductive Ob where
  | lst (xs : List D) | ins (C : Addr) (fs : List (Str × D)) | dic (kvs : List (Key × D))
abbrev Hd := Addr → Option Ob
def put (h : Hd) (a : Addr) (o : Ob) : Hd := fun b => if b = a then some o else h b
def off (h : Hd) (a : Addr) : Hd := fun b => if b = a then none else h b
theorem put_same {h : Hd} {a : Addr} {o : Ob} : put h a o a = some o := if_pos rfl
theorem put_ne {h : Hd} {a b : Addr} {o : Ob} (e : b ≠ a) : put h a o b = h b := if_neg e
theorem off_same {h : Hd} {a : Addr} : off h a a = none := if_pos rfl
theorem off_ne {h : Hd} {a b : Addr} (e : b ≠ a) : off h a b = h b := if_neg e
theorem put_put {h : Hd} {a : Addr} {o u : Ob} : put (put h a o) a u = put h a u := by
  funext b; unfold put; split <;> rfl
theorem hd_ne {h : Hd} {a b : Addr} {o : Ob} (h1 : h a = some o) (h2 : h b = none) : a ≠ b := fun z => by rw [z, h2] at h1; cases h1
theorem off_put {h : Hd} {a : Addr} {o : Ob} (e : h a = none) : off (put h a o) a = h := by
  funext b; unfold off put; split
  · rename_i z; rw [z, e]
  · rfl
abbrev Me := List (Option D)
/-- what is raised: its class, its fields -/
structure Ex where
  C : Addr
  fs : List (Str × D)
def RepK (K : Fg) (Hf : Hp) (kws : List (Key × V)) (kvs : List (Key × D)) : Prop := kws.map (·.1) = kvs.map (·.1) ∧ RepL K Hf (kws.map (·.2)) (kvs.map (·.2))
def ObOk (K : Fg) (H Hf : Hp) (a : Addr) : Ob → Prop
  | .lst xs => ∃ ys, H a = some (.lst ys) ∧ RepL K Hf ys xs
  | .ins C fs => ∃ dx gs, H a = some (.ins C dx gs) ∧ RepF K Hf gs fs
  | .dic kvs => ∃ kws, H a = some (.dK kws) ∧ RepK K Hf kws kvs
theorem ObOk.at {K : Fg} {H Hf : Hp} {a : Addr} {o : Ob} (h : ObOk K H Hf a o) : ∃ u, H a = some u := by
  cases o with
  | lst xs => obtain ⟨ys, e, _⟩ := h; exact ⟨_, e⟩
  | ins C fs => obtain ⟨dx, gs, e, _⟩ := h; exact ⟨_, e⟩
  | dic kvs => obtain ⟨kws, e, _⟩ := h; exact ⟨_, e⟩
theorem ObOk.mono {K : Fg} {H H' Hf Hf' : Hp} {a : Addr} {o : Ob} (h : ObOk K H Hf a o) (e : ∀ u, H a = some u → H' a = some u) (g : ∀ b u, Hf b = some u → Hf' b = some u) : ObOk K H' Hf' a o := by
  cases o with
  | lst xs => obtain ⟨ys, h1, h2⟩ := h; exact ⟨ys, e _ h1, h2.mono g⟩
  | ins C fs => obtain ⟨dx, gs, h1, h2⟩ := h; exact ⟨dx, gs, e _ h1, h2.mono g⟩
  | dic kvs => obtain ⟨kws, h1, h2, h3⟩ := h; exact ⟨kws, e _ h1, h2, h3.mono g⟩
/-- the heap of data is held -/
structure Hs (K : Fg) (H Hf : Hp) (h : Hd) : Prop where
  sub : ∀ b o, Hf b = some o → H b = some o
  hp : ∀ a o, h a = some o → Hf a = none ∧ ObOk K H Hf a o
/-- movement -/
structure Mo (h h' : Hd) (H H' Hf Hf' : Hp) : Prop where
  keep : ∀ b o, H b = some o → h b = none → H' b = some o
  live : ∀ b, H' b = none → H b = none
  grow : ∀ b o, Hf b = some o → Hf' b = some o
  new : ∀ b o, Hf' b = some o → Hf b = some o ∨ H b = none ∨ ∃ u, h b = some u
  own : ∀ b u, h' b = some u → (∃ u', h b = some u') ∨ H b = none
section
variable {K : Fg} {h h1 h2 : Hd} {H H1 H2 Hf Hf1 Hf2 : Hp}
theorem Mo.refl (h : Hd) (H Hf : Hp) : Mo h h H H Hf Hf := ⟨fun _ _ q _ => q, fun _ q => q, fun _ _ q => q, fun _ _ q => .inl q, fun _ u q => .inl ⟨u, q⟩⟩
theorem Mo.trans (m : Mo h h1 H H1 Hf Hf1) (n : Mo h1 h2 H1 H2 Hf1 Hf2) : Mo h h2 H H2 Hf Hf2 where
  keep := fun b o q z => n.keep b o (m.keep b o q z) (by
    cases e : h1 b with
    | none => rfl
    | some u =>
      rcases m.own b u e with ⟨u', w⟩ | w
      · rw [z] at w; cases w
      · rw [q] at w; cases w)
  live := fun b q => m.live b (n.live b q)
  grow := fun b o q => n.grow b o (m.grow b o q)
  new := fun b o q => by
    rcases n.new b o q with q | q | ⟨u, q⟩
    · exact m.new b o q
    · exact .inr (.inl (m.live b q))
    · rcases m.own b u q with q | q
      · exact .inr (.inr q)
      · exact .inr (.inl q)
  own := fun b u q => by
    rcases n.own b u q with ⟨u', q⟩ | q
    · exact m.own b u' q
    · exact .inr (m.live b q)
theorem Hs.free (s : Hs K H Hf h) {a : Addr} (n : H a = none) : h a = none := by
  cases e : h a with
  | none => rfl
  | some o =>
    obtain ⟨u, z⟩ := (s.hp a o e).2.at
    rw [n] at z; cases z
theorem Hs.freeF (s : Hs K H Hf h) {a : Addr} (n : H a = none) : Hf a = none := by
  cases e : Hf a with
  | none => rfl
  | some o => rw [s.sub a o e] at n; cases n
/-- the heap grows, nothing that was there is touched -/
theorem Hs.ext (s : Hs K H Hf h) (x : Ext H H1 Hf Hf1) : Hs K H1 Hf1 h where
  sub := x.sub
  hp := fun a o q => by
    obtain ⟨z1, z2⟩ := s.hp a o q
    refine ⟨?_, z2.mono (x.same a) x.grow⟩
    cases e : Hf1 a with
    | none => rfl
    | some u =>
      obtain ⟨w, hw⟩ := z2.at
      rcases x.new a u e with e | e
      · rw [z1] at e; cases e
      · rw [hw] at e; cases e
theorem Mo.ext (x : Ext H H1 Hf Hf1) : Mo h h H H1 Hf Hf1 := ⟨fun b o q _ => x.same b o q, x.live, x.grow, fun b o q => (x.new b o q).imp id .inl, fun _ u q => .inl ⟨u, q⟩⟩
/-- what is told of is less -/
theorem Hs.less (s : Hs K H Hf h) (l : ∀ a o, h1 a = some o → h a = some o) : Hs K H Hf h1 := ⟨s.sub, fun a o q => s.hp a o (l a o q)⟩
theorem Mo.less (m : Mo h h1 H H1 Hf Hf1) (l : ∀ a o, h2 a = some o → h1 a = some o) : Mo h h2 H H1 Hf Hf1 := ⟨m.keep, m.live, m.grow, m.new, fun b u q => m.own b u (l b u q)⟩
/-- an object is changed -/
theorem Hs.upd (s : Hs K H Hf h) {a : Addr} {o : Ob} {u : HO} (q : (∃ o', h a = some o') ∨ H a = none) (ok : ∀ H' : Hp, H' a = some u → ObOk K H' Hf a o) : Hs K (upd H a u) Hf (put h a o) := by
  have nf : Hf a = none := by
    rcases q with ⟨o', q⟩ | q
    · exact (s.hp a o' q).1
    · exact s.freeF q
  refine ⟨fun b v z => ?_, fun b v z => ?_⟩
  · rw [upd_ne (ne_of_none z nf)]; exact s.sub b v z
  · by_cases hb : b = a
    · subst hb
      rw [put_same] at z; cases z
      exact ⟨nf, ok _ upd_same⟩
    · rw [put_ne hb] at z
      obtain ⟨z1, z2⟩ := s.hp b v z
      exact ⟨z1, z2.mono (fun w hw => by rw [upd_ne hb]; exact hw) fun _ _ w => w⟩
theorem Mo.upd {a : Addr} {o : Ob} {u : HO} (q : (∃ o', h a = some o') ∨ H a = none) : Mo h (put h a o) H (upd H a u) Hf Hf where
  keep := fun b v z n => by
    have hb : b ≠ a := fun e => by
      subst e
      rcases q with ⟨o', q⟩ | q
      · rw [n] at q; cases q
      · rw [z] at q; cases q
    rw [upd_ne hb]; exact z
  live := fun b z => by
    by_cases hb : b = a
    · subst hb; rw [upd_same] at z; cases z
    · rw [upd_ne hb] at z; exact z
  grow := fun _ _ z => z
  new := fun _ _ z => .inl z
  own := fun b v z => by
    by_cases hb : b = a
    · subst hb; exact q
    · rw [put_ne hb] at z; exact .inl ⟨v, z⟩
end
/-- what was when a stretch of code began; what is wanted of what it raises -/
structure Rg where
  H0 : Hp
  Hf0 : Hp
  h0 : Hd
  ω : Ex → Me → Hd → Prop
abbrev Wω := Ex → Me → Hd → Prop
def XRep (K : Fg) (Hf : Hp) (d : Option Addr) (fs : List (Str × D)) : Prop := (d = none ∧ fs = []) ∨ ∃ a gs, d = some a ∧ Hf a = some (.xd gs) ∧ RepF K Hf gs fs
structure Sd (K : Fg) (Hf : Hp) (σ : St) (ρ : Me) : Prop where
  at_ : ∀ (i : Nat) (d : D), ρ[i]? = some (some d) → ∃ v, σ[i]? = some (some v) ∧ Rep K Hf v d
  len : σ.length = ρ.length
theorem Sd.mono {K : Fg} {Hf Hf' : Hp} {σ : St} {ρ : Me} (s : Sd K Hf σ ρ) (g : ∀ b o, Hf b = some o → Hf' b = some o) : Sd K Hf' σ ρ := ⟨fun i d h => let ⟨v, h1, h2⟩ := s.at_ i d h; ⟨v, h1, h2.mono g⟩, s.len⟩
def wishM (K : Fg) (R : Rg) : WX := fun cls d σ H => ∃ C fs Hf ρ h, cls = .ref C ∧ XRep K Hf d fs ∧ Sd K Hf σ ρ ∧ Hs K H Hf h ∧ Mo R.h0 h R.H0 H R.Hf0 Hf ∧ R.ω ⟨C, fs⟩ ρ h
/-- what is wanted of what is raised; what is known of what stays -/
structure Wd where
  x : WX
  g : Hp → Prop
  mono : ∀ Hf Hf', (∀ b o, Hf b = some o → Hf' b = some o) → g Hf → g Hf'
/-- nothing is known -/
abbrev wd (x : WX) : Wd := ⟨x, fun _ => True, fun _ _ _ h => h⟩
structure RE (K : Fg) (W : Wd) (R : Rg) (H Hf : Hp) (σ : St) (ρ : Me) (h : Hd) : Prop where
  ok : ∀ cls d σ H, wishM K R cls d σ H → W.x cls d σ H
  gh : W.g Hf
  sl : Sd K Hf σ ρ
  hs : Hs K H Hf h
  mv : Mo R.h0 h R.H0 H R.Hf0 Hf
/-- a result -/
def RO (K : Fg) (H H' Hf' : Hp) (h' : Hd) (v : V) : Res → Prop
  | .fz d => Rep K Hf' v d
  | .fr xs => ∃ a ys, v = .ref a ∧ H' a = some (.lst ys) ∧ Hf' a = none ∧ h' a = none ∧ H a = none ∧ RepL K Hf' ys xs
section
variable {K : Fg} {W : Wd} {R : Rg} {h h1 h2 : Hd} {H H1 H2 Hf Hf1 Hf2 : Hp} {σ : St} {ρ : Me}
theorem RE.step (e : RE K W R H Hf σ ρ h) (s : Hs K H1 Hf1 h1) (m : Mo h h1 H H1 Hf Hf1) : RE K W R H1 Hf1 σ ρ h1 := ⟨e.ok, W.mono _ _ m.grow e.gh, e.sl.mono m.grow, s, e.mv.trans m⟩
theorem RE.ext (e : RE K W R H Hf σ ρ h) (x : Ext H H1 Hf Hf1) : RE K W R H1 Hf1 σ ρ h := e.step (e.hs.ext x) (Mo.ext x)
theorem RO.of (s : Hs K H Hf h) (x : Ext H H1 Hf Hf1) {v : V} {r : Res} (k : ResOk K H H1 Hf1 v r) : RO K H H1 Hf1 h v r := by
  cases r with
  | fz d => exact k
  | fr xs =>
    obtain ⟨a, ys, e1, e2, e3, e4, e5⟩ := k
    exact ⟨a, ys, e1, e2, e3, s.free e4, e4, e5⟩
theorem RO.back {v : V} {r : Res} (l : ∀ b, H1 b = none → H b = none) (k : RO K H1 H2 Hf2 h2 v r) : RO K H H2 Hf2 h2 v r := by
  cases r with
  | fz d => exact k
  | fr xs =>
    obtain ⟨a, ys, e1, e2, e3, e4, e5, e6⟩ := k
    exact ⟨a, ys, e1, e2, e3, e4, l _ e5, e6⟩
/-- a new list is frozen -/
theorem RO.freeze {v : V} {r : Res} (s : Hs K H1 Hf1 h1) (m : Mo h h1 H H1 Hf Hf1) (k : RO K H H1 Hf1 h1 v r) : ∃ Hf2, Hs K H1 Hf2 h1 ∧ Mo h h1 H H1 Hf Hf2 ∧ Rep K Hf2 v r.dat := by
  cases r with
  | fz d => exact ⟨Hf1, s, m, k⟩
  | fr xs =>
    obtain ⟨a, ys, rfl, e2, e3, e4, e5, e6⟩ := k
    have g : ∀ b o, Hf1 b = some o → upd Hf1 a (.lst ys) b = some o := fun b o q => by rw [upd_ne (ne_of_none q e3)]; exact q
    refine ⟨upd Hf1 a (.lst ys), ⟨fun b o q => ?_, fun b o q => ?_⟩, ⟨m.keep, m.live, fun b o q => g b o (m.grow b o q), fun b o q => ?_, m.own⟩, .lst upd_same (e6.mono g)⟩
    · by_cases hb : b = a
      · subst hb; rw [upd_same] at q; rw [e2]; exact q
      · rw [upd_ne hb] at q; exact s.sub b o q
    · obtain ⟨z1, z2⟩ := s.hp b o q
      have hb : b ≠ a := hd_ne q e4
      exact ⟨by rw [upd_ne hb]; exact z1, z2.mono (fun _ w => w) g⟩
    · by_cases hb : b = a
      · subst hb; exact .inr (.inl e5)
      · rw [upd_ne hb] at q; exact m.new b o q
/-- .. or is one's own -/
theorem RO.take {v : V} {xs : List D} (s : Hs K H1 Hf1 h1) (m : Mo h h1 H H1 Hf Hf1) (k : RO K H H1 Hf1 h1 v (.fr xs)) : ∃ a, v = .ref a ∧ h1 a = none ∧ H a = none ∧ Hs K H1 Hf1 (put h1 a (.lst xs)) ∧ Mo h (put h1 a (.lst xs)) H H1 Hf Hf1 := by
  obtain ⟨a, ys, rfl, e2, e3, e4, e5, e6⟩ := k
  refine ⟨a, rfl, e4, e5, ⟨s.sub, fun b o q => ?_⟩, ⟨m.keep, m.live, m.grow, m.new, fun b o q => ?_⟩⟩
  · by_cases hb : b = a
    · subst hb; rw [put_same] at q; cases q; exact ⟨e3, ys, e2, e6⟩
    · rw [put_ne hb] at q; exact s.hp b o q
  · by_cases hb : b = a
    · subst hb; exact .inr e5
    · rw [put_ne hb] at q; exact m.own b o q
end
/-! ### expressions -/
abbrev TM := Wω → Me → Hd → (Res → Hd → Prop) → Prop
def SndE (K : Fg) (W : Wd) (t : TE) (τ : TM) : Prop := ∀ (σ : St) (H Hf : Hp) (ρ : Me) (h : Hd) (R : Rg) (P : Res → Hd → Prop) (Q : VK), RE K W R H Hf σ ρ h → τ R.ω ρ h P →
  (∀ v H' Hf' r h', RE K W R H' Hf' σ ρ h' → Mo h h' H H' Hf Hf' → RO K H H' Hf' h' v r → P r h' → Q v H') → t σ H Q
def SndF (K : Fg) (W : Wd) (t : TE) (τ : TM) : Prop := ∀ (σ : St) (H Hf : Hp) (ρ : Me) (h : Hd) (R : Rg) (P : D → Hd → Prop) (Q : VK), RE K W R H Hf σ ρ h → τ R.ω ρ h (fun r h' => P r.dat h') →
  (∀ v H' Hf' d h', RE K W R H' Hf' σ ρ h' → Mo h h' H H' Hf Hf' → Rep K Hf' v d → P d h' → Q v H') → t σ H Q
def canM (K : Fg) (W : Wd) (τ : TM) : TE := fun σ H Q => ∃ (R : Rg) (Hf : Hp) (ρ : Me) (h : Hd) (P : Res → Hd → Prop), RE K W R H Hf σ ρ h ∧ τ R.ω ρ h P ∧
  ∀ v H' Hf' r h', RE K W R H' Hf' σ ρ h' → Mo h h' H H' Hf Hf' → RO K H H' Hf' h' v r → P r h' → Q v H'
structure ME (X : Cx) (W : Wd) (e : Expr) (τ : TM) : Prop where
  pe : PE X e (canM X.K W τ)
section
variable {X : Cx} {W : Wd} {e : Expr} {τ : TM}
theorem ME.of {t : TE} (h : PE X e t) (k : SndE X.K W t τ) : ME X W e τ :=
  ⟨⟨fun pins s σ H Q I ⟨R, Hf, ρ, hd, P, e, q, kk⟩ => h.run pins s σ H Q I (k σ H Hf ρ hd R P Q e q kk)⟩⟩
theorem ME.ex (h : ME X W e τ) : ∃ t, PE X e t ∧ SndE X.K W t τ := ⟨_, h.pe, fun σ H Hf ρ hd R P Q e q k => ⟨R, Hf, ρ, hd, P, e, q, k⟩⟩
theorem SndE.fz {K : Fg} {t : TE} (s : SndE K W t τ) : SndF K W t τ := fun σ H Hf ρ h R P Q e q k => s σ H Hf ρ h R _ Q e q fun v H' Hf' r h' e1 m1 r1 p1 => by
  obtain ⟨Hf2, s2, m2, r2⟩ := r1.freeze e1.hs m1
  exact k v H' Hf2 r.dat h' (e.step s2 m2) m2 r2 p1
theorem ME.fz (h : ME X W e τ) : ∃ t, PE X e t ∧ SndF X.K W t τ := let ⟨t, p, s⟩ := h.ex; ⟨t, p, s.fz⟩
end
/-! ### constants, names -/
section
variable {X : Cx} {W : Wd} {pos : Pos}
def mK (d : D) : TM := fun _ _ h P => P (.fz d) h
theorem me_tC {e : Expr} {v : V} {d : D} (h : PE X e (tC v)) (r : ∀ H, Rep X.K H v d) : ME X W e (mK d) := ME.of h fun σ H Hf ρ h R P Q e q k => k v H Hf (.fz d) h e (Mo.refl ..) (r _) q
theorem me_int {i : Int} {j : Nat} : ME X W (.Constant (.int i) j pos) (mK (.int i)) := me_tC pe_int fun _ => .int i
theorem me_bl {b : Bool} {j : Nat} : ME X W (.Constant (.bool b) j pos) (mK (.bl b)) := me_tC pe_bl fun _ => .bl b
theorem me_non {j : Nat} : ME X W (.Constant .none j pos) (mK .non) := me_tC pe_non fun _ => .non
theorem me_str {x : Str} {j : Nat} : ME X W (.Constant (.str x) j pos) (mK (.str x)) := me_tC pe_str fun _ => .str x
theorem me_g {x : Str} {d : D} (h : Gc X.K X.mg x d) (hg : Gl X x) (hd : (x == ("__debug__" : Str)) = false := by decide) : ME X W (.Name x pos) (mK d) := let ⟨_, _, h1, h2, h3⟩ := h; me_tC (pe_glob hg h1 h2 hd) h3
theorem me_ty {x : Str} {n : String} (hg : Gl X x) (hm : X.mg x = none) (hv : bootBuiltins x = some (.type n)) (hn : x ≠ "__name__" := by decide) (hd : (x == ("__debug__" : Str)) = false := by decide) : ME X W (.Name x pos) (mK (.ty n)) :=
  me_tC (pe_bltn hg hm hv (v := .ty n) rfl hn hd) fun _ => .ty n
def mV (i : Nat) : TM := fun _ ρ h P => ∃ d, ρ[i]? = some (some d) ∧ P (.fz d) h
theorem me_v (i : Nat) {x : Str} (hN : X.N[i]? = some x := by rfl) (hv : Vis X.env.scope x := by first | exact Or.inl rfl | exact Or.inr (Or.inl rfl) | exact Or.inr (Or.inr rfl)) (hd : (x == ("__debug__" : Str)) = false := by decide) (hcd : (x == ("__classdict__" : Str)) = false := by decide) :
    ME X W (.Name x pos) (mV i) := ME.of (pe_var hN hv hd hcd) fun σ H Hf ρ h R P Q e ⟨d, hi, q⟩ k => by
  obtain ⟨v, h1, h2⟩ := e.sl.at_ i _ hi
  exact ⟨v, h1, k v H Hf (.fz d) h e (Mo.refl ..) h2 q⟩
end
/-! ### lists of one's own seen as data -/
def vw (h : Hd) : D → D
  | .raw (.ref a) => match h a with
    | some (.lst xs) => .lst xs
    | _ => .raw (.ref a)
  | d => d
def hfv (H Hf : Hp) (h : Hd) : Hp := fun b => match Hf b with
  | some o => some o
  | none => match h b with
    | some (.lst _) => H b
    | _ => none
section
variable {K : Fg} {H H1 Hf Hf1 : Hp} {h : Hd}
theorem hfv_sub (s : Hs K H Hf h) : ∀ b o, hfv H Hf h b = some o → H b = some o := fun b o q => by
  unfold hfv at q
  cases e : Hf b with
  | some u => rw [e] at q; cases q; exact s.sub b _ e
  | none =>
    rw [e] at q
    cases e2 : h b with
    | none => rw [e2] at q; cases q
    | some u =>
      rw [e2] at q
      cases u with
      | lst xs => exact q
      | ins C fs => cases q
      | dic kvs => cases q
theorem hfv_grow : ∀ b o, Hf b = some o → hfv H Hf h b = some o := fun b o q => by unfold hfv; rw [q]
theorem Rep.vw (s : Hs K H Hf h) {v : V} {d : D} (r : Rep K Hf v d) : Rep K (hfv H Hf h) v (vw h d) := by
  cases r with
  | raw v =>
    cases v with
    | ref a =>
      unfold ML.vw
      cases e : h a with
      | none => simp only [e]; exact .raw _
      | some o =>
        cases o with
        | lst xs =>
          simp only [e]
          obtain ⟨z1, ys, z2, z3⟩ := s.hp a _ e
          refine .lst ?_ (z3.mono hfv_grow)
          unfold hfv
          rw [z1, e]
          exact z2
        | ins C fs => simp only [e]; exact .raw _
        | dic kvs => simp only [e]; exact .raw _
    | _ => exact .raw _
  | non => exact .non
  | bl b => exact .bl b
  | int i => exact .int i
  | str x => exact .str x
  | ty n => exact .ty n
  | scr q => exact .scr (sqL_same hfv_grow q)
  | tup q r => exact .tup (sqT_same hfv_grow q) (r.mono hfv_grow)
  | lst q r => exact .lst (hfv_grow _ _ q) (r.mono hfv_grow)
  | obj q r => exact .obj (hfv_grow _ _ q) (r.mono hfv_grow)
theorem RepL.vw (s : Hs K H Hf h) : ∀ {vs : List V} {ds : List D}, RepL K Hf vs ds → RepL K (hfv H Hf h) vs (ds.map (ML.vw h))
  | _, _, .nil => .nil
  | _, _, .cons a r => .cons (Rep.vw s a) (RepL.vw s r)
theorem Rep.flat_any {v : V} {d : D} (r : Rep K Hf v d) (f : d.flat = true) (Hf' : Hp) : Rep K Hf' v d := by
  cases r <;> first | (simp [D.flat] at f; done) | constructor
/-- a step that leaves all as it was, read by the seen lists -/
theorem ext_seen (s : Hs K H Hf h) (x : Ext H H1 (hfv H Hf h) Hf1) : Ext H H1 Hf Hf := ⟨x.same, fun b o q => x.same b o (s.sub b o q), fun _ _ q => q, fun _ _ q => .inl q⟩
end
end ML
/-! The second data layer, 2: operators, tests, displays, subscripts, slices, built-ins. -/
namespace ML
open PySem L2 DL
def mBin (g : D → D → Option Res) (a b : TM) : TM := fun ω ρ h P => a ω ρ h fun x h1 => b ω ρ h1 fun y h2 => ∃ c, g x.dat y.dat = some c ∧ P c h2
/-- .. where lists of one's own are seen -/
def mBinV (g : D → D → Option Res) (a b : TM) : TM := fun ω ρ h P => a ω ρ h fun x h1 => b ω ρ h1 fun y h2 => ∃ c, g (vw h2 x.dat) (vw h2 y.dat) = some (.fz c) ∧ c.flat = true ∧ P (.fz c) h2
section
variable {X : Cx} {W : Wd} {a b c e : Expr} {rest : List Expr} {τa τb τc : TM} {pos : Pos} {r r' : R2} {g g' : D → D → Option Res}
theorem run2 {K : Fg} {ta tb : TE} (hs : OpS K r g) (sa : SndF K W ta τa) (sb : SndF K W tb τb) : SndE K W (tOp r ta tb) (mBin g τa τb) := fun σ H Hf ρ h R P Q e q k => by
  refine sa σ H Hf ρ h R (fun x h1 => τb R.ω ρ h1 fun y h2 => ∃ c, g x y.dat = some c ∧ P c h2) _ e q fun x H1 Hf1 dx h1 e1 m1 r1 q1 => ?_
  refine sb σ H1 Hf1 ρ h1 R (fun y h2 => ∃ c, g dx y = some c ∧ P c h2) _ e1 q1 fun y H2 Hf2 dy h2 e2 m2 r2 ⟨c, hc, p⟩ => ?_
  refine hs H2 Hf2 x y dx dy c Q e2.hs.sub (r1.mono m2.grow) r2 hc fun v H3 Hf3 x3 ok => ?_
  exact k v H3 Hf3 c h2 (e2.ext x3) ((m1.trans m2).trans (Mo.ext x3)) ((RO.of e2.hs x3 ok).back (m1.trans m2).live) p
theorem run2V {K : Fg} {ta tb : TE} (hs : OpS K r g) (sa : SndF K W ta τa) (sb : SndF K W tb τb) : SndE K W (tOp r ta tb) (mBinV g τa τb) := fun σ H Hf ρ h R P Q e q k => by
  refine sa σ H Hf ρ h R (fun x h1 => τb R.ω ρ h1 fun y h2 => ∃ c, g (vw h2 x) (vw h2 y.dat) = some (.fz c) ∧ c.flat = true ∧ P (.fz c) h2) _ e q fun x H1 Hf1 dx h1 e1 m1 r1 q1 => ?_
  refine sb σ H1 Hf1 ρ h1 R (fun y h2 => ∃ c, g (vw h2 dx) (vw h2 y) = some (.fz c) ∧ c.flat = true ∧ P (.fz c) h2) _ e1 q1 fun y H2 Hf2 dy h2 e2 m2 r2 ⟨c, hc, hf, p⟩ => ?_
  refine hs H2 (hfv H2 Hf2 h2) x y (vw h2 dx) (vw h2 dy) _ Q (hfv_sub e2.hs) (Rep.vw e2.hs (r1.mono m2.grow)) (Rep.vw e2.hs r2) hc fun v H3 Hf3 x3 ok => ?_
  have x4 := ext_seen e2.hs x3
  exact k v H3 Hf2 (.fz c) h2 (e2.ext x4) ((m1.trans m2).trans (Mo.ext x4)) (Rep.flat_any ok hf _) p
theorem me_bin {op : Operator} (ho : OpR X (binaryOp op) r) (hs : OpS X.K r g) (ha : ME X W a τa) (hb : ME X W b τb) : ME X W (.BinOp a op b pos) (mBin g τa τb) := by
  obtain ⟨ta, pa, sa⟩ := ha.fz
  obtain ⟨tb, pb, sb⟩ := hb.fz
  exact ME.of (pe_op ho pa pb) (run2 hs sa sb)
theorem me_cmp {op : CmpOp} (ho : OpR X (compareOp op) r) (hs : OpS X.K r g) (ha : ME X W a τa) (hb : ME X W b τb) (hm : behindInMarks op b = false) : ME X W (.Compare a [op] [b] pos) (mBin g τa τb) := by
  obtain ⟨ta, pa, sa⟩ := ha.fz
  obtain ⟨tb, pb, sb⟩ := hb.fz
  exact ME.of (pe_cmpR ho pa pb hm) (run2 hs sa sb)
theorem me_binV {op : Operator} (ho : OpR X (binaryOp op) r) (hs : OpS X.K r g) (ha : ME X W a τa) (hb : ME X W b τb) : ME X W (.BinOp a op b pos) (mBinV g τa τb) := by
  obtain ⟨ta, pa, sa⟩ := ha.fz
  obtain ⟨tb, pb, sb⟩ := hb.fz
  exact ME.of (pe_op ho pa pb) (run2V hs sa sb)
theorem me_cmpV {op : CmpOp} (ho : OpR X (compareOp op) r) (hs : OpS X.K r g) (ha : ME X W a τa) (hb : ME X W b τb) (hm : behindInMarks op b = false) : ME X W (.Compare a [op] [b] pos) (mBinV g τa τb) := by
  obtain ⟨ta, pa, sa⟩ := ha.fz
  obtain ⟨tb, pb, sb⟩ := hb.fz
  exact ME.of (pe_cmpR ho pa pb hm) (run2V hs sa sb)
end
/-! ### tests -/
abbrev TMT := Wω → Me → Hd → (Bool → Hd → Prop) → Prop
def SndT (K : Fg) (W : Wd) (t : TT) (τ : TMT) : Prop := ∀ (σ : St) (H Hf : Hp) (ρ : Me) (h : Hd) (R : Rg) (P : Bool → Hd → Prop) (Q : Bool → Hp → Prop), RE K W R H Hf σ ρ h → τ R.ω ρ h P →
  (∀ b H' Hf' h', RE K W R H' Hf' σ ρ h' → Mo h h' H H' Hf Hf' → P b h' → Q b H') → t σ H Q
def canMT (K : Fg) (W : Wd) (τ : TMT) : TT := fun σ H Q => ∃ (R : Rg) (Hf : Hp) (ρ : Me) (h : Hd) (P : Bool → Hd → Prop), RE K W R H Hf σ ρ h ∧ τ R.ω ρ h P ∧ (∀ b H' Hf' h', RE K W R H' Hf' σ ρ h' → Mo h h' H H' Hf Hf' → P b h' → Q b H')
structure MT (X : Cx) (W : Wd) (e : Expr) (τ : TMT) : Prop where
  pt : PT X e (canMT X.K W τ)
structure MW (X : Cx) (W : Wd) (e : Expr) (τ : TMT) : Prop where
  pw : PW X e (canMT X.K W τ)
section
variable {X : Cx} {W : Wd} {pos : Pos} {a b c e : Expr} {rest : List Expr} {τa τb τc : TM} {tA tB : TMT} {op : Operator}
theorem MT.of {τ : TMT} {t : TT} (h : PT X e t) (k : SndT X.K W t τ) : MT X W e τ := ⟨⟨fun pins s σ H Q I ⟨R, Hf, ρ, hd, P, e, q, kk⟩ => h.run pins s σ H Q I (k σ H Hf ρ hd R P Q e q kk)⟩⟩
theorem MW.of {τ : TMT} {t : TT} (h : PW X e t) (k : SndT X.K W t τ) : MW X W e τ := ⟨⟨fun wh pins s σ H Q I ⟨R, Hf, ρ, hd, P, e, q, kk⟩ => h.run wh pins s σ H Q I (k σ H Hf ρ hd R P Q e q kk)⟩⟩
theorem MW.mt {τ : TMT} (h : MW X W e τ) : MT X W e τ := ⟨h.pw.pt⟩
def mT (τ : TM) : TMT := fun ω ρ h P => τ ω ρ h fun r h' => ∃ b, r.dat = .bl b ∧ P b h'
theorem mt_val (h : ME X W e τa) (he : ∀ whole, isTrue e X.env whole = (do let v ← whole; standAt e.pos; holding [v] (truthy v)) := by intro _; rfl) : MT X W e (mT τa) := by
  obtain ⟨t, p, s⟩ := h.fz
  refine MT.of (pt_val p he) fun σ H Hf ρ h R P Q e q k => s σ H Hf ρ h R (fun d h' => ∃ b, d = .bl b ∧ P b h') _ e q fun v H' Hf' d h' e1 m1 r1 ⟨b, hb, p1⟩ => ?_
  subst hb
  exact ⟨b, r1.bl_inv, k b H' Hf' h' e1 m1 p1⟩
theorem cmpT {ta tb : TE} {r : R2} {τ : TM} (s : SndE X.K W (tOp r ta tb) τ) : SndT X.K W (L2.tB (tOp r ta tb)) (mT τ) := fun σ H Hf ρ h R P Q e q k => s.fz σ H Hf ρ h R (fun d h' => ∃ b, d = .bl b ∧ P b h') _ e q fun v H' Hf' d h' e1 m1 r1 ⟨b, hb, p1⟩ => by
  subst hb
  exact ⟨b, r1.bl_inv, k b H' Hf' h' e1 m1 p1⟩
theorem mt_cmp {cop : CmpOp} {r : R2} {g : D → D → Option Res} (ho : OpR X (compareOp cop) r) (hs : OpS X.K r g) (ha : ME X W a τa) (hb : ME X W b τb) (hm : behindInMarks cop b = false) : MT X W (.Compare a [cop] [b] pos) (mT (mBin g τa τb)) := by
  obtain ⟨ta, pa, sa⟩ := ha.fz
  obtain ⟨tb, pb, sb⟩ := hb.fz
  exact MT.of (pt_cmpR ho pa pb hm) (cmpT (run2 hs sa sb))
theorem mt_cmpV {cop : CmpOp} {r : R2} {g : D → D → Option Res} (ho : OpR X (compareOp cop) r) (hs : OpS X.K r g) (ha : ME X W a τa) (hb : ME X W b τb) (hm : behindInMarks cop b = false) : MT X W (.Compare a [cop] [b] pos) (mT (mBinV g τa τb)) := by
  obtain ⟨ta, pa, sa⟩ := ha.fz
  obtain ⟨tb, pb, sb⟩ := hb.fz
  exact MT.of (pt_cmpR ho pa pb hm) (cmpT (run2V hs sa sb))
def mAndT (a b : TMT) : TMT := fun ω ρ h P => a ω ρ h fun c h1 => if c = true then b ω ρ h1 P else P false h1
def mOrT (a b : TMT) : TMT := fun ω ρ h P => a ω ρ h fun c h1 => if c = true then P true h1 else b ω ρ h1 P
def mNotT (a : TMT) : TMT := fun ω ρ h P => a ω ρ h fun c h1 => P (!c) h1
theorem mw_and1 (ha : MT X W a tA) : MW X W (.BoolOp .And [a] pos) tA := ⟨pw_and1 ha.pt⟩
theorem mw_or1 (ha : MT X W a tA) : MW X W (.BoolOp .Or [a] pos) tA := ⟨pw_or1 ha.pt⟩
theorem mw_and (ha : MT X W a tA) (hb : MW X W (.BoolOp .And (b :: rest) pos) tB) : MW X W (.BoolOp .And (a :: b :: rest) pos) (mAndT tA tB) := by
  refine MW.of (pw_and ha.pt hb.pw) fun σ H Hf ρ h R P Q e q k => ⟨R, Hf, ρ, h, _, e, q, fun c H' Hf' h' e1 m1 p1 => ?_⟩
  cases c with
  | true => exact ⟨R, Hf', ρ, h', P, e1, p1, fun b H2 Hf2 h2 e2 m2 p2 => k b H2 Hf2 h2 e2 (m1.trans m2) p2⟩
  | false => exact k false H' Hf' h' e1 m1 p1
theorem mw_or (ha : MT X W a tA) (hb : MW X W (.BoolOp .Or (b :: rest) pos) tB) : MW X W (.BoolOp .Or (a :: b :: rest) pos) (mOrT tA tB) := by
  refine MW.of (pw_or ha.pt hb.pw) fun σ H Hf ρ h R P Q e q k => ⟨R, Hf, ρ, h, _, e, q, fun c H' Hf' h' e1 m1 p1 => ?_⟩
  cases c with
  | false => exact ⟨R, Hf', ρ, h', P, e1, p1, fun b H2 Hf2 h2 e2 m2 p2 => k b H2 Hf2 h2 e2 (m1.trans m2) p2⟩
  | true => exact k true H' Hf' h' e1 m1 p1
theorem mt_not (ha : MT X W a tA) : MT X W (.UnaryOp .Not a pos) (mNotT tA) :=
  MT.of (pt_not ha.pt) fun σ H Hf ρ h R P Q e q k => ⟨R, Hf, ρ, h, _, e, q, fun c H' Hf' h' e1 m1 p1 => k (!c) H' Hf' h' e1 m1 p1⟩
/-! ### and, or, not, if as values -/
def mAndE (a b : TM) : TM := fun ω ρ h P => a ω ρ h fun x h1 => ∃ c, x.dat = .bl c ∧ if c = true then b ω ρ h1 P else P (.fz (.bl false)) h1
def mOrE (a b : TM) : TM := fun ω ρ h P => a ω ρ h fun x h1 => ∃ c, x.dat = .bl c ∧ if c = true then P (.fz (.bl true)) h1 else b ω ρ h1 P
def mNotE (a : TM) : TM := fun ω ρ h P => a ω ρ h fun x h1 => ∃ c, x.dat = .bl c ∧ P (.fz (.bl (!c))) h1
def mIfE (c : TMT) (a b : TM) : TM := fun ω ρ h P => c ω ρ h fun k h1 => if k = true then a ω ρ h1 P else b ω ρ h1 P
theorem me_one {bop : BoolOp} (h : ME X W a τa) : ME X W (.BoolOp bop [a] pos) τa := ⟨pe_one h.pe⟩
theorem me_and (ha : ME X W a τa) (hb : ME X W (.BoolOp .And (b :: rest) pos) τb) : ME X W (.BoolOp .And (a :: b :: rest) pos) (mAndE τa τb) := by
  obtain ⟨ta, pa, sa⟩ := ha.fz
  obtain ⟨tb, pb, sb⟩ := hb.ex
  refine ME.of (pe_and pa pb) fun σ H Hf ρ h R P Q e q k => sa σ H Hf ρ h R (fun d h1 => ∃ c, d = .bl c ∧ if c = true then τb R.ω ρ h1 P else P (.fz (.bl false)) h1) _ e q fun v H1 Hf1 d h1 e1 m1 r1 ⟨c, hc, p1⟩ => ?_
  subst hc
  refine ⟨c, r1.bl_inv, ?_⟩
  cases c with
  | true => exact sb σ H1 Hf1 ρ h1 R P Q e1 p1 fun v H2 Hf2 r h2 e2 m2 r2 p2 => k v H2 Hf2 r h2 e2 (m1.trans m2) (r2.back m1.live) p2
  | false => exact k _ H1 Hf1 (.fz (.bl false)) h1 e1 m1 (.bl false) p1
theorem me_or (ha : ME X W a τa) (hb : ME X W (.BoolOp .Or (b :: rest) pos) τb) : ME X W (.BoolOp .Or (a :: b :: rest) pos) (mOrE τa τb) := by
  obtain ⟨ta, pa, sa⟩ := ha.fz
  obtain ⟨tb, pb, sb⟩ := hb.ex
  refine ME.of (pe_or pa pb) fun σ H Hf ρ h R P Q e q k => sa σ H Hf ρ h R (fun d h1 => ∃ c, d = .bl c ∧ if c = true then P (.fz (.bl true)) h1 else τb R.ω ρ h1 P) _ e q fun v H1 Hf1 d h1 e1 m1 r1 ⟨c, hc, p1⟩ => ?_
  subst hc
  refine ⟨c, r1.bl_inv, ?_⟩
  cases c with
  | false => exact sb σ H1 Hf1 ρ h1 R P Q e1 p1 fun v H2 Hf2 r h2 e2 m2 r2 p2 => k v H2 Hf2 r h2 e2 (m1.trans m2) (r2.back m1.live) p2
  | true => exact k _ H1 Hf1 (.fz (.bl true)) h1 e1 m1 (.bl true) p1
theorem me_not (ha : ME X W a τa) : ME X W (.UnaryOp .Not a pos) (mNotE τa) := by
  obtain ⟨ta, pa, sa⟩ := ha.fz
  refine ME.of (pe_not pa) fun σ H Hf ρ h R P Q e q k => sa σ H Hf ρ h R (fun d h1 => ∃ c, d = .bl c ∧ P (.fz (.bl (!c))) h1) _ e q fun v H1 Hf1 d h1 e1 m1 r1 ⟨c, hc, p1⟩ => ?_
  subst hc
  exact ⟨c, r1.bl_inv, k _ H1 Hf1 (.fz (.bl (!c))) h1 e1 m1 (.bl _) p1⟩
theorem me_if (hc : MT X W c tA) (ha : ME X W a τa) (hb : ME X W b τb) : ME X W (.IfExp c a b pos) (mIfE tA τa τb) := by
  refine ME.of (pe_ifExp hc.pt ha.pe hb.pe) fun σ H Hf ρ h R P Q e q k => ⟨R, Hf, ρ, h, _, e, q, fun c H1 Hf1 h1 e1 m1 p1 => ?_⟩
  cases c with
  | true => exact ⟨R, Hf1, ρ, h1, P, e1, p1, fun v H2 Hf2 r h2 e2 m2 r2 p2 => k v H2 Hf2 r h2 e2 (m1.trans m2) (r2.back m1.live) p2⟩
  | false => exact ⟨R, Hf1, ρ, h1, P, e1, p1, fun v H2 Hf2 r h2 e2 m2 r2 p2 => k v H2 Hf2 r h2 e2 (m1.trans m2) (r2.back m1.live) p2⟩
/-- -a -/
def mNegE (τ : TM) : TM := fun ω ρ h P => τ ω ρ h fun x h1 => ∃ i, x.dat = .int i ∧ P (.fz (.int (-i))) h1
theorem me_neg (ha : ME X W a τa) : ME X W (.UnaryOp .USub a pos) (mNegE τa) := by
  obtain ⟨ta, pa, sa⟩ := ha.fz
  refine ME.of (pe_un un_neg pa) fun σ H Hf ρ h R P Q e q k => sa σ H Hf ρ h R (fun d h1 => ∃ i, d = .int i ∧ P (.fz (.int (-i))) h1) _ e q fun v H1 Hf1 d h1 e1 m1 r1 ⟨i, hi, p1⟩ => ?_
  subst hi
  cases r1
  exact ⟨i, rfl, k _ H1 Hf1 (.fz (.int (-i))) h1 e1 m1 (.int _) p1⟩
/-- a < b < c -/
def mChn (g g' : D → D → Option Res) (a b c : TM) : TM := fun ω ρ h P => a ω ρ h fun x h1 => b ω ρ h1 fun y h2 => ∃ z k, g x.dat y.dat = some (.fz z) ∧ z = .bl k ∧ if k = true then c ω ρ h2 (fun w h3 => ∃ z', g' y.dat w.dat = some z' ∧ P z' h3) else P (.fz (.bl false)) h2
theorem run3 {r r' : R2} {g g' : D → D → Option Res} {ta tb tc : TE} {K : Fg} (hs : OpS K r g) (hs' : OpS K r' g') (sa : SndF K W ta τa) (sb : SndF K W tb τb) (sc : SndF K W tc τc) : SndE K W (tChain r r' ta tb tc) (mChn g g' τa τb τc) := fun σ H Hf ρ h R P Q e q k => by
  refine sa σ H Hf ρ h R (fun x h1 => τb R.ω ρ h1 fun y h2 => ∃ z k, g x y.dat = some (.fz z) ∧ z = .bl k ∧ if k = true then τc R.ω ρ h2 (fun w h3 => ∃ z', g' y.dat w.dat = some z' ∧ P z' h3) else P (.fz (.bl false)) h2) _ e q fun x H1 Hf1 dx h1 e1 m1 r1 q1 => ?_
  refine sb σ H1 Hf1 ρ h1 R (fun y h2 => ∃ z k, g dx y = some (.fz z) ∧ z = .bl k ∧ if k = true then τc R.ω ρ h2 (fun w h3 => ∃ z', g' y w.dat = some z' ∧ P z' h3) else P (.fz (.bl false)) h2) _ e1 q1 fun y H2 Hf2 dy h2 e2 m2 r2 q2 => ?_
  obtain ⟨z, kk, hc, hd, p⟩ := q2
  subst hd
  refine hs H2 Hf2 x y dx dy _ _ e2.hs.sub (r1.mono m2.grow) r2 hc fun v H3 Hf3 x3 ok => ?_
  refine ⟨kk, Rep.bl_inv ok, ?_⟩
  have e3 := e2.ext x3
  have m3 := (m1.trans m2).trans (Mo.ext x3)
  cases kk with
  | false => exact k _ H3 Hf3 (.fz (.bl false)) h2 e3 m3 (.bl false) p
  | true =>
    refine sc σ H3 Hf3 ρ h2 R (fun w h3 => ∃ z', g' dy w = some z' ∧ P z' h3) _ e3 p fun w H5 Hf5 dw h5 e5 m6 r6 ⟨z', hz, p6⟩ => ?_
    refine hs' H5 Hf5 y w dy dw z' Q e5.hs.sub ((r2.mono x3.grow).mono m6.grow) r6 hz fun v H7 Hf7 x7 ok7 => ?_
    exact k v H7 Hf7 z' h5 (e5.ext x7) ((m3.trans m6).trans (Mo.ext x7)) ((RO.of e5.hs x7 ok7).back (m3.trans m6).live) p6
theorem me_chn {cop cop' : CmpOp} {r r' : R2} {g g' : D → D → Option Res} (ho : OpR X (compareOp cop) r) (hs : OpS X.K r g) (ho' : OpR X (compareOp cop') r') (hs' : OpS X.K r' g') (ha : ME X W a τa) (hb : ME X W b τb) (hc : ME X W c τc)
    (hm : lastMarks [cop, cop'] [b, c] = false := by with_unfolding_all rfl) : ME X W (.Compare a [cop, cop'] [b, c] pos) (mChn g g' τa τb τc) := by
  obtain ⟨ta, pa, sa⟩ := ha.fz
  obtain ⟨tb, pb, sb⟩ := hb.fz
  obtain ⟨tc, pc, sc⟩ := hc.fz
  exact ME.of (pe_chain ho ho' pa pb pc hm) (run3 hs hs' sa sb sc)
theorem mt_chn {cop cop' : CmpOp} {r r' : R2} {g g' : D → D → Option Res} (ho : OpR X (compareOp cop) r) (hs : OpS X.K r g) (ho' : OpR X (compareOp cop') r') (hs' : OpS X.K r' g') (ha : ME X W a τa) (hb : ME X W b τb) (hc : ME X W c τc)
    (hm : lastMarks [cop, cop'] [b, c] = false := by with_unfolding_all rfl) : MT X W (.Compare a [cop, cop'] [b, c] pos) (mT (mChn g g' τa τb τc)) := by
  obtain ⟨ta, pa, sa⟩ := ha.fz
  obtain ⟨tb, pb, sb⟩ := hb.fz
  obtain ⟨tc, pc, sc⟩ := hc.fz
  refine MT.of (pt_chain ho ho' pa pb pc hm) fun σ H Hf ρ h R P Q e q k => (run3 hs hs' sa sb sc).fz σ H Hf ρ h R (fun d h' => ∃ b, d = .bl b ∧ P b h') _ e q fun v H' Hf' d h' e1 m1 r1 ⟨b, hb, p1⟩ => ?_
  subst hb
  exact ⟨b, r1.bl_inv, k b H' Hf' h' e1 m1 p1⟩
end
/-! ### argument lists, displays -/
abbrev TMA := Wω → Me → Hd → (List D → Hd → Prop) → Prop
def canMA (K : Fg) (W : Wd) (n : Nat) (τ : TMA) : TA := fun σ H Q => ∃ (R : Rg) (Hf : Hp) (ρ : Me) (h : Hd) (P : List D → Hd → Prop), RE K W R H Hf σ ρ h ∧ τ R.ω ρ h P ∧ (∀ vs H' Hf' ds h', RE K W R H' Hf' σ ρ h' → Mo h h' H H' Hf Hf' → RepL K Hf' vs ds → ds.length = n → P ds h' → Q vs H')
structure MA (X : Cx) (W : Wd) (es : List Expr) (τ : TMA) : Prop where
  pa : PA X es (canMA X.K W es.length τ)
section
variable {X : Cx} {W : Wd} {pos : Pos} {e : Expr} {es : List Expr} {τ : TM} {τs : TMA}
theorem MA.of {t : TA} (h : PA X es t) (k : ∀ (σ : St) (H Hf : Hp) (ρ : Me) (h : Hd) (R : Rg) (P : List D → Hd → Prop) (Q : List V → Hp → Prop), RE X.K W R H Hf σ ρ h → τs R.ω ρ h P → (∀ vs H' Hf' ds h', RE X.K W R H' Hf' σ ρ h' → Mo h h' H H' Hf Hf' → RepL X.K Hf' vs ds → ds.length = es.length → P ds h' → Q vs H') → t σ H Q) : MA X W es τs :=
  ⟨⟨fun pos pins s σ H Q I ⟨R, Hf, ρ, hd, P, e, q, kk⟩ => h.run pos pins s σ H Q I (k σ H Hf ρ hd R P Q e q kk)⟩⟩
def mANil : TMA := fun _ _ h P => P [] h
def mACons (a : TM) (r : TMA) : TMA := fun ω ρ h P => a ω ρ h fun x h1 => r ω ρ h1 fun xs h2 => P (x.dat :: xs) h2
theorem ma_nil : MA X W [] mANil := MA.of pa_nil fun σ H Hf ρ h R P Q e q k => k [] H Hf [] h e (Mo.refl ..) .nil rfl q
theorem ma_cons (ha : ME X W e τ) (hr : MA X W es τs) (hs : starEach (e :: es) X.env = (false, eval e X.env) :: starEach es X.env := by rfl) : MA X W (e :: es) (mACons τ τs) := by
  obtain ⟨ta, pa, sa⟩ := ha.fz
  refine MA.of (pa_cons pa hr.pa hs) fun σ H Hf ρ h R P Q e q k => sa σ H Hf ρ h R (fun d h1 => τs R.ω ρ h1 fun xs h2 => P (d :: xs) h2) _ e q fun v H1 Hf1 d h1 e1 m1 r1 p1 => ?_
  exact ⟨R, Hf1, ρ, h1, _, e1, p1, fun vs H2 Hf2 ds h2 e2 m2 r2 l2 p2 => k (v :: vs) H2 Hf2 (d :: ds) h2 e2 (m1.trans m2) (.cons (r1.mono m2.grow) r2) (by rw [List.length_cons, l2, List.length_cons]) p2⟩
def mTup (τ : TMA) : TM := fun ω ρ h P => τ ω ρ h fun ds h1 => ds.length ≤ 16000 ∧ P (.fz (.tup ds)) h1
def mLst (τ : TMA) : TM := fun ω ρ h P => τ ω ρ h fun ds h1 => ds.length ≤ 16000 ∧ P (.fr ds) h1
theorem me_tup {x1 : Nat} (h : MA X W es τs) : ME X W (.Tuple es x1 pos) (mTup τs) := by
  refine ME.of (pe_tup h.pa) fun σ H Hf ρ h R P Q e q k => ⟨R, Hf, ρ, h, _, e, q, fun vs H1 Hf1 ds h1 e1 m1 r1 _ ⟨hz, p1⟩ => ⟨by rw [r1.length]; exact lim hz, fun n hn => ?_⟩⟩
  obtain ⟨x1, x2⟩ := new_tup e1.hs.sub hn r1
  exact k _ _ _ _ h1 (e1.ext x1) (m1.trans (Mo.ext x1)) ((RO.of e1.hs x1 x2).back m1.live) p1
theorem me_lst (h : MA X W es τs) : ME X W (.List es pos) (mLst τs) := by
  refine ME.of (pe_lst h.pa) fun σ H Hf ρ h R P Q e q k => ⟨R, Hf, ρ, h, _, e, q, fun vs H1 Hf1 ds h1 e1 m1 r1 _ ⟨hz, p1⟩ => ⟨by rw [r1.length]; exact lim hz, fun n hn => ?_⟩⟩
  obtain ⟨x1, x2⟩ := new_lst e1.hs.sub hn r1
  exact k _ _ _ _ h1 (e1.ext x1) (m1.trans (Mo.ext x1)) ((RO.of e1.hs x1 x2).back m1.live) p1
end
/-! ### subscripts, slices -/
section
variable {X : Cx} {W : Wd} {a b e : Expr} {τa τb τ : TM} {pos p2 : Pos}
theorem me_ix (ha : ME X W a τa) (hb : ME X W b τb) (hs : PlainIx b) : ME X W (.Subscript a b pos) (mBin ixD τa τb) := by
  obtain ⟨ta, pa, sa⟩ := ha.fz
  obtain ⟨tb, pb, sb⟩ := hb.fz
  exact ME.of (pe_ix ix_seq pa pb hs) (run2 opS_ix sa sb)
/-- xs[i], xs a list of one's own -/
def mIxO (a b : TM) : TM := fun ω ρ h P => a ω ρ h fun x h1 => b ω ρ h1 fun y h2 => ∃ p xs i d, x.dat = .raw (.ref p) ∧ h2 p = some (.lst xs) ∧ y.dat = .int i ∧ atI xs i = some d ∧ P (.fz d) h2
theorem me_ixO (ha : ME X W a τa) (hb : ME X W b τb) (hs : PlainIx b) : ME X W (.Subscript a b pos) (mIxO τa τb) := by
  obtain ⟨ta, pa, sa⟩ := ha.fz
  obtain ⟨tb, pb, sb⟩ := hb.fz
  refine ME.of (pe_ix ix_seq pa pb hs) fun σ H Hf ρ h R P Q e q k => ?_
  refine sa σ H Hf ρ h R (fun x h1 => τb R.ω ρ h1 fun y h2 => ∃ p xs i d, x = .raw (.ref p) ∧ h2 p = some (.lst xs) ∧ y.dat = .int i ∧ atI xs i = some d ∧ P (.fz d) h2) _ e q fun x H1 Hf1 dx h1 e1 m1 r1 q1 => ?_
  refine sb σ H1 Hf1 ρ h1 R (fun y h2 => ∃ p xs i d, dx = .raw (.ref p) ∧ h2 p = some (.lst xs) ∧ y = .int i ∧ atI xs i = some d ∧ P (.fz d) h2) _ e1 q1 fun y H2 Hf2 dy h2 e2 m2 r2 ⟨p, xs, i, d, g1, g2, g3, g4, g5⟩ => ?_
  subst g1 g3
  cases r1
  cases r2
  obtain ⟨z1, ys, z2, z3⟩ := e2.hs.hp p _ g2
  obtain ⟨v, w1, w2⟩ := z3.atI g4
  exact .inl ⟨p, ys, i, v, rfl, rfl, .inl (.inl z2), w1, k v H2 Hf2 (.fz d) h2 e2 (m1.trans m2) w2 g5⟩
abbrev TMO := Wω → Me → Hd → (Option Int → Hd → Prop) → Prop
def canMO (K : Fg) (W : Wd) (τ : TMO) : TO := fun σ H Q => ∃ (R : Rg) (Hf : Hp) (ρ : Me) (h : Hd) (P : Option Int → Hd → Prop), RE K W R H Hf σ ρ h ∧ τ R.ω ρ h P ∧ (∀ o H' Hf' h', RE K W R H' Hf' σ ρ h' → Mo h h' H H' Hf Hf' → P o h' → Q o H')
structure MO (X : Cx) (W : Wd) (e : Option Expr) (τ : TMO) : Prop where
  po : PO X e (canMO X.K W τ)
def mONone : TMO := fun _ _ h P => P none h
def mOSome (τ : TM) : TMO := fun ω ρ h P => τ ω ρ h fun r h1 => ∃ i, r.dat = .int i ∧ P (some i) h1
def mSl (a : TM) (l u : TMO) : TM := fun ω ρ h P => a ω ρ h fun x h1 => l ω ρ h1 fun lo h2 => u ω ρ h2 fun hi h3 => ∃ c, slD x.dat lo hi = some c ∧ P c h3
theorem mo_none : MO X W none mONone := ⟨⟨fun pins s σ H Q I ⟨R, Hf, ρ, h, P, e, q, k⟩ => po_none.run pins s σ H Q I (k none H Hf h e (Mo.refl ..) q)⟩⟩
theorem mo_some (h : ME X W e τ) : MO X W (some e) (mOSome τ) := by
  obtain ⟨t, p, sa⟩ := h.fz
  refine ⟨⟨fun pins s σ H Q I ⟨R, Hf, ρ, hd, P, e, q, k⟩ => (po_some p).run pins s σ H Q I (sa σ H Hf ρ hd R (fun d h1 => ∃ i, d = .int i ∧ P (some i) h1) _ e q fun v H1 Hf1 d h1 e1 m1 r1 ⟨i, hi, p1⟩ => ?_)⟩⟩
  subst hi
  exact ⟨i, r1.int_inv, k _ H1 Hf1 h1 e1 m1 p1⟩
theorem me_sl {lo hi : Option Expr} {τl τh : TMO} (ha : ME X W a τa) (hl : MO X W lo τl) (hh : MO X W hi τh) : ME X W (.Subscript a (.Slice lo hi none p2) pos) (mSl τa τl τh) := by
  obtain ⟨ta, pa, sa⟩ := ha.fz
  refine ME.of (pe_slice (SlR.or sl_tupA (SlR.or sl_list sl_str)) pa hl.po hh.po) fun σ H Hf ρ h R P Q e q k => ?_
  refine sa σ H Hf ρ h R (fun d h1 => τl R.ω ρ h1 fun lo h2 => τh R.ω ρ h2 fun hi h3 => ∃ c, slD d lo hi = some c ∧ P c h3) _ e q fun v H1 Hf1 d h1 e1 m1 r1 p1 => ?_
  refine ⟨R, Hf1, ρ, h1, _, e1, p1, fun lo H2 Hf2 h2 e2 m2 p2 => ⟨R, Hf2, ρ, h2, _, e2, p2, fun hi H3 Hf3 h3 e3 m3 ⟨c, hc, p4⟩ => ?_⟩⟩
  have m := (m1.trans m2).trans m3
  exact slS (Q := Q) e3.hs.sub ((r1.mono m2.grow).mono m3.grow) hc fun v H4 Hf4 x4 ok => k v H4 Hf4 c h3 (e3.ext x4) (m.trans (Mo.ext x4)) ((RO.of e3.hs x4 ok).back m.live) p4
end
/-! ### built-ins called -/
section
variable {X : Cx} {W : Wd} {pos : Pos} {e : Expr} {es : List Expr} {τs : TMA}
def mCallG (g : List D → Option Res) (τ : TMA) : TM := fun ω ρ h P => τ ω ρ h fun ds h1 => ∃ c, g ds = some c ∧ P c h1
def mCallGV (g : List D → Option Res) (τ : TMA) : TM := fun ω ρ h P => τ ω ρ h fun ds h1 => ∃ c, g (ds.map (vw h1)) = some (.fz c) ∧ c.flat = true ∧ P (.fz c) h1
theorem runC {K : Fg} {n : Nat} {r : List V → Hp → VK → Prop} {g : List D → Option Res} (hs : CallS K r g) : SndE K W (tCB r (canMA K W n τs)) (mCallG g τs) := fun σ H Hf ρ h R P Q e q k => by
  refine ⟨R, Hf, ρ, h, _, e, q, fun vs H1 Hf1 ds h1 e1 m1 r1 _ ⟨c, hc, p1⟩ => ?_⟩
  exact hs H1 Hf1 vs ds c Q e1.hs.sub r1 hc fun v H2 Hf2 x2 ok => k v H2 Hf2 c h1 (e1.ext x2) (m1.trans (Mo.ext x2)) ((RO.of e1.hs x2 ok).back m1.live) p1
theorem runCV {K : Fg} {n : Nat} {r : List V → Hp → VK → Prop} {g : List D → Option Res} (hs : CallS K r g) : SndE K W (tCB r (canMA K W n τs)) (mCallGV g τs) := fun σ H Hf ρ h R P Q e q k => by
  refine ⟨R, Hf, ρ, h, _, e, q, fun vs H1 Hf1 ds h1 e1 m1 r1 _ ⟨c, hc, hf, p1⟩ => ?_⟩
  refine hs H1 (hfv H1 Hf1 h1) vs _ _ Q (hfv_sub e1.hs) (RepL.vw e1.hs r1) hc fun v H2 Hf2 x2 ok => ?_
  have x4 := ext_seen e1.hs x2
  exact k v H2 Hf1 (.fz c) h1 (e1.ext x4) (m1.trans (Mo.ext x4)) (Rep.flat_any ok hf _) p1
theorem me_callB {x : Str} {id : String} {p : Pos} {r : List V → Hp → VK → Prop} {g : List D → Option Res} (hc : CallR X (.builtin id) r) (hs : CallS X.K r g) (hg : Gl X x) (hm : X.mg x = none) (hv : bootBuiltins x = some (.builtin id)) (ha : MA X W (e :: es) τs)
    (hn : x ≠ "__name__" := by decide) (hdb : (x == ("__debug__" : Str)) = false := by decide) (he : starEach (e :: es) X.env = (false, eval e X.env) :: starEach es X.env := by rfl) (hpl : (backTo pos (starEach es X.env)).any (·.1) = false := by rfl) :
    ME X W (.Call (.Name x p) (e :: es) [] pos) (mCallG g τs) := ME.of (pe_callB hc hg hm hv ha.pa hn hdb he hpl) (runC hs)
theorem me_callTy {x : Str} {T : String} {p : Pos} {r : List V → Hp → VK → Prop} {g : List D → Option Res} (hc : CallR X (.type T) r) (hs : CallS X.K r g) (hg : Gl X x) (hm : X.mg x = none) (hv : bootBuiltins x = some (.type T)) (ha : MA X W (e :: es) τs)
    (hn : x ≠ "__name__" := by decide) (hdb : (x == ("__debug__" : Str)) = false := by decide) (he : starEach (e :: es) X.env = (false, eval e X.env) :: starEach es X.env := by rfl) (hpl : (backTo pos (starEach es X.env)).any (·.1) = false := by rfl) :
    ME X W (.Call (.Name x p) (e :: es) [] pos) (mCallG g τs) := ME.of (pe_callTy hc hg hm hv ha.pa hn hdb he hpl) (runC hs)
theorem me_callBV {x : Str} {id : String} {p : Pos} {r : List V → Hp → VK → Prop} {g : List D → Option Res} (hc : CallR X (.builtin id) r) (hs : CallS X.K r g) (hg : Gl X x) (hm : X.mg x = none) (hv : bootBuiltins x = some (.builtin id)) (ha : MA X W (e :: es) τs)
    (hn : x ≠ "__name__" := by decide) (hdb : (x == ("__debug__" : Str)) = false := by decide) (he : starEach (e :: es) X.env = (false, eval e X.env) :: starEach es X.env := by rfl) (hpl : (backTo pos (starEach es X.env)).any (·.1) = false := by rfl) :
    ME X W (.Call (.Name x p) (e :: es) [] pos) (mCallGV g τs) := ME.of (pe_callB hc hg hm hv ha.pa hn hdb he hpl) (runCV hs)
end
end ML
/-! The second data layer, 3: contracts, calls, fields, methods, making; what is one's own, what is frozen. -/
namespace ML
open PySem L2 DL
abbrev FM := List D → Hd → (Res → Hd → Prop) → (Ex → Hd → Prop) → Prop
def spM (K : Fg) (n : Nat) (g : FM) : Sp := fun vs H Q E => ∃ (Hf : Hp) (h : Hd) (ds : List D) (P : Res → Hd → Prop) (PE : Ex → Hd → Prop), Hs K H Hf h ∧ RepL K Hf vs ds ∧ ds.length = n ∧ g ds h P PE ∧
  (∀ v H' Hf' r h', Hs K H' Hf' h' → Mo h h' H H' Hf Hf' → RO K H H' Hf' h' v r → P r h' → Q v H') ∧
  (∀ C d fs H' Hf' h', Hs K H' Hf' h' → Mo h h' H H' Hf Hf' → XRep K Hf' d fs → PE ⟨C, fs⟩ h' → E (.ref C) d H')
theorem spM.imp {K : Fg} {n : Nat} {g g' : FM} (i : ∀ ds h P E, g' ds h P E → g ds h P E) {vs : List V} {H : Hp} {Q : VK} {E : XK} (h : spM K n g' vs H Q E) : spM K n g vs H Q E := by
  obtain ⟨Hf, h, ds, P, PE, h1, h2, h3, h4, h5, h6⟩ := h
  exact ⟨Hf, h, ds, P, PE, h1, h2, h3, i _ _ _ _ h4, h5, h6⟩
/-- what a call lets out is what is wished for -/
theorem RE.out {K : Fg} {W : Wd} {R : Rg} {H H' Hf Hf' : Hp} {σ : St} {ρ : Me} {h h' : Hd} (e : RE K W R H Hf σ ρ h) (s : Hs K H' Hf' h') (m : Mo h h' H H' Hf Hf') {C : Addr} {d : Option Addr} {fs : List (Str × D)} (x : XRep K Hf' d fs) (q : R.ω ⟨C, fs⟩ ρ h') : W.x (.ref C) d σ H' :=
  e.ok _ _ _ _ ⟨C, fs, Hf', ρ, h', rfl, x, e.sl.mono m.grow, s, e.mv.trans m, q⟩
/-- a promise met from a state of ours -/
theorem spM_run {K : Fg} {W : Wd} {R : Rg} {H Hf : Hp} {σ : St} {ρ : Me} {h : Hd} {n : Nat} {g : FM} {vs : List V} {ds : List D} {P : Res → Hd → Prop} {Q : VK} (e : RE K W R H Hf σ ρ h) (r : RepL K Hf vs ds) (hl : ds.length = n) (q : g ds h P (fun x h2 => R.ω x ρ h2))
    (k : ∀ v H' Hf' r h', RE K W R H' Hf' σ ρ h' → Mo h h' H H' Hf Hf' → RO K H H' Hf' h' v r → P r h' → Q v H') : spM K n g vs H Q (WE W.x σ) :=
  ⟨Hf, h, ds, P, _, e.hs, r, hl, q, fun v H' Hf' r h' s m ok p => k v H' Hf' r h' (e.step s m) m ok p, fun C d fs H' Hf' h' s m x p => e.out s m x p⟩
/-! ### calls -/
section
variable {X : Cx} {W : Wd} {pos p apos : Pos} {e o : Expr} {es : List Expr} {τ τo : TM} {τs : TMA} {x m : Str} {f C : Addr} {fd : FuncData} {ps : List Str} {k n : Nat}
def mCall0 (g : FS0) (τ : TMA) : TM := fun ω ρ h P => τ ω ρ h fun ds h1 => g ds fun r => P r h1
theorem me_c0 {g : FS0} (F : Fn0 X.prog X.w X.K X.mg X.base x k n g) (hr : Room k X.A) (hg : Gl X x) (ha : MA X W (e :: es) τs) (hl : (e :: es).length = n := by rfl) (hdb : (x == ("__debug__" : Str)) = false := by decide) (he : starEach (e :: es) X.env = (false, eval e X.env) :: starEach es X.env := by rfl) (hpl : (backTo pos (starEach es X.env)).any (·.1) = false := by rfl) :
    ME X W (.Call (.Name x p) (e :: es) [] pos) (mCall0 g τs) := by
  obtain ⟨f, fd, ps, F, hm, hk, hb⟩ := F
  refine ME.of (pe_call F hr hg hm hk hb .nil pass0 ha.pa hdb he hpl) fun σ H Hf ρ h R P Q e q k => ⟨R, Hf, ρ, h, _, e, q, fun vs H1 Hf1 ds h1 e1 m1 r1 hds p1 => ?_⟩
  show sp0 X.K n g (vs ++ []) H1 Q _
  rw [List.append_nil]
  exact ⟨Hf1, ds, _, e1.hs.sub, r1, hds.trans hl, p1, fun v H2 Hf2 r x2 ok p2 => k v H2 Hf2 r h1 (e1.ext x2) (m1.trans (Mo.ext x2)) ((RO.of e1.hs x2 ok).back m1.live) p2⟩
/-- f(x, ..), f changes the list x -/
def mCall1 (g : FS1) (τ : TMA) : TM := fun ω ρ h P => τ ω ρ h fun ds h1 => ∃ a es xs, ds = .raw (.ref a) :: es ∧ h1 a = some (.lst xs) ∧ g xs es fun r xs' => P r (put h1 a (.lst xs'))
theorem me_c1 {g : FS1} (F : Fn1 X.prog X.w X.K X.mg X.base x k n g) (hr : Room k X.A) (hg : Gl X x) (ha : MA X W (e :: es) τs) (hl : (e :: es).length = n := by rfl) (hdb : (x == ("__debug__" : Str)) = false := by decide) (he : starEach (e :: es) X.env = (false, eval e X.env) :: starEach es X.env := by rfl) (hpl : (backTo pos (starEach es X.env)).any (·.1) = false := by rfl) :
    ME X W (.Call (.Name x p) (e :: es) [] pos) (mCall1 g τs) := by
  obtain ⟨f, fd, ps, F, hm, hk, hb⟩ := F
  refine ME.of (pe_call F hr hg hm hk hb .nil pass0 ha.pa hdb he hpl) fun σ H Hf ρ h R P Q e q k => ⟨R, Hf, ρ, h, _, e, q, fun vs H1 Hf1 ds h1 e1 m1 r1 hds ⟨a, es', xs, hd, ha1, p1⟩ => ?_⟩
  show sp1 X.K n g (vs ++ []) H1 Q _
  rw [List.append_nil]
  subst hd
  cases r1 with
  | cons ra rr =>
    cases ra
    obtain ⟨z1, ys, z2, z3⟩ := e1.hs.hp a _ ha1
    refine ⟨Hf1, a, _, ys, xs, es', _, rfl, e1.hs.sub, z2, z1, z3, rr, by rw [List.length_cons] at hds; omega, p1, fun v H2 Hf2 r ys' xs' x2 hy' hf' ry ok p3 => ?_⟩
    have s2 : Hs X.K H2 Hf2 (put h1 a (.lst xs')) := ⟨x2.sub, fun b o q => by
      by_cases hb : b = a
      · subst hb
        rw [put_same] at q; cases q
        exact ⟨hf', ys', hy', ry⟩
      · rw [put_ne hb] at q
        obtain ⟨w1, w2⟩ := e1.hs.hp b o q
        obtain ⟨u, hu⟩ := w2.at
        refine ⟨?_, w2.mono (fun u hu => x2.same b u hu hb) x2.grow⟩
        cases z : Hf2 b with
        | none => rfl
        | some o' =>
          rcases x2.new b o' z with z | z
          · rw [w1] at z; cases z
          · rw [hu] at z; cases z⟩
    have m2 : Mo h1 (put h1 a (.lst xs')) H1 H2 Hf1 Hf2 := ⟨fun b o q n => x2.same b o q fun z => (by rw [z, ha1] at n; cases n), x2.live, x2.grow, fun b o q => (x2.new b o q).imp id .inl, fun b u q => by
      by_cases hb : b = a
      · rw [hb]; exact .inl ⟨_, ha1⟩
      · rw [put_ne hb] at q; exact .inl ⟨u, q⟩⟩
    refine k v H2 Hf2 r _ (e1.step s2 m2) (m1.trans m2) (RO.back m1.live ?_) p3
    cases r with
    | fz d => exact ok
    | fr us =>
      obtain ⟨b, vs, q1, q2, q3, q4, q5⟩ := ok
      exact ⟨b, vs, q1, q2, q3, by rw [put_ne (ne_of_none z2 q4).symm]; exact e1.hs.free q4, q4, q5⟩
/-- the def of the name x stands, at level k, and keeps the promise -/
def FnM (P : Program) (w : World) (K : Fg) (mg : Str → Option Value) (base : Heap) (x : Str) (k n : Nat) (g : FM) : Prop := ∃ f fd ps, FnOk P w K mg base (L2.CX P w) k f fd ps (spM K n g) ∧ mg x = some (.ref f) ∧ PySem.W.keepIn K (.ref f) = true ∧ Binds K fd ps []
theorem FnM.mono {P : Program} {w : World} {K : Fg} {mg : Str → Option Value} {base : Heap} {j : Nat} {g : FM} (h : FnM P w K mg base x j n g) (hj : j ≤ k) : FnM P w K mg base x k n g := let ⟨f, fd, ps, a, b⟩ := h; ⟨f, fd, ps, a.mono hj, b⟩
theorem FnM.imp {P : Program} {w : World} {K : Fg} {mg : Str → Option Value} {base : Heap} {g g' : FM} (h : FnM P w K mg base x k n g) (i : ∀ ds h P E, g' ds h P E → g ds h P E) : FnM P w K mg base x k n g' := let ⟨f, fd, ps, a, b⟩ := h; ⟨f, fd, ps, a.imp fun vs H Q E q => q.imp i, b⟩
def mCallM (g : FM) (τ : TMA) : TM := fun ω ρ h P => τ ω ρ h fun ds h1 => g ds h1 P fun x h2 => ω x ρ h2
theorem me_cM {g : FM} (F : FnM X.prog X.w X.K X.mg X.base x k n g) (tk : Takes X W.x) (hr : Room k X.A) (hg : Gl X x) (ha : MA X W (e :: es) τs) (hl : (e :: es).length = n := by rfl) (hdb : (x == ("__debug__" : Str)) = false := by decide) (he : starEach (e :: es) X.env = (false, eval e X.env) :: starEach es X.env := by rfl) (hpl : (backTo pos (starEach es X.env)).any (·.1) = false := by rfl) :
    ME X W (.Call (.Name x p) (e :: es) [] pos) (mCallM g τs) := by
  obtain ⟨f, fd, ps, F, hm, hk, hb⟩ := F
  refine ME.of (pe_callS F hr hg hm hk hb (passAt tk) ha.pa hdb he hpl) fun σ H Hf ρ h R P Q e q k => ⟨R, Hf, ρ, h, _, e, q, fun vs H1 Hf1 ds h1 e1 m1 r1 hds p1 => ?_⟩
  exact spM_run e1 r1 (hds.trans hl) p1 fun v H2 Hf2 r h2 e2 m2 ok p2 => k v H2 Hf2 r h2 e2 (m1.trans m2) (ok.back m1.live) p2
/-! ### instances -/
def isI (h : Hd) (d : D) (C : Addr) (fs : List (Str × D)) : Prop := (∃ a, d = .raw (.ref a) ∧ h a = some (.ins C fs)) ∨ d = .obj C fs
theorem RepF.get {K : Fg} {H : Hp} {f : Str} : ∀ {gs : List (Str × V)} {fs : List (Str × D)}, RepF K H gs fs → (∀ d, fs.lookup f = some d → ∃ v, gs.lookup f = some v ∧ Rep K H v d) ∧ (fs.lookup f = none → gs.lookup f = none)
  | _, _, .nil => ⟨fun d h => (nomatch h), fun _ => rfl⟩
  | _, _, .cons (f := g) a r => by
    obtain ⟨i1, i2⟩ := RepF.get (f := f) r
    simp only [List.lookup]
    cases e : f == g with
    | true => exact ⟨fun d h => ⟨_, rfl, by cases h; exact a⟩, fun h => nomatch h⟩
    | false => exact ⟨i1, i2⟩
def putD (f : Str) (v : D) : List (Str × D) → List (Str × D)
  | [] => [(f, v)]
  | (g, x) :: r => if g = f then (g, v) :: r else (g, x) :: putD f v r
theorem RepF.put {K : Fg} {H : Hp} {f : Str} {v : V} {d : D} (q : Rep K H v d) : ∀ {gs : List (Str × V)} {fs : List (Str × D)}, RepF K H gs fs → RepF K H (putF f v gs) (putD f d fs)
  | _, _, .nil => .cons q .nil
  | _, _, .cons (f := g) a r => by
    unfold putF putD
    split
    · exact .cons q r
    · exact .cons a (RepF.put q r)
theorem RepF.length {K : Fg} {H : Hp} : ∀ {gs : List (Str × V)} {fs : List (Str × D)}, RepF K H gs fs → gs.length = fs.length
  | _, _, .nil => rfl
  | _, _, .cons _ r => congrArg (· + 1) (RepF.length r)
theorem isI.at {K : Fg} {H Hf : Hp} {h : Hd} {v : V} {d : D} {C : Addr} {fs : List (Str × D)} (s : Hs K H Hf h) (r : Rep K Hf v d) (i : isI h d C fs) : ∃ a dx gs, v = .ref a ∧ H a = some (.ins C dx gs) ∧ RepF K Hf gs fs := by
  rcases i with ⟨a, rfl, e⟩ | rfl
  · cases r
    obtain ⟨_, dx, gs, z1, z2⟩ := s.hp a _ e
    exact ⟨a, dx, gs, rfl, z1, z2⟩
  · cases r with
    | obj q r => exact ⟨_, _, _, rfl, s.sub _ _ q, r⟩
/-- a field of the class may be read and stored -/
def Fo (K : Fg) (C : Addr) (f : Str) : Prop := Cls K C ∧ NoAttr K C f
def mFld (C : Addr) (f : Str) (τ : TM) : TM := fun ω ρ h P => τ ω ρ h fun x h1 => ∃ fs d, isI h1 x.dat C fs ∧ fs.lookup f = some d ∧ P (.fz d) h1
theorem me_fld {f : Str} (fo : Fo X.K C f) (he : ME X W e τ) (hb : attributeBase e f X.env (eval e X.env) = eval e X.env := by rfl) : ME X W (.Attribute e f pos) (mFld C f τ) := by
  obtain ⟨t, pe, se⟩ := he.fz
  refine ME.of (pe_fld pe hb) fun σ H Hf ρ h R P Q e q k => se σ H Hf ρ h R (fun x h1 => ∃ fs d, isI h1 x C fs ∧ fs.lookup f = some d ∧ P (.fz d) h1) _ e q fun v H1 Hf1 dx h1 e1 m1 r1 ⟨fs, d, i1, l, p1⟩ => ?_
  obtain ⟨a, dx', gs, ev, z1, z2⟩ := isI.at e1.hs r1 i1
  obtain ⟨w, l1, rw'⟩ := (RepF.get z2).1 d l
  exact ⟨a, C, dx', gs, w, ev, z1, fo.1, fo.2, l1, k w H1 Hf1 (.fz d) h1 e1 m1 rw' p1⟩
/-- o.m(..), what it raises wished for at the slots -/
def tMethD (C : Addr) (m : Str) (sp : Sp) (E : St → XK) (ta : TE) (t : TA) : TE := fun σ H Q => ta σ H fun x H1 => ∃ a dx fs, x = .ref a ∧ H1 a = some (.ins C dx fs) ∧ fs.lookup m = none ∧ t σ H1 fun vs H2 => sp (x :: vs) H2 Q (E σ)
theorem pe_methD {pl : Sem Bool} {CX : CXT} {sp : Sp} {E : St → XK} {ta : TE} {t : TA} (he : PE X o ta) (c : Cls X.K C) (hm : Meth X.K C m f) (F : FnOk X.prog X.w X.K X.mg X.base CX k f fd ps sp) (hr : Room k X.A) (hb : Binds X.K fd ps []) (hx : ∀ σ, PassesAt CX X σ (E σ)) (ha : PA X (e :: es) t)
    (hst : starEach (e :: es) X.env = (false, eval e X.env) :: starEach es X.env) (hpl : (backTo pos (starEach es X.env)).any (·.1) = false)
    (ht : eval (.Call (.Attribute o m apos) (e :: es) [] pos) X.env = (do let ov ← eval o X.env; standAt apos.atName; let (f, first) ← holding [ov] (getMethod ov m pl); callWith pos f first (backTo pos (starEach (e :: es) X.env)) (backToKw pos (keywordEach [] X.env)))) :
    PE X (.Call (.Attribute o m apos) (e :: es) [] pos) (tMethD C m sp E ta t) := ⟨fun pins s σ H Q I q0 => PySem.W.methodCall_KW (pl := pl) (thn (he.run pins s σ H _ I q0) fun u s1 ⟨x, H1, I1, rx, a, dx, fs, ex, ea, l, q⟩ => by
  subst ex
  cases (show u = Value.ref a from rx)
  exact getmeth_ok I1 ea c hm l (PySem.W.callWith_K (first := [.ref a]) (h₀ := X.base) I.ok.mod.kin hm.kp (thn (ha.run pos pins s1 σ H1 _ I1 q) fun us s2 ⟨vs, H2, I2, r, q2⟩ => ⟨I2.kIn, run_fnS (us := .ref a :: us) (vs := .ref a :: vs) F hr hb (hx σ) I2 (.cons rfl r) q2⟩) hst hpl)) ht⟩
theorem pe_methD0 {pl : Sem Bool} {CX : CXT} {sp : Sp} {E : St → XK} {ta : TE} (he : PE X o ta) (c : Cls X.K C) (hm : Meth X.K C m f) (F : FnOk X.prog X.w X.K X.mg X.base CX k f fd ps sp) (hr : Room k X.A) (hb : Binds X.K fd ps []) (hx : ∀ σ, PassesAt CX X σ (E σ))
    (ht : eval (.Call (.Attribute o m apos) [] [] pos) X.env = (do let ov ← eval o X.env; standAt apos.atName; let (f, first) ← holding [ov] (getMethod ov m pl); callWith pos f first (backTo pos (starEach [] X.env)) (backToKw pos (keywordEach [] X.env)))) :
    PE X (.Call (.Attribute o m apos) [] [] pos) (tMethD C m sp E ta tNil) := ⟨fun pins s σ H Q I q0 => PySem.W.methodCall_KW (pl := pl) (thn (he.run pins s σ H _ I q0) fun u s1 ⟨x, H1, I1, rx, a, dx, fs, ex, ea, l, q⟩ => by
  subst ex
  cases (show u = Value.ref a from rx)
  exact getmeth_ok I1 ea c hm l (PySem.W.callWith_K0 (first := [.ref a]) I1.kIn hm.kp (run_fnS (us := [.ref a]) (vs := [.ref a]) F hr hb (hx σ) I1 (.cons rfl .nil) q))) ht⟩
/-- the method m of the class C keeps the promise -/
def MthM (P : Program) (w : World) (K : Fg) (mg : Str → Option Value) (base : Heap) (C : Addr) (m : Str) (k n : Nat) (g : FM) : Prop := ∃ f fd ps, FnOk P w K mg base (L2.CX P w) k f fd ps (spM K n g) ∧ Cls K C ∧ Meth K C m f ∧ Binds K fd ps []
theorem MthM.mono {P : Program} {w : World} {K : Fg} {mg : Str → Option Value} {base : Heap} {j : Nat} {g : FM} (h : MthM P w K mg base C m j n g) (hj : j ≤ k) : MthM P w K mg base C m k n g := let ⟨f, fd, ps, a, b⟩ := h; ⟨f, fd, ps, a.mono hj, b⟩
theorem MthM.imp {P : Program} {w : World} {K : Fg} {mg : Str → Option Value} {base : Heap} {g g' : FM} (h : MthM P w K mg base C m k n g) (i : ∀ ds h P E, g' ds h P E → g ds h P E) : MthM P w K mg base C m k n g' := let ⟨f, fd, ps, a, b⟩ := h; ⟨f, fd, ps, a.imp fun vs H Q E q => q.imp i, b⟩
def mMeth (C : Addr) (m : Str) (g : FM) (τo : TM) (τs : TMA) : TM := fun ω ρ h P => τo ω ρ h fun x h1 => (∃ fs, isI h1 x.dat C fs ∧ fs.lookup m = none) ∧ τs ω ρ h1 fun ds h2 => g (x.dat :: ds) h2 P fun x h3 => ω x ρ h3
theorem me_mM {pl : Sem Bool} {g : FM} (F : MthM X.prog X.w X.K X.mg X.base C m k n g) (tk : Takes X W.x) (hr : Room k X.A) (ho : ME X W o τo) (ha : MA X W (e :: es) τs) (hl : (e :: es).length + 1 = n := by rfl)
    (hst : starEach (e :: es) X.env = (false, eval e X.env) :: starEach es X.env := by rfl) (hpl : (backTo pos (starEach es X.env)).any (·.1) = false := by rfl)
    (ht : eval (.Call (.Attribute o m apos) (e :: es) [] pos) X.env = (do let ov ← eval o X.env; standAt apos.atName; let (f, first) ← holding [ov] (getMethod ov m pl); callWith pos f first (backTo pos (starEach (e :: es) X.env)) (backToKw pos (keywordEach [] X.env))) := by rfl) :
    ME X W (.Call (.Attribute o m apos) (e :: es) [] pos) (mMeth C m g τo τs) := by
  obtain ⟨f, fd, ps, F, hc, hm, hb⟩ := F
  obtain ⟨t, po, so⟩ := ho.fz
  refine ME.of (pe_methD po hc hm F hr hb (passAt tk) ha.pa hst hpl ht) fun σ H Hf ρ h R P Q e q k => so σ H Hf ρ h R (fun x h1 => (∃ fs, isI h1 x C fs ∧ fs.lookup m = none) ∧ τs R.ω ρ h1 fun ds h2 => g (x :: ds) h2 P fun x h3 => R.ω x ρ h3) _ e q fun v H1 Hf1 dv h1 e1 m1 r1 ⟨⟨fs, i1, l1⟩, p1⟩ => ?_
  obtain ⟨a, dx, gs, ev, z1, z2⟩ := isI.at e1.hs r1 i1
  refine ⟨a, dx, gs, ev, z1, (RepF.get z2).2 l1, R, Hf1, ρ, h1, _, e1, p1, fun vs H2 Hf2 ds h2 e2 m2 r2 hds p2 => ?_⟩
  have m12 := m1.trans m2
  exact spM_run e2 (.cons (r1.mono m2.grow) r2) (by rw [List.length_cons, hds]; exact hl) p2 fun v H3 Hf3 r h3 e3 m3 ok p3 => k v H3 Hf3 r h3 e3 (m12.trans m3) (ok.back m12.live) p3
theorem me_mM0 {pl : Sem Bool} {g : FM} (F : MthM X.prog X.w X.K X.mg X.base C m k 1 g) (tk : Takes X W.x) (hr : Room k X.A) (ho : ME X W o τo)
    (ht : eval (.Call (.Attribute o m apos) [] [] pos) X.env = (do let ov ← eval o X.env; standAt apos.atName; let (f, first) ← holding [ov] (getMethod ov m pl); callWith pos f first (backTo pos (starEach [] X.env)) (backToKw pos (keywordEach [] X.env))) := by rfl) :
    ME X W (.Call (.Attribute o m apos) [] [] pos) (mMeth C m g τo mANil) := by
  obtain ⟨f, fd, ps, F, hc, hm, hb⟩ := F
  obtain ⟨t, po, so⟩ := ho.fz
  refine ME.of (pe_methD0 po hc hm F hr hb (passAt tk) ht) fun σ H Hf ρ h R P Q e q k => so σ H Hf ρ h R (fun x h1 => (∃ fs, isI h1 x C fs ∧ fs.lookup m = none) ∧ mANil R.ω ρ h1 fun ds h2 => g (x :: ds) h2 P fun x h3 => R.ω x ρ h3) _ e q fun v H1 Hf1 dv h1 e1 m1 r1 ⟨⟨fs, i1, l1⟩, p1⟩ => ?_
  obtain ⟨a, dx, gs, ev, z1, z2⟩ := isI.at e1.hs r1 i1
  refine ⟨a, dx, gs, ev, z1, (RepF.get z2).2 l1, ?_⟩
  exact spM_run e1 (.cons r1 .nil) rfl p1 fun v H3 Hf3 r h3 e3 m3 ok p3 => k v H3 Hf3 r h3 e3 (m1.trans m3) (ok.back m1.live) p3
end
end ML
/-! The second data layer, 4: new instances; what is one's own; what is frozen; targets; statements. -/
namespace ML
open PySem L2 DL
section
variable {X : Cx} {W : Wd} {pos p apos : Pos} {e o : Expr} {es : List Expr} {τ τo : TM} {τs : TMA} {x m : Str} {f C : Addr} {fd : FuncData} {ps : List Str} {k n : Nat}
/-! ### new instances -/
def tMakeD (C : Addr) (sp : Sp) (E : St → XK) (t : TA) : TE := fun σ H Q => t σ H fun vs H1 => ∀ x dx, H1 x = none → H1 dx = none → dx ≠ x → sp (.ref x :: vs) (upd (upd H1 dx (.own x)) x (.ins C dx [])) (fun v H2 => v = .non ∧ Q (.ref x) H2) (E σ)
theorem run_mkD {CX : CXT} {sp : Sp} {E : St → XK} {pins : List (Addr × Obj)} {σ : St} {H : Hp} {s : Shared} {Q : VK} {us : List Value} {vs : List V} (M : Mk X.K C f) (F : FnOk X.prog X.w X.K X.mg X.base CX k f fd ps sp) (hr : Room (k + 1) X.A) (hb : Binds X.K fd ps [])
    (hx : PassesAt CX X σ (E σ)) (I : Inv X pins σ H s) (r : Vals vs us) (q0 : ∀ x dx, H x = none → H dx = none → dx ≠ x → sp (.ref x :: vs) (upd (upd H dx (.own x)) x (.ins C dx [])) (fun v H2 => v = .non ∧ Q (.ref x) H2) (E σ)) :
    wpAny (model X.prog X.w) X.A (call (.ref C) us) (EP X pins σ Q) X.xe s := by
  have J := Inv.made (C := C) I
  have hq := q0 (s.heap.objs.size + 1) s.heap.objs.size (I.hok.fresh (Nat.le_succ _)) (I.hok.fresh (Nat.le_refl _)) (Nat.ne_of_lt (Nat.lt_succ_self _))
  have rr : Vals (V.ref (s.heap.objs.size + 1) :: vs) (Value.ref (s.heap.objs.size + 1) :: us) := .cons rfl r
  have hl : (Value.ref (s.heap.objs.size + 1) :: us).length = ps.length := rr.length.symm.trans (F.len _ _ _ _ hq)
  have b := hb { s with heap := (s.heap.push PySem.W.emptyDict).push (PySem.W.instObj C s.heap.objs.size) } (Value.ref (s.heap.objs.size + 1) :: us) J.kIn (by rw [List.append_nil]; exact hl)
  rw [List.append_nil] at b
  refine wpAny_call (make_map (f := f) I.kIn M.makes M.init (beq_iff_eq.mp M.fn) (codeAny_mono (F.run _ X.stack _ _ ⟨Value.ref (s.heap.objs.size + 1) :: us, []⟩ _ _ _ (E σ) (hr.make C us []) (J.env0.make C us []) b rr hq) fun res s' z => ?_))
  match res, z with
  | .error e, z => exact hx pins _ _ e s' J z
  | .ok (.ret u), z =>
    obtain ⟨v, H', I3, rv, ev, q3⟩ := J.after z
    subst ev
    exact ⟨rv, V.ref (s.heap.objs.size + 1), H', I3, rfl, q3⟩
  | .ok .next, z => exact z.elim
  | .ok .brk, z => exact z.elim
  | .ok .cont, z => exact z.elim
theorem pe_mkD {CX : CXT} {sp : Sp} {E : St → XK} {t : TA} (M : Mk X.K C f) (F : FnOk X.prog X.w X.K X.mg X.base CX k f fd ps sp) (hr : Room (k + 1) X.A) (hg : Gl X x) (hm : X.mg x = some (.ref C)) (hb : Binds X.K fd ps []) (hx : ∀ σ, PassesAt CX X σ (E σ))
    (ha : PA X (e :: es) t) (hdb : (x == ("__debug__" : Str)) = false) (he : starEach (e :: es) X.env = (false, eval e X.env) :: starEach es X.env) (hpl : (backTo pos (starEach es X.env)).any (·.1) = false) :
    PE X (.Call (.Name x p) (e :: es) [] pos) (tMakeD C sp E t) := ⟨fun pins s σ H Q I q0 =>
  wpAny_Call_Name_kw (ld_glob I hg hm (PySem.W.callWith_K (h₀ := X.base) I.ok.mod.kin M.kp (thn (ha.run pos pins s σ H _ I q0) fun us s1 ⟨vs, H1, I1, r, q⟩ => ⟨I1.kIn, run_mkD M F hr hb (hx σ) I1 r q⟩) he hpl) hdb)⟩
theorem pe_mkD0 {CX : CXT} {sp : Sp} {E : St → XK} (M : Mk X.K C f) (F : FnOk X.prog X.w X.K X.mg X.base CX k f fd ps sp) (hr : Room (k + 1) X.A) (hg : Gl X x) (hm : X.mg x = some (.ref C)) (hb : Binds X.K fd ps []) (hx : ∀ σ, PassesAt CX X σ (E σ))
    (hdb : (x == ("__debug__" : Str)) = false) : PE X (.Call (.Name x p) [] [] pos) (tMakeD C sp E tNil) := ⟨fun pins s σ H Q I q0 =>
  wpAny_Call_Name_kw (ld_glob I hg hm (PySem.W.callWith_K0 I.kIn M.kp (run_mkD (us := []) M F hr hb (hx σ) I .nil q0)) hdb)⟩
/-- the class of the name x at C, its __init__ keeping the promise -/
def MkM (P : Program) (w : World) (K : Fg) (mg : Str → Option Value) (base : Heap) (x : Str) (C : Addr) (k n : Nat) (g : FM) : Prop := ∃ f fd ps, FnOk P w K mg base (L2.CX P w) k f fd ps (spM K n g) ∧ Mk K C f ∧ mg x = some (.ref C) ∧ Binds K fd ps []
theorem MkM.mono {P : Program} {w : World} {K : Fg} {mg : Str → Option Value} {base : Heap} {j : Nat} {g : FM} (h : MkM P w K mg base x C j n g) (hj : j ≤ k) : MkM P w K mg base x C k n g := let ⟨f, fd, ps, a, b⟩ := h; ⟨f, fd, ps, a.mono hj, b⟩
theorem MkM.imp {P : Program} {w : World} {K : Fg} {mg : Str → Option Value} {base : Heap} {g g' : FM} (h : MkM P w K mg base x C k n g) (i : ∀ ds h P E, g' ds h P E → g ds h P E) : MkM P w K mg base x C k n g' := let ⟨f, fd, ps, a, b⟩ := h; ⟨f, fd, ps, a.imp fun vs H Q E q => q.imp i, b⟩
def mMake (C : Addr) (g : FM) (τs : TMA) : TM := fun ω ρ h P => τs ω ρ h fun ds h1 => ∀ a, h1 a = none → g (.raw (.ref a) :: ds) (put h1 a (.ins C [])) (fun r h2 => r.dat = .non ∧ P (.fz (.raw (.ref a))) h2) fun x h2 => ω x ρ h2
theorem make_run {K : Fg} {R : Rg} {H Hf : Hp} {σ : St} {ρ : Me} {h : Hd} {g : FM} {vs : List V} {ds : List D} {P : Res → Hd → Prop} {Q : VK} (e : RE K W R H Hf σ ρ h) (r : RepL K Hf vs ds) (hl : ds.length + 1 = n)
    (q : ∀ a, h a = none → g (.raw (.ref a) :: ds) (put h a (.ins C [])) (fun r h2 => r.dat = .non ∧ P (.fz (.raw (.ref a))) h2) fun x h2 => R.ω x ρ h2)
    (k : ∀ v H' Hf' r h', RE K W R H' Hf' σ ρ h' → Mo h h' H H' Hf Hf' → RO K H H' Hf' h' v r → P r h' → Q v H') (x dx : Addr) (hx : H x = none) (hd : H dx = none) (hne : dx ≠ x) :
    spM K n g (.ref x :: vs) (upd (upd H dx (.own x)) x (.ins C dx [])) (fun v H2 => v = .non ∧ Q (.ref x) H2) (WE W.x σ) := by
  have x1 := Ext.add' e.hs.sub (.own x) hd
  have hx1 : upd H dx (.own x) x = none := by rw [upd_ne (Ne.symm hne)]; exact hx
  have s1 := e.hs.ext x1
  have s2 : Hs K (upd (upd H dx (.own x)) x (.ins C dx [])) Hf (put h x (.ins C [])) := s1.upd (o := .ins C []) (u := .ins C dx []) (.inr hx1) fun H' hq => ⟨dx, [], hq, .nil⟩
  have m2 : Mo h (put h x (.ins C [])) H (upd (upd H dx (.own x)) x (.ins C dx [])) Hf Hf := (Mo.ext x1).trans (Mo.upd (.inr hx1))
  have e2 := e.step s2 m2
  refine spM_run e2 (.cons (.raw _) r) (by rw [List.length_cons]; exact hl) (q x (e.hs.free hx)) fun v H3 Hf3 r3 h3 e3 m3 ok ⟨hn, p3⟩ => ?_
  obtain ⟨Hf4, s4, m4, r4⟩ := ok.freeze e3.hs m3
  rw [hn] at r4
  refine ⟨by cases r4; rfl, k _ H3 Hf3 (.fz (.raw (.ref x))) h3 e3 (m2.trans m3) (Rep.raw _) p3⟩
theorem me_mk {g : FM} (F : MkM X.prog X.w X.K X.mg X.base x C k n g) (tk : Takes X W.x) (hr : Room (k + 1) X.A) (hg : Gl X x) (ha : MA X W (e :: es) τs) (hl : (e :: es).length + 1 = n := by rfl) (hdb : (x == ("__debug__" : Str)) = false := by decide) (he : starEach (e :: es) X.env = (false, eval e X.env) :: starEach es X.env := by rfl) (hpl : (backTo pos (starEach es X.env)).any (·.1) = false := by rfl) :
    ME X W (.Call (.Name x p) (e :: es) [] pos) (mMake C g τs) := by
  obtain ⟨f, fd, ps, F, M, hm, hb⟩ := F
  refine ME.of (pe_mkD M F hr hg hm hb (passAt tk) ha.pa hdb he hpl) fun σ H Hf ρ h R P Q e q k => ⟨R, Hf, ρ, h, _, e, q, fun vs H1 Hf1 ds h1 e1 m1 r1 hds p1 => ?_⟩
  exact make_run e1 r1 (by rw [hds]; exact hl) p1 fun v H2 Hf2 r h2 e2 m2 ok p2 => k v H2 Hf2 r h2 e2 (m1.trans m2) (ok.back m1.live) p2
theorem me_mk0 {g : FM} (F : MkM X.prog X.w X.K X.mg X.base x C k 1 g) (tk : Takes X W.x) (hr : Room (k + 1) X.A) (hg : Gl X x) (hdb : (x == ("__debug__" : Str)) = false := by decide) : ME X W (.Call (.Name x p) [] [] pos) (mMake C g mANil) := by
  obtain ⟨f, fd, ps, F, M, hm, hb⟩ := F
  exact ME.of (pe_mkD0 M F hr hg hm hb (passAt tk) hdb) fun σ H Hf ρ h R P Q e q k => make_run e .nil rfl q k
/-! ### a new list is one's own -/
def mOwn (τ : TM) : TM := fun ω ρ h P => τ ω ρ h fun r h1 => ∃ xs, r = .fr xs ∧ ∀ a, h1 a = none → P (.fz (.raw (.ref a))) (put h1 a (.lst xs))
theorem me_own (he : ME X W e τ) : ME X W e (mOwn τ) := by
  obtain ⟨t, pe, se⟩ := he.ex
  refine ME.of pe fun σ H Hf ρ h R P Q e q k => se σ H Hf ρ h R _ Q e q fun v H1 Hf1 r h1 e1 m1 r1 ⟨xs, hr, p1⟩ => ?_
  subst hr
  obtain ⟨a, ev, n1, n2, s2, m2⟩ := r1.take e1.hs m1
  subst ev
  exact k _ H1 Hf1 (.fz (.raw (.ref a))) _ (e.step s2 m2) m2 (Rep.raw _) (p1 a n1)
end
/-! ### freezing -/
mutual
inductive Fz (h : Hd) (A : Addr → Prop) : D → D → Prop
  | same (d : D) : Fz h A d d
  | lst {a : Addr} {xs ys : List D} : h a = some (.lst xs) → A a → FzL h A xs ys → Fz h A (.raw (.ref a)) (.lst ys)
  | ins {a C : Addr} {fs gs : List (Str × D)} : h a = some (.ins C fs) → A a → FzF h A fs gs → Fz h A (.raw (.ref a)) (.obj C gs)
  | tup {xs ys : List D} : FzL h A xs ys → Fz h A (.tup xs) (.tup ys)
  | lis {xs ys : List D} : FzL h A xs ys → Fz h A (.lst xs) (.lst ys)
inductive FzL (h : Hd) (A : Addr → Prop) : List D → List D → Prop
  | nil : FzL h A [] []
  | cons {d e : D} {xs ys : List D} : Fz h A d e → FzL h A xs ys → FzL h A (d :: xs) (e :: ys)
inductive FzF (h : Hd) (A : Addr → Prop) : List (Str × D) → List (Str × D) → Prop
  | nil : FzF h A [] []
  | cons {f : Str} {d e : D} {xs ys : List (Str × D)} : Fz h A d e → FzF h A xs ys → FzF h A ((f, d) :: xs) ((f, e) :: ys)
end
open Classical in
noncomputable def hfz (H Hf : Hp) (h : Hd) (A : Addr → Prop) : Hp := fun b => match Hf b with
  | some o => some o
  | none => if A b ∧ (h b).isSome = true then H b else none
section
variable {K : Fg} {W : Wd} {R : Rg} {H Hf : Hp} {h h' : Hd} {A : Addr → Prop} {σ : St} {ρ ρ' : Me}
theorem hfz_grow : ∀ b o, Hf b = some o → hfz H Hf h A b = some o := fun b o q => by unfold hfz; rw [q]
theorem hfz_sub (s : Hs K H Hf h) : ∀ b o, hfz H Hf h A b = some o → H b = some o := fun b o q => by
  unfold hfz at q
  cases e : Hf b with
  | some u => rw [e] at q; cases q; exact s.sub b _ e
  | none =>
    rw [e] at q
    dsimp only at q
    split at q
    · exact q
    · cases q
theorem hfz_at {a : Addr} {o : Ob} (s : Hs K H Hf h) (e : h a = some o) (ha : A a) : hfz H Hf h A a = H a := by
  unfold hfz
  rw [(s.hp a o e).1]
  dsimp only
  rw [if_pos ⟨ha, by rw [e]; rfl⟩]
mutual
theorem Fz.rep (s : Hs K H Hf h) : ∀ {d e : D} {v : V}, Fz h A d e → Rep K Hf v d → Rep K (hfz H Hf h A) v e
  | _, _, _, .same d, r => r.mono hfz_grow
  | _, _, _, .lst q ha l, .raw _ => by
    obtain ⟨_, ys, z1, z2⟩ := s.hp _ _ q
    exact .lst ((hfz_at s q ha).trans z1) (FzL.rep s l z2)
  | _, _, _, .ins q ha l, .raw _ => by
    obtain ⟨_, dx, gs, z1, z2⟩ := s.hp _ _ q
    exact .obj ((hfz_at s q ha).trans z1) (FzF.rep s l z2)
  | _, _, _, .tup l, .tup q r => .tup (sqT_same hfz_grow q) (FzL.rep s l r)
  | _, _, _, .lis l, .lst q r => .lst (hfz_grow _ _ q) (FzL.rep s l r)
theorem FzL.rep (s : Hs K H Hf h) : ∀ {ds es : List D} {vs : List V}, FzL h A ds es → RepL K Hf vs ds → RepL K (hfz H Hf h A) vs es
  | _, _, _, .nil, .nil => .nil
  | _, _, _, .cons a l, .cons r t => .cons (Fz.rep s a r) (FzL.rep s l t)
theorem FzF.rep (s : Hs K H Hf h) : ∀ {ds es : List (Str × D)} {vs : List (Str × V)}, FzF h A ds es → RepF K Hf vs ds → RepF K (hfz H Hf h A) vs es
  | _, _, _, .nil, .nil => .nil
  | _, _, _, .cons a l, .cons r t => .cons (Fz.rep s a r) (FzF.rep s l t)
end
/-- what stands behind a freezing of A -/
def Cut (h h' : Hd) (A : Addr → Prop) : Prop := ∀ a o, h' a = some o → h a = some o ∧ ¬ A a
theorem Hs.fz (s : Hs K H Hf h) (c : Cut h h' A) : Hs K H (hfz H Hf h A) h' := ⟨hfz_sub s, fun b o q => by
  obtain ⟨q1, q2⟩ := c b o q
  obtain ⟨z1, z2⟩ := s.hp b o q1
  refine ⟨?_, z2.mono (fun _ w => w) hfz_grow⟩
  unfold hfz
  rw [z1]
  dsimp only
  rw [if_neg fun z => q2 z.1]⟩
theorem Mo.fz (c : Cut h h' A) : Mo h h' H H Hf (hfz H Hf h A) := ⟨fun _ _ q _ => q, fun _ q => q, hfz_grow, (fun b o q => by
  unfold hfz at q
  cases e : Hf b with
  | some u => rw [e] at q; cases q; exact .inl rfl
  | none =>
    rw [e] at q
    dsimp only at q
    split at q
    · rename_i z
      exact .inr (.inr (Option.isSome_iff_exists.mp z.2))
    · cases q), fun b u q => .inl ⟨u, (c b u q).1⟩⟩
/-- slots seen anew, or let go -/
def FzE (h : Hd) (A : Addr → Prop) (ρ ρ' : Me) : Prop := ρ'.length = ρ.length ∧ ∀ (i : Nat) (e : D), ρ'[i]? = some (some e) → ∃ d, ρ[i]? = some (some d) ∧ Fz h A d e
theorem FzE.refl (h : Hd) (A : Addr → Prop) (ρ : Me) : FzE h A ρ ρ := ⟨rfl, fun i e q => ⟨e, q, .same e⟩⟩
theorem FzE.set {i : Nat} {d e : D} (q : ρ[i]? = some (some d)) (z : Fz h A d e) : FzE h A ρ (ρ.set i (some e)) := ⟨by rw [List.length_set], fun j u w => by
  rw [List.getElem?_set] at w
  by_cases hj : i = j
  · subst hj
    rw [if_pos rfl] at w
    split at w
    · cases w; exact ⟨d, q, z⟩
    · cases w
  · rw [if_neg hj] at w
    exact ⟨u, w, .same u⟩⟩
theorem RE.fz (e : RE K W R H Hf σ ρ h) (c : Cut h h' A) (z : FzE h A ρ ρ') : RE K W R H (hfz H Hf h A) σ ρ' h' where
  ok := e.ok
  gh := W.mono _ _ hfz_grow e.gh
  sl := ⟨fun i d q => by
    obtain ⟨d0, q0, f⟩ := z.2 i d q
    obtain ⟨v, h1, h2⟩ := e.sl.at_ i d0 q0
    exact ⟨v, h1, f.rep e.hs h2⟩, by rw [z.1]; exact e.sl.len⟩
  hs := e.hs.fz c
  mv := e.mv.trans (Mo.fz c)
end
section
variable {X : Cx} {W : Wd} {e : Expr} {τ : TM}
/-- the value is frozen -/
def mFz (τ : TM) : TM := fun ω ρ h P => τ ω ρ h fun r h1 => ∃ A d h2, Fz h1 A r.dat d ∧ Cut h1 h2 A ∧ P (.fz d) h2
theorem me_fz (he : ME X W e τ) : ME X W e (mFz τ) := by
  obtain ⟨t, pe, se⟩ := he.fz
  refine ME.of pe fun σ H Hf ρ h R P Q e q k => se σ H Hf ρ h R (fun r h1 => ∃ A d h2, Fz h1 A r d ∧ Cut h1 h2 A ∧ P (.fz d) h2) Q e q fun v H1 Hf1 d1 h1 e1 m1 r1 ⟨A, d, h2, f, c, p1⟩ => ?_
  exact k v H1 _ (.fz d) h2 (e1.fz c (FzE.refl ..)) (m1.trans (Mo.fz c)) (f.rep e1.hs r1) p1
end
/-! ### targets -/
abbrev TMG := D → Me → (Me → Prop) → Prop
abbrev TMGs := List D → Me → (Me → Prop) → Prop
theorem set_getM {ρ : Me} {i j : Nat} {s : Option D} : (ρ.set i s)[j]? = if i = j then (if i < ρ.length then some s else none) else ρ[j]? := by rw [List.getElem?_set]
/-- slots set, the others as they were -/
structure StM (is : List Nat) (σ σ' : St) (ρ ρ' : Me) : Prop where
  sl : ∀ i, i ∉ is → σ'[i]? = σ[i]? ∧ ρ'[i]? = ρ[i]?
  len : σ'.length = σ.length
  lenR : ρ'.length = ρ.length
theorem StM.refl (is : List Nat) (σ : St) (ρ : Me) : StM is σ σ ρ ρ := ⟨fun _ _ => ⟨rfl, rfl⟩, rfl, rfl⟩
theorem StM.trans {is js : List Nat} {σ σ1 σ2 : St} {ρ ρ1 ρ2 : Me} (a : StM is σ σ1 ρ ρ1) (b : StM js σ1 σ2 ρ1 ρ2) : StM (is ++ js) σ σ2 ρ ρ2 := ⟨fun i h => by
  obtain ⟨a1, a2⟩ := a.sl i fun z => h (List.mem_append_left _ z)
  obtain ⟨b1, b2⟩ := b.sl i fun z => h (List.mem_append_right _ z)
  exact ⟨b1.trans a1, b2.trans a2⟩, b.len.trans a.len, b.lenR.trans a.lenR⟩
def canMG (K : Fg) (is : List Nat) (γ : TMG) : TG := fun v σ H Q => ∃ (Hf : Hp) (ρ : Me) (d : D) (P : Me → Prop), (∀ b o, Hf b = some o → H b = some o) ∧ Sd K Hf σ ρ ∧ Rep K Hf v d ∧ γ d ρ P ∧ ∀ σ' H' Hf' ρ', Sd K Hf' σ' ρ' → Ext H H' Hf Hf' → StM is σ σ' ρ ρ' → P ρ' → Q σ' H'
def canMGs (K : Fg) (is : List Nat) (γ : TMGs) : TGs := fun vs σ H Q => ∃ (Hf : Hp) (ρ : Me) (ds : List D) (P : Me → Prop), (∀ b o, Hf b = some o → H b = some o) ∧ Sd K Hf σ ρ ∧ RepL K Hf vs ds ∧ γ ds ρ P ∧ ∀ σ' H' Hf' ρ', Sd K Hf' σ' ρ' → Ext H H' Hf Hf' → StM is σ σ' ρ ρ' → P ρ' → Q σ' H'
structure MG (X : Cx) (tg : Expr) (is : List Nat) (γ : TMG) : Prop where
  pg : PG X tg (canMG X.K is γ)
structure MGs (X : Cx) (tgs : List Expr) (is : List Nat) (γ : TMGs) : Prop where
  pgs : PGs X tgs (canMGs X.K is γ)
theorem Sd.set {K : Fg} {Hf : Hp} {σ : St} {ρ : Me} (s : Sd K Hf σ ρ) (i : Nat) {v : V} {d : D} (r : Rep K Hf v d) : Sd K Hf (σ.set i (some v)) (ρ.set i (some d)) := ⟨fun j e q => by
  rw [set_getM] at q
  by_cases hj : i = j
  · subst hj
    rw [if_pos rfl] at q
    split at q
    · rename_i hlt
      cases q
      exact ⟨v, by rw [List.getElem?_set, if_pos rfl, if_pos (by rw [s.len]; exact hlt)], r⟩
    · cases q
  · rw [if_neg hj] at q
    rw [List.getElem?_set, if_neg hj]
    exact s.at_ j e q, by rw [List.length_set, List.length_set]; exact s.len⟩
theorem stM_slot {σ : St} {ρ : Me} {i : Nat} {v : Option V} {d : Option D} : StM [i] σ (σ.set i v) ρ (ρ.set i d) := ⟨fun j h => by
  have hj : ¬ i = j := fun z => h (by rw [z]; exact List.mem_singleton.mpr rfl)
  exact ⟨by rw [List.getElem?_set, if_neg hj], by rw [set_getM, if_neg hj]⟩, by rw [List.length_set], by rw [List.length_set]⟩
section
variable {X : Cx} {pos : Pos} {e : Expr} {es : List Expr} {γ : TMG} {γs : TMGs} {is js : List Nat}
def gM (i : Nat) : TMG := fun d ρ P => P (ρ.set i (some d))
theorem MG.of {t : TG} (h : PG X e t) (k : ∀ (v : V) (σ : St) (H Hf : Hp) (ρ : Me) (d : D) (P : Me → Prop) (Q : St → Hp → Prop), (∀ b o, Hf b = some o → H b = some o) → Sd X.K Hf σ ρ → Rep X.K Hf v d → γ d ρ P → (∀ σ' H' Hf' ρ', Sd X.K Hf' σ' ρ' → Ext H H' Hf Hf' → StM is σ σ' ρ ρ' → P ρ' → Q σ' H') → t v σ H Q) : MG X e is γ :=
  ⟨⟨fun pins s σ H v u Q I r ⟨Hf, ρ, d, P, e1, e2, r1, q, kk⟩ => h.run pins s σ H v u Q I r (k v σ H Hf ρ d P Q e1 e2 r1 q kk)⟩⟩
theorem MGs.of {t : TGs} (h : PGs X es t) (k : ∀ (vs : List V) (σ : St) (H Hf : Hp) (ρ : Me) (ds : List D) (P : Me → Prop) (Q : St → Hp → Prop), (∀ b o, Hf b = some o → H b = some o) → Sd X.K Hf σ ρ → RepL X.K Hf vs ds → γs ds ρ P → (∀ σ' H' Hf' ρ', Sd X.K Hf' σ' ρ' → Ext H H' Hf Hf' → StM is σ σ' ρ ρ' → P ρ' → Q σ' H') → t vs σ H Q) : MGs X es is γs :=
  ⟨⟨fun pins s σ H v u Q I r ⟨Hf, ρ, d, P, e1, e2, r1, q, kk⟩ => h.run pins s σ H v u Q I r (k v σ H Hf ρ d P Q e1 e2 r1 q kk)⟩⟩
theorem mg_n {x : Str} (i : Nat) (hN : X.N.Nodup) (hi : X.N[i]? = some x) (hx : Loc X.env.scope x) (hf : X.fn x = true ∨ X.env.scope.names.lookup x = some .local := by first | exact .inl rfl | exact .inr rfl | assumption) : MG X (.Name x pos) [i] (gM i) :=
  MG.of (pg_name hN hi hx hf) fun v σ H Hf ρ d P Q sub e r h2 k => k _ H Hf _ (e.set i r) (Ext.refl sub) stM_slot h2
def gNilM : TMGs := fun ds ρ P => ds = [] ∧ P ρ
def gConsM (a : TMG) (r : TMGs) : TMGs := fun ds ρ P => ∃ d es, ds = d :: es ∧ a d ρ fun ρ1 => r es ρ1 P
theorem mgs_nil : MGs X [] [] gNilM := MGs.of pgs_nil fun vs σ H Hf ρ ds P Q sub e r ⟨h1, h2⟩ k => by
  subst h1
  cases r
  exact ⟨rfl, k σ H Hf ρ e (Ext.refl sub) (StM.refl ..) h2⟩
theorem mgs_cons (h1 : MG X e is γ) (h2 : MGs X es js γs) (hs : (assignEach (e :: es) X.env).map (·.2) = assign e X.env :: (assignEach es X.env).map (·.2) := by rfl) : MGs X (e :: es) (is ++ js) (gConsM γ γs) :=
  MGs.of (pgs_cons h1.pg h2.pgs hs) fun vs σ H Hf ρ ds P Q sub e r ⟨d, es, hd, q⟩ k => by
  subst hd
  cases r with
  | cons ra rr => exact ⟨_, _, rfl, Hf, ρ, d, _, sub, e, ra, q, fun σ1 H1 Hf1 ρ1 e1 x1 s1 p1 => ⟨Hf1, ρ1, es, P, x1.sub, e1, rr.mono x1.grow, p1, fun σ2 H2 Hf2 ρ2 e2 x2 s2 p2 => k σ2 H2 Hf2 ρ2 e2 (x1.trans x2) (s1.trans s2) p2⟩⟩
def gTupM (n : Nat) (γ : TMGs) : TMG := fun d ρ P => ∃ ds, d = .tup ds ∧ ds.length = n ∧ γ ds ρ P
theorem mg_tup {k n : Nat} (hc : X.calm = true) (h : MGs X es is γs) (hn : (assignEach es X.env).length = n := by rfl) (hst : (assignEach es X.env).findIdx? (·.1) = none := by rfl) : MG X (.Tuple es k pos) is (gTupM n γs) :=
  MG.of (pg_tup hc h.pgs hn hst) fun v σ H Hf ρ d P Q sub e r ⟨ds, hd, hl, q⟩ k => by
    subst hd
    cases r with
    | tup hp rp => exact ⟨_, _, rfl, sqT_same sub hp, rp.length.trans hl, Hf, ρ, ds, P, sub, e, rp, q, k⟩
def gUnlM (n : Nat) (γ : TMGs) : TMG := fun d ρ P => ∃ ds, d = .lst ds ∧ ds.length = n ∧ γ ds ρ P
theorem mg_unl {k n : Nat} (hc : X.calm = true) (h : MGs X es is γs) (hn : (assignEach es X.env).length = n := by rfl) (hst : (assignEach es X.env).findIdx? (·.1) = none := by rfl) : MG X (.Tuple es k pos) is (gUnlM n γs) :=
  MG.of (pg_unl hc h.pgs hn hst) fun v σ H Hf ρ d P Q sub e r ⟨ds, hd, hl, q⟩ k => by
    subst hd
    cases r with
    | lst hp rp => exact ⟨_, _, rfl, .inl (.inl (sub _ _ hp)), rp.length.trans hl, Hf, ρ, ds, P, sub, e, rp, q, k⟩
def gStarM (n : Nat) (γ : TMGs) : TMG := fun d ρ P => ∃ ds es, (d = .tup (ds ++ es) ∨ d = .lst (ds ++ es)) ∧ ds.length = n ∧ (ds ++ es).length ≤ 16000 ∧ γ (ds ++ [.lst es]) ρ P
theorem mgs_star {p : Pos} (h1 : MG X e is γ) : MGs X [.Starred e p] is (gConsM γ gNilM) :=
  MGs.of (pgs_star h1.pg) fun vs σ H Hf ρ ds P Q sub e r ⟨d, es, hd, q⟩ k => by
    subst hd
    cases r with
    | cons ra rr =>
      refine ⟨_, _, rfl, Hf, ρ, d, _, sub, e, ra, q, fun σ1 H1 Hf1 ρ1 e1 x1 s1 ⟨p0, p1⟩ => ?_⟩
      subst p0
      cases rr
      exact ⟨rfl, k σ1 H1 Hf1 ρ1 e1 x1 s1 p1⟩
theorem mg_star {k i : Nat} (hc : X.calm = true) (h : MGs X es is γs) (hn : (assignEach es X.env).length = i + 1 := by rfl) (hst : (assignEach es X.env).findIdx? (·.1) = some i := by rfl) : MG X (.Tuple es k pos) is (gStarM i γs) :=
  MG.of (pg_star hc h.pgs hn hst) fun v σ H Hf ρ d P Q sub e r ⟨ds, es, hd, hl, hz, q⟩ k => by
    have fin : ∀ {a : Addr} {vs : List V}, v = .ref a → (SqT X.K H a vs ∨ SqL X.K H a vs) → RepL X.K Hf vs (ds ++ es) → gStar X.K i (canMGs X.K is γs) v σ H Q := by
      intro a vs hv hs rp
      obtain ⟨us, ws, e1, r1, r2⟩ := rp.split
      subst e1
      refine ⟨a, us, ws, hv, hs, r1.length.trans hl, by rw [rp.length]; exact hz, fun n hn => ?_⟩
      have x1 := Ext.add sub (.lst ws) hn
      refine ⟨upd Hf n (.lst ws), ρ, ds ++ [.lst es], P, x1.sub, e.mono x1.grow, (r1.mono x1.grow).append (.cons (.lst upd_same (r2.mono x1.grow)) .nil), q, fun σ2 H2 Hf2 ρ2 e2 x2 s2 p2 => k σ2 H2 Hf2 ρ2 e2 (x1.trans x2) s2 p2⟩
    rcases hd with hd | hd
    · subst hd
      cases r with
      | tup hp rp => exact fin rfl (.inl (sqT_same sub hp)) rp
    · subst hd
      cases r with
      | lst hp rp => exact fin rfl (.inr (.inl (.inl (sub _ _ hp)))) rp
end
end ML
/-! The second data layer, 5: statements, loops, defs. -/
namespace ML
open PySem L2 DL
structure MEnds where
  nx : Me → Hd → Prop
  rt : Res → Hd → Prop
  bk : Me → Hd → Prop := fun _ _ => False
  ct : Me → Hd → Prop := fun _ _ => False
abbrev TMS := Wω → MEnds → Me → Hd → Prop
structure LkM (K : Fg) (W : Wd) (R : Rg) (PD : MEnds) (D : Ends) : Prop where
  nx : ∀ σ H Hf ρ h, RE K W R H Hf σ ρ h → PD.nx ρ h → D.nx σ H
  rt : ∀ v σ H Hf ρ h r, RE K W R H Hf σ ρ h → RO K R.H0 H Hf h v r → PD.rt r h → D.rt v H
  bk : ∀ σ H Hf ρ h, RE K W R H Hf σ ρ h → PD.bk ρ h → D.bk σ H
  ct : ∀ σ H Hf ρ h, RE K W R H Hf σ ρ h → PD.ct ρ h → D.ct σ H
def canMS (K : Fg) (W : Wd) (τ : TMS) : TS := fun D σ H => ∃ (R : Rg) (Hf : Hp) (ρ : Me) (h : Hd) (PD : MEnds), RE K W R H Hf σ ρ h ∧ τ R.ω PD ρ h ∧ LkM K W R PD D
structure MS (X : Cx) (W : Wd) (st : Stmt) (τ : TMS) : Prop where
  ps : PS X st (canMS X.K W τ)
structure MSs (X : Cx) (W : Wd) (sts : List Stmt) (τ : TMS) : Prop where
  pss : PSs X sts (canMS X.K W τ)
theorem RE.setTo {K : Fg} {W : Wd} {R : Rg} {H H1 Hf Hf1 : Hp} {σ σ1 : St} {ρ ρ1 : Me} {h : Hd} (e : RE K W R H Hf σ ρ h) (s : Sd K Hf1 σ1 ρ1) (x : Ext H H1 Hf Hf1) : RE K W R H1 Hf1 σ1 ρ1 h := ⟨e.ok, W.mono _ _ x.grow e.gh, s, e.hs.ext x, e.mv.trans (Mo.ext x)⟩
theorem RE.set {K : Fg} {W : Wd} {R : Rg} {H Hf : Hp} {σ : St} {ρ : Me} {h : Hd} (e : RE K W R H Hf σ ρ h) (i : Nat) {v : V} {d : D} (r : Rep K Hf v d) : RE K W R H Hf (σ.set i (some v)) (ρ.set i (some d)) h := ⟨e.ok, e.gh, e.sl.set i r, e.hs, e.mv⟩
section
variable {X : Cx} {W : Wd} {pos pos' : Pos} {st : Stmt} {rest sts sts2 : List Stmt} {e c o tg : Expr} {τ τ1 : TMS} {τe τo : TM} {τc : TMT} {γ : TMG} {x : Str}
theorem MS.of {t : TS} (h : PS X st t) (k : ∀ (D : Ends) (σ : St) (H Hf : Hp) (R : Rg) (ρ : Me) (hd : Hd) (PD : MEnds), RE X.K W R H Hf σ ρ hd → τ R.ω PD ρ hd → LkM X.K W R PD D → t D σ H) : MS X W st τ :=
  ⟨⟨fun pins s σ H D I ⟨R, Hf, ρ, hd, PD, e, q, l⟩ => h.run pins s σ H D I (k D σ H Hf R ρ hd PD e q l)⟩⟩
def mNext : TMS := fun _ PD ρ h => PD.nx ρ h
def mSeq (t u : TMS) : TMS := fun ω PD ρ h => t ω { PD with nx := u ω PD } ρ h
theorem mss_nil : MSs X W [] mNext := ⟨⟨fun pins s σ H D I ⟨R, Hf, ρ, hd, PD, e, q, l⟩ => pss_nil.run pins s σ H D I (l.nx σ H Hf ρ hd e q)⟩⟩
theorem mss_one (h : MS X W st τ) : MSs X W [st] τ := ⟨pss_one h.ps⟩
theorem mss_cons (h : MS X W st τ) (h2 : MSs X W rest τ1) : MSs X W (st :: rest) (mSeq τ τ1) :=
  ⟨⟨fun pins s σ H D I ⟨R, Hf, ρ, hd, PD, e, q, l⟩ => (pss_cons h.ps h2.pss).run pins s σ H D I ⟨R, Hf, ρ, hd, { PD with nx := τ1 R.ω PD }, e, q, ⟨fun σ1 H1 Hf1 ρ1 hd1 e1 q1 => ⟨R, Hf1, ρ1, hd1, PD, e1, q1, l⟩, l.rt, l.bk, l.ct⟩⟩⟩⟩
/-- slots and data seen anew ahead of a statement -/
def mRe (τ : TMS) : TMS := fun ω PD ρ h => ∃ A ρ' h', FzE h A ρ ρ' ∧ Cut h h' A ∧ τ ω PD ρ' h'
theorem ms_re (h : MS X W st τ) : MS X W st (mRe τ) := ⟨⟨fun pins s σ H D I ⟨R, Hf, ρ, hd, PD, e, ⟨A, ρ', h', f, c, q⟩, l⟩ => h.ps.run pins s σ H D I ⟨R, _, ρ', h', PD, e.fz c f, q, l⟩⟩⟩
/-- a list of one's own, in slot i, is frozen ahead of a statement -/
def mFzS (i : Nat) (τ : TMS) : TMS := fun ω PD ρ h => ∃ a xs, ρ[i]? = some (some (.raw (.ref a))) ∧ h a = some (.lst xs) ∧ τ ω PD (ρ.set i (some (.lst xs))) (off h a)
theorem FzL.same {h : Hd} {A : Addr → Prop} : ∀ xs, FzL h A xs xs
  | [] => .nil
  | d :: xs => .cons (.same d) (FzL.same xs)
theorem FzF.same {h : Hd} {A : Addr → Prop} : ∀ xs, FzF h A xs xs
  | [] => .nil
  | (f, d) :: xs => .cons (.same d) (FzF.same xs)
theorem cut_off {h : Hd} {a : Addr} : Cut h (off h a) (· = a) := fun b o q => by
  by_cases hb : b = a
  · rw [hb, off_same] at q; cases q
  · rw [off_ne hb] at q; exact ⟨q, hb⟩
theorem ms_fzs (i : Nat) (h : MS X W st τ) : MS X W st (mFzS i τ) := ⟨⟨fun pins s σ H D I ⟨R, Hf, ρ, hd, PD, e, ⟨a, xs, q1, q2, q⟩, l⟩ => (ms_re h).ps.run pins s σ H D I ⟨R, Hf, ρ, hd, PD, e, ⟨(· = a), _, _, FzE.set q1 (.lst q2 rfl (FzL.same xs)), cut_off, q⟩, l⟩⟩⟩
/-- x = e -/
def mSet (i : Nat) (τe : TM) : TMS := fun ω PD ρ h => τe ω ρ h fun r h1 => PD.nx (ρ.set i (some r.dat)) h1
theorem ms_set (i : Nat) (hN : X.N.Nodup) (hi : X.N[i]? = some x) (hx : Loc X.env.scope x) (he : ME X W e τe) (hs : swapsWith e (some (.Name x pos')) pos.line X.env = pure false := by rfl) (hf : X.fn x = true ∨ X.env.scope.names.lookup x = some .local := by first | exact .inl rfl | exact .inr rfl | assumption) :
    MS X W (.Assign [.Name x pos'] e pos) (mSet i τe) := by
  obtain ⟨t, pe, se⟩ := he.fz
  exact MS.of (ps_set hN hi hx pe hs hf) fun D σ H Hf R ρ h PD s q l => se σ H Hf ρ h R (fun d h1 => PD.nx (ρ.set i (some d)) h1) _ s q fun v H1 Hf1 d h1 e1 m1 r1 p1 => l.nx _ H1 Hf1 _ h1 (e1.set i r1) p1
/-- target = e -/
def mAsg (τe : TM) (γ : TMG) : TMS := fun ω PD ρ h => τe ω ρ h fun r h1 => γ r.dat ρ fun ρ1 => PD.nx ρ1 h1
theorem ms_asg (he : ME X W e τe) {is : List Nat} (hg : MG X tg is γ) (hs : swapsWithSole [tg] e pos.line X.env = pure false := by rfl) (hw : swappedStores [tg] e X.env = pure none := by rfl) (h1 : (assignEach [tg] X.env).map (·.2) = [assign tg X.env] := by rfl) : MS X W (.Assign [tg] e pos) (mAsg τe γ) := by
  obtain ⟨t, pe, se⟩ := he.fz
  exact MS.of (ps_asg pe hg.pg hs hw h1) fun D σ H Hf R ρ h PD s q l => se σ H Hf ρ h R (fun d h1 => γ d ρ fun ρ1 => PD.nx ρ1 h1) _ s q fun v H1 Hf1 d h1 e1 m1 r1 p1 =>
    ⟨Hf1, ρ, d, _, e1.hs.sub, e1.sl, r1, p1, fun σ2 H2 Hf2 ρ2 s2 x2 t2 p2 => l.nx σ2 H2 Hf2 ρ2 h1 (e1.setTo s2 x2) p2⟩
/-- if -/
def mIf (c : TMT) (t u : TMS) : TMS := fun ω PD ρ h => c ω ρ h fun b h1 => if b = true then t ω PD ρ h1 else u ω PD ρ h1
theorem ms_if (hc : MT X W c τc) (ha : MSs X W sts τ) (hb : MSs X W sts2 τ1) : MS X W (.If c sts sts2 pos) (mIf τc τ τ1) :=
  MS.of (ps_if hc.pt ha.pss hb.pss) fun D σ H Hf R ρ h PD s q l => ⟨R, Hf, ρ, h, _, s, q, fun b H1 Hf1 h1 e1 m1 p1 => by
    cases b with
    | true => exact ⟨R, Hf1, ρ, h1, PD, e1, p1, l⟩
    | false => exact ⟨R, Hf1, ρ, h1, PD, e1, p1, l⟩⟩
/-- return e -/
def mRet (τe : TM) : TMS := fun ω PD ρ h => τe ω ρ h PD.rt
theorem ms_ret (he : ME X W e τe) : MS X W (.Return (some e) pos) (mRet τe) :=
  MS.of (ps_ret he.pe) fun D σ H Hf R ρ h PD s q l => ⟨R, Hf, ρ, h, _, s, q, fun v H1 Hf1 r h1 e1 m1 r1 p1 => l.rt v σ H1 Hf1 ρ h1 r e1 (r1.back s.mv.live) p1⟩
def mRetN : TMS := fun _ PD _ h => PD.rt (.fz .non) h
theorem ms_retN : MS X W (.Return none pos) mRetN := MS.of ps_retN fun D σ H Hf R ρ h PD s q l => l.rt .non σ H Hf ρ h (.fz .non) s Rep.non q
/-- return x, a list of one's own that is new -/
def mRetO (i : Nat) : TMS := fun _ PD ρ h => ∃ a xs, ρ[i]? = some (some (.raw (.ref a))) ∧ h a = some (.lst xs) ∧ PD.rt (.fz (.lst xs)) (off h a)
theorem ms_retO (i : Nat) {p : Pos} (hN : X.N[i]? = some x := by rfl) (hv : Vis X.env.scope x := by first | exact Or.inl rfl | exact Or.inr (Or.inl rfl) | exact Or.inr (Or.inr rfl)) (hd : (x == ("__debug__" : Str)) = false := by decide) (hcd : (x == ("__classdict__" : Str)) = false := by decide) :
    MS X W (.Return (some (.Name x p)) pos) (mRetO i) :=
  MS.of (ps_ret (pe_var hN hv hd hcd)) fun D σ H Hf R ρ h PD s ⟨a, xs, h1, h2, q⟩ l => by
    obtain ⟨v, w1, w2⟩ := s.sl.at_ i _ h1
    have f : Fz h (· = a) (.raw (.ref a)) (.lst xs) := .lst h2 rfl (FzL.same xs)
    exact ⟨v, w1, l.rt v σ H _ ρ _ (.fz (.lst xs)) (s.fz cut_off (FzE.refl ..)) (f.rep s.hs w2) q⟩
/-- e; its value is dropped -/
def mDrop (τe : TM) : TMS := fun ω PD ρ h => τe ω ρ h fun _ h1 => PD.nx ρ h1
theorem ms_expr (he : ME X W e τe) (hs : swapsWith e none pos.line X.env = pure false := by rfl) : MS X W (.Expr e pos) (mDrop τe) :=
  MS.of (ps_expr he.pe hs) fun D σ H Hf R ρ h PD s q l => ⟨R, Hf, ρ, h, _, s, q, fun v H1 Hf1 r h1 e1 m1 r1 p1 => l.nx σ H1 Hf1 ρ h1 e1 p1⟩
/-- o.f = e -/
def mFldS (C : Addr) (f : Str) (τo τe : TM) : TMS := fun ω PD ρ h => τe ω ρ h fun y h1 => τo ω ρ h1 fun x h2 => ∃ a fs, x.dat = .raw (.ref a) ∧ h2 a = some (.ins C fs) ∧ fs.length < 1000 ∧ PD.nx ρ (put h2 a (.ins C (putD f y.dat fs)))
theorem ms_fld {f : Str} {C : Addr} {p' : Pos} (g3 : Fo X.K C f) (ho : ME X W o τo) (he : ME X W e τe) (hs : swapsWith e (some (.Attribute o f p')) pos.line X.env = pure false := by rfl) : MS X W (.Assign [.Attribute o f p'] e pos) (mFldS C f τo τe) := by
  obtain ⟨t, pe, se⟩ := he.fz
  obtain ⟨t2, po, so⟩ := ho.fz
  refine MS.of (ps_fld po pe hs) fun D σ H Hf R ρ h PD s q l => ?_
  refine se σ H Hf ρ h R (fun y h1 => τo R.ω ρ h1 fun x h2 => ∃ a fs, x.dat = .raw (.ref a) ∧ h2 a = some (.ins C fs) ∧ fs.length < 1000 ∧ PD.nx ρ (put h2 a (.ins C (putD f y fs)))) _ s q fun y H1 Hf1 dy h1 e1 m1 r1 q1 => ?_
  refine so σ H1 Hf1 ρ h1 R (fun x h2 => ∃ a fs, x = .raw (.ref a) ∧ h2 a = some (.ins C fs) ∧ fs.length < 1000 ∧ PD.nx ρ (put h2 a (.ins C (putD f dy fs)))) _ e1 q1 fun x H2 Hf2 dx h2 e2 m2 r2 ⟨a, fs, g1, g2, g4, g5⟩ => ?_
  subst g1
  cases r2
  obtain ⟨z0, dx, gs, z1, z2⟩ := e2.hs.hp a _ g2
  refine ⟨a, C, dx, gs, rfl, z1, g3.1, g3.2, by rw [RepF.length z2]; exact g4, ?_⟩
  have s3 := e2.hs.upd (a := a) (o := .ins C (putD f dy fs)) (u := .ins C dx (putF f y gs)) (.inl ⟨_, g2⟩) fun H' hq => ⟨dx, _, hq, RepF.put (r1.mono m2.grow) z2⟩
  exact l.nx σ _ Hf2 ρ _ (e2.step s3 (Mo.upd (.inl ⟨_, g2⟩))) g5
/-- a op= b on data -/
def InS (K : Fg) (rd : V → V → Hp → VK → Prop) (g : D → D → Option D) : Prop := ∀ (H Hf : Hp) (x y : V) (a b c : D) (Q : VK), Rep K Hf x a → Rep K Hf y b → g a b = some c → (∀ v, Rep K Hf v c → Q v H) → rd x y H Q
def iaddD : D → D → Option D
  | .int i, .int j => some (.int (i + j))
  | .str i, .str j => if i.length + j.length ≤ 100000 then some (.str (i ++ j)) else none
  | _, _ => none
def isubD : D → D → Option D
  | .int i, .int j => some (.int (i - j))
  | _, _ => none
def rdAdd : V → V → Hp → VK → Prop := fun x y H Q => rAdd x y H Q ∨ (∃ i j, x = .str i ∧ y = .str j ∧ i.length + j.length ≤ sizeLine ∧ Q (.str (i ++ j)) H)
theorem inS_add {K : Fg} : InS K rdAdd iaddD := fun H Hf x y a b c Q ra rb hg k => by
  cases ra <;> first | (simp [iaddD] at hg; done) | skip
  all_goals cases rb <;> first | (simp [iaddD] at hg; done) | skip
  · simp only [iaddD, Option.some.injEq] at hg
    subst hg
    exact .inl ⟨_, _, rfl, rfl, k _ (.int _)⟩
  · simp only [iaddD] at hg
    split at hg
    · rename_i hz
      cases hg
      exact .inr ⟨_, _, rfl, rfl, lim hz, k _ (.str _)⟩
    · cases hg
theorem inS_sub {K : Fg} : InS K rSub isubD := fun H Hf x y a b c Q ra rb hg k => by
  cases ra <;> first | (simp [isubD] at hg; done) | skip
  all_goals cases rb <;> first | (simp [isubD] at hg; done) | skip
  simp only [isubD, Option.some.injEq] at hg
  subst hg
  exact ⟨_, _, rfl, rfl, k _ (.int _)⟩
theorem in_rdAdd : InOp X .Add rdAdd := fun pins s σ H x y u v Q I rx ry q => by
  rcases q with q | q
  · exact in_add pins s σ H x y u v Q I rx ry q
  · exact iop_add_str pins s σ H x y u v Q I rx ry q
def mFldA (C : Addr) (f : Str) (g : D → D → Option D) (τo τe : TM) : TMS := fun ω PD ρ h => τo ω ρ h fun x h1 => ∃ a fs d, x.dat = .raw (.ref a) ∧ h1 a = some (.ins C fs) ∧ fs.lookup f = some d ∧ τe ω ρ h1 fun y h2 => ∃ fs' c, g d y.dat = some c ∧ h2 a = some (.ins C fs') ∧ fs'.length < 1000 ∧ PD.nx ρ (put h2 a (.ins C (putD f c fs')))
theorem ms_fldA {f : Str} {op : Operator} {rd : V → V → Hp → VK → Prop} {g : D → D → Option D} {C : Addr} {p' : Pos} (g3 : Fo X.K C f) (ho : ME X W o τo) (he : ME X W e τe) (hop : InOp X op rd) (hs : InS X.K rd g) : MS X W (.AugAssign (.Attribute o f p') op e pos) (mFldA C f g τo τe) := by
  obtain ⟨t, pe, se⟩ := he.fz
  obtain ⟨t2, po, so⟩ := ho.fz
  refine MS.of (ps_fldaug po pe hop) fun D σ H Hf R ρ h PD s q l => ?_
  refine so σ H Hf ρ h R (fun x h1 => ∃ a fs d, x = .raw (.ref a) ∧ h1 a = some (.ins C fs) ∧ fs.lookup f = some d ∧ τe R.ω ρ h1 fun y h2 => ∃ fs' c, g d y.dat = some c ∧ h2 a = some (.ins C fs') ∧ fs'.length < 1000 ∧ PD.nx ρ (put h2 a (.ins C (putD f c fs')))) _ s q fun x H1 Hf1 dx h1 e1 m1 r1 ⟨a, fs, d, g1, g2, g4, q1⟩ => ?_
  subst g1
  cases r1
  obtain ⟨_, dx, gs, z1, z2⟩ := e1.hs.hp a _ g2
  obtain ⟨w, l1, rw'⟩ := (RepF.get z2).1 d g4
  refine ⟨a, C, dx, gs, w, rfl, z1, g3.1, g3.2, l1, ?_⟩
  refine se σ H1 Hf1 ρ h1 R (fun y h2 => ∃ fs' c, g d y = some c ∧ h2 a = some (.ins C fs') ∧ fs'.length < 1000 ∧ PD.nx ρ (put h2 a (.ins C (putD f c fs')))) _ e1 q1 fun y H2 Hf2 dy h2 e2 m2 r2 ⟨fs', c, k1, k2, k3, k4⟩ => ?_
  refine hs H2 Hf2 w y d dy c _ (rw'.mono m2.grow) r2 k1 fun v rv => ?_
  obtain ⟨_, dx2, gs2, y1, y2⟩ := e2.hs.hp a _ k2
  refine ⟨dx2, gs2, y1, by rw [RepF.length y2]; exact k3, ?_⟩
  have s3 := e2.hs.upd (a := a) (o := .ins C (putD f c fs')) (u := .ins C dx2 (putF f v gs2)) (.inl ⟨_, k2⟩) fun H' hq => ⟨dx2, _, hq, RepF.put rv y2⟩
  exact l.nx σ _ Hf2 ρ _ (e2.step s3 (Mo.upd (.inl ⟨_, k2⟩))) k4
/-- x op= e -/
def mAug (i : Nat) (g : D → D → Option D) (τe : TM) : TMS := fun ω PD ρ h => ∃ d, ρ[i]? = some (some d) ∧ τe ω ρ h fun y h1 => ∃ c, g d y.dat = some c ∧ PD.nx (ρ.set i (some c)) h1
theorem ms_aug (i : Nat) {op : Operator} {rd : V → V → Hp → VK → Prop} {g : D → D → Option D} (hN : X.N.Nodup) (hi : X.N[i]? = some x) (hx : Loc X.env.scope x) (he : ME X W e τe) (ho : PIp X op rd) (hs : InS X.K rd g) (hf : X.fn x = true ∨ X.env.scope.names.lookup x = some .local := by first | exact .inl rfl | exact .inr rfl | assumption) :
    MS X W (.AugAssign (.Name x pos') op e pos) (mAug i g τe) := by
  obtain ⟨t, pe, se⟩ := he.fz
  refine MS.of (ps_aug hN hi hx pe ho hf) fun D σ H Hf R ρ h PD s ⟨d, h0, q⟩ l => ?_
  obtain ⟨v0, w1, w2⟩ := s.sl.at_ i _ h0
  refine ⟨v0, w1, se σ H Hf ρ h R (fun y h1 => ∃ c, g d y = some c ∧ PD.nx (ρ.set i (some c)) h1) _ s q fun y H1 Hf1 dy h1 e1 m1 r1 ⟨c, k1, k2⟩ => ?_⟩
  exact hs H1 Hf1 v0 y d dy c _ (w2.mono m1.grow) r1 k1 fun v rv => l.nx _ H1 Hf1 _ h1 (e1.set i rv) k2
theorem ip_of {op : Operator} {rd : V → V → Hp → VK → Prop} (h : InOp X op rd) : PIp X op rd := h
/-- o[k] = e, o a list of one's own -/
def mSubS (τe τo τk : TM) : TMS := fun ω PD ρ h => τe ω ρ h fun r h1 => τo ω ρ h1 fun x h2 => τk ω ρ h2 fun y h3 => ∃ a xs k j, x.dat = .raw (.ref a) ∧ h3 a = some (.lst xs) ∧ y.dat = .int k ∧ ixN (List.length xs) k = some j ∧ PD.nx ρ (put h3 a (.lst (xs.set j r.dat)))
theorem ms_sub {k : Expr} {τk : TM} {p2 : Pos} (he : ME X W e τe) (ho : ME X W o τo) (hk : ME X W k τk)
    (ha : ∀ v, assign (.Subscript o k p2) X.env v = (do let ov ← holding [v] (eval o X.env); let iv ← holding [v, ov] (eval k X.env); standAt p2; holding [v, ov, iv] (setItem ov iv v); release [v, ov, iv] []) := by intro _; rfl)
    (hs : swapsWithSole [.Subscript o k p2] e pos.line X.env = pure false := by rfl) (hw : swappedStores [.Subscript o k p2] e X.env = pure none := by rfl) :
    MS X W (.Assign [.Subscript o k p2] e pos) (mSubS τe τo τk) := by
  obtain ⟨t, pe, se⟩ := he.fz
  obtain ⟨t2, po, so⟩ := ho.fz
  obtain ⟨t3, pk, sk⟩ := hk.fz
  refine MS.of (ps_asg pe (pg_sub po pk set_list ha) hs hw) fun D σ H Hf R ρ h PD s q l => ?_
  refine se σ H Hf ρ h R (fun r h1 => τo R.ω ρ h1 fun x h2 => τk R.ω ρ h2 fun y h3 => ∃ a xs k j, x.dat = .raw (.ref a) ∧ h3 a = some (.lst xs) ∧ y.dat = .int k ∧ ixN (List.length xs) k = some j ∧ PD.nx ρ (put h3 a (.lst (xs.set j r)))) _ s q fun v H1 Hf1 d h1 e1 m1 r1 q1 => ?_
  refine so σ H1 Hf1 ρ h1 R (fun x h2 => τk R.ω ρ h2 fun y h3 => ∃ a xs k j, x = .raw (.ref a) ∧ h3 a = some (.lst xs) ∧ y.dat = .int k ∧ ixN (List.length xs) k = some j ∧ PD.nx ρ (put h3 a (.lst (xs.set j d)))) _ e1 q1 fun x H2 Hf2 dx h2 e2 m2 r2 q2 => ?_
  refine sk σ H2 Hf2 ρ h2 R (fun y h3 => ∃ a xs k j, dx = .raw (.ref a) ∧ h3 a = some (.lst xs) ∧ y = .int k ∧ ixN (List.length xs) k = some j ∧ PD.nx ρ (put h3 a (.lst (xs.set j d)))) _ e2 q2 fun y H3 Hf3 dy h3 e3 m3 r3 ⟨a, xs, kk, j, g1, g2, g3, g4, g5⟩ => ?_
  subst g1 g3
  cases r2
  cases r3
  obtain ⟨z0, ys, z1, z2⟩ := e3.hs.hp a _ g2
  refine ⟨a, ys, kk, j, rfl, rfl, z1, by rw [z2.length]; exact g4, ?_⟩
  have s4 := e3.hs.upd (a := a) (o := .lst (xs.set j d)) (u := .lst (ys.set j v)) (.inl ⟨_, g2⟩) fun H' hq => ⟨_, hq, z2.set ((r1.mono m2.grow).mono m3.grow) j⟩
  exact l.nx σ _ Hf3 ρ _ (e3.step s4 (Mo.upd (.inl ⟨_, g2⟩))) g5
/-- x, y = a, b -/
def mPar (i j : Nat) (τ : TMA) : TMS := fun ω PD ρ h => τ ω ρ h fun ds h1 => ∃ d d', ds = [d, d'] ∧ PD.nx ((ρ.set i (some d)).set j (some d')) h1
theorem ms_par {i j : Nat} {x y : Str} {a b : Expr} {τs : TMA} {px py pt : Pos} {kt k2 : Nat} {pt2 : Pos} (hc : X.calm = true) (hN : X.N.Nodup) (hi : X.N[i]? = some x) (hj : X.N[j]? = some y) (hij : i ≠ j)
    (hx : X.env.scope.names.lookup x = some .local) (hy : X.env.scope.names.lookup y = some .local) (ha : MA X W [a, b] τs)
    (hw : swappedStores [.Tuple [.Name x px, .Name y py] kt pt] (.Tuple [a, b] k2 pt2) X.env = pure (some [x, y]))
    (hs : swapsWithSole [.Tuple [.Name x px, .Name y py] kt pt] (.Tuple [a, b] k2 pt2) pos.line X.env = pure false := by rfl) :
    MS X W (.Assign [.Tuple [.Name x px, .Name y py] kt pt] (.Tuple [a, b] k2 pt2) pos) (mPar i j τs) :=
  MS.of (ps_par hc hN hi hj hij hx hy ha.pa hw hs) fun D σ H Hf R ρ h PD s q l => ⟨R, Hf, ρ, h, _, s, q, fun vs H1 Hf1 ds h1 e1 m1 r1 _ ⟨d, d', hd, p3⟩ => by
    subst hd
    cases r1 with
    | cons ra rr =>
      cases rr with
      | cons rb rr =>
        cases rr
        exact ⟨_, _, rfl, l.nx _ H1 Hf1 _ h1 ((e1.set i ra).set j rb) p3⟩⟩
/-- break, continue, pass -/
def mBrk : TMS := fun _ PD ρ h => PD.bk ρ h
def mCnt : TMS := fun _ PD ρ h => PD.ct ρ h
theorem ms_brk : MS X W (.Break pos) mBrk := MS.of ps_break fun D σ H Hf R ρ h PD s q l => l.bk σ H Hf ρ h s q
theorem ms_cnt : MS X W (.Continue pos) mCnt := MS.of ps_continue fun D σ H Hf R ρ h PD s q l => l.ct σ H Hf ρ h s q
/-! ### while -/
def mWhile (c : TMT) (tb : TMS) : TMS := fun ω PD ρ h => ∃ J : Nat → Me → Hd → Prop, (∃ m, J m ρ h) ∧ ∀ m ρ h, J m ρ h → c ω ρ h fun b h1 => if b = true then tb ω { PD with nx := fun ρ' h' => ∃ m', m' < m ∧ J m' ρ' h', ct := fun ρ' h' => ∃ m', m' < m ∧ J m' ρ' h', bk := PD.nx } ρ h1 else PD.nx ρ h1
theorem ms_while (hp : PassesOwn (model X.prog X.w) X.A X.env X.xe) (hc : MT X W c τc) (hb : MSs X W sts τ) : MS X W (.While c sts [] pos) (mWhile τc τ) :=
  MS.of (ps_while hp hc.pt hb.pss) fun D σ H Hf R ρ h PD s ⟨J, ⟨m0, j0⟩, turn⟩ l => by
    refine ⟨fun m σ' H' => ∃ Hf' ρ' h', RE X.K W R H' Hf' σ' ρ' h' ∧ J m ρ' h', ⟨m0, Hf, ρ, h, s, j0⟩, ?_⟩
    rintro m σ1 H1 ⟨Hf1, ρ1, h1, e1, j1⟩
    refine ⟨R, Hf1, ρ1, h1, _, e1, turn m ρ1 h1 j1, fun b H2 Hf2 h2 e2 m2 p2 => ?_⟩
    cases b with
    | false => exact l.nx σ1 H2 Hf2 ρ1 h2 e2 p2
    | true =>
      refine ⟨fun σ' H' => ∃ Hf' ρ' h', RE X.K W R H' Hf' σ' ρ' h' ∧ ∃ m', m' < m ∧ J m' ρ' h', fun σ' H' ⟨Hf', ρ', h', e', m', hm, j'⟩ => ⟨m', hm, Hf', ρ', h', e', j'⟩, ?_⟩
      exact ⟨R, Hf2, ρ1, h2, _, e2, p2, ⟨fun σ5 H5 Hf5 ρ5 h5 e5 q5 => ⟨Hf5, ρ5, h5, e5, q5⟩, l.rt, fun σ5 H5 Hf5 ρ5 h5 e5 q5 => l.nx σ5 H5 Hf5 ρ5 h5 e5 q5, fun σ5 H5 Hf5 ρ5 h5 e5 q5 => ⟨Hf5, ρ5, h5, e5, q5⟩⟩⟩
end
/-! ### what is walked -/
abbrev TMI := Wω → Me → Hd → (List D → Hd → Prop) → Prop
def canMI (K : Fg) (W : Wd) (τ : TMI) : TI := fun σ H Q => ∃ (R : Rg) (Hf : Hp) (ρ : Me) (h : Hd) (P : List D → Hd → Prop), RE K W R H Hf σ ρ h ∧ τ R.ω ρ h P ∧ ∀ J H' Hf' ds h', RE K W R H' Hf' σ ρ h' → Mo h h' H H' Hf Hf' → DIt K J Hf' ds → P ds h' → Q J H'
structure MI (X : Cx) (W : Wd) (tg iter : Expr) (τ : TMI) : Prop where
  pi : PI X tg iter (canMI X.K W τ)
section
variable {X : Cx} {W : Wd} {tg e : Expr} {τe : TM} {τs : TMA} {p pos : Pos}
theorem MI.of {iter : Expr} {τ : TMI} {t : TI} (h : PI X tg iter t) (k : ∀ (σ : St) (H Hf : Hp) (ρ : Me) (h : Hd) (R : Rg) (P : List D → Hd → Prop) (Q : It → Hp → Prop), RE X.K W R H Hf σ ρ h → τ R.ω ρ h P → (∀ J H' Hf' ds h', RE X.K W R H' Hf' σ ρ h' → Mo h h' H H' Hf Hf' → DIt X.K J Hf' ds → P ds h' → Q J H') → t σ H Q) : MI X W tg iter τ :=
  ⟨⟨fun pins s σ H Q I ⟨R, Hf, ρ, hd, P, e, q, kk⟩ => h.run pins s σ H Q I (k σ H Hf ρ hd R P Q e q kk)⟩⟩
def mSeqI (τe : TM) : TMI := fun ω ρ h P => τe ω ρ h fun r h1 => ∃ ds, itemsD r.dat = some ds ∧ P ds h1
theorem mi_seq (he : ME X W e τe) : MI X W tg e (mSeqI τe) := by
  obtain ⟨t, pe, se⟩ := he.fz
  refine MI.of (pi_seq pe) fun σ H Hf ρ h R P Q e q k => se σ H Hf ρ h R (fun d h1 => ∃ ds, itemsD d = some ds ∧ P ds h1) _ e q fun v H1 Hf1 d h1 e1 m1 r1 zz => ?_
  obtain ⟨ds, hd, p1⟩ := zz
  cases r1 <;> first | (simp [itemsD] at hd; done) | skip
  · rename_i z
    simp only [itemsD, Option.some.injEq] at hd
    subst hd
    exact .inr (.inr ⟨z, rfl, k _ H1 Hf1 _ h1 e1 m1 its_it p1⟩)
  · rename_i a ns hp
    simp only [itemsD, Option.some.injEq] at hd
    subst hd
    exact .inl ⟨a, rfl, ⟨_, sqL_same e1.hs.sub hp⟩, k _ H1 Hf1 _ h1 e1 m1 (itl_it hp (repL_ints ns)) p1⟩
  · rename_i a vs es hp rp
    simp only [itemsD, Option.some.injEq] at hd
    subst hd
    exact .inr (.inl ⟨a, rfl, ⟨_, sqT_same e1.hs.sub hp⟩, k _ H1 Hf1 _ h1 e1 m1 (itt_it hp rp) p1⟩)
  · rename_i a vs es hp rp
    simp only [itemsD, Option.some.injEq] at hd
    subst hd
    exact .inl ⟨a, rfl, ⟨_, .inl (.inl (e1.hs.sub _ _ hp))⟩, k _ H1 Hf1 _ h1 e1 m1 (itl_it (.inl (.inl hp)) rp) p1⟩
def mRng1 (τ : TMA) : TMI := fun ω ρ h P => τ ω ρ h fun ds h1 => ∃ j : Int, ds = [.int j] ∧ (-(2 ^ 62) ≤ j ∧ j < 2 ^ 62) ∧ P (rangeD 0 j.toNat) h1
def mRng2 (τ : TMA) : TMI := fun ω ρ h P => τ ω ρ h fun ds h1 => ∃ i j : Int, ds = [.int i, .int j] ∧ (-(2 ^ 62) ≤ i ∧ i < 2 ^ 62 ∧ -(2 ^ 62) ≤ j ∧ j < 2 ^ 62) ∧ P (rangeD i (j - i).toNat) h1
theorem mi_range1 {a : Expr} (hg : Gl X "range") (hm : X.mg "range" = none) (ha : MA X W [a] τs) (hs : starEach [a] X.env = [(false, eval a X.env)] := by rfl) : MI X W tg (.Call (.Name "range" p) [a] [] pos) (mRng1 τs) :=
  MI.of (pi_range1 hg hm ha.pa hs) fun σ H Hf ρ h R P Q e q k => ⟨R, Hf, ρ, h, _, e, q, fun vs H1 Hf1 ds h1 e1 m1 r1 _ ⟨j, hd, hj, p1⟩ => by
    subst hd
    cases r1 with
    | cons ra rr =>
      cases rr
      cases ra
      exact ⟨j, rfl, hj.1, hj.2, k _ H1 Hf1 _ h1 e1 m1 itr_it p1⟩⟩
theorem mi_range2 {a b : Expr} (hg : Gl X "range") (hm : X.mg "range" = none) (ha : MA X W [a, b] τs) (hs : starEach [a, b] X.env = [(false, eval a X.env), (false, eval b X.env)] := by rfl) (hs2 : starEach [b] X.env = [(false, eval b X.env)] := by rfl) : MI X W tg (.Call (.Name "range" p) [a, b] [] pos) (mRng2 τs) :=
  MI.of (pi_range2 hg hm ha.pa hs hs2) fun σ H Hf ρ h R P Q e q k => ⟨R, Hf, ρ, h, _, e, q, fun vs H1 Hf1 ds h1 e1 m1 r1 _ ⟨i, j, hd, hj, p1⟩ => by
    subst hd
    cases r1 with
    | cons ra rr =>
      cases rr with
      | cons rb rr =>
        cases rr
        cases ra
        cases rb
        exact ⟨i, j, rfl, hj, k _ H1 Hf1 _ h1 e1 m1 itr_it p1⟩⟩
end
/-! ### for -/
def loop0 (ω : Wω) (γ : TMG) (τb : TMS) (PD : MEnds) : List D → Me → Hd → Prop
  | [], ρ, h => PD.nx ρ h
  | d :: ds, ρ, h => γ d ρ fun ρ1 => τb ω { PD with nx := loop0 ω γ τb PD ds, ct := loop0 ω γ τb PD ds, bk := PD.nx } ρ1 h
@[irreducible] def loopM (ω : Wω) (γ : TMG) (τb : TMS) (PD : MEnds) (ds : List D) (ρ : Me) (h : Hd) : Prop := loop0 ω γ τb PD ds ρ h
theorem loopM_nil (ω : Wω) (γ : TMG) (τb : TMS) (PD : MEnds) (ρ : Me) (h : Hd) : loopM ω γ τb PD [] ρ h = PD.nx ρ h := by unfold loopM; rfl
theorem loopM_cons (ω : Wω) (γ : TMG) (τb : TMS) (PD : MEnds) (d : D) (ds : List D) (ρ : Me) (h : Hd) : loopM ω γ τb PD (d :: ds) ρ h = γ d ρ fun ρ1 => τb ω { PD with nx := loopM ω γ τb PD ds, ct := loopM ω γ τb PD ds, bk := PD.nx } ρ1 h := by unfold loopM; rfl
def mFor (τi : TMI) (γ : TMG) (τb : TMS) : TMS := fun ω PD ρ h => τi ω ρ h fun ds h1 => loopM ω γ τb PD ds ρ h1
/-- from here on -/
def Rg.at (R : Rg) (H Hf : Hp) (h : Hd) : Rg := ⟨H, Hf, h, R.ω⟩
theorem RE.re {K : Fg} {W : Wd} {R : Rg} {H Hf : Hp} {σ : St} {ρ : Me} {h : Hd} (e : RE K W R H Hf σ ρ h) : RE K W (R.at H Hf h) H Hf σ ρ h := ⟨fun cls d σ' H' ⟨C, fs, Hf', ρ', h', a1, a2, a3, a4, a5, a6⟩ => e.ok cls d σ' H' ⟨C, fs, Hf', ρ', h', a1, a2, a3, a4, e.mv.trans a5, a6⟩, e.gh, e.sl, e.hs, Mo.refl ..⟩
theorem RE.un {K : Fg} {W : Wd} {R : Rg} {H H1 Hf Hf1 : Hp} {σ σ1 : St} {ρ ρ1 : Me} {h h1 : Hd} (e : RE K W R H Hf σ ρ h) (e1 : RE K W (R.at H Hf h) H1 Hf1 σ1 ρ1 h1) : RE K W R H1 Hf1 σ1 ρ1 h1 := ⟨e.ok, e1.gh, e1.sl, e1.hs, e.mv.trans e1.mv⟩
theorem ms_for {X : Cx} {W : Wd} {tg iter : Expr} {body : List Stmt} {is : List Nat} {τi : TMI} {γ : TMG} {τb : TMS} {pos : Pos} (hp : PassesOwn (model X.prog X.w) X.A X.env X.xe) (hc : X.calm = true) (hi : MI X W tg iter τi) (hg : MG X tg is γ) (hb : MSs X W body τb)
    (hs : ∀ x, foldedSetIterable iter X.env x = pure x := by intro _; rfl) : MS X W (.For tg iter body [] pos) (mFor τi γ τb) := by
  refine MS.of (ps_for hp hc hi.pi hg.pg hb.pss hs) fun D σ H Hf R ρ h PD s q l => ⟨R, Hf, ρ, h, _, s, q, fun J H1 Hf1 ds h1 e1 m1 it p1 => ?_⟩
  refine ⟨fun i m σ' H' => ∃ Hf' ρ' h', RE X.K W (R.at H1 Hf1 h1) H' Hf' σ' ρ' h' ∧ loopM R.ω γ τb PD (ds.drop i) ρ' h' ∧ m = ds.length - i ∧ i ≤ ds.length, ⟨ds.length, Hf1, ρ, h1, e1.re, by rw [List.drop_zero]; exact p1, by omega, Nat.zero_le _⟩, ?_⟩
  rintro i m σ2 H2 ⟨Hf2, ρ2, h2, s2, q2, hm, hil⟩
  by_cases hlt : i < ds.length
  · have hd : ds[i]? = some ds[i] := List.getElem?_eq_getElem hlt
    obtain ⟨go, yl⟩ := it.item i ds[i] H2 Hf2 s2.hs.sub s2.mv.grow hd
    rw [List.drop_eq_getElem_cons hlt, loopM_cons] at q2
    refine .inr ⟨go, fun σ' H' => ∃ Hf' ρ' h', RE X.K W (R.at H1 Hf1 h1) H' Hf' σ' ρ' h' ∧ loopM R.ω γ τb PD (ds.drop (i + 1)) ρ' h', fun σ' H' ⟨Hf', ρ', h', a1, a2⟩ => ⟨ds.length - (i + 1), by omega, Hf', ρ', h', a1, a2, rfl, hlt⟩, fun x H3 y => ?_⟩
    obtain ⟨Hf3, x3, r3⟩ := yl x H3 y
    refine ⟨Hf3, ρ2, ds[i], _, x3.sub, s2.sl.mono x3.grow, r3, q2, fun σ4 H4 Hf4 ρ4 e4 x4 t4 p4 => ?_⟩
    have s4 : RE X.K W (R.at H1 Hf1 h1) H4 Hf4 σ4 ρ4 h2 := s2.setTo e4 (x3.trans x4)
    refine ⟨R.at H1 Hf1 h1, Hf4, ρ4, h2, _, s4, p4, ⟨fun σ5 H5 Hf5 ρ5 h5 e5 q5 => ⟨Hf5, ρ5, h5, e5, q5⟩, fun v σ5 H5 Hf5 ρ5 h5 r e5 ok q5 => l.rt v σ5 H5 Hf5 ρ5 h5 r (e1.un e5) (ok.back e1.mv.live) q5, fun σ5 H5 Hf5 ρ5 h5 e5 q5 => l.nx σ5 H5 Hf5 ρ5 h5 (e1.un e5) q5, fun σ5 H5 Hf5 ρ5 h5 e5 q5 => ⟨Hf5, ρ5, h5, e5, q5⟩⟩⟩
  · have e : i = ds.length := by omega
    subst e
    rw [List.drop_length, loopM_nil] at q2
    exact .inl ⟨it.stop _ H2 Hf2 s2.hs.sub s2.mv.grow (Nat.le_refl _), l.nx σ2 H2 Hf2 ρ2 h2 (e1.un s2) q2⟩
/-! ### defs -/
def startM (n : Nat) (ds : List D) : Me := ds.map some ++ List.replicate (n - ds.length) none
theorem startM_get {n : Nat} {ds : List D} {i : Nat} {d : D} (h : (startM n ds)[i]? = some (some d)) : ds[i]? = some d := by
  unfold startM at h
  by_cases hi : i < ds.length
  · rw [List.getElem?_append_left (by rw [List.length_map]; exact hi), List.getElem?_map] at h
    cases e : ds[i]? with
    | none => rw [e] at h; cases h
    | some d => rw [e] at h; cases h; rfl
  · rw [List.getElem?_append_right (by rw [List.length_map]; omega), List.getElem?_replicate] at h
    split at h <;> cases h
section
variable {P : Program} {w : World} {K : Fg} {mg : Str → Option Value} {base : Heap} {x qual : Str} {st : Stmt} {f : Addr} {fd : FuncData} {N ps : List Str} {k : Nat}
/-- THE RULE for a def -/
theorem okM {g : FM} {τ : TMS} (F : Fun K x qual st f fd) (S : FnScope N ps (defScope st)) (hps : ps.length ≤ N.length)
    (hb : ∀ (cdv : Value) (A : Around) (outer : List Env) (s : Shared) (H : Hp) (E : XK), Room k (A.deeper (PyProof.Rows.envOfC qual (defScope st) s.heap.objs.size f cdv)) → Takes (cxOf (L2.CX P w) P w K mg base N qual (defScope st) f cdv A outer s H E) (fun cls d _ H => E cls d H) →
      PassesOwn (model P w) (cxOf (L2.CX P w) P w K mg base N qual (defScope st) f cdv A outer s H E).A (cxOf (L2.CX P w) P w K mg base N qual (defScope st) f cdv A outer s H E).env (cxOf (L2.CX P w) P w K mg base N qual (defScope st) f cdv A outer s H E).xe →
      MSs (cxOf (L2.CX P w) P w K mg base N qual (defScope st) f cdv A outer s H E) (wd fun cls d _ H => E cls d H) (defBody st) τ)
    (hq : ∀ ds h Q E, ds.length = ps.length → g ds h Q E → τ (fun x _ h => E x h) { nx := fun _ h => Q (.fz .non) h, rt := fun r h => Q r h } (startM N.length ds) h) : FnOk P w K mg base (L2.CX P w) (k + 1) f fd ps (spM K ps.length g) := by
  refine F.okX S (fun vs H Q E h => ?_) (fun cdv A outer s H vs Q E hr h => ?_)
  · obtain ⟨Hf, h, ds, P, PE, _, r, hl, _⟩ := h
    exact r.length.trans hl
  obtain ⟨Hf, h, ds, PQ, PX, hs, r, hl, hg, kk, kx⟩ := h
  have hvl := r.length
  refine ⟨_, (hb cdv A outer s H E hr (takes_of rfl rfl rfl rfl) (passes_of rfl)).pss, ⟨⟨H, Hf, h, fun x _ h => PX x h⟩, Hf, startM N.length ds, h, _, ⟨?_, trivial, ⟨fun i d q => ?_, ?_⟩, hs, Mo.refl ..⟩, hq ds h PQ PX hl hg, ?_⟩⟩
  · rintro cls d σ H' ⟨C, fs, Hf', ρ', h', rfl, a2, a3, a4, a5, a6⟩
    exact kx C d fs H' Hf' h' a4 a5 a2 a6
  · obtain ⟨v, h2, h3⟩ := r.get (startM_get q)
    exact ⟨v, start_get h2, h3⟩
  · rw [start_len N vs (by omega)]
    unfold startM
    rw [List.length_append, List.length_map, List.length_replicate]
    omega
  · exact ⟨fun σ H1 Hf1 ρ h1 e q => kk .non H1 Hf1 (.fz .non) h1 e.hs e.mv Rep.non q, fun v σ H1 Hf1 ρ h1 r1 e ok q => kk v H1 Hf1 r1 h1 e.hs e.mv ok q, fun _ _ _ _ _ _ z => z.elim, fun _ _ _ _ _ _ z => z.elim⟩
end
end ML
/-! The second data layer, 6: comprehensions; methods of lists and texts. -/
namespace ML
open PySem L2 DL
/-- nothing is let out -/
abbrev WF : Wd := wd fun _ _ _ _ => False
abbrev ωF : Wω := fun _ _ _ => False
structure MTs (X : Cx) (W : Wd) (ifs : List Expr) (τ : TMT) : Prop where
  pts : PTs X ifs (canMT X.K W τ)
def mYes : TMT := fun _ _ h P => P true h
theorem mts_nil {X : Cx} {W : Wd} : MTs X W [] mYes := ⟨⟨fun pins s σ H Q I ⟨R, Hf, ρ, hd, P, e, q, k⟩ => pts_nil.run pins s σ H Q I (k true H Hf hd e (Mo.refl ..) q)⟩⟩
theorem mts_one {X : Cx} {W : Wd} {c : Expr} {τ : TMT} (h : MT X W c τ) : MTs X W [c] τ := ⟨pts_one h.pt⟩
def wipeM (ρ : Me) : List Nat → Me
  | [] => ρ
  | v :: vs => (wipeM ρ vs).set v none
theorem wipeM_len (ρ : Me) : ∀ vs, (wipeM ρ vs).length = ρ.length
  | [] => rfl
  | v :: vs => by unfold wipeM; rw [List.length_set, wipeM_len ρ vs]
theorem wipeM_get (ρ : Me) {i : Nat} {d : D} : ∀ {vs : List Nat}, (wipeM ρ vs)[i]? = some (some d) → i ∉ vs ∧ ρ[i]? = some (some d)
  | [], q => ⟨(fun h => nomatch h), q⟩
  | v :: vs, q => by
    unfold wipeM at q
    rw [set_getM] at q
    by_cases hv : v = i
    · rw [if_pos hv] at q
      split at q <;> cases q
    · rw [if_neg hv] at q
      obtain ⟨h1, h2⟩ := wipeM_get ρ q
      exact ⟨fun h => by rcases List.mem_cons.mp h with e | e; exact hv e.symm; exact h1 e, h2⟩
theorem Sd.wipe {K : Fg} {Hf : Hp} {σ : St} {ρ : Me} (s : Sd K Hf σ ρ) (vs : List Nat) : Sd K Hf (L2.wipe σ vs) (wipeM ρ vs) := ⟨fun i d q => by
  obtain ⟨h1, h2⟩ := wipeM_get ρ q
  rw [wipe_out σ h1]
  exact s.at_ i d h2, by rw [wipe_length, wipeM_len]; exact s.len⟩
def lc0 (γ : TMG) (τt : TMT) (τe : TM) (ρ : Me) (P : List D → Hd → Prop) : List D → Hd → List D → Prop
  | [], h, acc => P acc h
  | d :: ds, h, acc => γ d ρ fun ρ1 => τt ωF ρ1 h fun b h1 => if b = true then τe ωF ρ1 h1 fun r h2 => acc.length < 16000 ∧ lc0 γ τt τe ρ P ds h2 (acc ++ [r.dat]) else lc0 γ τt τe ρ P ds h1 acc
@[irreducible] def lcM (γ : TMG) (τt : TMT) (τe : TM) (ρ : Me) (P : List D → Hd → Prop) (ds : List D) (h : Hd) (acc : List D) : Prop := lc0 γ τt τe ρ P ds h acc
theorem lcM_nil (γ : TMG) (τt : TMT) (τe : TM) (ρ : Me) (P : List D → Hd → Prop) (h : Hd) (acc : List D) : lcM γ τt τe ρ P [] h acc = P acc h := by unfold lcM; rfl
theorem lcM_cons (γ : TMG) (τt : TMT) (τe : TM) (ρ : Me) (P : List D → Hd → Prop) (d : D) (ds : List D) (h : Hd) (acc : List D) : lcM γ τt τe ρ P (d :: ds) h acc = γ d ρ fun ρ1 => τt ωF ρ1 h fun b h1 => if b = true then τe ωF ρ1 h1 fun r h2 => acc.length < 16000 ∧ lcM γ τt τe ρ P ds h2 (acc ++ [r.dat]) else lcM γ τt τe ρ P ds h1 acc := by unfold lcM; rfl
def mLc (τi : TMI) (γ : TMG) (τt : TMT) (τe : TM) (vs : List Nat) : TM := fun ω ρ h P => τi ω ρ h fun ds h1 => lcM γ τt τe (wipeM ρ vs) (fun acc h2 => P (.fr acc) h2) ds h1 []
theorem Mo.apart {h h1 : Hd} {H H1 Hf Hf1 : Hp} (m : Mo h h1 H H1 Hf Hf1) {n : Addr} {o : HO} (q1 : H n = some o) (q2 : Hf n = none) (q3 : h n = none) : H1 n = some o ∧ Hf1 n = none ∧ h1 n = none := by
  refine ⟨m.keep n o q1 q3, ?_, ?_⟩
  · cases e : Hf1 n with
    | none => rfl
    | some u =>
      rcases m.new n u e with e | e | ⟨u', e⟩
      · rw [q2] at e; cases e
      · rw [q1] at e; cases e
      · rw [q3] at e; cases e
  · cases e : h1 n with
    | none => rfl
    | some u =>
      rcases m.own n u e with ⟨u', e⟩ | e
      · rw [q3] at e; cases e
      · rw [q1] at e; cases e
theorem Hs.aside {K : Fg} {H Hf : Hp} {h : Hd} (s : Hs K H Hf h) {n : Addr} {u : HO} (q2 : Hf n = none) (q3 : h n = none) : Hs K (L2.upd H n u) Hf h := ⟨fun b o q => by rw [upd_ne (ne_of_none q q2)]; exact s.sub b o q, fun b o q => by
  have hb : b ≠ n := hd_ne q q3
  obtain ⟨z1, z2⟩ := s.hp b o q
  exact ⟨z1, z2.mono (fun w hw => by rw [upd_ne hb]; exact hw) fun _ _ w => w⟩⟩
section
variable {X : Cx} {W : Wd} {pos : Pos}
theorem lc_readingM {K : Fg} {vs is : List Nat} {τi : TMI} {γ : TMG} {τt : TMT} {τe : TM} (hv : ∀ i ∈ is, i ∈ vs) : SndE K W (tLc (canMI K W τi) (canMG K is γ) (canMT K WF τt) (canM K WF τe) vs) (mLc τi γ τt τe vs) := fun σ H Hf ρ h R P Q e q k => by
  refine ⟨R, Hf, ρ, h, _, e, q, fun J H1 Hf1 ds h1 e1 m1 it p1 n hn => ?_⟩
  have x0 := Ext.add' e1.hs.sub (.lst []) hn
  let R' : Rg := ⟨H1, Hf1, h1, ωF⟩
  have okF : ∀ cls d σ H, wishM K R' cls d σ H → WF.x cls d σ H := fun cls d σ H ⟨_, _, _, _, _, _, _, _, _, _, z⟩ => z
  refine ⟨fun i m H' => ∃ Hf' h' accV acc, Hs K H' Hf' h' ∧ Mo h1 h' H1 H' Hf1 Hf' ∧ H' n = some (.lst accV) ∧ Hf' n = none ∧ h' n = none ∧ RepL K Hf' accV acc ∧ lcM γ τt τe (wipeM ρ vs) (fun acc h2 => P (.fr acc) h2) (ds.drop i) h' acc ∧ m = ds.length - i ∧ i ≤ ds.length,
    ⟨ds.length, Hf1, h1, [], [], e1.hs.ext x0, Mo.ext x0, upd_same, e1.hs.freeF hn, e1.hs.free hn, .nil, by rw [List.drop_zero]; exact p1, by omega, Nat.zero_le _⟩, ?_⟩
  rintro i m H2 ⟨Hf2, h2, accV, acc, s2, m2, hD, fD, oD, rD, q2, hm, hil⟩
  by_cases hlt : i < ds.length
  · have hd : ds[i]? = some ds[i] := List.getElem?_eq_getElem hlt
    obtain ⟨go, yl⟩ := it.item i ds[i] H2 Hf2 s2.sub m2.grow hd
    rw [List.drop_eq_getElem_cons hlt, lcM_cons] at q2
    refine .inr ⟨go, fun H' => ∃ Hf' h' accV acc, Hs K H' Hf' h' ∧ Mo h1 h' H1 H' Hf1 Hf' ∧ H' n = some (.lst accV) ∧ Hf' n = none ∧ h' n = none ∧ RepL K Hf' accV acc ∧ lcM γ τt τe (wipeM ρ vs) (fun acc h2 => P (.fr acc) h2) (ds.drop (i + 1)) h' acc, fun H' ⟨a1, a2, a3, a4, b1, b2, b3, b4, b5, b6, b7⟩ => ⟨ds.length - (i + 1), by omega, a1, a2, a3, a4, b1, b2, b3, b4, b5, b6, b7, rfl, hlt⟩, fun x H3 y => ?_⟩
    obtain ⟨Hf3, x3, r3⟩ := yl x H3 y
    refine ⟨Hf3, wipeM ρ vs, ds[i], _, x3.sub, ((e1.sl.mono m2.grow).mono x3.grow).wipe vs, r3, q2, fun σ4 H4 Hf4 ρ4 e4 x4 t4 p4 => ?_⟩
    refine ⟨wipe_eq (by rw [t4.len, wipe_length]) fun j hj => ((t4.sl j fun z => hj (hv j z)).1).trans (wipe_out σ hj), ?_⟩
    have x34 := x3.trans x4
    have s4 := s2.ext x34
    have m4 : Mo h1 h2 H1 H4 Hf1 Hf4 := m2.trans (Mo.ext x34)
    obtain ⟨d4, f4, o4⟩ := (Mo.ext (h := h2) x34).apart hD fD oD
    refine ⟨R', Hf4, ρ4, h2, _, ⟨okF, trivial, e4, s4, m4⟩, p4, fun b H5 Hf5 h5 e5 m5 p5 => ?_⟩
    obtain ⟨d5, f5, o5⟩ := m5.apart d4 f4 o4
    cases b with
    | false => exact ⟨Hf5, h5, accV, acc, e5.hs, m4.trans m5, d5, f5, o5, rD.mono fun b o z => m5.grow b o (x34.grow b o z), p5⟩
    | true =>
      refine ⟨R', Hf5, ρ4, h5, _, e5, p5, fun y H6 Hf6 r h6 e6 m6 r6 ⟨hz, p6⟩ => ?_⟩
      obtain ⟨Hf7, s7, m7, r7⟩ := r6.freeze e6.hs m6
      obtain ⟨d7, f7, o7⟩ := m7.apart d5 f5 o5
      have rD7 : RepL K Hf7 accV acc := rD.mono fun b o z => m7.grow b o (m5.grow b o (x34.grow b o z))
      refine ⟨accV, d7, by rw [rD7.length]; exact Nat.lt_of_lt_of_le hz (by decide), ?_⟩
      have m8 := (m4.trans m5).trans m7
      refine ⟨Hf7, h6, accV ++ [y], acc ++ [r.dat], s7.aside f7 o7, ⟨fun b o z hb => ?_, fun b z => ?_, m8.grow, m8.new, m8.own⟩, upd_same, f7, o7, rD7.append (.cons r7 .nil), p6⟩
      · rw [upd_ne (ne_of_none z hn)]
        exact m8.keep b o z hb
      · by_cases hb : b = n
        · subst hb; exact hn
        · rw [upd_ne hb] at z; exact m8.live b z
  · have ei : i = ds.length := by omega
    subst ei
    rw [List.drop_length, lcM_nil] at q2
    exact .inl ⟨it.stop _ H2 Hf2 s2.sub m2.grow (Nat.le_refl _), k _ H2 Hf2 (.fr acc) h2 (e1.step s2 m2) (m1.trans m2) ⟨n, accV, rfl, hD, fD, oD, m1.live n hn, rD⟩ q2⟩
/-- [e for x in xs if c] -/
theorem me_lc {elt tg iter : Expr} {ifs : List Expr} {scope : Scope} {own : List (Str × Nat)} {is : List Nat} {τi : TMI} {γ : TMG} {τt : TMT} {τe : TM} (hc : X.calm = true) (hN : X.N.Nodup) (hi : MI X W tg iter τi) (ok : BlkOk X.N X.env.scope scope own)
    (hg : ∀ (s : Shared) (H : Hp) (C : Addr) (cl : List (Str × Addr)) (fp : List Addr), MG (X.blk s H scope (compEnvC scope cl C X.env) fp) tg is γ) (ht : ∀ (s : Shared) (H : Hp) (C : Addr) (cl : List (Str × Addr)) (fp : List Addr), MTs (X.blk s H scope (compEnvC scope cl C X.env) fp) WF ifs τt)
    (he : ∀ (s : Shared) (H : Hp) (C : Addr) (cl : List (Str × Addr)) (fp : List Addr), ME (X.blk s H scope (compEnvC scope cl C X.env) fp) WF elt τe) (hv : ∀ i ∈ is, i ∈ own.map (·.2) := by decide) (hs : ∀ x, foldedSetIterable iter X.env x = pure x := by intro _; rfl) :
    ME X W (.ListComp elt [⟨tg, iter, ifs, 0⟩] scope pos) (mLc τi γ τt τe (own.map (·.2))) :=
  ME.of (pe_lc hc hN hi.pi ok (fun s H C cl fp => (hg s H C cl fp).pg) (fun s H C cl fp => (ht s H C cl fp).pts) (fun s H C cl fp => (he s H C cl fp).pe) hs) (lc_readingM hv)
/-- y = [e for x in xs if c], frozen -/
theorem ms_setLc {i : Nat} {y : Str} {py : Pos} {elt tg iter : Expr} {ifs : List Expr} {scope : Scope} {own : List (Str × Nat)} {is : List Nat} {spos : Pos} {τi : TMI} {γ : TMG} {τt : TMT} {τe : TM} (hc : X.calm = true) (hN : X.N.Nodup) (hy : X.N[i]? = some y) (hyl : X.env.scope.names.lookup y = some .local)
    (hsw : swapsWith (.ListComp elt [⟨tg, iter, ifs, 0⟩] scope pos) (some (.Name y py)) spos.line X.env = pure true) (hi : MI X W tg iter τi) (ok : BlkOk X.N X.env.scope scope own)
    (hg : ∀ (s : Shared) (H : Hp) (C : Addr) (cl : List (Str × Addr)) (fp : List Addr), MG (X.blk s H scope (compEnvC scope cl C X.env) fp) tg is γ) (ht : ∀ (s : Shared) (H : Hp) (C : Addr) (cl : List (Str × Addr)) (fp : List Addr), MTs (X.blk s H scope (compEnvC scope cl C X.env) fp) WF ifs τt)
    (he : ∀ (s : Shared) (H : Hp) (C : Addr) (cl : List (Str × Addr)) (fp : List Addr), ME (X.blk s H scope (compEnvC scope cl C X.env) fp) WF elt τe) (hv : ∀ i ∈ is, i ∈ own.map (·.2) := by decide) (hs : ∀ x, foldedSetIterable iter X.env x = pure x := by intro _; rfl) :
    MS X W (.Assign [.Name y py] (.ListComp elt [⟨tg, iter, ifs, 0⟩] scope pos) spos) (mSet i (mLc τi γ τt τe (own.map (·.2)))) :=
  MS.of (ps_setLc hc hN hy hyl hsw hi.pi ok (fun s H C cl fp => (hg s H C cl fp).pg) (fun s H C cl fp => (ht s H C cl fp).pts) (fun s H C cl fp => (he s H C cl fp).pe) hs) fun D σ H Hf R ρ h PD s q l =>
    (lc_readingM hv).fz σ H Hf ρ h R (fun d h1 => PD.nx (ρ.set i (some d)) h1) _ s q fun v H1 Hf1 d h1 e1 m1 r1 p1 => l.nx _ H1 Hf1 _ h1 (e1.set i r1) p1
/-- .. one's own -/
theorem ms_setLcO {i : Nat} {y : Str} {py : Pos} {elt tg iter : Expr} {ifs : List Expr} {scope : Scope} {own : List (Str × Nat)} {is : List Nat} {spos : Pos} {τi : TMI} {γ : TMG} {τt : TMT} {τe : TM} (hc : X.calm = true) (hN : X.N.Nodup) (hy : X.N[i]? = some y) (hyl : X.env.scope.names.lookup y = some .local)
    (hsw : swapsWith (.ListComp elt [⟨tg, iter, ifs, 0⟩] scope pos) (some (.Name y py)) spos.line X.env = pure true) (hi : MI X W tg iter τi) (ok : BlkOk X.N X.env.scope scope own)
    (hg : ∀ (s : Shared) (H : Hp) (C : Addr) (cl : List (Str × Addr)) (fp : List Addr), MG (X.blk s H scope (compEnvC scope cl C X.env) fp) tg is γ) (ht : ∀ (s : Shared) (H : Hp) (C : Addr) (cl : List (Str × Addr)) (fp : List Addr), MTs (X.blk s H scope (compEnvC scope cl C X.env) fp) WF ifs τt)
    (he : ∀ (s : Shared) (H : Hp) (C : Addr) (cl : List (Str × Addr)) (fp : List Addr), ME (X.blk s H scope (compEnvC scope cl C X.env) fp) WF elt τe) (hv : ∀ i ∈ is, i ∈ own.map (·.2) := by decide) (hs : ∀ x, foldedSetIterable iter X.env x = pure x := by intro _; rfl) :
    MS X W (.Assign [.Name y py] (.ListComp elt [⟨tg, iter, ifs, 0⟩] scope pos) spos) (mSet i (mOwn (mLc τi γ τt τe (own.map (·.2))))) :=
  MS.of (ps_setLc hc hN hy hyl hsw hi.pi ok (fun s H C cl fp => (hg s H C cl fp).pg) (fun s H C cl fp => (ht s H C cl fp).pts) (fun s H C cl fp => (he s H C cl fp).pe) hs) fun D σ H Hf R ρ h PD s q l =>
    (lc_readingM hv) σ H Hf ρ h R (fun r h1 => ∃ xs, r = .fr xs ∧ ∀ a, h1 a = none → PD.nx (ρ.set i (some (.raw (.ref a)))) (put h1 a (.lst xs))) _ s q fun v H1 Hf1 r h1 e1 m1 r1 ⟨xs, hr, p1⟩ => by
      subst hr
      obtain ⟨a, ev, n1, n2, s2, m2⟩ := r1.take e1.hs m1
      subst ev
      exact l.nx _ H1 Hf1 _ _ ((s.step s2 m2).set i (Rep.raw _)) (p1 a n1)
end
/-! ### methods of lists of one's own -/
section
variable {X : Cx} {W : Wd} {pos apos : Pos} {o e : Expr} {es : List Expr} {τo τe : TM} {τs : TMA}
def mApp (τo : TM) (τs : TMA) : TM := fun ω ρ h P => τo ω ρ h fun x h1 => ∃ a ys, x.dat = .raw (.ref a) ∧ h1 a = some (.lst ys) ∧ τs ω ρ h1 fun ds h2 => ∃ xs d, h2 a = some (.lst xs) ∧ ds = [d] ∧ xs.length < 16000 ∧ P (.fz .non) (put h2 a (.lst (xs ++ [d])))
theorem me_app (ho : ME X W o τo) (ha : MA X W [e] τs) (he : starEach [e] X.env = (false, eval e X.env) :: starEach [] X.env := by rfl) (hbase : attributeBase o "append" X.env (eval o X.env) = eval o X.env := by rfl)
    (hfew : ((backTo pos (starEach [e] X.env)).all (fun x => !x.1) && (backToKw pos (keywordEach [] X.env)).all (fun x => x.1.isSome) && decide ([e].length + ([] : List Keyword).length + (if ([] : List Keyword).isEmpty then 0 else 1) < 30)) = true := by rfl) (hline : (apos.endLine == pos.line) = true := by rfl) :
    ME X W (.Call (.Attribute o "append" apos) [e] [] pos) (mApp τo τs) := by
  obtain ⟨t, po, so⟩ := ho.fz
  refine ME.of (pe_bm PySem.F.plainAttrs_list PySem.F.slot_list_append PySem.F.type_list_append mt_append po ha.pa hbase hfew hline he rfl) fun σ H Hf ρ h R P Q e q k => ?_
  refine so σ H Hf ρ h R (fun x h1 => ∃ a ys, x = .raw (.ref a) ∧ h1 a = some (.lst ys) ∧ τs R.ω ρ h1 fun ds h2 => ∃ xs d, h2 a = some (.lst xs) ∧ ds = [d] ∧ xs.length < 16000 ∧ P (.fz .non) (put h2 a (.lst (xs ++ [d])))) _ e q fun x H1 Hf1 dx h1 e1 m1 r1 ⟨a, ys, g1, g2, q1⟩ => ?_
  subst g1
  cases r1
  obtain ⟨z0, zs, z1, z2⟩ := e1.hs.hp a _ g2
  refine ⟨.inl ⟨rfl, zs, .inl (.inl z1)⟩, R, Hf1, ρ, h1, _, e1, q1, fun vs H2 Hf2 ds h2 e2 m2 r2 _ ⟨xs, d, k1, k2, k3, k4⟩ => ?_⟩
  subst k2
  cases r2 with
  | @cons v _ _ _ ra rr =>
    cases rr
    obtain ⟨y0, us, y1, y2⟩ := e2.hs.hp a _ k1
    have s3 := e2.hs.upd (a := a) (o := .lst (xs ++ [d])) (u := .lst (us ++ [v])) (.inl ⟨_, k1⟩) fun H' hq => ⟨_, hq, y2.append (.cons ra .nil)⟩
    have m3 := Mo.upd (h := h2) (H := H2) (Hf := Hf2) (a := a) (o := .lst (xs ++ [d])) (u := .lst (us ++ [v])) (.inl ⟨_, k1⟩)
    exact ⟨a, us, _, rfl, rfl, y1, by rw [y2.length]; exact Nat.lt_of_lt_of_le k3 (by decide), k .non _ Hf2 (.fz .non) _ (e2.step s3 m3) ((m1.trans m2).trans m3) Rep.non k4⟩
/-- o.pop() -/
def mPop (τo : TM) : TM := fun ω ρ h P => τo ω ρ h fun x h1 => ∃ a xs d, x.dat = .raw (.ref a) ∧ h1 a = some (.lst (xs ++ [d])) ∧ P (.fz d) (put h1 a (.lst xs))
theorem me_pop (ho : ME X W o τo) (hbase : attributeBase o "pop" X.env (eval o X.env) = eval o X.env := by rfl) (hline : (apos.endLine == pos.line) = true := by rfl) : ME X W (.Call (.Attribute o "pop" apos) [] [] pos) (mPop τo) := by
  obtain ⟨t, po, so⟩ := ho.fz
  refine ME.of (pe_bm0 PySem.F.plainAttrs_list PySem.F.slot_list_pop PySem.F.type_list_pop mt_pop po hbase hline) fun σ H Hf ρ h R P Q e q k => ?_
  refine so σ H Hf ρ h R (fun x h1 => ∃ a xs d, x = .raw (.ref a) ∧ h1 a = some (.lst (xs ++ [d])) ∧ P (.fz d) (put h1 a (.lst xs))) _ e q fun x H1 Hf1 dx h1 e1 m1 r1 ⟨a, xs, d, g1, g2, q1⟩ => ?_
  subst g1
  cases r1
  obtain ⟨z0, zs, z1, z2⟩ := e1.hs.hp a _ g2
  obtain ⟨us, ws, rfl, r3, r4⟩ := z2.split
  cases r4 with
  | @cons v _ _ _ rv rr =>
    cases rr
    have s3 := e1.hs.upd (a := a) (o := .lst xs) (u := .lst us) (.inl ⟨_, g2⟩) fun H' hq => ⟨_, hq, r3⟩
    have m3 := Mo.upd (h := h1) (H := H1) (Hf := Hf1) (a := a) (o := .lst xs) (u := .lst us) (.inl ⟨_, g2⟩)
    refine ⟨.inl ⟨rfl, _, .inl (.inl z1)⟩, a, us ++ [v], v, rfl, rfl, z1, by simp, ?_⟩
    rw [List.dropLast_concat]
    exact k v _ Hf1 (.fz d) _ (e1.step s3 m3) (m1.trans m3) rv q1
/-! ### methods of texts, of lists that stay -/
def MtD (K : Fg) (T : String) (r : V → List V → Hp → VK → Prop) (g : D → List D → Option Res) (ok : D → Prop) : Prop := (∀ H Hf x d, (∀ b o, Hf b = some o → H b = some o) → ok d → Rep K Hf x d → tyV K T x H) ∧
  ∀ (H Hf : Hp) (x : V) (xs : List V) (d : D) (ds : List D) (c : Res) (Q : VK), (∀ b o, Hf b = some o → H b = some o) → Rep K Hf x d → RepL K Hf xs ds → g d ds = some c → (∀ v H' Hf', Ext H H' Hf Hf' → ResOk K H H' Hf' v c → Q v H') → r x xs H Q
def mMt (g : D → List D → Option Res) (ok : D → Prop) (τo : TM) (τs : TMA) : TM := fun ω ρ h P => τo ω ρ h fun x h1 => ok x.dat ∧ τs ω ρ h1 fun ds h2 => ∃ c, g x.dat ds = some c ∧ P c h2
theorem me_mt {T id : String} {name : Str} {r : V → List V → Hp → VK → Prop} {g : D → List D → Option Res} {ok : D → Prop} (pa : PlainAttrs T) (slot : Slot T name id) (hty : typeOf (.builtin id) = pure (.type "method_descriptor")) (hm : MtR X id r) (hd : MtD X.K T r g ok) (ho : ME X W o τo) (ha : MA X W (e :: es) τs)
    (he : starEach (e :: es) X.env = (false, eval e X.env) :: starEach es X.env := by rfl) (hbase : attributeBase o name X.env (eval o X.env) = eval o X.env := by rfl)
    (hfew : ((backTo pos (starEach (e :: es) X.env)).all (fun x => !x.1) && (backToKw pos (keywordEach [] X.env)).all (fun x => x.1.isSome) && decide ((e :: es).length + ([] : List Keyword).length + (if ([] : List Keyword).isEmpty then 0 else 1) < 30)) = true := by rfl) (hline : (apos.endLine == pos.line) = true := by rfl) (hpl : (backTo pos (starEach es X.env)).any (·.1) = false := by rfl) :
    ME X W (.Call (.Attribute o name apos) (e :: es) [] pos) (mMt g ok τo τs) := by
  obtain ⟨t, po, so⟩ := ho.fz
  refine ME.of (pe_bm pa slot hty hm po ha.pa hbase hfew hline he hpl) fun σ H Hf ρ h R P Q e q k => ?_
  refine so σ H Hf ρ h R (fun x h1 => ok x ∧ τs R.ω ρ h1 fun ds h2 => ∃ c, g x ds = some c ∧ P c h2) _ e q fun x H1 Hf1 dx h1 e1 m1 r1 ⟨g1, q1⟩ => ?_
  refine ⟨hd.1 H1 Hf1 x dx e1.hs.sub g1 r1, R, Hf1, ρ, h1, _, e1, q1, fun vs H2 Hf2 ds h2 e2 m2 r2 _ ⟨c, hc, p⟩ => ?_⟩
  have m := m1.trans m2
  exact hd.2 H2 Hf2 x vs dx ds c Q e2.hs.sub (r1.mono m2.grow) r2 hc fun v H3 Hf3 x3 ok => k v H3 Hf3 c h2 (e2.ext x3) (m.trans (Mo.ext x3)) ((RO.of e2.hs x3 ok).back m.live) p
def isS (d : D) : Prop := ∃ z, d = .str z
theorem isS_ty {K : Fg} {H Hf : Hp} {x : V} {d : D} (h : isS d) (r : Rep K Hf x d) : tyV K "str" x H := by
  obtain ⟨z, rfl⟩ := h
  cases r
  rfl
/-- a text's method with one text: by a rule that gives a datum -/
theorem mtD_s1 {K : Fg} {g : Str → Str → Option D} (hg : ∀ a b d, g a b = some d → d.flat = true) {r : V → List V → Hp → VK → Prop} (hr : ∀ a b d v H (Q : VK), g a b = some d → (∀ Hf, Rep K Hf v d) → Q v H → r (.str a) [.str b] H Q)
    (hv : ∀ d : D, d.flat = true → ∃ v, ∀ Hf, Rep K Hf v d) : MtD K "str" r (fun d ds => match d, ds with | .str a, [.str b] => (g a b).map .fz | _, _ => none) isS := by
  refine ⟨fun H Hf x d _ h r => isS_ty h r, fun H Hf x xs d ds c Q sub rx rs hc k => ?_⟩
  match d, ds, hc with
  | .str a, [.str b], hc =>
    cases rx
    cases rs with
    | cons rb rr =>
      cases rr
      cases rb
      cases e : g a b with
      | none => simp [e] at hc
      | some d =>
        simp only [e, Option.map_some, Option.some.injEq] at hc
        subst hc
        obtain ⟨v, hv⟩ := hv d (hg a b d e)
        exact hr a b d v H Q e hv (k v H Hf (Ext.refl sub) (hv _))
theorem flat_rep {K : Fg} (d : D) (h : d.flat = true) : ∃ v, ∀ Hf, Rep K Hf v d := by
  cases d with
  | non => exact ⟨.non, fun _ => .non⟩
  | bl b => exact ⟨.bl b, fun _ => .bl b⟩
  | int i => exact ⟨.int i, fun _ => .int i⟩
  | str z => exact ⟨.str z, fun _ => .str z⟩
  | _ => simp [D.flat] at h
def indexS (a b : Str) : Option D := match Builtin.Str.occurrences a b 0 a.length 1 with
  | i :: _ => some (.int (i : Nat))
  | [] => none
def findS (a b : Str) : Option D := some (.int (Txt.find a b))
def countS (a b : Str) : Option D := some (.int (Txt.count a b))
def s1D (g : Str → Str → Option D) : D → List D → Option Res := fun d ds => match d, ds with | .str a, [.str b] => (g a b).map .fz | _, _ => none
theorem me_sindex (ho : ME X W o τo) (ha : MA X W [e] τs) (he : starEach [e] X.env = (false, eval e X.env) :: starEach [] X.env := by rfl) (hbase : attributeBase o "index" X.env (eval o X.env) = eval o X.env := by rfl)
    (hfew : ((backTo pos (starEach [e] X.env)).all (fun x => !x.1) && (backToKw pos (keywordEach [] X.env)).all (fun x => x.1.isSome) && decide ([e].length + ([] : List Keyword).length + (if ([] : List Keyword).isEmpty then 0 else 1) < 30)) = true := by rfl) (hline : (apos.endLine == pos.line) = true := by rfl) :
    ME X W (.Call (.Attribute o "index" apos) [e] [] pos) (mMt (s1D indexS) isS τo τs) :=
  me_mt PySem.F.plainAttrs_str PySem.F.slot_str_index PySem.F.type_str_index mt_sindex (mtD_s1 (fun a b d h => by unfold indexS at h; split at h <;> cases h; rfl) (fun a b d v H Q h hv q => by
    unfold indexS at h
    split at h
    · rename_i i rest ho
      cases h
      have := hv (fun _ => none)
      cases this
      exact ⟨a, b, i, rest, rfl, rfl, ho, q⟩
    · cases h) flat_rep) ho ha he hbase hfew hline
theorem me_find (ho : ME X W o τo) (ha : MA X W [e] τs) (he : starEach [e] X.env = (false, eval e X.env) :: starEach [] X.env := by rfl) (hbase : attributeBase o "find" X.env (eval o X.env) = eval o X.env := by rfl)
    (hfew : ((backTo pos (starEach [e] X.env)).all (fun x => !x.1) && (backToKw pos (keywordEach [] X.env)).all (fun x => x.1.isSome) && decide ([e].length + ([] : List Keyword).length + (if ([] : List Keyword).isEmpty then 0 else 1) < 30)) = true := by rfl) (hline : (apos.endLine == pos.line) = true := by rfl) :
    ME X W (.Call (.Attribute o "find" apos) [e] [] pos) (mMt (s1D findS) isS τo τs) :=
  me_mt PySem.F.plainAttrs_str PySem.F.slot_str_find PySem.F.type_str_find mt_find (mtD_s1 (fun a b d h => by cases h; rfl) (fun a b d v H Q h hv q => by
    cases h
    have := hv (fun _ => none)
    cases this
    exact ⟨a, b, rfl, rfl, q⟩) flat_rep) ho ha he hbase hfew hline
theorem me_count (ho : ME X W o τo) (ha : MA X W [e] τs) (he : starEach [e] X.env = (false, eval e X.env) :: starEach [] X.env := by rfl) (hbase : attributeBase o "count" X.env (eval o X.env) = eval o X.env := by rfl)
    (hfew : ((backTo pos (starEach [e] X.env)).all (fun x => !x.1) && (backToKw pos (keywordEach [] X.env)).all (fun x => x.1.isSome) && decide ([e].length + ([] : List Keyword).length + (if ([] : List Keyword).isEmpty then 0 else 1) < 30)) = true := by rfl) (hline : (apos.endLine == pos.line) = true := by rfl) :
    ME X W (.Call (.Attribute o "count" apos) [e] [] pos) (mMt (s1D countS) isS τo τs) :=
  me_mt PySem.F.plainAttrs_str PySem.F.slot_str_count PySem.F.type_str_count mt_count (mtD_s1 (fun a b d h => by cases h; rfl) (fun a b d v H Q h hv q => by
    cases h
    have := hv (fun _ => none)
    cases this
    exact ⟨a, b, rfl, rfl, q⟩) flat_rep) ho ha he hbase hfew hline
/-- sep.join(xs) -/
def join1D : D → List D → Option Res := fun d ds => match ds with | [x] => joinD d x | _ => none
theorem mtD_join {K : Fg} : MtD K "str" (fun x xs H Q => ∃ a p, ∃ ys : List Str, x = .str a ∧ xs = [.ref p] ∧ (SqL K H p (ys.map V.str) ∨ SqT K H p (ys.map V.str)) ∧ (ys.map (·.length)).sum + ys.length * a.length ≤ 16777216 ∧ Q (.str (Txt.join a ys)) H) join1D isS := by
  refine ⟨fun H Hf x d _ h r => isS_ty h r, fun H Hf x xs d ds c Q sub rx rs hc k => ?_⟩
  match ds, hc with
  | [y], hc =>
    cases rs with
    | cons rb rr =>
      cases rr
      cases rx <;> first | (simp [join1D, joinD] at hc; done) | skip
      cases rb <;> first | (simp [join1D, joinD] at hc; done) | skip
      all_goals
        rename_i z p vs es hp rp
        simp only [join1D, joinD] at hc
        cases e : strsOf es with
        | none => simp [e] at hc
        | some ys =>
          simp only [e] at hc
          split at hc
          · rename_i hz
            cases hc
            have ev := rp.strs e
            subst ev
            refine ⟨_, _, ys, rfl, rfl, ?_, by omega, k _ _ _ (Ext.refl sub) (Rep.str _)⟩
            first | exact .inl (.inl (.inl (sub _ _ hp))) | exact .inr (sqT_same sub hp)
          · cases hc
theorem me_join (ho : ME X W o τo) (ha : MA X W [e] τs) (he : starEach [e] X.env = (false, eval e X.env) :: starEach [] X.env := by rfl) (hbase : attributeBase o "join" X.env (eval o X.env) = eval o X.env := by rfl)
    (hfew : ((backTo pos (starEach [e] X.env)).all (fun x => !x.1) && (backToKw pos (keywordEach [] X.env)).all (fun x => x.1.isSome) && decide ([e].length + ([] : List Keyword).length + (if ([] : List Keyword).isEmpty then 0 else 1) < 30)) = true := by rfl) (hline : (apos.endLine == pos.line) = true := by rfl) :
    ME X W (.Call (.Attribute o "join" apos) [e] [] pos) (mMt join1D isS τo τs) :=
  me_mt PySem.F.plainAttrs_str PySem.F.slot_str_join PySem.F.type_str_join mt_join mtD_join ho ha he hbase hfew hline
end
end ML
/-! The second data layer, 7: own errors made and raised; try. -/
namespace ML
open PySem L2 DL
/-! ### B.__init__(self, ..) within an own error's __init__, B an own class without one -/
section
variable {X : Cx} {o e : Expr} {es : List Expr} {ta : TA} {f x : Str} {p p' p1 p2 pos : Pos} {B : Addr}
theorem pe_binit {pl : Sem Bool} (hg : Gl X x) (hm : X.mg x = some (.ref B)) (hr : PySem.W.readsIn X.K B (.type "type") = true) (hs : PySem.W.specialIn X.K (.ref B) "__getattribute__" = some (some (.builtin "type.__getattribute__")))
    (vV : PySem.W.findCls X.K (.ref B) (.type "type") "__init__" = some (.val (.builtin "ValueError.__init__"))) (ha : PA X (e :: es) ta)
    (hc : eval (.Call (.Attribute (.Name x p1) "__init__" p2) (e :: es) [] pos) X.env = (do let ov ← eval (.Name x p1) X.env; standAt p2.atName; let (f, first) ← holding [ov] (getMethod ov "__init__" pl); callWith pos f first (backTo pos (starEach (e :: es) X.env)) (backToKw pos (keywordEach [] X.env))) := by rfl)
    (he : starEach (e :: es) X.env = (false, eval e X.env) :: starEach es X.env := by rfl) (hpl : (backTo pos (starEach es X.env)).any (·.1) = false := by rfl) (hdb : (x == ("__debug__" : Str)) = false := by decide) :
    PE X (.Call (.Attribute (.Name x p1) "__init__" p2) (e :: es) [] pos) (tVeI X.K ta) := ⟨fun pins s σ H Q I q0 => by
  refine PySem.W.methodCall_KW (ld_glob I hg hm ?_ hdb) hc
  refine PySem.W.method_cls I.kIn hs (PySem.W.cls_value I.kIn hr vV (by decide +kernel) ?_)
  refine PyProof.Rows.callWith_method1 (thn (ha.run pos pins _ σ H _ (I.tok _) q0) fun us s1 ⟨vs, H1, I1, r1, a, C, ws, ev, hl, T, ea, q⟩ => ?_) he hpl
  subst ev
  cases r1 with
  | @cons _ u0 _ ur ra rr =>
    cases (show u0 = Value.ref a from ra)
    exact oinit_ok T I1 ea (by rw [← Paired.length rr, sizeLine_eq]; omega) fun s' J => ⟨.non, H1, J, rfl, q⟩⟩
end
/-- an own error class, at C, with the field f: what its __init__ leaves -/
def spE1 (K : Fg) (C : Addr) (f : Str) : Sp := fun vs H Q _ => ∃ a y, vs = [.ref a, y] ∧ H a = some (exo a C none) ∧ ∀ dx, H dx = none → dx ≠ a → Q .non (upd (upd H dx (exd dx [(f, y)])) a (exo a C (some dx)))
def spE3 (K : Fg) (C : Addr) (f1 f2 f3 : Str) : Sp := fun vs H Q _ => ∃ a y1 y2 y3, vs = [.ref a, y1, y2, y3] ∧ H a = some (exo a C none) ∧ ∀ dx, H dx = none → dx ≠ a → Q .non (upd (upd (upd (upd H dx (exd dx [(f1, y1)])) a (exo a C (some dx))) dx (exd dx [(f2, y2), (f1, y1)])) dx (exd dx [(f3, y3), (f2, y2), (f1, y1)]))
/-- what the written part says of an own error class over B -/
structure ErC (K : Fg) (mg : Str → Option Value) (x : Str) (C : Addr) : Prop where
  cl : OexC K C
  nm : mg x = some (.ref C)
  xf : XfC K C
/-- the class named x is an own error with the field f -/
def Er1 (P : Program) (w : World) (K : Fg) (mg : Str → Option Value) (base : Heap) (x : Str) (C : Addr) (f : Str) : Prop := ErC K mg x C ∧ PySem.W.findIn K (.ref C) f = some none ∧ ∃ fI fd ps, PySem.W.findIn K (.ref C) "__init__" = some (some (.ref fI)) ∧ PySem.W.typeIn K (.ref fI) = some (.type "function") ∧ FnOk P w K mg base CX0 1 fI fd ps (spE1 K C f) ∧ Binds K fd ps []
section
variable {X : Cx} {W : Wd} {e : Expr} {τs : TMA} {x : Str} {C : Addr} {f : Str} {k : Nat} {p pos pos2 : Pos}
theorem XRep.one {K : Fg} {H Hf : Hp} {d : Addr} {f : Str} {y : V} {dy : D} (sub : ∀ b o, Hf b = some o → H b = some o) (hn : H d = none) (r : Rep K Hf y dy) : Ext H (upd H d (.xd [(f, y)])) Hf (upd Hf d (.xd [(f, y)])) ∧ XRep K (upd Hf d (.xd [(f, y)])) (some d) [(f, dy)] := by
  have x := Ext.add sub (.xd [(f, y)]) hn
  exact ⟨x, .inr ⟨d, _, rfl, upd_same, .cons (r.mono x.grow) .nil⟩⟩
/-- raise C(e) -/
def mRaise1 (C : Addr) (f : Str) (τs : TMA) : TMS := fun ω PD ρ h => τs ω ρ h fun ds h1 => ∃ d, ds = [d] ∧ ω ⟨C, [(f, d)]⟩ ρ h1
theorem ms_raise1 (E : Er1 X.prog X.w X.K X.mg X.base x C f) (hc : X.calm = true) (tk : Takes X W.x) (hr : Room k X.A) (hk : 2 ≤ k) (hg : Gl X x) (ha : MA X W [e] τs) (hdb : (x == ("__debug__" : Str)) = false := by decide) (he : starEach [e] X.env = (false, eval e X.env) :: starEach [] X.env := by rfl) :
    MS X W (.Raise (some (.Call (.Name x p) [e] [] pos)) none pos2) (mRaise1 C f τs) := by
  obtain ⟨T, hno, fI, fd, ps, iC, tI, F, hb⟩ := E
  refine MS.of (ps_raise hc tk (pmk_oex T.cl iC tI F (hr.mono hk) hb .nil (fun _ _ _ _ _ _ _ z => z.elim) hg T.nm ha.pa hdb he rfl)) fun D σ H Hf R ρ h PD s q l => ?_
  refine ⟨R, Hf, ρ, h, _, s, q, fun vs H1 Hf1 ds h1 e1 m1 r1 _ ⟨d, hd, q1⟩ => ?_⟩
  subst hd
  cases r1 with
  | @cons y _ _ _ ry rr =>
    cases rr
    refine ⟨by show (1 : Nat) ≤ 1000; omega, fun a na => ⟨a, y, rfl, upd_same, fun dx hdx hne => ⟨rfl, dx, [(f, y)], upd_same, ?_, ?_, ?_⟩⟩⟩
    · rw [upd_ne hne, upd_same]
    · have z : upd H1 a (exo a C none) dx = none := hdx
      rw [upd_ne hne] at z
      exact z
    · have z : upd H1 a (exo a C none) dx = none := hdx
      rw [upd_ne hne] at z
      have eq : upd (del (upd (upd (upd H1 a (exo a C none)) dx (exd dx [(f, y)])) a (exo a C (some dx))) a) dx (.xd [(f, y)]) = upd H1 dx (.xd [(f, y)]) := by
        funext b
        by_cases hb1 : b = dx
        · subst hb1; rw [upd_same, upd_same]
        · rw [upd_ne hb1, upd_ne hb1]
          by_cases hb2 : b = a
          · subst hb2; rw [del_same, na]
          · rw [del_ne hb2, upd_ne hb2, upd_ne hb1, upd_ne hb2]
      rw [eq]
      obtain ⟨x1, xr⟩ := XRep.one (f := f) e1.hs.sub z ry
      exact e1.out (e1.hs.ext x1) (Mo.ext x1) xr q1
/-- what the code says but no way leads to -/
def mNever : TMS := fun _ _ _ _ => False
theorem ms_never {st : Stmt} : MS X W st mNever := ⟨⟨fun pins s σ H D I ⟨_, _, _, _, _, _, q, _⟩ => q.elim⟩⟩
theorem mss_never {sts : List Stmt} : MSs X W sts mNever := ⟨⟨fun pins s σ H D I ⟨_, _, _, _, _, _, q, _⟩ => q.elim⟩⟩
end
/-! ### try -/
section
variable {X : Cx} {W : Wd} {x n : Str} {c : Value} {i : Nat} {body suite : List Stmt} {b0 : Stmt} {np pos pos' : Pos} {τb : TMS} {τs : Addr → Ex → TMS}
/-- the ends of a suite, the name in slot i gone -/
def gone (i : Nat) (PD : MEnds) : MEnds := { nx := fun ρ h => PD.nx (ρ.set i none) h, rt := PD.rt, bk := fun ρ h => PD.bk (ρ.set i none) h, ct := fun ρ h => PD.ct (ρ.set i none) h }
/-- Cs: the classes that are caught; Ns: those that are not -/
def mTry (Cs Ns : List Addr) (i : Nat) (τb : TMS) (τs : Addr → Ex → TMS) : TMS := fun ω PD ρ h => τb (fun x ρ' h' => (x.C ∈ Cs ∧ ∀ a, τs a x ωF (gone i PD) (ρ'.set i (some (.raw (.ref a)))) h') ∨ (x.C ∈ Ns ∧ ω x ρ' h')) PD ρ h
/-- the wish of a suite -/
abbrev WSu (K : Fg) (d : Option Addr) (fs : List (Str × D)) : Wd := ⟨fun _ _ _ _ => False, fun Hf => XRep K Hf d fs, fun Hf Hf' g h => by
  rcases h with h | ⟨a, gs, h1, h2, h3⟩
  · exact .inl h
  · exact .inr ⟨a, gs, h1, g _ _ h2, h3.mono g⟩⟩
theorem Sd.drop {K : Fg} {Hf : Hp} {σ : St} {ρ : Me} (s : Sd K Hf σ ρ) (i : Nat) {v : Option V} : Sd K Hf (σ.set i v) (ρ.set i none) := ⟨fun j e q => by
  rw [set_getM] at q
  by_cases hj : i = j
  · rw [if_pos hj] at q
    split at q <;> cases q
  · rw [if_neg hj] at q
    rw [List.getElem?_set, if_neg hj]
    exact s.at_ j e q, by rw [List.length_set, List.length_set]; exact s.len⟩
theorem RE.as {K : Fg} {W W' : Wd} {R R' : Rg} {H H1 Hf Hf1 : Hp} {σ σ1 σ2 : St} {ρ ρ1 ρ2 : Me} {h h1 : Hd} (e : RE K W R H Hf σ ρ h) (e1 : RE K W' R' H1 Hf1 σ1 ρ1 h1) (hR : R'.H0 = H ∧ R'.Hf0 = Hf ∧ R'.h0 = h) (s : Sd K Hf1 σ2 ρ2) : RE K W R H1 Hf1 σ2 ρ2 h1 := by
  obtain ⟨r1, r2, r3⟩ := hR
  have m := e1.mv
  rw [r1, r2, r3] at m
  exact ⟨e.ok, W.mono _ _ m.grow e.gh, s, e1.hs, e.mv.trans m⟩
theorem ms_try {Cs Ns : List Addr} (hcs : ∀ C ∈ Cs, PySem.W.exmOne X.K (.ref C) c = some true) (hns : ∀ C ∈ Ns, PySem.W.exmOne X.K (.ref C) c = some false) (hs : X.stack = X.env :: X.outer) (hf : X.env.frame = some X.env.locals) (hN : X.N.Nodup) (hi : X.N[i]? = some n) (hln : X.env.kindOf n = some .local) (hc : Names X x c) (tk : Takes X W.x)
    (hb : ∀ (W' : WX) (pn : List (Addr × Obj)) (xe : Value → Shared → Prop), Takes (X.tr pn xe) W' → PassesOwn (model X.prog X.w) X.A X.env xe → MSs (X.tr pn xe) ⟨W', W.g, W.mono⟩ body τb)
    (hsu : ∀ (a C : Addr) (oe : Obj) (d : Option Addr) (fs : List (Str × D)) (pn : List (Addr × Obj)), Zc (.ref C) d oe → (∃ vs, oe.data = .fields vs) → MSs (X.suite a ((a, oe) :: pn)) (WSu X.K d fs) (b0 :: suite) (τs a ⟨C, fs⟩)) :
    MS X W (.Try body [.ExceptHandler (some (.Name x np)) (some n) (b0 :: suite) pos'] [] [] pos) (mTry Cs Ns i τb τs) := by
  refine MS.of (ps_try_as (Wout := W.x) (tb := fun W' => canMS X.K ⟨W', W.g, W.mono⟩ τb) (ts := fun a cls d D σ H => ∃ C fs, cls = .ref C ∧ canMS X.K (WSu X.K d fs) (τs a ⟨C, fs⟩) D σ H) hs hf hN hi hln hc tk
    (fun W' pn xe tk' po => (hb W' pn xe tk' po).pss)
    (fun a oe cls d pn hz hv => ⟨fun pins s σ H D I ⟨C, fs, ec, q⟩ => by subst ec; exact (hsu a C oe d fs pn hz hv).pss.run pins s σ H D I q⟩)) fun D σ H Hf R ρ h PD e q l => ?_
  let R' : Rg := ⟨H, Hf, h, fun x ρ' h' => (x.C ∈ Cs ∧ ∀ a, τs a x ωF (gone i PD) (ρ'.set i (some (.raw (.ref a)))) h') ∨ (x.C ∈ Ns ∧ R.ω x ρ' h')⟩
  refine ⟨R', Hf, ρ, h, PD, ⟨?_, e.gh, e.sl, e.hs, Mo.refl ..⟩, q, ⟨fun σ1 H1 Hf1 ρ1 h1 e1 q1 => l.nx σ1 H1 Hf1 ρ1 h1 (e.as e1 ⟨rfl, rfl, rfl⟩ e1.sl) q1, fun v σ1 H1 Hf1 ρ1 h1 r e1 ok q1 => l.rt v σ1 H1 Hf1 ρ1 h1 r (e.as e1 ⟨rfl, rfl, rfl⟩ e1.sl) (ok.back e.mv.live) q1, fun σ1 H1 Hf1 ρ1 h1 e1 q1 => l.bk σ1 H1 Hf1 ρ1 h1 (e.as e1 ⟨rfl, rfl, rfl⟩ e1.sl) q1, fun σ1 H1 Hf1 ρ1 h1 e1 q1 => l.ct σ1 H1 Hf1 ρ1 h1 (e.as e1 ⟨rfl, rfl, rfl⟩ e1.sl) q1⟩⟩
  rintro cls d σ1 H1 ⟨C, fs, Hf1, ρ1, h1, rfl, xr, s1, s2, m1, hy⟩
  rcases hy with ⟨hm, hy⟩ | ⟨hm, hn⟩
  rotate_left
  · exact ⟨false, hns C hm, fun z => (nomatch z), fun _ => e.ok _ _ _ _ ⟨C, fs, Hf1, ρ1, h1, rfl, xr, s1, s2, e.mv.trans m1, hn⟩⟩
  refine ⟨true, hcs C hm, fun hbt a na => ⟨C, fs, rfl, ⟨H1, Hf1, h1, ωF⟩, Hf1, ρ1.set i (some (.raw (.ref a))), h1, gone i PD, ⟨fun cls d σ H ⟨_, _, _, _, _, _, _, _, _, _, z⟩ => z, xr, s1.set i (Rep.raw _), s2, Mo.refl ..⟩, hy a, ?_⟩, fun hbf => (nomatch hbf)⟩
  · have e1 : RE X.K W R H1 Hf1 σ1 ρ1 h1 := ⟨e.ok, W.mono _ _ m1.grow e.gh, s1, s2, e.mv.trans m1⟩
    exact ⟨fun σ2 H2 Hf2 ρ2 h2 e2 q2 => l.nx _ H2 Hf2 _ h2 (e1.as e2 ⟨rfl, rfl, rfl⟩ (e2.sl.drop i)) q2, fun v σ2 H2 Hf2 ρ2 h2 r e2 ok q2 => l.rt v σ2 H2 Hf2 ρ2 h2 r (e1.as e2 ⟨rfl, rfl, rfl⟩ e2.sl) (ok.back e1.mv.live) q2, fun σ2 H2 Hf2 ρ2 h2 e2 q2 => l.bk _ H2 Hf2 _ h2 (e1.as e2 ⟨rfl, rfl, rfl⟩ (e2.sl.drop i)) q2, fun σ2 H2 Hf2 ρ2 h2 e2 q2 => l.ct _ H2 Hf2 _ h2 (e1.as e2 ⟨rfl, rfl, rfl⟩ (e2.sl.drop i)) q2⟩
/-- err.f within the suite -/
def mXf (a C : Addr) (fs : List (Str × D)) (C0 : Addr) (f : Str) (τ : TM) : TM := fun ω ρ h P => τ ω ρ h fun r h1 => r.dat = .raw (.ref a) ∧ C = C0 ∧ ∃ v, fs.lookup f = some v ∧ P (.fz v) h1
theorem me_xf {a C C0 : Addr} {oe : Obj} {d : Option Addr} {fs : List (Str × D)} {pn : List (Addr × Obj)} {e : Expr} {τ : TM} {f : Str} (T : XfC X.K C0) (hno : PySem.W.findIn X.K (.ref C0) f = some none) (hz : Zc (.ref C) d oe) (hv : ∃ vs, oe.data = .fields vs)
    (he : ME (X.suite a ((a, oe) :: pn)) (WSu X.K d fs) e τ) (hb : attributeBase e f X.env (eval e X.env) = eval e X.env := by rfl) : ME (X.suite a ((a, oe) :: pn)) (WSu X.K d fs) (.Attribute e f pos) (mXf a C fs C0 f τ) := by
  obtain ⟨t, pe, se⟩ := he.fz
  refine ME.of (pe_xf T hno hz hv pe hb) fun σ H Hf ρ h R P Q e q k => se σ H Hf ρ h R (fun r h1 => r = .raw (.ref a) ∧ C = C0 ∧ ∃ v, fs.lookup f = some v ∧ P (.fz v) h1) _ e q fun v H1 Hf1 d1 h1 e1 m1 r1 ⟨g1, g2, w, g3, p1⟩ => ?_
  subst g1 g2
  cases r1
  rcases e1.gh with ⟨_, z⟩ | ⟨dd, gs, z1, z2, z3⟩
  · rw [z] at g3; cases g3
  · obtain ⟨u, l1, ru⟩ := (RepF.get z3).1 w g3
    exact ⟨rfl, rfl, dd, gs, u, z1, e1.hs.sub _ _ z2, l1, k u H1 Hf1 (.fz w) h1 e1 m1 ru p1⟩
end
end ML
/-! The second data layer, 8: short words; zip, enumerate; str. -/
namespace ML
open PySem L2 DL
section
variable {X : Cx} {W : Wd} {pos p apos : Pos} {a b c e : Expr} {es : List Expr} {τa τb τc : TM} {τs : TMA} {k : Nat}
theorem me_add (ha : ME X W a τa) (hb : ME X W b τb) : ME X W (.BinOp a .Add b pos) (mBin addD τa τb) := me_bin op_addD opS_add ha hb
theorem me_sub (ha : ME X W a τa) (hb : ME X W b τb) : ME X W (.BinOp a .Sub b pos) (mBin subD τa τb) := me_bin op_sub opS_sub ha hb
theorem me_mul (ha : ME X W a τa) (hb : ME X W b τb) : ME X W (.BinOp a .Mult b pos) (mBin mulD τa τb) := me_bin op_mulD opS_mul ha hb
theorem me_fdiv (ha : ME X W a τa) (hb : ME X W b τb) : ME X W (.BinOp a .FloorDiv b pos) (mBin fdivD τa τb) := me_bin op_fdiv opS_fdiv ha hb
theorem me_mod (ha : ME X W a τa) (hb : ME X W b τb) : ME X W (.BinOp a .Mod b pos) (mBin modD τa τb) := me_bin op_mod opS_mod ha hb
theorem me_pow (ha : ME X W a τa) (hb : ME X W b τb) : ME X W (.BinOp a .Pow b pos) (mBin powD τa τb) := me_bin op_pow opS_pow ha hb
theorem me_eq (hr : Room k X.A) (ha : ME X W a τa) (hb : ME X W b τb) : ME X W (.Compare a [.Eq] [b] pos) (mBin eqD τa τb) := me_cmp (op_eqD' hr.units) opS_eq ha hb (nomark _)
theorem mt_eq (hr : Room k X.A) (ha : ME X W a τa) (hb : ME X W b τb) : MT X W (.Compare a [.Eq] [b] pos) (mT (mBin eqD τa τb)) := mt_cmp (op_eqD' hr.units) opS_eq ha hb (nomark _)
theorem me_eqV (hr : Room k X.A) (ha : ME X W a τa) (hb : ME X W b τb) : ME X W (.Compare a [.Eq] [b] pos) (mBinV eqD τa τb) := me_cmpV (op_eqD' hr.units) opS_eq ha hb (nomark _)
theorem mt_eqV (hr : Room k X.A) (ha : ME X W a τa) (hb : ME X W b τb) : MT X W (.Compare a [.Eq] [b] pos) (mT (mBinV eqD τa τb)) := mt_cmpV (op_eqD' hr.units) opS_eq ha hb (nomark _)
theorem me_ne (hr : Room k X.A) (ha : ME X W a τa) (hb : ME X W b τb) : ME X W (.Compare a [.NotEq] [b] pos) (mBin neD τa τb) := me_cmp (op_neD' hr.units) opS_ne ha hb (nomark _)
theorem mt_ne (hr : Room k X.A) (ha : ME X W a τa) (hb : ME X W b τb) : MT X W (.Compare a [.NotEq] [b] pos) (mT (mBin neD τa τb)) := mt_cmp (op_neD' hr.units) opS_ne ha hb (nomark _)
theorem me_neV (hr : Room k X.A) (ha : ME X W a τa) (hb : ME X W b τb) : ME X W (.Compare a [.NotEq] [b] pos) (mBinV neD τa τb) := me_cmpV (op_neD' hr.units) opS_ne ha hb (nomark _)
theorem mt_neV (hr : Room k X.A) (ha : ME X W a τa) (hb : ME X W b τb) : MT X W (.Compare a [.NotEq] [b] pos) (mT (mBinV neD τa τb)) := mt_cmpV (op_neD' hr.units) opS_ne ha hb (nomark _)
theorem me_lt (ha : ME X W a τa) (hb : ME X W b τb) : ME X W (.Compare a [.Lt] [b] pos) (mBin ltD τa τb) := me_cmp op_lt opS_lt ha hb (nomark _)
theorem mt_lt (ha : ME X W a τa) (hb : ME X W b τb) : MT X W (.Compare a [.Lt] [b] pos) (mT (mBin ltD τa τb)) := mt_cmp op_lt opS_lt ha hb (nomark _)
theorem me_le (ha : ME X W a τa) (hb : ME X W b τb) : ME X W (.Compare a [.LtE] [b] pos) (mBin leD τa τb) := me_cmp op_le opS_le ha hb (nomark _)
theorem mt_le (ha : ME X W a τa) (hb : ME X W b τb) : MT X W (.Compare a [.LtE] [b] pos) (mT (mBin leD τa τb)) := mt_cmp op_le opS_le ha hb (nomark _)
theorem me_gt (ha : ME X W a τa) (hb : ME X W b τb) : ME X W (.Compare a [.Gt] [b] pos) (mBin gtD τa τb) := me_cmp op_gt opS_gt ha hb (nomark _)
theorem mt_gt (ha : ME X W a τa) (hb : ME X W b τb) : MT X W (.Compare a [.Gt] [b] pos) (mT (mBin gtD τa τb)) := mt_cmp op_gt opS_gt ha hb (nomark _)
theorem me_ge (ha : ME X W a τa) (hb : ME X W b τb) : ME X W (.Compare a [.GtE] [b] pos) (mBin geD τa τb) := me_cmp op_ge opS_ge ha hb (nomark _)
theorem mt_ge (ha : ME X W a τa) (hb : ME X W b τb) : MT X W (.Compare a [.GtE] [b] pos) (mT (mBin geD τa τb)) := mt_cmp op_ge opS_ge ha hb (nomark _)
theorem me_is (ha : ME X W a τa) (hb : ME X W b τb) : ME X W (.Compare a [.Is] [b] pos) (mBin isD τa τb) := me_cmp op_isN opS_is ha hb (nomark _)
theorem mt_is (ha : ME X W a τa) (hb : ME X W b τb) : MT X W (.Compare a [.Is] [b] pos) (mT (mBin isD τa τb)) := mt_cmp op_isN opS_is ha hb (nomark _)
theorem me_isnt (ha : ME X W a τa) (hb : ME X W b τb) : ME X W (.Compare a [.IsNot] [b] pos) (mBin isntD τa τb) := me_cmp op_notN opS_isnt ha hb (nomark _)
theorem mt_isnt (ha : ME X W a τa) (hb : ME X W b τb) : MT X W (.Compare a [.IsNot] [b] pos) (mT (mBin isntD τa τb)) := mt_cmp op_notN opS_isnt ha hb (nomark _)
theorem me_in (ha : ME X W a τa) (hb : ME X W b τb) (hm : behindInMarks .In b = false := by rfl) : ME X W (.Compare a [.In] [b] pos) (mBin inD τa τb) := me_cmp op_inD opS_in ha hb hm
theorem mt_in (ha : ME X W a τa) (hb : ME X W b τb) (hm : behindInMarks .In b = false := by rfl) : MT X W (.Compare a [.In] [b] pos) (mT (mBin inD τa τb)) := mt_cmp op_inD opS_in ha hb hm
theorem me_inV (ha : ME X W a τa) (hb : ME X W b τb) (hm : behindInMarks .In b = false := by rfl) : ME X W (.Compare a [.In] [b] pos) (mBinV inD τa τb) := me_cmpV op_inD opS_in ha hb hm
theorem mt_inV (ha : ME X W a τa) (hb : ME X W b τb) (hm : behindInMarks .In b = false := by rfl) : MT X W (.Compare a [.In] [b] pos) (mT (mBinV inD τa τb)) := mt_cmpV op_inD opS_in ha hb hm
theorem me_notin (ha : ME X W a τa) (hb : ME X W b τb) (hm : behindInMarks .NotIn b = false := by rfl) : ME X W (.Compare a [.NotIn] [b] pos) (mBin notinD τa τb) := me_cmp op_notinD opS_notin ha hb hm
theorem mt_notin (ha : ME X W a τa) (hb : ME X W b τb) (hm : behindInMarks .NotIn b = false := by rfl) : MT X W (.Compare a [.NotIn] [b] pos) (mT (mBin notinD τa τb)) := mt_cmp op_notinD opS_notin ha hb hm
theorem me_notinV (ha : ME X W a τa) (hb : ME X W b τb) (hm : behindInMarks .NotIn b = false := by rfl) : ME X W (.Compare a [.NotIn] [b] pos) (mBinV notinD τa τb) := me_cmpV op_notinD opS_notin ha hb hm
theorem mt_notinV (ha : ME X W a τa) (hb : ME X W b τb) (hm : behindInMarks .NotIn b = false := by rfl) : MT X W (.Compare a [.NotIn] [b] pos) (mT (mBinV notinD τa τb)) := mt_cmpV op_notinD opS_notin ha hb hm
theorem me_lele (ha : ME X W a τa) (hb : ME X W b τb) (hc : ME X W c τc) (hm : lastMarks [.LtE, .LtE] [b, c] = false := by with_unfolding_all rfl) : ME X W (.Compare a [.LtE, .LtE] [b, c] pos) (mChn leD leD τa τb τc) := me_chn op_le opS_le op_le opS_le ha hb hc hm
theorem me_ltle (ha : ME X W a τa) (hb : ME X W b τb) (hc : ME X W c τc) (hm : lastMarks [.Lt, .LtE] [b, c] = false := by with_unfolding_all rfl) : ME X W (.Compare a [.Lt, .LtE] [b, c] pos) (mChn ltD leD τa τb τc) := me_chn op_lt opS_lt op_le opS_le ha hb hc hm
theorem mt_lele (ha : ME X W a τa) (hb : ME X W b τb) (hc : ME X W c τc) (hm : lastMarks [.LtE, .LtE] [b, c] = false := by with_unfolding_all rfl) : MT X W (.Compare a [.LtE, .LtE] [b, c] pos) (mT (mChn leD leD τa τb τc)) := mt_chn op_le opS_le op_le opS_le ha hb hc hm
theorem mt_ltle (ha : ME X W a τa) (hb : ME X W b τb) (hc : ME X W c τc) (hm : lastMarks [.Lt, .LtE] [b, c] = false := by with_unfolding_all rfl) : MT X W (.Compare a [.Lt, .LtE] [b, c] pos) (mT (mChn ltD leD τa τb τc)) := mt_chn op_lt opS_lt op_le opS_le ha hb hc hm
theorem me_len (hg : Gl X "len") (hm : X.mg "len" = none) (ha : MA X W (e :: es) τs) (he : starEach (e :: es) X.env = (false, eval e X.env) :: starEach es X.env := by rfl) (hpl : (backTo pos (starEach es X.env)).any (·.1) = false := by rfl) : ME X W (.Call (.Name "len" p) (e :: es) [] pos) (mCallG lenD τs) := me_callB call_len callS_len hg hm PySem.boot_len ha (he := he) (hpl := hpl)
theorem me_isi (hg : Gl X "isinstance") (hm : X.mg "isinstance" = none) (ha : MA X W (e :: es) τs) (he : starEach (e :: es) X.env = (false, eval e X.env) :: starEach es X.env := by rfl) (hpl : (backTo pos (starEach es X.env)).any (·.1) = false := by rfl) : ME X W (.Call (.Name "isinstance" p) (e :: es) [] pos) (mCallG isiD τs) := me_callB call_isi callS_isi hg hm (by decide +kernel) ha (he := he) (hpl := hpl)
theorem me_max2 (hc : X.calm = true) (hg : Gl X "max") (hm : X.mg "max" = none) (ha : MA X W (e :: es) τs) (he : starEach (e :: es) X.env = (false, eval e X.env) :: starEach es X.env := by rfl) (hpl : (backTo pos (starEach es X.env)).any (·.1) = false := by rfl) : ME X W (.Call (.Name "max" p) (e :: es) [] pos) (mCallG max2D τs) := me_callB (call_max2 hc) callS_max2 hg hm (by decide +kernel) ha (he := he) (hpl := hpl)
theorem me_min2 (hc : X.calm = true) (hg : Gl X "min") (hm : X.mg "min" = none) (ha : MA X W (e :: es) τs) (he : starEach (e :: es) X.env = (false, eval e X.env) :: starEach es X.env := by rfl) (hpl : (backTo pos (starEach es X.env)).any (·.1) = false := by rfl) : ME X W (.Call (.Name "min" p) (e :: es) [] pos) (mCallG min2D τs) := me_callB (call_min2 hc) callS_min2 hg hm (by decide +kernel) ha (he := he) (hpl := hpl)
theorem me_sum (hc : X.calm = true) (hg : Gl X "sum") (hm : X.mg "sum" = none) (ha : MA X W (e :: es) τs) (he : starEach (e :: es) X.env = (false, eval e X.env) :: starEach es X.env := by rfl) (hpl : (backTo pos (starEach es X.env)).any (·.1) = false := by rfl) : ME X W (.Call (.Name "sum" p) (e :: es) [] pos) (mCallG sumD τs) := me_callB (cr_sum hc) callS_sum hg hm (by decide +kernel) ha (he := he) (hpl := hpl)
theorem me_all (hc : X.calm = true) (hg : Gl X "all") (hm : X.mg "all" = none) (ha : MA X W (e :: es) τs) (he : starEach (e :: es) X.env = (false, eval e X.env) :: starEach es X.env := by rfl) (hpl : (backTo pos (starEach es X.env)).any (·.1) = false := by rfl) : ME X W (.Call (.Name "all" p) (e :: es) [] pos) (mCallG allD τs) := me_callB (cr_all hc) callS_all hg hm (by decide +kernel) ha (he := he) (hpl := hpl)
theorem me_any (hc : X.calm = true) (hg : Gl X "any") (hm : X.mg "any" = none) (ha : MA X W (e :: es) τs) (he : starEach (e :: es) X.env = (false, eval e X.env) :: starEach es X.env := by rfl) (hpl : (backTo pos (starEach es X.env)).any (·.1) = false := by rfl) : ME X W (.Call (.Name "any" p) (e :: es) [] pos) (mCallG anyD τs) := me_callB (cr_any hc) callS_any hg hm (by decide +kernel) ha (he := he) (hpl := hpl)
theorem me_list (hc : X.calm = true) (hg : Gl X "list") (hm : X.mg "list" = none) (ha : MA X W (e :: es) τs) (he : starEach (e :: es) X.env = (false, eval e X.env) :: starEach es X.env := by rfl) (hpl : (backTo pos (starEach es X.env)).any (·.1) = false := by rfl) : ME X W (.Call (.Name "list" p) (e :: es) [] pos) (mCallG listD τs) := me_callTy (callR_list hc) callS_list hg hm (by decide +kernel) ha (he := he) (hpl := hpl)
theorem me_tuple (hg : Gl X "tuple") (hm : X.mg "tuple" = none) (ha : MA X W (e :: es) τs) (he : starEach (e :: es) X.env = (false, eval e X.env) :: starEach es X.env := by rfl) (hpl : (backTo pos (starEach es X.env)).any (·.1) = false := by rfl) : ME X W (.Call (.Name "tuple" p) (e :: es) [] pos) (mCallG tupleD τs) := me_callTy call_tuple_of callS_tuple hg hm (by decide +kernel) ha (he := he) (hpl := hpl)
theorem me_intc (hg : Gl X "int") (hm : X.mg "int" = none) (ha : MA X W (e :: es) τs) (he : starEach (e :: es) X.env = (false, eval e X.env) :: starEach es X.env := by rfl) (hpl : (backTo pos (starEach es X.env)).any (·.1) = false := by rfl) : ME X W (.Call (.Name "int" p) (e :: es) [] pos) (mCallG intOfD τs) := me_callTy call_int1 callS_int hg hm (by decide +kernel) ha (he := he) (hpl := hpl)
theorem me_lenV (hg : Gl X "len") (hm : X.mg "len" = none) (ha : MA X W (e :: es) τs) (he : starEach (e :: es) X.env = (false, eval e X.env) :: starEach es X.env := by rfl) (hpl : (backTo pos (starEach es X.env)).any (·.1) = false := by rfl) : ME X W (.Call (.Name "len" p) (e :: es) [] pos) (mCallGV lenD τs) := me_callBV call_len callS_len hg hm PySem.boot_len ha (he := he) (hpl := hpl)
/-- str(int), str(text) -/
def strD : List D → Option Res
  | [.int i] => if decide (i.natAbs < 2 ^ 1900) = true then some (.fz (.str (toString i))) else none
  | _ => none
theorem callS_str {K : Fg} : CallS K (fun xs H Q => ∃ i, xs = [.int i] ∧ i.natAbs.log2 < 1920 ∧ Q (.str (toString i)) H) strD := by
  intro H Hf xs ds c Q hf r hg k
  match ds, hg with
  | [.int i], hg =>
    cases r with
    | cons ra rs =>
      cases rs
      cases ra
      simp only [strD] at hg
      split at hg
      · rename_i hz
        cases hg
        have hz' := of_decide_eq_true hz
        refine ⟨i, rfl, ?_, k _ _ _ (Ext.refl hf) (.str _)⟩
        by_cases h0 : i.natAbs = 0
        · rw [h0]; decide
        · have h1 : 2 ^ i.natAbs.log2 ≤ i.natAbs := Nat.log2_self_le h0
          have h2 : 2 ^ i.natAbs.log2 < 2 ^ 1900 := Nat.lt_of_le_of_lt h1 hz'
          have h3 : i.natAbs.log2 < 1900 := (Nat.pow_lt_pow_iff_right (by decide : 1 < 2)).mp h2
          omega
      · cases hg
theorem me_strc (hg : Gl X "str") (hm : X.mg "str" = none) (ha : MA X W (e :: es) τs) (he : starEach (e :: es) X.env = (false, eval e X.env) :: starEach es X.env := by rfl) (hpl : (backTo pos (starEach es X.env)).any (·.1) = false := by rfl) : ME X W (.Call (.Name "str" p) (e :: es) [] pos) (mCallG strD τs) := me_callTy call_str_int callS_str hg hm (by decide +kernel) ha (he := he) (hpl := hpl)
/-- int(text): one that is a number -/
def intTxtD : List D → Option Res
  | [.str a] => if decide (a.length ≤ 640) = true then (PySem.intText? a).map fun n => .fz (.int n) else none
  | _ => none
theorem callS_intTxt {K : Fg} : CallS K (fun xs H Q => ∃ a n, xs = [.str a] ∧ PySem.intText? a = some n ∧ a.length ≤ 640 ∧ Q (.int n) H) intTxtD := by
  intro H Hf xs ds c Q hf r hg k
  match ds, hg with
  | [.str a], hg =>
    cases r with
    | cons ra rs =>
      cases rs
      cases ra
      simp only [intTxtD] at hg
      split at hg
      · rename_i hz
        cases e : PySem.intText? a with
        | none => rw [e] at hg; cases hg
        | some n =>
          rw [e] at hg
          cases hg
          exact ⟨a, n, rfl, e, of_decide_eq_true hz, k _ _ _ (Ext.refl hf) (.int _)⟩
      · cases hg
theorem me_intT (hg : Gl X "int") (hm : X.mg "int" = none) (ha : MA X W (e :: es) τs) (he : starEach (e :: es) X.env = (false, eval e X.env) :: starEach es X.env := by rfl) (hpl : (backTo pos (starEach es X.env)).any (·.1) = false := by rfl) : ME X W (.Call (.Name "int" p) (e :: es) [] pos) (mCallG intTxtD τs) := me_callTy call_int_str callS_intTxt hg hm (by decide +kernel) ha (he := he) (hpl := hpl)
/-! ### zip, enumerate -/
def zipD : List D → List D → List D
  | a :: as, b :: bs => .tup [a, b] :: zipD as bs
  | _, _ => []
theorem zipD_len : ∀ as bs : List D, (zipD as bs).length = min as.length bs.length
  | [], bs => by simp [zipD]
  | a :: as, [] => by simp [zipD]
  | a :: as, b :: bs => by simp only [zipD, List.length_cons, zipD_len as bs]; omega
theorem zipD_get : ∀ (as bs : List D) (i : Nat) (d : D), (zipD as bs)[i]? = some d → ∃ a b, as[i]? = some a ∧ bs[i]? = some b ∧ d = .tup [a, b]
  | [], bs, i, d, h => by simp [zipD] at h
  | a :: as, [], i, d, h => by simp [zipD] at h
  | a :: as, b :: bs, 0, d, h => by simp [zipD] at h; exact ⟨a, b, rfl, rfl, h.symm⟩
  | a :: as, b :: bs, i + 1, d, h => by
    obtain ⟨x, y, h1, h2, h3⟩ := zipD_get as bs i d (by simpa [zipD] using h)
    exact ⟨x, y, by simpa using h1, by simpa using h2, h3⟩
theorem itz_it {K : Fg} {Hf : Hp} {p q : Addr} {vs ws : List V} {as bs : List D} (h1 : SqL K Hf p vs) (h2 : SqL K Hf q ws) (r1 : RepL K Hf vs as) (r2 : RepL K Hf ws bs) : DIt K (Itz K p q) Hf (zipD as bs) where
  item := fun i d H' Hf' sub grow hd => by
    obtain ⟨a, b, g1, g2, rfl⟩ := zipD_get as bs i d hd
    obtain ⟨v, k1, k2⟩ := r1.get g1
    obtain ⟨u, l1, l2⟩ := r2.get g2
    have s1 : SqL K H' p vs := sqL_same (fun b o h => sub b o (grow b o h)) h1
    have s2 : SqL K H' q ws := sqL_same (fun b o h => sub b o (grow b o h)) h2
    refine ⟨⟨vs, ws, v, u, s1, s2, k1, l1⟩, fun x H'' y => ?_⟩
    obtain ⟨T, x1, y1, rfl, hT, rfl, z1, z2⟩ := y
    have e1 := z1 vs s1
    have e2 := z2 ws s2
    rw [k1] at e1
    rw [l1] at e2
    cases e1
    cases e2
    obtain ⟨x2, ok⟩ := new_tup sub hT (.cons (k2.mono grow) (.cons (l2.mono grow) .nil))
    exact ⟨_, x2, ok⟩
  stop := fun i H' Hf' sub grow hl => by
    rw [zipD_len] at hl
    exact ⟨vs, ws, sqL_same (fun b o h => sub b o (grow b o h)) h1, sqL_same (fun b o h => sub b o (grow b o h)) h2, by rw [r1.length, r2.length]; omega⟩
theorem itzT_it {K : Fg} {Hf : Hp} {p q : Addr} {vs ws : List V} {as bs : List D} (h1 : SqT K Hf p vs) (h2 : SqT K Hf q ws) (r1 : RepL K Hf vs as) (r2 : RepL K Hf ws bs) : DIt K (RZ.ItzT K p q) Hf (zipD as bs) where
  item := fun i d H' Hf' sub grow hd => by
    obtain ⟨a, b, g1, g2, rfl⟩ := zipD_get as bs i d hd
    obtain ⟨v, k1, k2⟩ := r1.get g1
    obtain ⟨u, l1, l2⟩ := r2.get g2
    have s1 : SqT K H' p vs := sqT_same (fun b o h => sub b o (grow b o h)) h1
    have s2 : SqT K H' q ws := sqT_same (fun b o h => sub b o (grow b o h)) h2
    refine ⟨⟨vs, ws, v, u, s1, s2, k1, l1⟩, fun x H'' y => ?_⟩
    obtain ⟨T, x1, y1, rfl, hT, rfl, z1, z2⟩ := y
    have e1 := z1 vs s1
    have e2 := z2 ws s2
    rw [k1] at e1
    rw [l1] at e2
    cases e1
    cases e2
    obtain ⟨x2, ok⟩ := new_tup sub hT (.cons (k2.mono grow) (.cons (l2.mono grow) .nil))
    exact ⟨_, x2, ok⟩
  stop := fun i H' Hf' sub grow hl => by
    rw [zipD_len] at hl
    exact ⟨vs, ws, sqT_same (fun b o h => sub b o (grow b o h)) h1, sqT_same (fun b o h => sub b o (grow b o h)) h2, by rw [r1.length, r2.length]; omega⟩
def zipItems : List D → Option (List D)
  | [.lst as, .lst bs] => some (zipD as bs)
  | [.tup as, .tup bs] => some (zipD as bs)
  | _ => none
def mZip (τ : TMA) : TMI := fun ω ρ h P => τ ω ρ h fun ds h1 => ∃ zs, zipItems ds = some zs ∧ P zs h1
theorem mi_zip {e2 : Expr} {elts : List Expr} {kk : Nat} {tpos : Pos} (hg : Gl X "zip") (hm : X.mg "zip" = none) (ha : MA X W [e, e2] τs) (hs : starEach [e, e2] X.env = (false, eval e X.env) :: starEach [e2] X.env := by rfl) (hpl : (backTo pos (starEach [e2] X.env)).any (·.1) = false := by rfl) :
    MI X W (.Tuple elts kk tpos) (.Call (.Name "zip" p) [e, e2] [] pos) (mZip τs) :=
  MI.of (RZ.pi_zipA hg hm ha.pa hs hpl) fun σ H Hf ρ h R P Q e q k => ⟨R, Hf, ρ, h, _, e, q, fun vs H1 Hf1 ds h1 e1 m1 r1 _ ⟨zs, hz, p1⟩ => by
    match ds, hz with
    | [.lst as, .lst bs], hz =>
      cases hz
      cases r1 with
      | cons ra rr =>
        cases rr with
        | cons rb rr =>
          cases rr
          cases ra with
          | lst ha ra =>
            cases rb with
            | lst hb rb => exact ⟨_, _, _, _, rfl, .inl ⟨.inl (.inl (e1.hs.sub _ _ ha)), .inl (.inl (e1.hs.sub _ _ hb)), k _ H1 Hf1 _ h1 e1 m1 (itz_it (.inl (.inl ha)) (.inl (.inl hb)) ra rb) p1⟩⟩
    | [.tup as, .tup bs], hz =>
      cases hz
      cases r1 with
      | cons ra rr =>
        cases rr with
        | cons rb rr =>
          cases rr
          cases ra with
          | tup ha ra =>
            cases rb with
            | tup hb rb => exact ⟨_, _, _, _, rfl, .inr ⟨sqT_same e1.hs.sub ha, sqT_same e1.hs.sub hb, k _ H1 Hf1 _ h1 e1 m1 (itzT_it ha hb ra rb) p1⟩⟩⟩
def enumD (n : Nat) : List D → List D
  | [] => []
  | d :: ds => .tup [.int (n : Nat), d] :: enumD (n + 1) ds
theorem enumD_len : ∀ (n : Nat) (ds : List D), (enumD n ds).length = ds.length
  | _, [] => rfl
  | n, d :: ds => by simp [enumD, enumD_len (n + 1) ds]
theorem enumD_get : ∀ (n : Nat) (ds : List D) (i : Nat) (d : D), (enumD n ds)[i]? = some d → ∃ a, ds[i]? = some a ∧ d = .tup [.int ((n + i : Nat) : Int), a]
  | _, [], i, d, h => by simp [enumD] at h
  | n, a :: ds, 0, d, h => by simp [enumD] at h; exact ⟨a, rfl, h.symm⟩
  | n, a :: ds, i + 1, d, h => by
    obtain ⟨x, h1, h2⟩ := enumD_get (n + 1) ds i d (by simpa [enumD] using h)
    exact ⟨x, by simpa using h1, by rw [h2, show n + 1 + i = n + (i + 1) by omega]⟩
theorem ite_it {K : Fg} {Hf : Hp} {p : Addr} {vs : List V} {as : List D} (h1 : SqL K Hf p vs) (r1 : RepL K Hf vs as) : DIt K (Ite K p) Hf (enumD 0 as) where
  item := fun i d H' Hf' sub grow hd => by
    obtain ⟨a, g1, rfl⟩ := enumD_get 0 as i d hd
    obtain ⟨v, k1, k2⟩ := r1.get g1
    have s1 : SqL K H' p vs := sqL_same (fun b o h => sub b o (grow b o h)) h1
    refine ⟨⟨vs, v, s1, k1⟩, fun x H'' y => ?_⟩
    obtain ⟨T, x1, rfl, hT, rfl, z1⟩ := y
    have e1 := z1 vs s1
    rw [k1] at e1
    cases e1
    rw [Nat.zero_add]
    obtain ⟨x2, ok⟩ := new_tup sub hT (.cons (.int _) (.cons (k2.mono grow) .nil))
    exact ⟨_, x2, ok⟩
  stop := fun i H' Hf' sub grow hl => by
    rw [enumD_len] at hl
    exact ⟨vs, sqL_same (fun b o h => sub b o (grow b o h)) h1, by rw [r1.length]; exact hl⟩
def mEnum (τ : TMA) : TMI := fun ω ρ h P => τ ω ρ h fun ds h1 => ∃ as, ds = [.lst as] ∧ P (enumD 0 as) h1
theorem mi_enum {elts : List Expr} {kk : Nat} {tpos : Pos} (hg : Gl X "enumerate") (hm : X.mg "enumerate" = none) (ha : MA X W [e] τs) (hs : starEach [e] X.env = [(false, eval e X.env)] := by rfl) :
    MI X W (.Tuple elts kk tpos) (.Call (.Name "enumerate" p) [e] [] pos) (mEnum τs) :=
  MI.of (pi_enum hg hm ha.pa hs) fun σ H Hf ρ h R P Q e q k => ⟨R, Hf, ρ, h, _, e, q, fun vs H1 Hf1 ds h1 e1 m1 r1 _ ⟨as, hd, p1⟩ => by
    subst hd
    cases r1 with
    | cons ra rr =>
      cases rr
      cases ra with
      | lst ha ra => exact ⟨_, _, rfl, .inl (.inl (e1.hs.sub _ _ ha)), k _ H1 Hf1 _ h1 e1 m1 (ite_it (.inl (.inl ha)) ra) p1⟩⟩
end
/-! ### loops by what holds ahead of a turn -/
theorem loopM_inv {ω : Wω} {γ : TMG} {τb : TMS} {PD : MEnds} (I : List D → Me → Hd → Prop) : ∀ (ds : List D) (ρ : Me) (h : Hd), I ds ρ h → (∀ d es ρ h (R : Me → Hd → Prop), I (d :: es) ρ h → (∀ ρ' h', I es ρ' h' → R ρ' h') → γ d ρ fun ρ1 => τb ω { PD with nx := R, ct := R, bk := PD.nx } ρ1 h) → (∀ ρ h, I [] ρ h → PD.nx ρ h) → loopM ω γ τb PD ds ρ h
  | [], ρ, h, i, _, q => by rw [loopM_nil]; exact q ρ h i
  | d :: ds, ρ, h, i, t, q => by rw [loopM_cons]; exact t d ds ρ h _ i fun ρ' h' i' => loopM_inv I ds ρ' h' i' t q
theorem lcM_inv {γ : TMG} {τt : TMT} {τe : TM} {ρ : Me} {P : List D → Hd → Prop} (I : List D → Hd → List D → Prop) : ∀ (ds : List D) (h : Hd) (acc : List D), I ds h acc →
    (∀ d es h acc (R : Hd → List D → Prop), I (d :: es) h acc → (∀ h' acc', I es h' acc' → R h' acc') → γ d ρ fun ρ1 => τt ωF ρ1 h fun b h1 => if b = true then τe ωF ρ1 h1 fun r h2 => acc.length < 16000 ∧ R h2 (acc ++ [r.dat]) else R h1 acc) →
    (∀ h acc, I [] h acc → P acc h) → lcM γ τt τe ρ P ds h acc
  | [], h, acc, i, _, q => by rw [lcM_nil]; exact q h acc i
  | d :: ds, h, acc, i, t, q => by rw [lcM_cons]; exact t d ds h acc (fun h' acc' => lcM γ τt τe ρ P ds h' acc') i fun h' acc' i' => lcM_inv I ds h' acc' i' t q
/-- a comprehension without changes: f of those that pass b -/
theorem lcM_pure {α : Type} {φ : α → D} {b : α → Bool} {f : α → D} {γ : TMG} {τt : TMT} {τe : TM} {ρ : Me} {P : List D → Hd → Prop} {h : Hd} : ∀ (l : List α) (acc : List D),
    (∀ a ∈ l, ∀ (R1 : D → Hd → Prop) (R2 : Hd → Prop), (b a = true → R1 (f a) h) → (b a = false → R2 h) → γ (φ a) ρ fun ρ1 => τt ωF ρ1 h fun bb h1 => if bb = true then τe ωF ρ1 h1 fun r h2 => R1 r.dat h2 else R2 h1) →
    acc.length + l.length ≤ 16000 → P (acc ++ (l.filter b).map f) h → lcM γ τt τe ρ P (l.map φ) h acc
  | [], acc, _, _, q => by rw [List.map_nil, lcM_nil]; simpa using q
  | a :: l, acc, t, hl, q => by
    rw [List.map_cons, lcM_cons]
    refine t a (List.mem_cons_self ..) (fun d h2 => acc.length < 16000 ∧ lcM γ τt τe ρ P (l.map φ) h2 (acc ++ [d])) (fun h1 => lcM γ τt τe ρ P (l.map φ) h1 acc) (fun hb => ?_) (fun hb => ?_)
    · refine ⟨by simp at hl; omega, lcM_pure l _ (fun x hx => t x (List.mem_cons_of_mem _ hx)) (by simp at hl ⊢; omega) ?_⟩
      rw [List.filter_cons, if_pos hb] at q
      simpa using q
    · refine lcM_pure l _ (fun x hx => t x (List.mem_cons_of_mem _ hx)) (by simp at hl ⊢; omega) ?_
      rw [List.filter_cons, if_neg (by rw [hb]; decide)] at q
      exact q
/-- .. f of each -/
theorem lcM_map {α : Type} {φ : α → D} {f : α → D} {γ : TMG} {τe : TM} {ρ : Me} {P : List D → Hd → Prop} {h : Hd} (l : List α) (t : ∀ a ∈ l, ∀ (R1 : D → Hd → Prop), R1 (f a) h → γ (φ a) ρ fun ρ1 => τe ωF ρ1 h fun r h2 => R1 r.dat h2)
    (hl : l.length ≤ 16000) (q : P (l.map f) h) : lcM γ mYes τe ρ P (l.map φ) h [] :=
  lcM_pure (b := fun _ => true) l [] (fun a ha R1 R2 h1 _ => by
    have := t a ha R1 (h1 rfl)
    exact this) (by simpa using hl) (by rw [List.filter_eq_self.mpr (fun _ _ => rfl)]; exact q)
theorem lcM_mapD {f : D → D} {γ : TMG} {τe : TM} {ρ : Me} {P : List D → Hd → Prop} {h : Hd} (l : List D) (t : ∀ d ∈ l, ∀ (R1 : D → Hd → Prop), R1 (f d) h → γ d ρ fun ρ1 => τe ωF ρ1 h fun r h2 => R1 r.dat h2)
    (hl : l.length ≤ 16000) (q : P (l.map f) h) : lcM γ mYes τe ρ P l h [] := by
  have := lcM_map (φ := fun d : D => d) (f := f) (γ := γ) (τe := τe) (ρ := ρ) (P := P) (h := h) l t hl q
  rwa [List.map_id''] at this
  intro x; rfl
end ML
/-! The second data layer, 9: where defs and methods stand; what is forgotten at the end of a def. -/
namespace ML
open PySem L2 DL
section
variable {P : Program} {w : World} {K : Fg} {mg : Str → Option Value} {base : Heap} {x m qual : Str} {st : Stmt} {f C : Addr} {fd : FuncData} {N ps : List Str} {k n : Nat}
theorem _root_.DL.At.fnM {g : FM} (A : At K mg x ps st f fd) (h : FnOk P w K mg base (L2.CX P w) k f fd ps (spM K n g)) : FnM P w K mg base x k n g := ⟨f, fd, ps, h, A.mg, A.fn.kp, A.bd⟩
/-- where a method stands -/
structure AtM (K : Fg) (C : Addr) (m qual : Str) (ps : List Str) (st : Stmt) (f : Addr) (fd : FuncData) : Prop where
  fn : Fun K m qual st f fd
  cl : Cls K C
  me : Meth K C m f
  bd : Binds K fd ps []
theorem AtM.mth {g : FM} (A : AtM K C m qual ps st f fd) (h : FnOk P w K mg base (L2.CX P w) k f fd ps (spM K n g)) : MthM P w K mg base C m k n g := ⟨f, fd, ps, h, A.cl, A.me, A.bd⟩
/-- where an __init__ stands -/
structure AtI (K : Fg) (mg : Str → Option Value) (C : Addr) (x qual : Str) (ps : List Str) (st : Stmt) (f : Addr) (fd : FuncData) : Prop where
  fn : Fun K "__init__" qual st f fd
  mkC : Mk K C f
  nm : mg x = some (.ref C)
  bd : Binds K fd ps []
theorem AtI.mkM {g : FM} (A : AtI K mg C x qual ps st f fd) (h : FnOk P w K mg base (L2.CX P w) k f fd ps (spM K n g)) : MkM P w K mg base x C k n g := ⟨f, fd, ps, h, A.mkC, A.nm, A.bd⟩
/-! ### less is told at the end -/
def Le (h' h : Hd) : Prop := ∀ a o, h' a = some o → h a = some o
theorem Le.refl (h : Hd) : Le h h := fun _ _ q => q
theorem le_put {h : Hd} {a : Addr} {o : Ob} (n : h a = none) : Le h (put h a o) := fun b u q => by rw [put_ne (hd_ne q n)]; exact q
theorem Le.trans {a b c : Hd} (x : Le a b) (y : Le b c) : Le a c := fun p o q => y p o (x p o q)
theorem RO.less {K : Fg} {H H' Hf' : Hp} {h' h'' : Hd} {v : V} {r : Res} (l : Le h'' h') (k : RO K H H' Hf' h' v r) : RO K H H' Hf' h'' v r := by
  cases r with
  | fz d => exact k
  | fr xs =>
    obtain ⟨a, ys, e1, e2, e3, e4, e5, e6⟩ := k
    refine ⟨a, ys, e1, e2, e3, ?_, e5, e6⟩
    cases z : h'' a with
    | none => rfl
    | some o => rw [l a o z] at e4; cases e4
theorem spM.less {g g' : FM} (i : ∀ ds h P E, g' ds h P E → g ds h (fun r h1 => ∃ h2, Le h2 h1 ∧ P r h2) (fun x h1 => ∃ h2, Le h2 h1 ∧ E x h2)) {vs : List V} {H : Hp} {Q : VK} {E : XK} (h : spM K n g' vs H Q E) : spM K n g vs H Q E := by
  obtain ⟨Hf, h, ds, P, PE, h1, h2, h3, h4, h5, h6⟩ := h
  refine ⟨Hf, h, ds, _, _, h1, h2, h3, i _ _ _ _ h4, fun v H' Hf' r h' s m ok ⟨h'', l, q⟩ => ?_, fun C d fs H' Hf' h' s m x ⟨h'', l, q⟩ => ?_⟩
  · exact h5 v H' Hf' r h'' (s.less l) (m.less l) (ok.less l) q
  · exact h6 C d fs H' Hf' h'' (s.less l) (m.less l) x q
theorem FnM.less {g g' : FM} (h : FnM P w K mg base x k n g) (i : ∀ ds h P E, g' ds h P E → g ds h (fun r h1 => ∃ h2, Le h2 h1 ∧ P r h2) (fun x h1 => ∃ h2, Le h2 h1 ∧ E x h2)) : FnM P w K mg base x k n g' := let ⟨f, fd, ps, a, b⟩ := h; ⟨f, fd, ps, a.imp fun vs H Q E q => q.less i, b⟩
theorem MthM.less {g g' : FM} (h : MthM P w K mg base C m k n g) (i : ∀ ds h P E, g' ds h P E → g ds h (fun r h1 => ∃ h2, Le h2 h1 ∧ P r h2) (fun x h1 => ∃ h2, Le h2 h1 ∧ E x h2)) : MthM P w K mg base C m k n g' := let ⟨f, fd, ps, a, b⟩ := h; ⟨f, fd, ps, a.imp fun vs H Q E q => q.less i, b⟩
end
/-- a promise shown with more told at the end -/
def lessC (g : FM) : FM := fun ds h P E => ∃ P0 E0, g ds h P0 E0 ∧ (∀ r h1 h2, Le h2 h1 → P0 r h2 → P r h1) ∧ (∀ x h1 h2, Le h2 h1 → E0 x h2 → E x h1)
section
variable {P : Program} {w : World} {K : Fg} {mg : Str → Option Value} {base : Heap} {x m : Str} {C : Addr} {k n : Nat} {g : FM}
theorem lessC_i (ds : List D) (h : Hd) (P : Res → Hd → Prop) (E : Ex → Hd → Prop) (q : g ds h P E) : lessC g ds h (fun r h1 => ∃ h2, Le h2 h1 ∧ P r h2) (fun x h1 => ∃ h2, Le h2 h1 ∧ E x h2) := ⟨P, E, q, fun r h1 h2 l q => ⟨h2, l, q⟩, fun x h1 h2 l q => ⟨h2, l, q⟩⟩
theorem FnM.of_less (h : FnM P w K mg base x k n (lessC g)) : FnM P w K mg base x k n g := h.less lessC_i
theorem MthM.of_less (h : MthM P w K mg base C m k n (lessC g)) : MthM P w K mg base C m k n g := h.less lessC_i
end
theorem put_comm {h : Hd} {a b : Addr} {x y : Ob} (e : a ≠ b) : put (put h a x) b y = put (put h b y) a x := by
  funext c
  unfold put
  by_cases h1 : c = b
  · subst h1
    rw [if_pos rfl, if_neg (fun z => e z.symm), if_pos rfl]
  · rw [if_neg h1, if_neg h1]
/-- nothing is asked of such a method -/
theorem AtM.none {P : Program} {w : World} {K : Fg} {mg : Str → Option Value} {base : Heap} {C : Addr} {m qual : Str} {ps : List Str} {st : Stmt} {f : Addr} {fd : FuncData} {k n : Nat} {g : FM} (A : AtM K C m qual ps st f fd) (h : ∀ ds hd Q E, ¬ g ds hd Q E) : MthM P w K mg base C m k n g :=
  A.mth ⟨fun vs H Q E ⟨_, _, ds, P, PE, _, _, _, hg, _⟩ => absurd hg (h ds _ P PE), fun _ _ _ _ _ _ _ _ _ _ _ _ _ ⟨_, _, ds, P, PE, _, _, _, hg, _⟩ => absurd hg (h ds _ P PE)⟩
theorem _root_.DL.At.noneM {P : Program} {w : World} {K : Fg} {mg : Str → Option Value} {base : Heap} {x : Str} {ps : List Str} {st : Stmt} {f : Addr} {fd : FuncData} {k n : Nat} {g : FM} (A : At K mg x ps st f fd) (h : ∀ ds hd Q E, ¬ g ds hd Q E) : FnM P w K mg base x k n g :=
  A.fnM ⟨fun vs H Q E ⟨_, _, ds, P, PE, _, _, _, hg, _⟩ => absurd hg (h ds _ P PE), fun _ _ _ _ _ _ _ _ _ _ _ _ _ ⟨_, _, ds, P, PE, _, _, _, hg, _⟩ => absurd hg (h ds _ P PE)⟩
end ML
/-! The second data layer, 10: more rules. -/
namespace ML
open PySem L2 DL
section
variable {X : Cx} {W : Wd} {pos p apos : Pos} {a b c e : Expr} {es : List Expr} {τa τb τc : TM} {τs : TMA} {k : Nat}
/-- is, of bools -/
def isBD : D → D → Option Res
  | .bl x, .bl y => some (.fz (.bl (decide (x = y))))
  | _, _ => none
def isntBD : D → D → Option Res
  | .bl x, .bl y => some (.fz (.bl (!decide (x = y))))
  | _, _ => none
theorem opS_isB {K : Fg} : OpS K (fun x y H Q => ∃ a b, x = .bl a ∧ y = .bl b ∧ Q (.bl (decide (a = b))) H) isBD := by
  intro H Hf x y a b c Q hf ra rb hg k
  cases ra <;> first | (simp [isBD] at hg; done) | skip
  cases rb <;> first | (simp [isBD] at hg; done) | skip
  simp only [isBD, Option.some.injEq] at hg
  subst hg
  exact ⟨_, _, rfl, rfl, k _ _ _ (Ext.refl hf) (.bl _)⟩
theorem opS_isntB {K : Fg} : OpS K (fun x y H Q => ∃ a b, x = .bl a ∧ y = .bl b ∧ Q (.bl (!decide (a = b))) H) isntBD := by
  intro H Hf x y a b c Q hf ra rb hg k
  cases ra <;> first | (simp [isntBD] at hg; done) | skip
  cases rb <;> first | (simp [isntBD] at hg; done) | skip
  simp only [isntBD, Option.some.injEq] at hg
  subst hg
  exact ⟨_, _, rfl, rfl, k _ _ _ (Ext.refl hf) (.bl _)⟩
theorem me_isB (ha : ME X W a τa) (hb : ME X W b τb) : ME X W (.Compare a [.Is] [b] pos) (mBin isBD τa τb) := me_cmp op_is_bl opS_isB ha hb (nomark _)
theorem mt_isB (ha : ME X W a τa) (hb : ME X W b τb) : MT X W (.Compare a [.Is] [b] pos) (mT (mBin isBD τa τb)) := mt_cmp op_is_bl opS_isB ha hb (nomark _)
theorem me_isntB (ha : ME X W a τa) (hb : ME X W b τb) : ME X W (.Compare a [.IsNot] [b] pos) (mBin isntBD τa τb) := me_cmp op_isnot_bl opS_isntB ha hb (nomark _)
theorem mt_isntB (ha : ME X W a τa) (hb : ME X W b τb) : MT X W (.Compare a [.IsNot] [b] pos) (mT (mBin isntBD τa τb)) := mt_cmp op_isnot_bl opS_isntB ha hb (nomark _)
end
end ML
/-! The second data layer, 11: a cut between two statements. -/
namespace ML
open PySem L2 DL
theorem seq_cut {τ υ : TMS} {ω : Wω} {PD : MEnds} {ρ : Me} {h : Hd} (I : Me → Hd → Prop) (h1 : ∀ R : Me → Hd → Prop, (∀ ρ' h', I ρ' h' → R ρ' h') → τ ω { PD with nx := R } ρ h) (h2 : ∀ ρ' h', I ρ' h' → υ ω PD ρ' h') : mSeq τ υ ω PD ρ h := h1 _ h2
section
variable {X : Cx} {W : Wd} {x n : Str} {c : Value} {i : Nat} {body suite : List Stmt} {b0 : Stmt} {np pos pos' : Pos} {τb : TMS}
/-- try, the suite's reading told by what is caught -/
theorem ms_try' {τs : Addr → Addr → List (Str × D) → TMS} {Cs Ns : List Addr} (hcs : ∀ C ∈ Cs, PySem.W.exmOne X.K (.ref C) c = some true) (hns : ∀ C ∈ Ns, PySem.W.exmOne X.K (.ref C) c = some false) (hs : X.stack = X.env :: X.outer) (hf : X.env.frame = some X.env.locals) (hN : X.N.Nodup) (hi : X.N[i]? = some n) (hln : X.env.kindOf n = some .local) (hc : Names X x c) (tk : Takes X W.x)
    (hb : ∀ (W' : WX) (pn : List (Addr × Obj)) (xe : Value → Shared → Prop), Takes (X.tr pn xe) W' → PassesOwn (model X.prog X.w) X.A X.env xe → MSs (X.tr pn xe) ⟨W', W.g, W.mono⟩ body τb)
    (hsu : ∀ (a C : Addr) (oe : Obj) (d : Option Addr) (fs : List (Str × D)) (pn : List (Addr × Obj)), Zc (.ref C) d oe → (∃ vs, oe.data = .fields vs) → MSs (X.suite a ((a, oe) :: pn)) (WSu X.K d fs) (b0 :: suite) (τs a C fs)) :
    MS X W (.Try body [.ExceptHandler (some (.Name x np)) (some n) (b0 :: suite) pos'] [] [] pos) (mTry Cs Ns i τb fun a e => τs a e.C e.fs) := ms_try (τs := fun a e => τs a e.C e.fs) hcs hns hs hf hN hi hln hc tk hb hsu
end
end ML
/-! The second data layer, 12: isinstance of a caught error that has fields. -/
namespace ML
open PySem PySem.W PySem.Spec PySem.Calls PyProof.Rows
section
variable {K : Frag} {D x : Addr} {ob : Obj} {od : Option Obj}
theorem find_dd {n : Str} {v g : Value} (c : (clsIn K D).isSome = true) (f : findIn K (.ref D) n = some (some v)) (s : specialIn K v "__get__" = some (some g)) (t : takesIn K v = some true) : findObj K D od n = some (.bind g v) := by
  unfold findObj
  cases e : clsIn K D with
  | none => rw [e] at c; cases c
  | some cd => rw [Option.bind_some, f, Option.bind_some]; simp [s, t]
/-- err.__class__, whatever fields it has -/
theorem cls_of {prog : Program} {w : World} {A : Around} {E : Value → Shared → Prop} {Q : Option Value → Shared → Prop} {s : Shared} (C : L2.ExcC K D) (k : K.In s.heap) (i : PySem.W.InstAt s.heap x ob D od) (q : Q (some (.ref D)) { s with toks := s.toks + 1 }) :
    wpAny (model prog w) A (getAttr? (.ref x) "__class__") Q E s := by
  have c0 : (clsIn K D).isSome = true := by obtain ⟨cd, e, _⟩ := any_some C.hd; rw [e]; rfl
  obtain ⟨hp, g, d, t, os⟩ := s
  have ty := i.type (M := model prog w)
  have ga := looks_findIn (M := model prog w) k C.hg
  have gt := looks_findIn (M := model prog w) k C.hk
  have fd := looks_find (M := model prog w) k i (find_dd c0 C.ha C.hn C.ht)
  have no : (Value.builtin "BaseException.__getattribute__" == Value.builtin "object.__getattribute__") = false := by decide +kernel
  unfold getAttr? getAttrBy? getAttrBy
  refine wpAny_bind (wpAny_mkText ?_)
  refine wpAny_bind (wpAny_attempt ?_)
  refine wpAny_holding (wpAny_bind ?_)
  refine ty.at (wpAny_bind ?_)
  refine ga.at ?_
  dsimp only
  rw [no, Bool.and_false, if_neg Bool.false_ne_true]
  unfold getAttrByItsOwn hookBefore
  refine wpAny_bind ?_
  have on : onTheHeap (Value.ref D) = true := rfl
  rw [if_pos on]
  refine gt.at (wpAny_bind ?_)
  refine wpAny_attempt (wpAny_holding ?_)
  unfold callGetattribute
  rw [Bool.false_and, if_neg Bool.false_ne_true]
  unfold boundAndCalled
  rw [PySem.F.excAttr_ValueError.ga.bind (.ref x)]
  refine wpAny_bind (wpAny_pure (wpAny_call ?_))
  refine codeAny_call_builtin PySem.F.excAttr_ValueError.ga.plain PySem.F.entry_bexc_ga ?_
  refine @check_slot (model prog w) _ _ ⟨hp, g, d, t + 1, os⟩ "BaseException.__getattribute__" "BaseException" "__getattribute__" (.ref x) [.str "__class__" t] [] _ (by decide +kernel) (by decide +kernel) (ty.andThen (looks_subIn k C.hs)) (PySem.F.args_bexc_ga (.ref x) (.str "__class__" t)) ?_
  unfold Builtin.«object.__getattribute__»
  refine wpAny_bind (wpAny_of_eq (a := ((Value.ref x : Value), [Value.str "__class__" t])) rfl ?_)
  refine wpAny_bind (wpAny_pure (wpAny_bind ?_))
  refine ty.at (wpAny_bind (fd.at ?_))
  refine wpAny_bind (wpAny_holding ?_)
  refine wpAny_call (class_get (s := ⟨hp, g, d, t + 1, os⟩) k i C.hm ?_)
  refine wpAny_pure ?_
  dsimp only
  rw [handedOut_of (v := .ref D) rfl]
  first
    | exact wpAny_pure (wpAny_pure q)
    | exact wpAny_pure q
    | exact wpAny_pure (wpAny_bind (wpAny_pure (wpAny_pure q)))
theorem cls_at (C : L2.ExcC K D) : ∃ c d cd sl, K.lookup D = some ⟨c, d, .cls cd, sl⟩ := by
  obtain ⟨cd, e, _⟩ := any_some C.hd
  unfold clsIn at e
  split at e
  · rename_i h; exact ⟨_, _, _, _, h⟩
  · cases e
theorem kit_exc (C : L2.ExcC K D) : KitX K (.ref x) (.ref D) (fun h => PySem.W.InstAt h x ob D od) := by
  obtain ⟨c, d, cd, sl, lk⟩ := cls_at C
  refine ⟨fun _ _ _ i => i.type, fun _ _ k _ => ?_, fun h tp dd its n sl k e => ?_, fun k i q => cls_of C k i q⟩
  · intro A Q E s grow q
    unfold isType loadHead
    refine wpAny_bind ?_
    exact wpAny_loadPart (grow _ _ (k _ _ lk)) (wpAny_pure q)
  · by_cases z : D = tp
    · subst z
      have w := (k _ _ lk).symm.trans e
      cases w
    · exact beq_eq_false_iff_ne.mpr fun w => z (Value.ref.inj w)
end
end ML
namespace ML
open PySem L2 DL
/-- isinstance(err, c) within a suite -/
def rIsx (K : Fg) (D a : Addr) (d : Option Addr) : List V → Hp → VK → Prop := fun xs H Q => ∃ (c : V) (cv : Value) (b : Bool), xs = [.ref a, c] ∧ (d = none ∨ ∃ dd fs, d = some dd ∧ H dd = some (.xd fs)) ∧ (∀ u, RelV c u → u = cv) ∧ PySem.W.kitOne K (.ref D) cv = some b ∧ Q (.bl b) H
theorem call_isx {X : Cx} {a D : Addr} {oe : Obj} {d : Option Addr} {pn : List (Addr × Obj)} (C : ExcC X.K D) (hz : Zc (.ref D) d oe) (hf : ∃ vs, oe.data = .fields vs) : CallR (X.suite a ((a, oe) :: pn)) (.builtin "isinstance") (rIsx X.K D a d) := by
  rintro pins s σ H xs us Q I r ⟨c, cv, b, rfl, hd, hcv, e, q⟩
  cases r with
  | cons ra rr =>
    cases rr with
    | cons rc rr =>
      cases rr
      cases ra
      obtain rfl := hcv _ rc
      obtain ⟨at_, _⟩ := I.pin (a, oe) (List.mem_append_left _ List.mem_cons_self)
      obtain ⟨vs, hv⟩ := hf
      have nc : PySem.W.notCls oe = true := by unfold PySem.W.notCls; rw [hv]
      obtain ⟨od, J⟩ : ∃ od, PySem.W.InstAt s.heap a oe D od := by
        rcases hd with rfl | ⟨dd, fs, rfl, hx⟩
        · exact ⟨none, at_, hz.1, nc, by rw [hz.2]; trivial⟩
        · obtain ⟨mA, ns, _⟩ := (I.hok dd _ hx : ObjOk X.prog X.w H s.heap dd (.xd fs))
          obtain ⟨od, ho, _⟩ := lookIn_ns ns
          exact ⟨some od, at_, hz.1, nc, by rw [hz.2]; exact ho⟩
      exact PySem.W.kia_one (kit_exc C) I.kIn J e (fun z => nomatch z) fun tk => ⟨.bl b, H, I.kept (t' := tk) fun _ _ z => z, rfl, q⟩
theorem call_isx' {X : Cx} {a C C0 : Addr} {oe : Obj} {d : Option Addr} {pn : List (Addr × Obj)} (t : ExcC X.K C0) (hz : Zc (.ref C) d oe) (hf : ∃ vs, oe.data = .fields vs) : CallR (X.suite a ((a, oe) :: pn)) (.builtin "isinstance") (fun xs H Q => C = C0 ∧ rIsx X.K C a d xs H Q) :=
  fun pins s σ H xs us Q I r ⟨e, h⟩ => by subst e; exact call_isx t hz hf pins s σ H xs us Q I r h
/-- what isinstance answers for the class C0 -/
structure IsT (K : Fg) (C0 : Addr) (T : D → Bool → Prop) : Prop where
  ex : ExcC K C0
  an : ∀ d b, T d b → ∃ cv, (∀ H v, Rep K H v d → ∀ u, RelV v u → u = cv) ∧ PySem.W.kitOne K (.ref C0) cv = some b
def mIsx (a C C0 : Addr) (T : D → Bool → Prop) (τs : TMA) : TM := fun ω ρ h P => τs ω ρ h fun ds h1 => ∃ c b, ds = [.raw (.ref a), c] ∧ C = C0 ∧ T c b ∧ P (.fz (.bl b)) h1
theorem me_isx {X : Cx} {a C C0 : Addr} {oe : Obj} {d : Option Addr} {fs : List (Str × D)} {pn : List (Addr × Obj)} {es : List Expr} {e : Expr} {τs : TMA} {T : D → Bool → Prop} {p pos : Pos} (t : IsT X.K C0 T) (hz : Zc (.ref C) d oe) (hv : ∃ vs, oe.data = .fields vs) (hg : Gl (X.suite a ((a, oe) :: pn)) "isinstance") (hm : X.mg "isinstance" = none)
    (ha : MA (X.suite a ((a, oe) :: pn)) (WSu X.K d fs) (e :: es) τs) (he : starEach (e :: es) X.env = (false, eval e X.env) :: starEach es X.env := by rfl) (hpl : (backTo pos (starEach es X.env)).any (·.1) = false := by rfl) :
    ME (X.suite a ((a, oe) :: pn)) (WSu X.K d fs) (.Call (.Name "isinstance" p) (e :: es) [] pos) (mIsx a C C0 T τs) := by
  refine ME.of (pe_callB (call_isx' t.ex hz hv) hg hm rfl ha.pa (by decide) (by decide) he hpl) fun σ H Hf ρ h R P Q e q k => ⟨R, Hf, ρ, h, _, e, q, fun vs H1 Hf1 ds h1 e1 m1 r1 hds ⟨c, b, hd, hC, hT, p1⟩ => ?_⟩
  subst hd hC
  obtain ⟨cv, u1, u2⟩ := t.an c b hT
  cases r1 with
  | cons ra rr =>
    cases rr with
    | cons rc rr =>
      cases rr
      cases ra
      refine ⟨rfl, _, cv, b, rfl, ?_, fun u hu => u1 _ _ rc u hu, u2, k (.bl b) H1 Hf1 (.fz (.bl b)) h1 e1 m1 (Rep.bl b) p1⟩
      rcases e1.gh with z | ⟨dd, gs, z1, z2, z3⟩
      · exact .inl z.1
      · exact .inr ⟨dd, gs, z1, e1.hs.sub _ _ z2⟩
theorem loop_step {ω : Wω} {γ : TMG} {τb : TMS} {PD : MEnds} {d : D} {ds : List D} {ρ : Me} {h : Hd} (q : γ d ρ fun ρ1 => τb ω { PD with nx := loopM ω γ τb PD ds, ct := loopM ω γ τb PD ds, bk := PD.nx } ρ1 h) : loopM ω γ τb PD (d :: ds) ρ h := by
  rw [loopM_cons]
  exact q
theorem loop_end {ω : Wω} {γ : TMG} {τb : TMS} {PD : MEnds} {ρ : Me} {h : Hd} (q : PD.nx ρ h) : loopM ω γ τb PD [] ρ h := by
  rw [loopM_nil]
  exact q
/-! ### == where one side is not deep -/
def rEqE (K : Fg) : R2 := fun x y H Q => ∃ d e, Dp K H x d ∧ Dp K H y e ∧ d.canLay0 = true ∧ e.canLay0 = true ∧ min d.depth e.depth ≤ 64 ∧ Q (.bl (PyData.eqv d e)) H
theorem op_eqE {X : Cx} (hu : X.A.units + 64 < cLine) : OpR X (compareOp .Eq) (rEqE X.K) := by
  rintro pins s σ H x y v u Q I rx ry ⟨d, e, hd, he, l1, l2, hm, q⟩
  obtain ⟨as, r1⟩ := Dp.reads I d x v hd rx
  obtain ⟨bs, r2⟩ := Dp.reads I e y u he ry
  exact PySem.SeqAt.compareEq_reads r1 r2 l1 l2 (by omega) ⟨.bl _, H, I, rfl, q⟩
def layE (a : D) : Bool := a.okP && a.py.canLay0
def eqE (a b : D) : Option Res := if (layE a && (layE b && decide (min a.py.depth b.py.depth ≤ 64))) = true then some (.fz (.bl (eqvD a b))) else none
theorem opS_eqE {K : Fg} : OpS K (rEqE K) eqE := by
  intro H Hf x y a b c Q hf ra rb hg k
  unfold eqE at hg
  split at hg
  · rename_i hz
    cases hg
    obtain ⟨h1, hz⟩ := Bool.and_eq_true_iff.mp hz
    obtain ⟨h2, h3⟩ := Bool.and_eq_true_iff.mp hz
    obtain ⟨o1, c1⟩ := Bool.and_eq_true_iff.mp h1
    obtain ⟨o2, c2⟩ := Bool.and_eq_true_iff.mp h2
    exact ⟨_, _, (ra.mono hf).dp o1, (rb.mono hf).dp o2, c1, c2, of_decide_eq_true h3, k _ _ _ (Ext.refl hf) (.bl _)⟩
  · cases hg
theorem mt_eqVE {X : Cx} {W : Wd} {a b : Expr} {τa τb : TM} {k : Nat} {pos : Pos} (hr : Room k X.A) (ha : ME X W a τa) (hb : ME X W b τb) : MT X W (.Compare a [.Eq] [b] pos) (mT (mBinV eqE τa τb)) := mt_cmpV (op_eqE hr.units) opS_eqE ha hb (nomark _)
end ML
/-! Notations of patterns: how they are written, how they are read. Plain Lean. -/
namespace Cut
open PySem L2 DL
/-- a reading: what was read and the place behind it, or the place where it is refused -/
inductive PR (α : Type) where
  | ok (a : α) (j : Nat) | er (j : Nat)
def PR.bnd {α β : Type} (x : PR α) (f : α → Nat → PR β) : PR β := match x with
  | .ok a j => f a j
  | .er j => .er j
def PR.post {α : Type} (x : PR α) (Q : α → Nat → Prop) (E : Nat → Prop) : Prop := match x with
  | .ok a j => Q a j
  | .er j => E j
theorem post_bnd {α β : Type} (x : PR α) (f : α → Nat → PR β) (Q : β → Nat → Prop) (E : Nat → Prop) : (x.bnd f).post Q E = x.post (fun a j => (f a j).post Q E) E := by cases x <;> rfl
theorem PR.post.imp {α : Type} {x : PR α} {Q Q' : α → Nat → Prop} {E E' : Nat → Prop} (h : x.post Q E) (h1 : ∀ a j, x = .ok a j → Q a j → Q' a j) (h2 : ∀ j, x = .er j → E j → E' j) : x.post Q' E' := by
  cases x with
  | ok a j => exact h1 a j rfl h
  | er j => exact h2 j rfl h
/-! ### writing -/
def dig (i : Int) : List Nat := [48 + i.toNat]
def hiT : Option Int → List Nat
  | none => [42]
  | some h => dig h
def wRow : List Nat := [114, 111, 119]
def wAny : List Nat := [97, 110, 121]
def wAll : List Nat := [97, 108, 108]
def wNot : List Nat := [110, 111, 116]
def wAgain : List Nat := [97, 103, 97, 105, 110]
mutual
def fmt : Rx → List Nat
  | .set s => 91 :: (s.cps.toList ++ [93])
  | .row ps => 40 :: (wRow ++ (fmtL ps ++ [41]))
  | .any ps => 40 :: (wAny ++ (fmtL ps ++ [41]))
  | .all ps => 40 :: (wAll ++ (fmtL ps ++ [41]))
  | .no p => 40 :: (wNot ++ (32 :: (fmt p ++ [41])))
  | .again p lo hi => 40 :: (wAgain ++ (32 :: (fmt p ++ (32 :: (dig lo ++ (32 :: (hiT hi ++ [41])))))))
def fmtL : List Rx → List Nat
  | [] => []
  | p :: ps => 32 :: (fmt p ++ fmtL ps)
end
/-! ### reading -/
section
variable (s : List Nat)
def pX : List Nat → Nat → PR Unit
  | [], i => .ok () i
  | c :: cs, i => if s[i]? = some c then pX cs (i + 1) else .er i
def KW : List (List Nat) := [wRow, wAny, wAll, wNot, wAgain]
def isPre (f : List Nat) : Bool := KW.any fun w => decide (w.take f.length = f)
def pK : Nat → List Nat → Nat → PR (List Nat)
  | 0, _, i => .er i
  | n + 1, f, i => if KW.contains f = true then .ok f i else match s[i]? with
    | none => .er i
    | some c => if isPre (f ++ [c]) = true then pK n (f ++ [c]) (i + 1) else .er i
def pD (low : Nat) (i : Nat) : PR Nat := match s[i]? with
  | none => .er i
  | some c => if 48 + low ≤ c ∧ c ≤ 52 then .ok (c - 48) (i + 1) else .er i
/-- the characters of a set: those left, those found -/
def pC : Nat → List Nat → List Nat → Nat → PR (List Nat)
  | 0, _, _, i => .er i
  | n + 1, rest, f, i => match s[i]? with
    | none => .er i
    | some c => if c = 93 then .ok f i else if c ∈ rest then pC n (rest.drop (rest.idxOf c + 1)) (f ++ [c]) (i + 1) else .er i
def pS (A : List Nat) (i : Nat) : PR Rx := (pX s [91] i).bnd fun _ j => (pC s (A.length + 1) A [] j).bnd fun f k => (pX s [93] k).bnd fun _ l => .ok (.set (ofL f)) l
def mkW (w : List Nat) (ps : List Rx) : Rx := if w = wRow then .row ps else if w = wAny then .any ps else .all ps
mutual
def pE (A : List Nat) : Nat → Nat → PR Rx
  | 0, i => .er i
  | n + 1, i => if s[i]? = some 91 then pS s A i else (pX s [40] i).bnd fun _ i1 => (pK s 6 [] i1).bnd fun w i2 =>
    (if w = wAgain then (pX s [32] i2).bnd fun _ i3 => (pE A n i3).bnd fun p i4 => (pX s [32] i4).bnd fun _ i5 => (pD s 0 i5).bnd fun lo i6 => (pX s [32] i6).bnd fun _ i7 =>
        (if s[i7]? = some 42 then (pX s [42] i7).bnd fun _ i8 => .ok (.again p (lo : Nat) none) i8 else (pD s lo i7).bnd fun hi i8 => .ok (.again p (lo : Nat) (some (hi : Nat))) i8)
      else if w = wNot then (pX s [32] i2).bnd fun _ i3 => (pE A n i3).bnd fun p i4 => .ok (.no p) i4
      else (pP A n i2).bnd fun ps i3 => .ok (mkW w ps) i3).bnd fun r j => (pX s [41] j).bnd fun _ k => .ok r k
def pP (A : List Nat) : Nat → Nat → PR (List Rx)
  | 0, i => .er i
  | n + 1, i => if s[i]? = some 41 then .ok [] i else (pX s [32] i).bnd fun _ i1 => (pE A n i1).bnd fun p i2 => (pP A n i2).bnd fun ps i3 => .ok (p :: ps) i3
end
end
/-! ### reading what was written -/
theorem at_pre {pre cs post : List Nat} {c : Nat} : (pre ++ (c :: cs) ++ post)[pre.length]? = some c := by
  rw [List.append_assoc, List.getElem?_append_right (Nat.le_refl _), Nat.sub_self]; rfl
theorem pX_ok {s : List Nat} : ∀ (t : List Nat) (pre post : List Nat), s = pre ++ t ++ post → pX s t pre.length = .ok () (pre.length + t.length)
  | [], pre, post, _ => rfl
  | c :: cs, pre, post, h => by
    unfold pX
    rw [if_pos (by rw [h]; exact at_pre)]
    have := pX_ok (s := s) cs (pre ++ [c]) post (by rw [h]; simp)
    rw [List.length_append, List.length_singleton] at this
    rw [this, List.length_cons]
    congr 1
    omega
theorem pK_ok {s : List Nat} {w : List Nat} (hw : w ∈ KW) {pre post : List Nat} (h : s = pre ++ w ++ post) : pK s 6 [] pre.length = .ok w (pre.length + w.length) := by
  have g : ∀ i, i < w.length → s[pre.length + i]? = w[i]? := fun i hi => by
    rw [h, List.append_assoc, List.getElem?_append_right (by omega), Nat.add_sub_cancel_left, List.getElem?_append_left hi]
  simp only [KW, List.mem_cons, List.mem_nil_iff, or_false] at hw
  have g0 := g 0
  have g1 := g 1
  have g2 := g 2
  have g3 := g 3
  have g4 := g 4
  rcases hw with rfl | rfl | rfl | rfl | rfl
  all_goals simp only [wRow, wAny, wAll, wNot, wAgain, List.length_cons, List.length_nil, Nat.add_zero] at g0 g1 g2 g3 g4 ⊢
  all_goals have g0 := g0 (by decide)
  all_goals have g1 := g1 (by decide)
  all_goals have g2 := g2 (by decide)
  all_goals simp only [List.getElem?_cons_zero, List.getElem?_cons_succ] at g0 g1 g2
  all_goals simp only [pK, g0, g1, g2, Nat.add_assoc, Nat.reduceAdd]
  all_goals first
    | (simp only [show KW.contains ([] : List Nat) = false by decide, show KW.contains [114] = false by decide, show KW.contains [114, 111] = false by decide, show KW.contains [97] = false by decide, show KW.contains [97, 110] = false by decide, show KW.contains [97, 108] = false by decide, show KW.contains [110] = false by decide, show KW.contains [110, 111] = false by decide, Bool.false_eq_true, if_false, List.nil_append, List.cons_append,
        show isPre [114] = true by decide, show isPre [114, 111] = true by decide, show isPre [114, 111, 119] = true by decide, show isPre [97] = true by decide, show isPre [97, 110] = true by decide, show isPre [97, 110, 121] = true by decide, show isPre [97, 108] = true by decide, show isPre [97, 108, 108] = true by decide, show isPre [110] = true by decide, show isPre [110, 111] = true by decide, show isPre [110, 111, 116] = true by decide, if_true,
        show KW.contains [114, 111, 119] = true by decide, show KW.contains [97, 110, 121] = true by decide, show KW.contains [97, 108, 108] = true by decide, show KW.contains [110, 111, 116] = true by decide]; done)
    | skip
  have g3 := g3 (by decide)
  have g4 := g4 (by decide)
  simp only [List.getElem?_cons_zero, List.getElem?_cons_succ] at g3 g4
  simp only [g3, g4, show KW.contains ([] : List Nat) = false by decide, show KW.contains [97] = false by decide, show KW.contains [97, 103] = false by decide, show KW.contains [97, 103, 97] = false by decide, show KW.contains [97, 103, 97, 105] = false by decide, Bool.false_eq_true, if_false, List.nil_append, List.cons_append,
    show isPre [97] = true by decide, show isPre [97, 103] = true by decide, show isPre [97, 103, 97] = true by decide, show isPre [97, 103, 97, 105] = true by decide, show isPre [97, 103, 97, 105, 110] = true by decide, if_true, show KW.contains [97, 103, 97, 105, 110] = true by decide]
theorem pD_ok {s : List Nat} {lo i : Int} (h0 : 0 ≤ lo) (h1 : lo ≤ i) (h4 : i ≤ 4) {pre post : List Nat} (h : s = pre ++ dig i ++ post) : pD s lo.toNat pre.length = .ok i.toNat (pre.length + 1) := by
  unfold pD
  rw [show s[pre.length]? = some (48 + i.toNat) by rw [h]; exact at_pre]
  dsimp only
  rw [if_pos (by omega)]
  congr 1
  omega
/-- the characters of a set, in the order of the alphabet -/
theorem pC_ok {s : List Nat} : ∀ (n : Nat) (rest cs f pre post : List Nat), cs.length < n → s = pre ++ cs ++ (93 :: post) → 93 ∉ cs → cs.Sublist rest → rest.Nodup → pC s n rest f pre.length = .ok (f ++ cs) (pre.length + cs.length)
  | n + 1, rest, [], f, pre, post, _, h, _, _, _ => by
    unfold pC
    rw [show s[pre.length]? = some 93 by rw [h, List.append_nil]; simp]
    simp
  | n + 1, rest, c :: cs, f, pre, post, hn, h, h9, hs, nd => by
    unfold pC
    rw [show s[pre.length]? = some c by rw [h]; exact at_pre]
    have hc : c ≠ 93 := fun e => h9 (by rw [e]; exact List.mem_cons_self ..)
    have hm : c ∈ rest := hs.subset (List.mem_cons_self ..)
    dsimp only
    rw [if_neg hc, if_pos hm]
    have hs2 : cs.Sublist (rest.drop (rest.idxOf c + 1)) := by
      obtain ⟨a, b, rfl, hb⟩ : ∃ a b, rest = a ++ c :: b ∧ c ∉ a := by
        obtain ⟨a, b, e⟩ := List.append_of_mem hm
        refine ⟨a, b, e, fun hca => ?_⟩
        rw [e, List.nodup_append] at nd
        exact nd.2.2 c hca c (List.mem_cons_self ..) rfl
      rw [List.idxOf_append, if_neg hb, List.idxOf_cons_self, Nat.zero_add]
      rw [show a ++ c :: b = (a ++ [c]) ++ b by simp, List.drop_append, List.drop_of_length_le (by simp), List.length_append, List.length_singleton, Nat.sub_self, List.drop_zero, List.nil_append]
      rw [List.cons_sublist_iff] at hs
      obtain ⟨r1, r2, e1, e2, e3⟩ := hs
      have hr : (a ++ [c]).length ≤ r1.length := by
        rcases Nat.lt_or_ge r1.length (a.length + 1) with hlt | hge
        · exfalso
          have : r1 <+: a := by
            have p1 : r1 <+: a ++ c :: b := ⟨r2, e1.symm⟩
            have p2 : a <+: a ++ c :: b := ⟨c :: b, rfl⟩
            exact List.prefix_of_prefix_length_le p1 p2 (by omega)
          exact hb (this.subset e2)
        · simpa using hge
      have p1 : a ++ [c] <+: a ++ c :: b := ⟨b, by simp⟩
      have p2 : r1 <+: a ++ c :: b := ⟨r2, e1.symm⟩
      obtain ⟨t, ht⟩ := List.prefix_of_prefix_length_le p1 p2 hr
      have : b = t ++ r2 := by
        have e4 : (a ++ [c]) ++ b = (a ++ [c]) ++ (t ++ r2) := by rw [← List.append_assoc, ht, ← e1]; simp
        exact List.append_cancel_left e4
      rw [this]
      exact e3.trans (List.sublist_append_right t r2)
    have nd2 : (rest.drop (rest.idxOf c + 1)).Nodup := nd.sublist (List.drop_sublist _ _)
    have := pC_ok (s := s) n (rest.drop (rest.idxOf c + 1)) cs (f ++ [c]) (pre ++ [c]) post (by simpa using hn) (by rw [h]; simp) (fun z => h9 (List.mem_cons_of_mem _ z)) hs2 nd2
    rw [List.length_append, List.length_singleton] at this
    rw [this, List.append_assoc, List.length_cons]
    congr 1
    omega
theorem set_sub {A s : Str} (h : isSetM A [.str s] = true) : s.cps.toList.Sublist A.cps.toList := by
  have e : s = ofL (A.cps.toList.filter fun c => decide (c ∈ s.cps.toList)) := of_decide_eq_true h
  have e2 : s.cps.toList = A.cps.toList.filter fun c => decide (c ∈ s.cps.toList) := by
    have := congrArg (fun z : Str => z.cps.toList) e
    simpa using this
  rw [e2]
  exact List.filter_sublist
theorem pS_ok {t : List Nat} {A s : Str} (hA : Alp A) (h : isSetM A [.str s] = true) {pre post : List Nat} (e : t = pre ++ fmt (.set s) ++ post) : pS t A.cps.toList pre.length = .ok (.set s) (pre.length + (fmt (.set s)).length) := by
  have hs := set_sub h
  have h9 : 93 ∉ A.cps.toList := fun z => by
    have := hA.ch 93 z
    rw [CH_eq] at this
    revert this
    decide
  rw [fmt] at e ⊢
  unfold pS
  rw [show pX t [91] pre.length = .ok () (pre.length + 1) from pX_ok [91] pre (s.cps.toList ++ 93 :: post) (by rw [e]; simp)]
  dsimp only [PR.bnd]
  have := pC_ok (s := t) (A.cps.toList.length + 1) A.cps.toList s.cps.toList [] (pre ++ [91]) post (by have := hs.length_le; omega) (by rw [e]; simp) (fun z => h9 (hs.subset z)) hs hA.nd
  rw [List.length_append, List.length_singleton] at this
  rw [this]
  dsimp only
  have := pX_ok (s := t) [93] (pre ++ [91] ++ s.cps.toList) post (by rw [e]; simp)
  rw [show List.length (pre ++ [91] ++ s.cps.toList) = pre.length + 1 + s.cps.toList.length by simp; omega] at this
  rw [this]
  dsimp only
  rw [List.nil_append, l_ofL]
  congr 1
  simp
  omega
theorem fmt_head (r : Rx) : (∃ u, fmt r = 91 :: u) ∨ (∃ u, fmt r = 40 :: u) := by
  cases r <;> simp [fmt]
mutual
theorem pE_ok {t : List Nat} {A : Str} (hA : Alp A) : ∀ (r : Rx) (n : Nat) (pre post : List Nat), stR A r = true → okR r = true → t = pre ++ fmt r ++ post → (fmt r).length < n → pE t A.cps.toList n pre.length = .ok r (pre.length + (fmt r).length)
  | .set s, n + 1, pre, post, hs, ho, e, hn => by
    unfold pE
    rw [if_pos (by rw [e, fmt]; exact at_pre)]
    rw [stR, Bool.and_eq_true] at hs
    exact pS_ok hA hs.1 e
  | .row ps, n + 1, pre, post, hs, ho, e, hn => by
    rw [stR] at hs
    rw [okR, Bool.and_eq_true] at ho
    rw [fmt] at e hn ⊢
    refine pE_list hA (w := wRow) (by decide) ps n pre post e (by simp only [wRow, List.length_cons, List.length_append, List.length_nil] at hn ⊢; omega) (by decide) (by decide) ?_
    exact pP_ok (t := t) hA ps n (pre ++ 40 :: wRow) post hs ho.2 (by rw [e]; simp) (by simp only [wRow, List.length_cons, List.length_append, List.length_nil] at hn ⊢; omega)
  | .any ps, n + 1, pre, post, hs, ho, e, hn => by
    rw [stR] at hs
    rw [okR, Bool.and_eq_true] at ho
    rw [fmt] at e hn ⊢
    refine pE_list hA (w := wAny) (by decide) ps n pre post e (by simp only [wAny, List.length_cons, List.length_append, List.length_nil] at hn ⊢; omega) (by decide) (by decide) ?_
    exact pP_ok (t := t) hA ps n (pre ++ 40 :: wAny) post hs ho.2 (by rw [e]; simp) (by simp only [wAny, List.length_cons, List.length_append, List.length_nil] at hn ⊢; omega)
  | .all ps, n + 1, pre, post, hs, ho, e, hn => by
    rw [stR] at hs
    rw [okR, Bool.and_eq_true] at ho
    rw [fmt] at e hn ⊢
    refine pE_list hA (w := wAll) (by decide) ps n pre post e (by simp only [wAll, List.length_cons, List.length_append, List.length_nil] at hn ⊢; omega) (by decide) (by decide) ?_
    exact pP_ok (t := t) hA ps n (pre ++ 40 :: wAll) post hs ho.2 (by rw [e]; simp) (by simp only [wAll, List.length_cons, List.length_append, List.length_nil] at hn ⊢; omega)
  | .no p, n + 1, pre, post, hs, ho, e, hn => by
    rw [stR] at hs
    rw [okR] at ho
    rw [fmt] at e hn ⊢
    unfold pE
    rw [if_neg (by rw [e, at_pre]; decide)]
    rw [show pX t [40] pre.length = .ok () (pre.length + 1) from pX_ok [40] pre _ (by rw [e]; simp; rfl)]
    dsimp only [PR.bnd]
    have e1 := pK_ok (s := t) (w := wNot) (by decide) (pre := pre ++ [40]) (post := 32 :: (fmt p ++ [41]) ++ post) (by rw [e]; simp)
    rw [List.length_append, List.length_singleton] at e1
    rw [e1]
    dsimp only
    rw [if_neg (by decide), if_pos rfl]
    have e2 := pX_ok (s := t) [32] (pre ++ 40 :: wNot) (fmt p ++ [41] ++ post) (by rw [e]; simp)
    rw [show List.length (pre ++ 40 :: wNot) = pre.length + 1 + wNot.length by simp; omega] at e2
    rw [e2]
    dsimp only
    have e3 := pE_ok (t := t) hA p n (pre ++ 40 :: wNot ++ [32]) ([41] ++ post) hs ho (by rw [e]; simp) (by simp only [wNot, List.length_cons, List.length_append, List.length_nil] at hn ⊢; omega)
    rw [show List.length (pre ++ 40 :: wNot ++ [32]) = pre.length + 1 + wNot.length + [32].length by simp; omega] at e3
    rw [e3]
    dsimp only
    have e4 := pX_ok (s := t) [41] (pre ++ 40 :: wNot ++ [32] ++ fmt p) post (by rw [e]; simp)
    rw [show List.length (pre ++ 40 :: wNot ++ [32] ++ fmt p) = pre.length + 1 + wNot.length + [32].length + (fmt p).length by simp; omega] at e4
    rw [e4]
    dsimp only
    congr 1
    simp
    omega
  | .again p lo hi, n + 1, pre, post, hs, ho, e, hn => by
    rw [stR] at hs
    rw [okR, Bool.and_eq_true, Bool.and_eq_true, Bool.and_eq_true] at ho
    obtain ⟨⟨⟨ho1, ho2⟩, ho3⟩, ho4⟩ := ho
    have l0 : 0 ≤ lo := of_decide_eq_true ho2
    have l4 : lo ≤ 4 := of_decide_eq_true ho3
    rw [fmt] at e hn ⊢
    unfold pE
    rw [if_neg (by rw [e, at_pre]; decide)]
    rw [show pX t [40] pre.length = .ok () (pre.length + 1) from pX_ok [40] pre _ (by rw [e]; simp; rfl)]
    dsimp only [PR.bnd]
    have e1 := pK_ok (s := t) (w := wAgain) (by decide) (pre := pre ++ [40]) (post := 32 :: (fmt p ++ (32 :: (dig lo ++ (32 :: (hiT hi ++ [41]))))) ++ post) (by rw [e]; simp)
    rw [List.length_append, List.length_singleton] at e1
    rw [e1]
    dsimp only
    rw [if_pos rfl]
    have e2 := pX_ok (s := t) [32] (pre ++ 40 :: wAgain) (fmt p ++ (32 :: (dig lo ++ (32 :: (hiT hi ++ [41])))) ++ post) (by rw [e]; simp)
    rw [show List.length (pre ++ 40 :: wAgain) = pre.length + 1 + wAgain.length by simp; omega] at e2
    rw [e2]
    dsimp only
    have e3 := pE_ok (t := t) hA p n (pre ++ 40 :: wAgain ++ [32]) ((32 :: (dig lo ++ (32 :: (hiT hi ++ [41])))) ++ post) hs ho1 (by rw [e]; simp) (by simp only [wAgain, dig, List.length_cons, List.length_append, List.length_nil] at hn ⊢; omega)
    rw [show List.length (pre ++ 40 :: wAgain ++ [32]) = pre.length + 1 + wAgain.length + [32].length by simp; omega] at e3
    rw [e3]
    dsimp only
    have e4 := pX_ok (s := t) [32] (pre ++ 40 :: wAgain ++ [32] ++ fmt p) (dig lo ++ (32 :: (hiT hi ++ [41])) ++ post) (by rw [e]; simp)
    rw [show List.length (pre ++ 40 :: wAgain ++ [32] ++ fmt p) = pre.length + 1 + wAgain.length + [32].length + (fmt p).length by simp; omega] at e4
    rw [e4]
    dsimp only
    have e5 := pD_ok (s := t) (lo := 0) (i := lo) (by omega) l0 l4 (pre := pre ++ 40 :: wAgain ++ [32] ++ fmt p ++ [32]) (post := 32 :: (hiT hi ++ [41]) ++ post) (by rw [e]; simp)
    rw [show List.length (pre ++ 40 :: wAgain ++ [32] ++ fmt p ++ [32]) = pre.length + 1 + wAgain.length + [32].length + (fmt p).length + [32].length by simp; omega] at e5
    rw [show (0 : Int).toNat = 0 from rfl] at e5
    rw [e5]
    dsimp only
    have e6 := pX_ok (s := t) [32] (pre ++ 40 :: wAgain ++ [32] ++ fmt p ++ [32] ++ dig lo) (hiT hi ++ [41] ++ post) (by rw [e]; simp)
    rw [show List.length (pre ++ 40 :: wAgain ++ [32] ++ fmt p ++ [32] ++ dig lo) = pre.length + 1 + wAgain.length + [32].length + (fmt p).length + [32].length + 1 by simp [dig]; omega] at e6
    rw [e6]
    dsimp only
    have hlo : ((lo.toNat : Nat) : Int) = lo := by omega
    have tl : ∀ (c : Nat) (cs : List Nat), hiT hi = c :: cs → t[pre.length + 1 + wAgain.length + [32].length + (fmt p).length + [32].length + 1 + [32].length]? = some c := fun c cs hc => by
      have : t = (pre ++ 40 :: wAgain ++ [32] ++ fmt p ++ [32] ++ dig lo ++ [32]) ++ (c :: cs) ++ ([41] ++ post) := by rw [e, hc]; simp
      rw [this, show pre.length + 1 + wAgain.length + [32].length + (fmt p).length + [32].length + 1 + [32].length = (pre ++ 40 :: wAgain ++ [32] ++ fmt p ++ [32] ++ dig lo ++ [32]).length by simp [dig]; omega]
      exact at_pre
    have last : ∀ (k : Nat) (hk : (hiT hi).length = k), pX t [41] (pre.length + 1 + wAgain.length + [32].length + (fmt p).length + [32].length + 1 + [32].length + k) = .ok () (pre.length + 1 + wAgain.length + [32].length + (fmt p).length + [32].length + 1 + [32].length + k + 1) := fun k hk => by
      have := pX_ok (s := t) [41] (pre ++ 40 :: wAgain ++ [32] ++ fmt p ++ [32] ++ dig lo ++ [32] ++ hiT hi) post (by rw [e]; simp)
      rw [show List.length (pre ++ 40 :: wAgain ++ [32] ++ fmt p ++ [32] ++ dig lo ++ [32] ++ hiT hi) = pre.length + 1 + wAgain.length + [32].length + (fmt p).length + [32].length + 1 + [32].length + k by simp [dig, hk]; omega] at this
      exact this
    cases hi with
    | none =>
      rw [if_pos (tl 42 [] rfl)]
      have e7 := pX_ok (s := t) [42] (pre ++ 40 :: wAgain ++ [32] ++ fmt p ++ [32] ++ dig lo ++ [32]) ([41] ++ post) (by rw [e, hiT]; simp)
      rw [show List.length (pre ++ 40 :: wAgain ++ [32] ++ fmt p ++ [32] ++ dig lo ++ [32]) = pre.length + 1 + wAgain.length + [32].length + (fmt p).length + [32].length + 1 + [32].length by simp [dig]; omega] at e7
      rw [e7]
      dsimp only
      rw [show [42].length = 1 from rfl, last 1 rfl]
      dsimp only
      rw [hlo]
      congr 1
      simp [dig, hiT]
      omega
    | some h =>
      rw [hiOk, Bool.and_eq_true] at ho4
      have h1 : lo ≤ h := of_decide_eq_true ho4.1
      have h4 : h ≤ 4 := of_decide_eq_true ho4.2
      rw [if_neg (by rw [tl (48 + h.toNat) [] rfl]; simp; omega)]
      have e7 := pD_ok (s := t) (lo := lo) (i := h) l0 h1 h4 (pre := pre ++ 40 :: wAgain ++ [32] ++ fmt p ++ [32] ++ dig lo ++ [32]) (post := [41] ++ post) (by rw [e, hiT]; simp)
      rw [show List.length (pre ++ 40 :: wAgain ++ [32] ++ fmt p ++ [32] ++ dig lo ++ [32]) = pre.length + 1 + wAgain.length + [32].length + (fmt p).length + [32].length + 1 + [32].length by simp [dig]; omega] at e7
      rw [e7]
      dsimp only
      rw [last 1 rfl]
      dsimp only
      rw [hlo, show ((h.toNat : Nat) : Int) = h by omega]
      congr 1
      simp [dig, hiT]
      omega
theorem pE_list {t : List Nat} {A : Str} (hA : Alp A) {w : List Nat} (hw : w ∈ KW) (ps : List Rx) (n : Nat) (pre post : List Nat) (e : t = pre ++ 40 :: (w ++ (fmtL ps ++ [41])) ++ post) (hn : (40 :: (w ++ (fmtL ps ++ [41]))).length < n + 1) (h1 : w ≠ wAgain) (h2 : w ≠ wNot)
    (hp : pP t A.cps.toList n (pre ++ 40 :: w).length = .ok ps ((pre ++ 40 :: w).length + (fmtL ps).length)) : pE t A.cps.toList (n + 1) pre.length = .ok (mkW w ps) (pre.length + (40 :: (w ++ (fmtL ps ++ [41]))).length) := by
  unfold pE
  rw [if_neg (by rw [e, at_pre]; decide)]
  rw [show pX t [40] pre.length = .ok () (pre.length + 1) from pX_ok [40] pre _ (by rw [e]; simp; rfl)]
  dsimp only [PR.bnd]
  have e1 := pK_ok (s := t) hw (pre := pre ++ [40]) (post := fmtL ps ++ [41] ++ post) (by rw [e]; simp)
  rw [List.length_append, List.length_singleton] at e1
  rw [e1]
  dsimp only
  rw [if_neg h1, if_neg h2]
  rw [show List.length (pre ++ 40 :: w) = pre.length + 1 + w.length by simp; omega] at hp
  rw [hp]
  dsimp only
  have e4 := pX_ok (s := t) [41] (pre ++ 40 :: w ++ fmtL ps) post (by rw [e]; simp)
  rw [show List.length (pre ++ 40 :: w ++ fmtL ps) = pre.length + 1 + w.length + (fmtL ps).length by simp; omega] at e4
  rw [e4]
  dsimp only
  congr 1
  simp
  omega
theorem pP_ok {t : List Nat} {A : Str} (hA : Alp A) : ∀ (ps : List Rx) (n : Nat) (pre post : List Nat), stRL A ps = true → okRL ps = true → t = pre ++ fmtL ps ++ (41 :: post) → (fmtL ps).length < n → pP t A.cps.toList n pre.length = .ok ps (pre.length + (fmtL ps).length)
  | [], n + 1, pre, post, _, _, e, _ => by
    unfold pP
    rw [if_pos (by rw [e, fmtL, List.append_nil]; simp)]
    simp [fmtL]
  | p :: ps, n + 1, pre, post, hs, ho, e, hn => by
    rw [stRL, Bool.and_eq_true] at hs
    rw [okRL, Bool.and_eq_true] at ho
    rw [fmtL] at e hn ⊢
    unfold pP
    rw [if_neg (by rw [e, at_pre]; decide)]
    rw [show pX t [32] pre.length = .ok () (pre.length + 1) from pX_ok [32] pre _ (by rw [e]; simp; rfl)]
    dsimp only [PR.bnd]
    have e1 := pE_ok (t := t) hA p n (pre ++ [32]) (fmtL ps ++ 41 :: post) hs.1 ho.1 (by rw [e]; simp) (by simp only [List.length_cons, List.length_append] at hn; omega)
    rw [List.length_append, List.length_singleton] at e1
    rw [e1]
    dsimp only
    have e2 := pP_ok (t := t) hA ps n (pre ++ [32] ++ fmt p) post hs.2 ho.2 (by rw [e]; simp) (by simp only [List.length_cons, List.length_append] at hn; omega)
    rw [show List.length (pre ++ [32] ++ fmt p) = pre.length + 1 + (fmt p).length by simp; omega] at e2
    rw [e2]
    dsimp only
    congr 1
    simp
    omega
end
end Cut
/-! Texts: characters, slices, searching; how readings of texts come out. -/
namespace Cut
open PySem L2 DL ML
theorem idx_first : ∀ (l : List Nat) (c i : Nat), l[i]? = some c → (∀ k, k < i → l[k]? ≠ some c) → l.idxOf c = i
  | [], c, i, h, _ => by simp at h
  | a :: l, c, 0, h, _ => by
    have h' : a = c := by simpa using h
    subst h'
    simp
  | a :: l, c, i + 1, h, hk => by
    have ha : a ≠ c := fun e => hk 0 (by omega) (by simp [e])
    have := idx_first l c i (by simpa using h) fun k hk' => by
      have := hk (k + 1) (by omega)
      simpa using this
    rw [List.idxOf_cons, beq_eq_false_iff_ne.mpr ha, this]
    rfl
theorem find_one (A : Str) (c : Nat) : Txt.find A ⟨#[c]⟩ = if c ∈ A.cps.toList then (A.cps.toList.idxOf c : Int) else -1 := by
  rcases PyProof.Rows.find_whole A ⟨#[c]⟩ with ⟨h, hn⟩ | ⟨i, h, hi, hn⟩
  · have : c ∉ A.cps.toList := fun hm => by
      obtain ⟨i, hi⟩ := List.mem_iff_getElem?.mp hm
      exact hn i ((StrLaws.subAt_one A c i).mpr hi)
    rw [h, if_neg this]
  · have e := (StrLaws.subAt_one A c i).mp hi
    have hm : c ∈ A.cps.toList := List.mem_iff_getElem?.mpr ⟨i, e⟩
    rw [h, if_pos hm, idx_first _ c i e fun k hk z => hn k hk ((StrLaws.subAt_one A c k).mpr z)]
theorem index_one {A : Str} {c : Nat} (h : c ∈ A.cps.toList) : indexS A ⟨#[c]⟩ = some (.int (A.cps.toList.idxOf c : Nat)) := by
  have e := find_one A c
  rw [if_pos h] at e
  unfold Txt.find at e
  unfold indexS
  split at e
  · rename_i i rest ho
    rw [ho]
    dsimp only
    rw [e]
  · omega
theorem s1_index {A : Str} {c : Nat} (h : c ∈ A.cps.toList) : s1D indexS (.str A) [.str ⟨#[c]⟩] = some (.fz (.int (A.cps.toList.idxOf c : Nat))) := by
  show (indexS A ⟨#[c]⟩).map Res.fz = _
  rw [index_one h]
  rfl
theorem cut_nat (S : Str) (i j : Nat) : cutS S (some (i : Int)) (some (j : Int)) = ofL ((S.cps.toList.drop i).take (j - i)) := by
  unfold cutS ofL
  rw [HT.sIx_nat, HT.sIx_nat]
  have hl := len_l S
  congr 2
  rcases Nat.le_total i S.length with h | h
  · rw [Nat.min_eq_left h]
    rcases Nat.le_total j S.length with h2 | h2
    · rw [Nat.min_eq_left h2]
    · rw [Nat.min_eq_right h2, List.take_of_length_le (by rw [List.length_drop]; omega), List.take_of_length_le (by rw [List.length_drop]; omega)]
  · rw [Nat.min_eq_right h, List.drop_of_length_le (by omega), List.drop_of_length_le (by omega), List.take_nil, List.take_nil]
theorem cut_from (S : Str) (i : Nat) : cutS S (some (i : Int)) none = ofL (S.cps.toList.drop i) := by
  unfold cutS ofL
  rw [HT.sIx_nat, HT.sIx_none]
  have hl := len_l S
  congr 2
  rcases Nat.le_total i S.length with h | h
  · rw [Nat.min_eq_left h, List.take_of_length_le (by rw [List.length_drop]; omega)]
  · rw [Nat.min_eq_right h, List.drop_of_length_le (by omega), List.drop_of_length_le (by omega), List.take_nil]
theorem cut_to (S : Str) (j : Nat) : cutS S none (some (j : Int)) = ofL (S.cps.toList.take j) := by
  unfold cutS ofL
  rw [HT.sIx_nat, HT.sIx_none]
  have hl := len_l S
  congr 2
  rw [List.drop_zero, Nat.sub_zero]
  rcases Nat.le_total j S.length with h | h
  · rw [Nat.min_eq_left h]
  · rw [Nat.min_eq_right h, List.take_of_length_le (by omega), List.take_of_length_le (by omega)]
/-- the character at a place, or none -/
def chS (S : Str) (i : Nat) : Str := ofL ((S.cps.toList.drop i).take 1)
theorem sl_chr {S : Str} {i : Nat} (h : S.length ≤ 100000) : slD (.str S) (some (i : Int)) (some ((i : Int) + 1)) = some (.fz (.str (chS S i))) := by
  show (if S.length ≤ 100000 then some (Res.fz (.str (cutS S (some (i : Int)) (some ((i : Int) + 1))))) else none) = _
  rw [if_pos h, show ((i : Int) + 1) = ((i + 1 : Nat) : Int) by omega, cut_nat, show i + 1 - i = 1 by omega]
  rfl
theorem chS_some {S : Str} {i c : Nat} (h : S.cps.toList[i]? = some c) : chS S i = ⟨#[c]⟩ := by
  unfold chS
  obtain ⟨hi, e⟩ := List.getElem?_eq_some_iff.mp h
  rw [List.drop_eq_getElem_cons hi, List.take_succ_cons, List.take_zero, e]
  rfl
theorem chS_none {S : Str} {i : Nat} (h : S.cps.toList[i]? = none) : chS S i = Str.empty := by
  unfold chS
  rw [List.drop_of_length_le (List.getElem?_eq_none_iff.mp h), List.take_nil]
  rfl
theorem one_inj {c d : Nat} (h : (⟨#[c]⟩ : Str) = ⟨#[d]⟩) : c = d := by
  have := congrArg (fun s : Str => s.cps.toList) h
  simpa using this
theorem one_ne (c : Nat) : (⟨#[c]⟩ : Str) ≠ Str.empty := fun h => by
  have := congrArg (fun s : Str => s.cps.toList.length) h
  simp [Str.empty] at this
theorem eqS_chr (S : Str) (i c : Nat) : eqS (chS S i) ⟨#[c]⟩ = decide (S.cps.toList[i]? = some c) := by
  rw [eqS_eq]
  cases h : S.cps.toList[i]? with
  | none =>
    rw [chS_none h]
    rw [decide_eq_false (fun z => one_ne c z.symm)]
    rfl
  | some d =>
    rw [chS_some h]
    by_cases e : d = c
    · subst e; simp
    · rw [decide_eq_false (fun z => e (one_inj z))]
      simp [e]
theorem neC (S : Str) (i c : Nat) : (!eqS (chS S i) ⟨#[c]⟩) = decide (¬ S.cps.toList[i]? = some c) := by rw [eqS_chr, decide_not]
theorem eqS_chr0 (S : Str) (i : Nat) : eqS (chS S i) Str.empty = decide (S.cps.toList[i]? = none) := by
  rw [eqS_eq]
  cases h : S.cps.toList[i]? with
  | none => rw [chS_none h]; simp
  | some d =>
    rw [chS_some h]
    rw [decide_eq_false (one_ne d)]
    rfl
theorem in_one {c : Nat} {z : Str} : inD (.str ⟨#[c]⟩) (.str z) = some (.fz (.bl (decide (c ∈ z.cps.toList)))) := rfl
theorem notin_one {c : Nat} {z : Str} : notinD (.str ⟨#[c]⟩) (.str z) = some (.fz (.bl (!decide (c ∈ z.cps.toList)))) := rfl
theorem add_str {a b : Str} (h : a.length + b.length ≤ 100000) : addD (.str a) (.str b) = some (.fz (.str (a ++ b))) := by
  show (if a.length + b.length ≤ 100000 then some (Res.fz (.str (a ++ b))) else none) = _
  rw [if_pos h]
theorem app_ofL (a b : List Nat) : ofL a ++ ofL b = ofL (a ++ b) := str_ext (by rw [l_append, ofL_l, ofL_l, ofL_l])
theorem len_ofL (a : List Nat) : (ofL a).length = a.length := by rw [len_l, ofL_l]
theorem ofL_inj {a b : List Nat} (h : ofL a = ofL b) : a = b := by
  have := congrArg (fun s : Str => s.cps.toList) h
  simpa using this
theorem len_str {z : Str} (h : z.length ≤ 100000) : lenD [.str z] = some (.fz (.int z.length)) := by
  show (if z.length ≤ 100000 then some (Res.fz (.int z.length)) else none) = _
  rw [if_pos h]
theorem sl_str' {z : Str} {lo hi : Option Int} (h : z.length ≤ 100000) : slD (.str z) lo hi = some (.fz (.str (cutS z lo hi))) := by
  show (if z.length ≤ 100000 then some (Res.fz (.str (cutS z lo hi))) else none) = _
  rw [if_pos h]
theorem put_self {h : Hd} {a : Addr} {o : Ob} (e : h a = some o) : put h a o = h := by
  funext b
  unfold put
  split
  · rename_i z; rw [z, e]
  · rfl
theorem ne_chr (S : Str) (i : Nat) (t : Str) : neD (.str (chS S i)) (.str t) = some (.fz (.bl (!eqS (chS S i) t))) := rfl
theorem eq_chr (S : Str) (i : Nat) (t : Str) : eqD (.str (chS S i)) (.str t) = some (.fz (.bl (eqS (chS S i) t))) := rfl
end Cut
namespace Cut
open PySem L2 DL ML
local macro_rules | `(tactic| walk_at "m") => `(tactic| repeat (first | with_reducible refine ⟨_, rfl, ?_⟩ | refine ⟨_, rfl, ?_⟩ | refine ⟨rfl, ?_⟩ | refine ⟨_, _, rfl, rfl, ?_⟩ | refine ⟨_, _, rfl, ?_⟩ | refine iteT ?_ | refine iteF ?_ | refine ⟨⟨_, rfl⟩, ?_⟩ | refine ⟨Nat.le_of_ble_eq_true rfl, ?_⟩ | refine ⟨(by decide), ?_⟩ | refine ⟨_, ix_t0 _ _, ?_⟩ | refine ⟨_, ix_l0 _ _, ?_⟩))
abbrev s_Parser_init : Stmt := inClass (top 21) 0
abbrev N_Parser_init : List Str := ["self", "alphabet", "text"]
theorem sc_Parser_init : FnScope N_Parser_init ["self", "alphabet", "text"] (defScope s_Parser_init) := ⟨rfl, rfl, rfl, by decide +kernel, rfl, by decide +kernel, by decide +kernel⟩
abbrev s_Parser_character : Stmt := inClass (top 21) 1
abbrev N_Parser_character : List Str := ["self"]
theorem sc_Parser_character : FnScope N_Parser_character ["self"] (defScope s_Parser_character) := ⟨rfl, rfl, rfl, by decide +kernel, rfl, by decide +kernel, by decide +kernel⟩
abbrev s_Parser_expect : Stmt := inClass (top 21) 2
abbrev N_Parser_expect : List Str := ["self", "text", "character"]
theorem sc_Parser_expect : FnScope N_Parser_expect ["self", "text"] (defScope s_Parser_expect) := ⟨rfl, rfl, rfl, by decide +kernel, rfl, by decide +kernel, by decide +kernel⟩
abbrev s_Parser_keyword : Stmt := inClass (top 21) 3
abbrev N_Parser_keyword : List Str := ["self", "found", "longer", "word"]
theorem sc_Parser_keyword : FnScope N_Parser_keyword ["self"] (defScope s_Parser_keyword) := ⟨rfl, rfl, rfl, by decide +kernel, rfl, by decide +kernel, by decide +kernel⟩
abbrev s_Parser_integer : Stmt := inClass (top 21) 4
abbrev N_Parser_integer : List Str := ["self", "low", "digit"]
theorem sc_Parser_integer : FnScope N_Parser_integer ["self", "low"] (defScope s_Parser_integer) := ⟨rfl, rfl, rfl, by decide +kernel, rfl, by decide +kernel, by decide +kernel⟩
abbrev s_Parser_character_set : Stmt := inClass (top 21) 5
abbrev N_Parser_character_set : List Str := ["self", "rest", "found", "character"]
theorem sc_Parser_character_set : FnScope N_Parser_character_set ["self"] (defScope s_Parser_character_set) := ⟨rfl, rfl, rfl, by decide +kernel, rfl, by decide +kernel, by decide +kernel⟩
abbrev s_Parser_repeat : Stmt := inClass (top 21) 6
abbrev N_Parser_repeat : List Str := ["self", "part", "low"]
theorem sc_Parser_repeat : FnScope N_Parser_repeat ["self"] (defScope s_Parser_repeat) := ⟨rfl, rfl, rfl, by decide +kernel, rfl, by decide +kernel, by decide +kernel⟩
abbrev s_Parser_parts : Stmt := inClass (top 21) 7
abbrev N_Parser_parts : List Str := ["self", "found"]
theorem sc_Parser_parts : FnScope N_Parser_parts ["self"] (defScope s_Parser_parts) := ⟨rfl, rfl, rfl, by decide +kernel, rfl, by decide +kernel, by decide +kernel⟩
abbrev s_Parser_expression : Stmt := inClass (top 21) 8
abbrev N_Parser_expression : List Str := ["self", "word", "found"]
theorem sc_Parser_expression : FnScope N_Parser_expression ["self"] (defScope s_Parser_expression) := ⟨rfl, rfl, rfl, by decide +kernel, rfl, by decide +kernel, by decide +kernel⟩
abbrev s_parse_pattern : Stmt := top 22
abbrev N_parse_pattern : List Str := ["alphabet", "text", "parser", "pattern"]
theorem sc_parse_pattern : FnScope N_parse_pattern ["alphabet", "text"] (defScope s_parse_pattern) := ⟨rfl, rfl, rfl, by decide +kernel, rfl, by decide +kernel, by decide +kernel⟩
section
variable {P : Program} {w : World} {K : Fg} {mg : Str → Option Value} {base : Heap} {f : Addr} {fd : FuncData} {CP CN : Addr}
def PF (A S : Str) (i : Nat) : List (Str × D) := [("alphabet", .str A), ("source", .str S), ("index", .int i)]
def PO (CP : Addr) (A S : Str) (i : Nat) : Ob := .ins CP (PF A S i)
def g_Pinit (CP : Addr) : FM := fun ds h Q _ => ∃ p A S, ds = [.raw (.ref p), .str A, .str S] ∧ h p = some (.ins CP []) ∧ Q (.fz .non) (put h p (PO CP A S 0))
theorem ok_Pinit (A : AtI K mg CP "Parser" "Parser.__init__" ["self", "alphabet", "text"] s_Parser_init f fd) (f_Parser_alphabet : Fo K CP "alphabet") (f_Parser_source : Fo K CP "source") (f_Parser_index : Fo K CP "index") : MkM P w K mg base "Parser" CP 1 3 (g_Pinit CP) := by
  refine A.mkM (okM (k := 0) A.fn sc_Parser_init (by decide) (fun cdv A outer s H E hr tk po => (mss_cons (ms_fld f_Parser_alphabet (me_v 0) (me_v 1))
      (mss_cons (ms_fld f_Parser_source (me_v 0) (me_v 2))
      (mss_one (ms_fld f_Parser_index (me_v 0) me_int))))) ?_)
  rintro ds h Q E hl ⟨p, A, S, rfl, hp, q⟩
  walk_at "m"
  refine ⟨p, [], rfl, hp, by decide, ?_⟩
  walk_at "m"
  refine ⟨p, _, rfl, put_same, Nat.le_of_ble_eq_true rfl, ?_⟩
  walk_at "m"
  refine ⟨p, _, rfl, put_same, Nat.le_of_ble_eq_true rfl, ?_⟩
  rw [put_put, put_put]
  exact q
def g_chr (CP : Addr) : FM := fun ds h Q _ => ∃ p A S i, ds = [.raw (.ref p)] ∧ h p = some (PO CP A S i) ∧ S.length ≤ 1000 ∧ Q (.fz (.str (chS S i))) h
theorem ok_chr (A : AtM K CP "character" "Parser.character" ["self"] s_Parser_character f fd) (f_Parser_source : Fo K CP "source") (f_Parser_index : Fo K CP "index") : MthM P w K mg base CP "character" 1 1 (g_chr CP) := by
  refine A.mth (okM (k := 0) A.fn sc_Parser_character (by decide) (fun cdv A outer s H E hr tk po => (mss_one (ms_ret (me_sl (me_fld f_Parser_source (me_v 0)) (mo_some (me_fld f_Parser_index (me_v 0))) (mo_some (me_add (me_fld f_Parser_index (me_v 0)) me_int)))))) ?_)
  rintro ds h Q E hl ⟨p, A, S, i, rfl, hp, hS, q⟩
  walk_at "m"
  refine ⟨_, _, .inl ⟨p, rfl, hp⟩, rfl, ?_⟩
  walk_at "m"
  refine ⟨_, _, .inl ⟨p, rfl, hp⟩, rfl, ?_⟩
  walk_at "m"
  refine ⟨_, _, .inl ⟨p, rfl, hp⟩, rfl, ?_⟩
  walk_at "m"
  exact ⟨_, sl_chr (by omega), q⟩
/-- how a reading ends: the parser stands behind it, or InvalidNotation with the place -/
def ends {α : Type} (CP CN p : Addr) (A S : Str) (h : Hd) (Q : Res → Hd → Prop) (E : Ex → Hd → Prop) (v : α → D) (x : PR α) : Prop :=
  x.post (fun a j => Q (.fz (v a)) (put h p (PO CP A S j))) (fun j => E ⟨CN, [("index", .int (j : Nat))]⟩ (put h p (PO CP A S j)))
def g_expect (CP CN : Addr) : FM := fun ds h Q E => ∃ p A S i T, ds = [.raw (.ref p), .str T] ∧ h p = some (PO CP A S i) ∧ S.length ≤ 1000 ∧ ends CP CN p A S h Q E (fun _ => .non) (pX S.cps.toList T.cps.toList i)
theorem ok_expect (A : AtM K CP "expect" "Parser.expect" ["self", "text"] s_Parser_expect f fd) (f_Parser_index : Fo K CP "index") (c_Parser_character : MthM P w K mg base CP "character" 1 1 (g_chr CP)) (e_InvalidNotation : Er1 P w K mg base "InvalidNotation" CN "index") :
    MthM P w K mg base CP "expect" 3 2 (g_expect CP CN) := by
  refine A.mth (okM (k := 2) A.fn sc_Parser_expect (by decide) (fun cdv A outer s H E hr tk po => (mss_one (ms_for po rfl (mi_seq (me_v 1)) (mg_n 2 sc_Parser_expect.nd rfl (by first | exact Or.inl rfl | exact Or.inr rfl)) (mss_cons (ms_if (mt_ne hr (me_mM0 c_Parser_character tk (hr.mono (by decide)) (me_v 0)) (me_v 2)) (mss_one (ms_raise1 e_InvalidNotation rfl tk hr (by decide) (by rfl) (ma_cons (me_fld f_Parser_index (me_v 0)) ma_nil))) mss_nil)
      (mss_one (ms_fldA f_Parser_index (me_v 0) me_int in_rdAdd inS_add)))))) ?_)
  rintro ds h Q E hl ⟨p, A, S, i, T, rfl, hp, hS, q⟩
  walk_at "m"
  refine loopM_inv (fun ds ρ h' => ∃ cs i x, ds = cs.map (fun c => D.str ⟨#[c]⟩) ∧ ρ = [some (.raw (.ref p)), some (.str T), x] ∧ h' = put h p (PO CP A S i) ∧ ends CP CN p A S h Q E (fun _ => .non) (pX S.cps.toList cs i)) _ _ _ ⟨T.cps.toList, i, none, rfl, rfl, (put_self hp).symm, q⟩ ?_ ?_
  · rintro d es ρ h' R ⟨cs, i, x, hd, rfl, rfl, q⟩ hR
    match cs, hd with
    | c :: cs, hd =>
      simp only [List.map_cons, List.cons.injEq] at hd
      obtain ⟨rfl, rfl⟩ := hd
      walk_at "m"
      refine ⟨⟨_, .inl ⟨p, rfl, put_same⟩, rfl⟩, p, A, S, i, rfl, put_same, hS, ?_⟩
      walk_at "m"
      unfold ends pX at q
      refine ifd (neC S i c) (fun hc => ?_) (fun hc => ?_)
      · rw [if_neg hc] at q
        walk_at "m"
        refine ⟨_, _, .inl ⟨p, rfl, put_same⟩, rfl, ?_⟩
        exact ⟨_, rfl, q⟩
      · rw [if_pos (Decidable.not_not.mp hc)] at q
        walk_at "m"
        refine ⟨p, _, _, rfl, put_same, rfl, ?_⟩
        walk_at "m"
        refine ⟨_, _, rfl, put_same, Nat.le_of_ble_eq_true rfl, ?_⟩
        rw [put_put]
        exact hR _ _ ⟨cs, i + 1, _, rfl, rfl, rfl, q⟩
  · rintro ρ h' ⟨cs, i, x, hd, rfl, rfl, q⟩
    match cs, hd with
    | [], _ => exact q
/-- the words of brackets, as data -/
def kwD : List D := [.str "row", .str "any", .str "all", .str "not", .str "again"]
theorem kw_in (f : List Nat) : (kwD.any fun b => eqB b (.str (ofL f))) = KW.contains f := by
  have e : ∀ (a : Str) (b : List Nat), a = ofL b → eqB (.str a) (.str (ofL f)) = (b == f) := fun a b h => by
    show eqS a (ofL f) = _
    rw [eqS_eq, h]
    by_cases hb : b = f
    · simp [hb]
    · rw [decide_eq_false (fun z => hb (ofL_inj z))]
      simp [hb]
  simp only [kwD, List.any_cons, List.any_nil, Bool.or_false]
  rw [e "row" wRow (by decide +kernel), e "any" wAny (by decide +kernel), e "all" wAll (by decide +kernel), e "not" wNot (by decide +kernel), e "again" wAgain (by decide +kernel)]
  have c : ∀ (a b : List Nat), (a == b) = (b == a) := fun a b => Bool.eq_iff_iff.mpr ⟨fun h => by simpa using (beq_iff_eq.mp h).symm, fun h => by simpa using (beq_iff_eq.mp h).symm⟩
  simp only [KW, List.contains_cons, List.contains_nil, Bool.or_false]
  rw [c wRow, c wAny, c wAll, c wNot, c wAgain]
theorem kw_notin (f : List Nat) : notinD (.str (ofL f)) (.tup kwD) = some (.fz (.bl (!KW.contains f))) := by
  rw [← kw_in]
  rfl
def preD (n : Nat) : D → D := fun w => match w with | .str a => .str (cutS a none (some (n : Int))) | d => d
theorem pre_in (f : List Nat) : notinD (.str (ofL f)) (.lst (kwD.map (preD f.length))) = some (.fz (.bl (!isPre f))) := by
  have e : ∀ (a : Str) (b : List Nat), a = ofL b → eqB (.str (cutS a none (some (f.length : Int)))) (.str (ofL f)) = decide (b.take f.length = f) := fun a b h => by
    show eqS _ (ofL f) = _
    rw [eqS_eq, cut_to, h, ofL_l]
    by_cases hb : b.take f.length = f
    · rw [decide_eq_true hb, hb]; simp
    · rw [decide_eq_false hb, decide_eq_false (fun z => hb (ofL_inj z))]
  have k : ((kwD.map (preD f.length)).any fun b => eqB b (.str (ofL f))) = isPre f := by
    simp only [kwD, preD, List.map_cons, List.map_nil, List.any_cons, List.any_nil, Bool.or_false]
    rw [e "row" wRow (by decide +kernel), e "any" wAny (by decide +kernel), e "all" wAll (by decide +kernel), e "not" wNot (by decide +kernel), e "again" wAgain (by decide +kernel)]
    simp only [isPre, KW, List.any_cons, List.any_nil, Bool.or_false]
  rw [← k]
  rfl
theorem isPre_len {g : List Nat} (h : isPre g = true) : g.length ≤ 5 := by
  unfold isPre KW at h
  simp only [List.any_cons, List.any_nil, Bool.or_false, Bool.or_eq_true, decide_eq_true_eq] at h
  have k : ∀ {w : List Nat}, w.length ≤ 5 → w.take g.length = g → g.length ≤ 5 := fun {w} hw e => by
    have := congrArg List.length e
    rw [List.length_take] at this
    omega
  rcases h with h | h | h | h | h
  · exact k (by decide) h
  · exact k (by decide) h
  · exact k (by decide) h
  · exact k (by decide) h
  · exact k (by decide) h
def g_keyword (CP CN : Addr) : FM := fun ds h Q E => ∃ p A S i, ds = [.raw (.ref p)] ∧ h p = some (PO CP A S i) ∧ S.length ≤ 1000 ∧ ends CP CN p A S h Q E (fun f => .str (ofL f)) (pK S.cps.toList 6 [] i)
theorem ok_keyword (A : AtM K CP "keyword" "Parser.keyword" ["self"] s_Parser_keyword f fd) (f_Parser_index : Fo K CP "index") (m_len : mg "len" = none) (c_KEYWORDS : Gc K mg "KEYWORDS" (.tup kwD)) (c_Parser_character : MthM P w K mg base CP "character" 1 1 (g_chr CP)) (e_InvalidNotation : Er1 P w K mg base "InvalidNotation" CN "index") :
    MthM P w K mg base CP "keyword" 3 1 (g_keyword CP CN) := by
  refine A.mth (okM (k := 2) A.fn sc_Parser_keyword (by decide) (fun cdv A outer s H E hr tk po => (mss_cons (ms_set 1 sc_Parser_keyword.nd rfl (by first | exact Or.inl rfl | exact Or.inr rfl) me_str)
      (mss_cons (ms_while po (mt_notin (me_v 1) (me_g c_KEYWORDS (by rfl))) (mss_cons (ms_set 2 sc_Parser_keyword.nd rfl (by first | exact Or.inl rfl | exact Or.inr rfl) (me_add (me_v 1) (me_mM0 c_Parser_character tk (hr.mono (by decide)) (me_v 0))))
      (mss_cons (ms_if (MW.mt (mw_or (mt_eq hr (me_v 2) (me_v 1)) (mw_or1 (mt_notin (me_v 2) (me_lc (own := [("word", 3)]) rfl sc_Parser_keyword.nd (mi_seq (me_g c_KEYWORDS (by rfl))) (blkOk_by (N := N_Parser_keyword) (sc := defScope s_Parser_keyword) (own := [("word", 3)]) (by decide +kernel)) (fun _ _ _ _ _ => (mg_n 3 sc_Parser_keyword.nd rfl (by first | exact Or.inl rfl | exact Or.inr rfl))) (fun _ _ _ _ _ => mts_nil) (fun _ _ _ _ _ => (me_sl (me_v 3) mo_none (mo_some (me_len (by rfl) m_len (ma_cons (me_v 2) ma_nil)))))))))) (mss_one (ms_raise1 e_InvalidNotation rfl tk hr (by decide) (by rfl) (ma_cons (me_fld f_Parser_index (me_v 0)) ma_nil))) mss_nil)
      (mss_cons (ms_set 1 sc_Parser_keyword.nd rfl (by first | exact Or.inl rfl | exact Or.inr rfl) (me_v 2))
      (mss_one (ms_fldA f_Parser_index (me_v 0) me_int in_rdAdd inS_add))))))
      (mss_one (ms_ret (me_v 1)))))) ?_)
  rintro ds h Q E hl ⟨p, A, S, i, rfl, hp, hS, q⟩
  walk_at "m"
  refine ⟨fun m ρ h' => ∃ g i x y, ρ = [some (.raw (.ref p)), some (.str (ofL g)), x, y] ∧ h' = put h p (PO CP A S i) ∧ g.length + m = 6 ∧ isPre g = true ∧ ends CP CN p A S h Q E (fun f => .str (ofL f)) (pK S.cps.toList m g i), ⟨6, [], i, none, none, rfl, (put_self hp).symm, rfl, rfl, q⟩, ?_⟩
  rintro m ρ h' ⟨g, i, x, y, rfl, rfl, hg, hpre, q⟩
  have hg5 := isPre_len hpre
  obtain ⟨m, rfl⟩ : ∃ m', m = m' + 1 := ⟨m - 1, by omega⟩
  walk_at "m"
  unfold ends pK at q
  refine ifB (fun hc => ?_) (fun hc => ?_)
  · have hc' : (!kwD.any fun b => eqB b (.str (ofL g))) = true := hc
    rw [kw_in] at hc'
    rw [if_neg (by simpa using hc')] at q
    walk_at "m"
    refine ⟨⟨_, .inl ⟨p, rfl, put_same⟩, rfl⟩, p, A, S, i, rfl, put_same, hS, ?_⟩
    cases hs : S.cps.toList[i]? with
    | none =>
      rw [hs] at q
      rw [chS_none hs]
      refine ⟨_, add_str (a := ofL g) (b := Str.empty) (by rw [len_ofL]; show g.length + 0 ≤ _; omega), ?_⟩
      rw [show ofL g ++ Str.empty = ofL g from str_ext (by rw [l_append]; simp [Str.empty])]
      walk_at "m"
      refine ifT (by show eqS _ _ = true; rw [eqS_eq]; simp) ?_
      refine ifT rfl ?_
      walk_at "m"
      refine ⟨_, _, .inl ⟨p, rfl, put_same⟩, rfl, ?_⟩
      exact ⟨_, rfl, q⟩
    | some c =>
      rw [hs] at q
      dsimp only at q
      rw [chS_some hs]
      refine ⟨_, add_str (a := ofL g) (b := ⟨#[c]⟩) (by rw [len_ofL]; show g.length + 1 ≤ _; omega), ?_⟩
      rw [show ofL g ++ (⟨#[c]⟩ : Str) = ofL (g ++ [c]) from app_ofL g [c]]
      walk_at "m"
      refine ifF (by show eqS _ _ = false; rw [eqS_eq]; exact decide_eq_false (fun z => by have := congrArg List.length (ofL_inj z); simp at this)) ?_
      walk_at "m"
      refine lcM_mapD (f := preD (g ++ [c]).length) kwD (fun d hd R r => ?_) (by decide) ?_
      · obtain ⟨a, rfl, ha⟩ : ∃ a, d = .str a ∧ a.length ≤ 100 := by
          simp only [kwD, List.mem_cons, List.mem_nil_iff, or_false] at hd
          rcases hd with rfl | rfl | rfl | rfl | rfl <;> exact ⟨_, rfl, by decide +kernel⟩
        walk_at "m"
        refine ⟨_, len_str (by rw [len_ofL]; simp; omega), ?_⟩
        walk_at "m"
        refine ⟨_, sl_str' (by omega), ?_⟩
        rw [len_ofL]
        exact r
      refine ⟨_, pre_in (g ++ [c]), ?_⟩
      walk_at "m"
      by_cases hq : isPre (g ++ [c]) = true
      · rw [if_pos hq] at q
        refine ifF (by rw [hq]; rfl) ?_
        walk_at "m"
        refine ⟨p, _, _, rfl, put_same, rfl, ?_⟩
        walk_at "m"
        refine ⟨_, _, rfl, put_same, Nat.le_of_ble_eq_true rfl, ?_⟩
        rw [put_put]
        exact ⟨m, by omega, g ++ [c], i + 1, _, _, rfl, rfl, by simp; omega, hq, q⟩
      · rw [if_neg hq] at q
        refine ifT (by simp [hq]) ?_
        walk_at "m"
        refine ⟨_, _, .inl ⟨p, rfl, put_same⟩, rfl, ?_⟩
        exact ⟨_, rfl, q⟩
  · have hc' : (!kwD.any fun b => eqB b (.str (ofL g))) = false := hc
    rw [kw_in] at hc'
    rw [if_pos (by simpa using hc')] at q
    walk_at "m"
    exact q
theorem ends_call {α β : Type} {p : Addr} {A S : Str} {h : Hd} {Q Q' : Res → Hd → Prop} {E E' : Ex → Hd → Prop} {v : β → D} {v' : α → D} {x : PR α} {f : α → Nat → PR β} {o : Ob} (q : ends CP CN p A S h Q E v (x.bnd f))
    (k : ∀ a j, x = .ok a j → ends CP CN p A S h Q E v (f a j) → Q' (.fz (v' a)) (put h p (PO CP A S j))) (ke : ∀ y h, E y h → E' y h := by exact fun _ _ z => z) : ends CP CN p A S (put h p o) Q' E' v' x := by
  unfold ends at q ⊢
  rw [post_bnd] at q
  refine q.imp (fun a j e z => ?_) (fun j e z => ?_)
  · rw [put_put]; exact k a j e z
  · rw [put_put]; exact ke _ _ z
def dgL : List Nat := [48, 49, 50, 51, 52, 53, 54, 55, 56, 57]
theorem dg_eq : ("0123456789" : Str).cps.toList = dgL := by decide +kernel
theorem dg_in {low c : Nat} (h : low ≤ 4) : c ∈ (dgL.drop low).take (5 - low) ↔ 48 + low ≤ c ∧ c ≤ 52 := by
  have : low = 0 ∨ low = 1 ∨ low = 2 ∨ low = 3 ∨ low = 4 := by omega
  rcases this with rfl | rfl | rfl | rfl | rfl <;> simp [dgL] <;> omega
theorem dg_ix {c : Nat} (h : 48 ≤ c) (h2 : c ≤ 52) : c ∈ dgL ∧ dgL.idxOf c = c - 48 := by
  have : c = 48 ∨ c = 49 ∨ c = 50 ∨ c = 51 ∨ c = 52 := by omega
  rcases this with rfl | rfl | rfl | rfl | rfl <;> decide
theorem dg_test {low c : Nat} (h : low ≤ 4) : (!decide (c ∈ (cutS "0123456789" (some ((low : Nat) : Int)) (some ((4 : Int) + 1))).cps.toList)) = decide (¬ (48 + low ≤ c ∧ c ≤ 52)) := by
  rw [show ((4 : Int) + 1) = ((5 : Nat) : Int) from rfl, cut_nat, dg_eq, ofL_l, decide_not]
  congr 1
  exact decide_eq_decide.mpr (dg_in h)
def g_integer (CP CN : Addr) : FM := fun ds h Q E => ∃ p A S i low, ds = [.raw (.ref p), .int (low : Nat)] ∧ low ≤ 4 ∧ h p = some (PO CP A S i) ∧ S.length ≤ 1000 ∧ ends CP CN p A S h Q E (fun d : Nat => .int d) (pD S.cps.toList low i)
theorem ok_integer (A : AtM K CP "integer" "Parser.integer" ["self", "low"] s_Parser_integer f fd) (f_Parser_index : Fo K CP "index") (c_DIGITS : Gc K mg "DIGITS" (.str "0123456789")) (c_MOST_REPEATS : Gc K mg "MOST_REPEATS" (.int 4)) (c_Parser_character : MthM P w K mg base CP "character" 1 1 (g_chr CP)) (e_InvalidNotation : Er1 P w K mg base "InvalidNotation" CN "index") :
    MthM P w K mg base CP "integer" 3 2 (g_integer CP CN) := by
  refine A.mth (okM (k := 2) A.fn sc_Parser_integer (by decide) (fun cdv A outer s H E hr tk po => (mss_cons (ms_set 2 sc_Parser_integer.nd rfl (by first | exact Or.inl rfl | exact Or.inr rfl) (me_mM0 c_Parser_character tk (hr.mono (by decide)) (me_v 0)))
      (mss_cons (ms_if (MW.mt (mw_or (mt_eq hr (me_v 2) me_str) (mw_or1 (mt_notin (me_v 2) (me_sl (me_g c_DIGITS (by rfl)) (mo_some (me_v 1)) (mo_some (me_add (me_g c_MOST_REPEATS (by rfl)) me_int))))))) (mss_one (ms_raise1 e_InvalidNotation rfl tk hr (by decide) (by rfl) (ma_cons (me_fld f_Parser_index (me_v 0)) ma_nil))) mss_nil)
      (mss_cons (ms_fldA f_Parser_index (me_v 0) me_int in_rdAdd inS_add)
      (mss_one (ms_ret (me_sindex (me_g c_DIGITS (by rfl)) (ma_cons (me_v 2) ma_nil)))))))) ?_)
  rintro ds h Q E hl ⟨p, A, S, i, low, rfl, hlow, hp, hS, q⟩
  walk_at "m"
  refine ⟨⟨_, .inl ⟨p, rfl, hp⟩, rfl⟩, p, A, S, i, rfl, hp, hS, ?_⟩
  walk_at "m"
  unfold ends pD at q
  cases hs : S.cps.toList[i]? with
  | none =>
    rw [hs] at q
    rw [chS_none hs]
    refine ifT (by show eqS _ _ = true; rw [eqS_eq]; exact decide_eq_true rfl) ?_
    walk_at "m"
    refine ⟨_, _, .inl ⟨p, rfl, hp⟩, rfl, ?_⟩
    rw [← put_self hp]
    exact ⟨_, rfl, q⟩
  | some c =>
    rw [hs] at q
    dsimp only at q
    rw [chS_some hs]
    refine ifF (by show eqS _ _ = false; rw [eqS_eq]; exact decide_eq_false (one_ne c)) ?_
    walk_at "m"
    refine ifd (dg_test (c := c) hlow) (fun hc => ?_) (fun hc => ?_)
    · rw [if_neg hc] at q
      walk_at "m"
      refine ⟨_, _, .inl ⟨p, rfl, hp⟩, rfl, ?_⟩
      rw [← put_self hp]
      exact ⟨_, rfl, q⟩
    · have hc := Decidable.not_not.mp hc
      rw [if_pos hc] at q
      walk_at "m"
      refine ⟨p, _, _, rfl, hp, rfl, ?_⟩
      walk_at "m"
      refine ⟨_, _, rfl, hp, Nat.le_of_ble_eq_true rfl, ?_⟩
      walk_at "m"
      obtain ⟨h1, h2⟩ := dg_ix (c := c) (by omega) hc.2
      refine ⟨_, s1_index (A := "0123456789") (by rw [dg_eq]; exact h1), ?_⟩
      rw [dg_eq, h2]
      exact q
def g_cset (CP CN : Addr) : FM := fun ds h Q E => ∃ p A S i, ds = [.raw (.ref p)] ∧ h p = some (PO CP A S i) ∧ A.length ≤ 1000 ∧ S.length ≤ 1000 ∧ ends CP CN p A S h Q E toD (pS S.cps.toList A.cps.toList i)
theorem ok_cset (A : AtM K CP "character_set" "Parser.character_set" ["self"] s_Parser_character_set f fd) (f_Parser_index : Fo K CP "index") (f_Parser_alphabet : Fo K CP "alphabet") (c_Parser_character : MthM P w K mg base CP "character" 1 1 (g_chr CP)) (c_Parser_expect : MthM P w K mg base CP "expect" 3 2 (g_expect CP CN)) (e_InvalidNotation : Er1 P w K mg base "InvalidNotation" CN "index") :
    MthM P w K mg base CP "character_set" 4 1 (g_cset CP CN) := by
  refine A.mth (okM (k := 3) A.fn sc_Parser_character_set (by decide) (fun cdv A outer s H E hr tk po => (mss_cons (ms_expr (me_mM c_Parser_expect tk (hr.mono (by decide)) (me_v 0) (ma_cons me_str ma_nil)))
      (mss_cons (ms_set 1 sc_Parser_character_set.nd rfl (by first | exact Or.inl rfl | exact Or.inr rfl) (me_fld f_Parser_alphabet (me_v 0)))
      (mss_cons (ms_set 2 sc_Parser_character_set.nd rfl (by first | exact Or.inl rfl | exact Or.inr rfl) me_str)
      (mss_cons (ms_while po (mt_ne hr (me_mM0 c_Parser_character tk (hr.mono (by decide)) (me_v 0)) me_str) (mss_cons (ms_set 3 sc_Parser_character_set.nd rfl (by first | exact Or.inl rfl | exact Or.inr rfl) (me_mM0 c_Parser_character tk (hr.mono (by decide)) (me_v 0)))
      (mss_cons (ms_if (MW.mt (mw_or (mt_eq hr (me_v 3) me_str) (mw_or1 (mt_notin (me_v 3) (me_v 1))))) (mss_one (ms_raise1 e_InvalidNotation rfl tk hr (by decide) (by rfl) (ma_cons (me_fld f_Parser_index (me_v 0)) ma_nil))) mss_nil)
      (mss_cons (ms_set 1 sc_Parser_character_set.nd rfl (by first | exact Or.inl rfl | exact Or.inr rfl) (me_sl (me_v 1) (mo_some (me_add (me_sindex (me_v 1) (ma_cons (me_v 3) ma_nil)) me_int)) mo_none))
      (mss_cons (ms_aug 2 sc_Parser_character_set.nd rfl (by first | exact Or.inl rfl | exact Or.inr rfl) (me_v 3) (ip_of in_rdAdd) inS_add)
      (mss_one (ms_fldA f_Parser_index (me_v 0) me_int in_rdAdd inS_add)))))))
      (mss_cons (ms_expr (me_mM c_Parser_expect tk (hr.mono (by decide)) (me_v 0) (ma_cons me_str ma_nil)))
      (mss_one (ms_ret (me_tup (ma_cons me_str (ma_cons (me_v 2) ma_nil))))))))))) ?_)
  rintro ds h Q E hl ⟨p, A, S, i, rfl, hp, hA, hS, q⟩
  rw [show h = put h p (PO CP A S i) from (put_self hp).symm]
  walk_at "m"
  unfold pS at q
  refine ⟨⟨_, .inl ⟨p, rfl, put_same⟩, rfl⟩, p, A, S, i, _, rfl, put_same, hS, ends_call q fun _ j _ q => ?_⟩
  walk_at "m"
  refine ⟨_, _, .inl ⟨p, rfl, put_same⟩, rfl, ?_⟩
  walk_at "m"
  refine ⟨fun m ρ h' => ∃ rest g i x, ρ = [some (.raw (.ref p)), some (.str (ofL rest)), some (.str (ofL g)), x] ∧ h' = put h p (PO CP A S i) ∧ rest.length < m ∧ g.length + rest.length ≤ 1000 ∧ ends CP CN p A S h Q E toD ((pC S.cps.toList m rest g i).bnd fun f k => (pX S.cps.toList [93] k).bnd fun _ l => .ok (.set (ofL f)) l),
    ⟨A.cps.toList.length + 1, A.cps.toList, [], j, none, by rw [l_ofL]; rfl, rfl, by omega, by rw [← len_l]; simpa using hA, q⟩, ?_⟩
  rintro m ρ h' ⟨rest, g, i, x, rfl, rfl, hm, hg, q⟩
  obtain ⟨m, rfl⟩ : ∃ m', m = m' + 1 := ⟨m - 1, by omega⟩
  walk_at "m"
  refine ⟨⟨_, .inl ⟨p, rfl, put_same⟩, rfl⟩, p, A, S, i, rfl, put_same, hS, ?_⟩
  walk_at "m"
  unfold pC at q
  refine ifd (neC S i 93) (fun hc => ?_) (fun hc => ?_)
  · walk_at "m"
    refine ⟨⟨_, .inl ⟨p, rfl, put_same⟩, rfl⟩, p, A, S, i, rfl, put_same, hS, ?_⟩
    walk_at "m"
    cases hs : S.cps.toList[i]? with
    | none =>
      rw [hs] at q
      rw [chS_none hs]
      refine ifT (by show eqS _ _ = true; rw [eqS_eq]; exact decide_eq_true rfl) ?_
      walk_at "m"
      refine ⟨_, _, .inl ⟨p, rfl, put_same⟩, rfl, ?_⟩
      exact ⟨_, rfl, q⟩
    | some c =>
      rw [hs] at q hc
      dsimp only at q
      rw [if_neg (fun z => hc (by rw [z]))] at q
      rw [chS_some hs]
      refine ifF (by show eqS _ _ = false; rw [eqS_eq]; exact decide_eq_false (one_ne c)) ?_
      walk_at "m"
      by_cases hr : c ∈ rest
      · rw [if_pos hr] at q
        refine ifF (by show (!decide (c ∈ (ofL rest).cps.toList)) = false; rw [ofL_l, decide_eq_true hr]; rfl) ?_
        walk_at "m"
        refine ⟨_, s1_index (A := ofL rest) (by rw [ofL_l]; exact hr), ?_⟩
        walk_at "m"
        refine ⟨_, sl_str' (by rw [len_ofL]; omega), ?_⟩
        walk_at "m"
        refine ⟨_, (show iaddD (.str (ofL g)) (.str ⟨#[c]⟩) = some (.str (ofL (g ++ [c]))) from ?_), ?_⟩
        · show (if (ofL g).length + (⟨#[c]⟩ : Str).length ≤ 100000 then some (D.str (ofL g ++ ⟨#[c]⟩)) else none) = _
          rw [if_pos (by rw [len_ofL]; show g.length + 1 ≤ _; omega), show ofL g ++ (⟨#[c]⟩ : Str) = ofL (g ++ [c]) from app_ofL g [c]]
        walk_at "m"
        refine ⟨p, _, _, rfl, put_same, rfl, ?_⟩
        walk_at "m"
        refine ⟨_, _, rfl, put_same, Nat.le_of_ble_eq_true rfl, ?_⟩
        rw [put_put]
        have hil : rest.idxOf c < rest.length := List.idxOf_lt_length_iff.mpr hr
        refine ⟨m, by omega, rest.drop (rest.idxOf c + 1), g ++ [c], i + 1, some (.str ⟨#[c]⟩), ?_, rfl, by rw [List.length_drop]; omega, by rw [List.length_drop, List.length_append, List.length_singleton]; omega, q⟩
        rw [ofL_l, show (((rest.idxOf c : Nat) : Int) + 1) = ((rest.idxOf c + 1 : Nat) : Int) by omega, cut_from, ofL_l]
        rfl
      · rw [if_neg hr] at q
        refine ifT (by show (!decide (c ∈ (ofL rest).cps.toList)) = true; rw [ofL_l, decide_eq_false hr]; rfl) ?_
        walk_at "m"
        refine ⟨_, _, .inl ⟨p, rfl, put_same⟩, rfl, ?_⟩
        exact ⟨_, rfl, q⟩
  · have hc := Decidable.not_not.mp hc
    rw [hc] at q
    dsimp only at q
    rw [if_pos rfl] at q
    walk_at "m"
    refine ⟨⟨_, .inl ⟨p, rfl, put_same⟩, rfl⟩, p, A, S, i, _, rfl, put_same, hS, ends_call q fun _ j _ q => ?_⟩
    walk_at "m"
    exact q
end
end Cut
namespace Cut
open PySem L2 DL ML
local macro_rules | `(tactic| walk_at "m") => `(tactic| repeat (first | with_reducible refine ⟨_, rfl, ?_⟩ | refine ⟨_, rfl, ?_⟩ | refine ⟨rfl, ?_⟩ | refine ⟨_, _, rfl, rfl, ?_⟩ | refine ⟨_, _, rfl, ?_⟩ | refine iteT ?_ | refine iteF ?_ | refine ⟨⟨_, rfl⟩, ?_⟩ | refine ⟨Nat.le_of_ble_eq_true rfl, ?_⟩ | refine ⟨(by decide), ?_⟩ | refine ⟨_, ix_t0 _ _, ?_⟩ | refine ⟨_, ix_l0 _ _, ?_⟩))
/-! ### how far readings go -/
theorem pX_len {s : List Nat} : ∀ {t : List Nat} {i j : Nat}, i ≤ s.length → pX s t i = .ok () j → j = i + t.length ∧ j ≤ s.length
  | [], i, j, hi, h => by cases h; exact ⟨rfl, hi⟩
  | c :: cs, i, j, hi, h => by
    unfold pX at h
    split at h
    · rename_i hc
      have hlt : i < s.length := (List.getElem?_eq_some_iff.mp hc).1
      obtain ⟨h1, h2⟩ := pX_len (i := i + 1) (by omega) h
      exact ⟨by rw [h1, List.length_cons]; omega, h2⟩
    · cases h
theorem pK_len {s : List Nat} : ∀ {n : Nat} {f w : List Nat} {i j : Nat}, i ≤ s.length → pK s n f i = .ok w j → KW.contains w = true ∧ j + f.length = i + w.length ∧ j ≤ s.length
  | 0, _, _, _, _, _, h => by cases h
  | n + 1, f, w, i, j, hi, h => by
    unfold pK at h
    split at h
    · rename_i hc
      cases h
      exact ⟨hc, rfl, hi⟩
    · split at h
      · cases h
      · rename_i c hc
        have hlt : i < s.length := (List.getElem?_eq_some_iff.mp hc).1
        split at h
        · obtain ⟨h1, h2, h3⟩ := pK_len (i := i + 1) (by omega) h
          rw [List.length_append, List.length_singleton] at h2
          exact ⟨h1, by omega, h3⟩
        · cases h
theorem KW_mem {w : List Nat} (h : KW.contains w = true) : w = wRow ∨ w = wAny ∨ w = wAll ∨ w = wNot ∨ w = wAgain := by
  have := List.contains_iff_mem.mp h
  simpa [KW] using this
theorem KW_len {w : List Nat} (h : KW.contains w = true) : 3 ≤ w.length := by
  rcases KW_mem h with rfl | rfl | rfl | rfl | rfl <;> decide
theorem pD_len {s : List Nat} {low i d j : Nat} (h : pD s low i = .ok d j) : low ≤ d ∧ d ≤ 4 ∧ j = i + 1 ∧ j ≤ s.length := by
  unfold pD at h
  split at h
  · cases h
  · rename_i c hc
    have hlt : i < s.length := (List.getElem?_eq_some_iff.mp hc).1
    split at h
    · rename_i hh
      cases h
      exact ⟨by omega, by omega, rfl, hlt⟩
    · cases h
theorem pC_len {s : List Nat} : ∀ {n : Nat} {rest f g : List Nat} {i j : Nat}, pC s n rest f i = .ok g j → i ≤ j ∧ j < s.length ∧ g.length + i = f.length + j
  | 0, _, _, _, _, _, h => by cases h
  | n + 1, rest, f, g, i, j, h => by
    unfold pC at h
    split at h
    · cases h
    · rename_i c hc
      have hlt : i < s.length := (List.getElem?_eq_some_iff.mp hc).1
      split at h
      · cases h
        exact ⟨Nat.le_refl _, hlt, rfl⟩
      · split at h
        · obtain ⟨h1, h2, h3⟩ := pC_len h
          rw [List.length_append, List.length_singleton] at h3
          exact ⟨by omega, h2, by omega⟩
        · cases h
theorem bnd_ok {α β : Type} {x : PR α} {f : α → Nat → PR β} {b : β} {j : Nat} (h : x.bnd f = .ok b j) : ∃ a i, x = .ok a i ∧ f a i = .ok b j := by
  cases x with
  | ok a i => exact ⟨a, i, rfl, h⟩
  | er i => cases h
theorem pS_len {s A : List Nat} {i j : Nat} {r : Rx} (hi : i ≤ s.length) (h : pS s A i = .ok r j) : i < j ∧ j ≤ s.length := by
  unfold pS at h
  obtain ⟨_, i1, h1, h⟩ := bnd_ok h
  obtain ⟨e1, l1⟩ := pX_len hi h1
  obtain ⟨f, i2, h2, h⟩ := bnd_ok h
  obtain ⟨a1, a2, a3⟩ := pC_len h2
  obtain ⟨_, i3, h3, h⟩ := bnd_ok h
  obtain ⟨e3, l3⟩ := pX_len (by omega) h3
  cases h
  simp only [List.length_singleton] at e1 e3
  exact ⟨by omega, l3⟩
mutual
theorem pE_len {s A : List Nat} : ∀ {n i j : Nat} {r : Rx}, i ≤ s.length → pE s A n i = .ok r j → i < j ∧ j ≤ s.length
  | 0, i, j, r, _, h => by cases h
  | n + 1, i, j, r, hi, h => by
    unfold pE at h
    split at h
    · exact pS_len hi h
    · obtain ⟨_, i1, h1, h⟩ := bnd_ok h
      obtain ⟨e1, l1⟩ := pX_len hi h1
      obtain ⟨w, i2, h2, h⟩ := bnd_ok h
      obtain ⟨_, e2, l2⟩ := pK_len l1 h2
      obtain ⟨r', i3, h3, h⟩ := bnd_ok h
      obtain ⟨_, i4, h4, h⟩ := bnd_ok h
      simp only [List.length_singleton, List.length_nil] at e1 e2
      have mid : i2 ≤ i3 ∧ i3 ≤ s.length := by
        split at h3
        · obtain ⟨_, k1, g1, h3⟩ := bnd_ok h3
          obtain ⟨a1, b1⟩ := pX_len l2 g1
          obtain ⟨p, k2, g2, h3⟩ := bnd_ok h3
          obtain ⟨a2, b2⟩ := pE_len b1 g2
          obtain ⟨_, k3, g3, h3⟩ := bnd_ok h3
          obtain ⟨a3, b3⟩ := pX_len b2 g3
          obtain ⟨lo, k4, g4, h3⟩ := bnd_ok h3
          obtain ⟨_, _, a4, b4⟩ := pD_len g4
          obtain ⟨_, k5, g5, h3⟩ := bnd_ok h3
          obtain ⟨a5, b5⟩ := pX_len b4 g5
          simp only [List.length_singleton] at a1 a3 a5
          split at h3
          · obtain ⟨_, k6, g6, h3⟩ := bnd_ok h3
            obtain ⟨a6, b6⟩ := pX_len b5 g6
            simp only [List.length_singleton] at a6
            cases h3
            exact ⟨by omega, b6⟩
          · obtain ⟨hi', k6, g6, h3⟩ := bnd_ok h3
            obtain ⟨_, _, a6, b6⟩ := pD_len g6
            cases h3
            exact ⟨by omega, b6⟩
        · split at h3
          · obtain ⟨_, k1, g1, h3⟩ := bnd_ok h3
            obtain ⟨a1, b1⟩ := pX_len l2 g1
            obtain ⟨p, k2, g2, h3⟩ := bnd_ok h3
            obtain ⟨a2, b2⟩ := pE_len b1 g2
            simp only [List.length_singleton] at a1
            cases h3
            exact ⟨by omega, b2⟩
          · obtain ⟨ps, k1, g1, h3⟩ := bnd_ok h3
            obtain ⟨a1, b1⟩ := pP_len l2 g1
            cases h3
            exact ⟨a1, b1⟩
      obtain ⟨e4, l4⟩ := pX_len mid.2 h4
      simp only [List.length_singleton] at e4
      cases h
      exact ⟨by omega, l4⟩
theorem pP_len {s A : List Nat} : ∀ {n i j : Nat} {rs : List Rx}, i ≤ s.length → pP s A n i = .ok rs j → i ≤ j ∧ j ≤ s.length
  | 0, i, j, r, _, h => by cases h
  | n + 1, i, j, r, hi, h => by
    unfold pP at h
    split at h
    · cases h
      exact ⟨Nat.le_refl _, hi⟩
    · obtain ⟨_, k1, g1, h⟩ := bnd_ok h
      obtain ⟨a1, b1⟩ := pX_len hi g1
      obtain ⟨p, k2, g2, h⟩ := bnd_ok h
      obtain ⟨a2, b2⟩ := pE_len b1 g2
      obtain ⟨ps, k3, g3, h⟩ := bnd_ok h
      obtain ⟨a3, b3⟩ := pP_len b2 g3
      simp only [List.length_singleton] at a1
      cases h
      exact ⟨by omega, b3⟩
end
section
variable {P : Program} {w : World} {K : Fg} {mg : Str → Option Value} {base : Heap} {f f2 f3 : Addr} {fd fd2 fd3 : FuncData} {CP CN : Addr}
theorem ends_callX {α β : Type} {p : Addr} {A S : Str} {h hh : Hd} {Q Q' : Res → Hd → Prop} {E E' : Ex → Hd → Prop} {v : β → D} {v' : α → D} {x : PR α} {f : α → Nat → PR β} (q : ends CP CN p A S h Q E v (x.bnd f))
    (k : ∀ a j, x = .ok a j → ends CP CN p A S h Q E v (f a j) → Q' (.fz (v' a)) (put hh p (PO CP A S j))) (ke : ∀ j, E ⟨CN, [("index", .int (j : Nat))]⟩ (put h p (PO CP A S j)) → E' ⟨CN, [("index", .int (j : Nat))]⟩ (put hh p (PO CP A S j))) : ends CP CN p A S hh Q' E' v' x := by
  unfold ends at q ⊢
  rw [post_bnd] at q
  exact q.imp (fun a j e z => k a j e z) (fun j e z => ke j z)
/-- the expression at a place, with no more than 5 m characters left -/
def g_expr (CP CN : Addr) (m : Nat) : FM := fun ds h Q E => ∃ p A S i n, ds = [.raw (.ref p)] ∧ h p = some (PO CP A S i) ∧ A.length ≤ 1000 ∧ S.length ≤ 1000 ∧ i ≤ S.length ∧ S.length < i + n ∧ S.length < i + 5 * m ∧ ends CP CN p A S h Q E toD (pE S.cps.toList A.cps.toList n i)
/-- what stands behind the keyword of an again -/
def pRep (s A : List Nat) (n i2 : Nat) : PR Rx := (pX s [32] i2).bnd fun _ i3 => (pE s A n i3).bnd fun p i4 => (pX s [32] i4).bnd fun _ i5 => (pD s 0 i5).bnd fun lo i6 => (pX s [32] i6).bnd fun _ i7 =>
        (if s[i7]? = some 42 then (pX s [42] i7).bnd fun _ i8 => .ok (.again p (lo : Nat) none) i8 else (pD s lo i7).bnd fun hi i8 => .ok (.again p (lo : Nat) (some (hi : Nat))) i8)
def g_repeat (CP CN : Addr) (m : Nat) : FM := fun ds h Q E => ∃ p A S i n, ds = [.raw (.ref p)] ∧ h p = some (PO CP A S i) ∧ A.length ≤ 1000 ∧ S.length ≤ 1000 ∧ i ≤ S.length ∧ S.length < i + 1 + n ∧ S.length < i + 1 + 5 * m ∧ ends CP CN p A S h Q E toD (pRep S.cps.toList A.cps.toList n i)
theorem ok_repeat (m : Nat) (A : AtM K CP "repeat" "Parser.repeat" ["self"] s_Parser_repeat f fd) (c_Parser_character : MthM P w K mg base CP "character" 1 1 (g_chr CP)) (c_Parser_expect : MthM P w K mg base CP "expect" 3 2 (g_expect CP CN)) (c_Parser_integer : MthM P w K mg base CP "integer" 3 2 (g_integer CP CN)) (c_Parser_expression : MthM P w K mg base CP "expression" (2 * m + 5) 1 (g_expr CP CN m)) :
    MthM P w K mg base CP "repeat" (2 * m + 6) 1 (g_repeat CP CN m) := by
  refine A.mth (okM (k := 2 * m + 5) A.fn sc_Parser_repeat (by decide) (fun cdv A outer s H E hr tk po => (mss_cons (ms_expr (me_mM c_Parser_expect tk (hr.mono (by omega)) (me_v 0) (ma_cons me_str ma_nil)))
      (mss_cons (ms_set 1 sc_Parser_repeat.nd rfl (by first | exact Or.inl rfl | exact Or.inr rfl) (me_mM0 c_Parser_expression tk (hr.mono (by omega)) (me_v 0)))
      (mss_cons (ms_expr (me_mM c_Parser_expect tk (hr.mono (by omega)) (me_v 0) (ma_cons me_str ma_nil)))
      (mss_cons (ms_set 2 sc_Parser_repeat.nd rfl (by first | exact Or.inl rfl | exact Or.inr rfl) (me_mM c_Parser_integer tk (hr.mono (by omega)) (me_v 0) (ma_cons me_int ma_nil)))
      (mss_cons (ms_expr (me_mM c_Parser_expect tk (hr.mono (by omega)) (me_v 0) (ma_cons me_str ma_nil)))
      (mss_cons (ms_if (mt_eq hr (me_mM0 c_Parser_character tk (hr.mono (by omega)) (me_v 0)) me_str) (mss_cons (ms_expr (me_mM c_Parser_expect tk (hr.mono (by omega)) (me_v 0) (ma_cons me_str ma_nil)))
      (mss_one (ms_ret (me_tup (ma_cons me_str (ma_cons (me_v 1) (ma_cons (me_v 2) (ma_cons me_non ma_nil)))))))) mss_nil)
      (mss_one (ms_ret (me_tup (ma_cons me_str (ma_cons (me_v 1) (ma_cons (me_v 2) (ma_cons (me_mM c_Parser_integer tk (hr.mono (by omega)) (me_v 0) (ma_cons (me_v 2) ma_nil)) ma_nil)))))))))))))) ?_)
  rintro ds h Q E hl ⟨p, A, S, i, n, rfl, hp, hA, hS, hi, hn, hm, q⟩
  have hSl := len_l S
  rw [show h = put h p (PO CP A S i) from (put_self hp).symm]
  walk_at "m"
  unfold pRep at q
  refine ⟨⟨_, .inl ⟨p, rfl, put_same⟩, rfl⟩, p, A, S, i, _, rfl, put_same, hS, ends_call q fun _ i1 h1 q => ?_⟩
  obtain ⟨e1, l1⟩ := pX_len (by omega) h1
  have e1 : i1 = i + 1 := e1
  walk_at "m"
  refine ⟨⟨_, .inl ⟨p, rfl, put_same⟩, rfl⟩, p, A, S, i1, n, rfl, put_same, hA, hS, by omega, by omega, by omega, ends_call q fun r i2 h2 q => ?_⟩
  obtain ⟨e2, l2⟩ := pE_len (by omega) h2
  walk_at "m"
  refine ⟨⟨_, .inl ⟨p, rfl, put_same⟩, rfl⟩, p, A, S, i2, _, rfl, put_same, hS, ends_call q fun _ i3 h3 q => ?_⟩
  walk_at "m"
  refine ⟨⟨_, .inl ⟨p, rfl, put_same⟩, rfl⟩, p, A, S, i3, 0, rfl, by omega, put_same, hS, ends_call q fun lo i4 h4 q => ?_⟩
  obtain ⟨_, lo4, e4, l4⟩ := pD_len h4
  walk_at "m"
  refine ⟨⟨_, .inl ⟨p, rfl, put_same⟩, rfl⟩, p, A, S, i4, _, rfl, put_same, hS, ends_call q fun _ i5 h5 q => ?_⟩
  walk_at "m"
  refine ⟨⟨_, .inl ⟨p, rfl, put_same⟩, rfl⟩, p, A, S, i5, rfl, put_same, hS, ?_⟩
  walk_at "m"
  refine ifd (p := S.cps.toList[i5]? = some 42) (eqS_chr S i5 42) (fun hc => ?_) (fun hc => ?_)
  · rw [if_pos hc] at q
    walk_at "m"
    refine ⟨⟨_, .inl ⟨p, rfl, put_same⟩, rfl⟩, p, A, S, i5, _, rfl, put_same, hS, ends_call q fun _ i6 h6 q => ?_⟩
    walk_at "m"
    exact q
  · rw [if_neg hc] at q
    walk_at "m"
    refine ⟨⟨_, .inl ⟨p, rfl, put_same⟩, rfl⟩, _, rfl, p, A, S, i5, lo, rfl, lo4, put_same, hS, ends_call q fun hi i6 h6 q => ?_⟩
    walk_at "m"
    exact q
def g_parts (CP CN : Addr) (m : Nat) : FM := fun ds h Q E => ∃ p A S i n, ds = [.raw (.ref p)] ∧ h p = some (PO CP A S i) ∧ A.length ≤ 1000 ∧ S.length ≤ 1000 ∧ i ≤ S.length ∧ S.length < i + n ∧ S.length < i + 1 + 5 * m ∧ ends CP CN p A S h Q E (fun rs => .lst (toDL rs)) (pP S.cps.toList A.cps.toList n i)
theorem ok_parts (m : Nat) (A : AtM K CP "parts" "Parser.parts" ["self"] s_Parser_parts f fd) (c_Parser_character : MthM P w K mg base CP "character" 1 1 (g_chr CP)) (c_Parser_expect : MthM P w K mg base CP "expect" 3 2 (g_expect CP CN)) (c_Parser_expression : MthM P w K mg base CP "expression" (2 * m + 5) 1 (g_expr CP CN m)) :
    MthM P w K mg base CP "parts" (2 * m + 6) 1 (g_parts CP CN m) := by
  refine (A.mth (okM (k := 2 * m + 5) A.fn sc_Parser_parts (by decide) (fun cdv A outer s H E hr tk po => (mss_cons (ms_set 1 sc_Parser_parts.nd rfl (by first | exact Or.inl rfl | exact Or.inr rfl) (me_own (me_lst ma_nil)))
      (mss_cons (ms_while po (mt_ne hr (me_mM0 c_Parser_character tk (hr.mono (by omega)) (me_v 0)) me_str) (mss_cons (ms_expr (me_mM c_Parser_expect tk (hr.mono (by omega)) (me_v 0) (ma_cons me_str ma_nil)))
      (mss_one (ms_expr (me_app (me_v 1) (ma_cons (me_mM0 c_Parser_expression tk (hr.mono (by omega)) (me_v 0)) ma_nil))))))
      (mss_one (ms_retO 1))))) ?_)).of_less
  rintro ds h Q E hl ⟨Q0, E0, ⟨p, A, S, i, n, rfl, hp, hA, hS, hi, hn, hm, q⟩, hQ, hE⟩
  have hSl := len_l S
  walk_at "m"
  intro a ha
  have hpa : p ≠ a := hd_ne hp ha
  have fr : ∀ j, put h p (PO CP A S j) a = none := fun j => by rw [put_ne hpa.symm]; exact ha
  have cm : ∀ (j : Nat) (o : Ob) (L : Ob), put (put (put h p o) a L) p (PO CP A S j) = put (put h p (PO CP A S j)) a L := fun j o L => by rw [put_comm hpa.symm, put_put]
  have at_p : ∀ (j : Nat) (L : Ob), put (put h p (PO CP A S j)) a L p = some (PO CP A S j) := fun j L => by rw [put_ne hpa]; exact put_same
  rw [show h = put h p (PO CP A S i) from (put_self hp).symm] 
  refine ⟨fun mm ρ h' => ∃ rs i n, ρ = [some (.raw (.ref p)), some (.raw (.ref a))] ∧ h' = put (put h p (PO CP A S i)) a (.lst (toDL rs)) ∧ mm = S.length - i ∧ i ≤ S.length ∧ rs.length ≤ i ∧ S.length < i + n ∧ S.length < i + 1 + 5 * m ∧ ends CP CN p A S h Q0 E0 (fun qs => .lst (toDL (rs ++ qs))) (pP S.cps.toList A.cps.toList n i),
    ⟨S.length - i, [], i, n, rfl, ?_, rfl, hi, Nat.zero_le _, hn, hm, q⟩, ?_⟩
  · rfl
  rintro mm ρ h' ⟨rs, i, n, rfl, rfl, rfl, hi, hr, hn, hm, q⟩
  obtain ⟨n, rfl⟩ : ∃ n', n = n' + 1 := ⟨n - 1, by omega⟩
  walk_at "m"
  refine ⟨⟨_, .inl ⟨p, rfl, at_p _ _⟩, rfl⟩, p, A, S, i, rfl, at_p _ _, hS, ?_⟩
  walk_at "m"
  unfold pP at q
  refine ifd (neC S i 41) (fun hc => ?_) (fun hc => ?_)
  · rw [if_neg hc] at q
    walk_at "m"
    refine ⟨⟨_, .inl ⟨p, rfl, at_p _ _⟩, rfl⟩, p, A, S, i, _, rfl, at_p _ _, hS, ends_callX q (fun _ i1 h1 q => ?_) (fun j z => ?_)⟩
    rotate_left
    · rw [cm]
      exact hE _ _ _ (le_put (fr j)) z
    rw [cm]
    obtain ⟨e1, l1⟩ := pX_len (by omega) h1
    have e1 : i1 = i + 1 := e1
    walk_at "m"
    refine ⟨a, toDL rs, rfl, put_same, ?_⟩
    walk_at "m"
    refine ⟨⟨_, .inl ⟨p, rfl, at_p _ _⟩, rfl⟩, p, A, S, i1, n, rfl, at_p _ _, hA, hS, by omega, by omega, by omega, ends_callX q (fun r i2 h2 q => ?_) (fun j z => ?_)⟩
    rotate_left
    · rw [cm]
      exact hE _ _ _ (le_put (fr j)) z
    rw [cm]
    obtain ⟨e2, l2⟩ := pE_len (by omega) h2
    refine ⟨toDL rs, toD r, put_same, rfl, by rw [toDL_len]; omega, ?_⟩
    rw [put_put]
    refine ⟨S.length - i2, by omega, rs ++ [r], i2, n, rfl, ?_, rfl, by omega, by simp; omega, by omega, by omega, ?_⟩
    · rw [toDL_map, toDL_map, List.map_append]
      rfl
    · unfold ends at q ⊢
      rw [post_bnd] at q
      refine q.imp (fun qs j e z => ?_) (fun j e z => z)
      show Q0 (.fz (.lst (toDL (rs ++ [r] ++ qs)))) _
      rw [List.append_assoc]
      exact z
  · rw [if_pos (Decidable.not_not.mp hc)] at q
    walk_at "m"
    refine ⟨a, toDL rs, rfl, put_same, ?_⟩
    rw [off_put (fr i)]
    unfold ends at q
    have q' : Q0 (.fz (.lst (toDL (rs ++ [])))) (put h p (PO CP A S i)) := q
    rw [List.append_nil] at q'
    exact hQ _ _ _ (Le.refl _) q'
theorem again_in (w : List Nat) : eqS (ofL w) "again" = decide (w = wAgain) := by
  rw [eqS_eq, show ("again" : Str) = ofL wAgain by decide +kernel]
  exact decide_eq_decide.mpr ⟨ofL_inj, fun h => by rw [h]⟩
theorem not_in (w : List Nat) : eqS (ofL w) "not" = decide (w = wNot) := by
  rw [eqS_eq, show ("not" : Str) = ofL wNot by decide +kernel]
  exact decide_eq_decide.mpr ⟨ofL_inj, fun h => by rw [h]⟩
theorem toD_mkW {w : List Nat} (hw : KW.contains w = true) (h1 : w ≠ wAgain) (h2 : w ≠ wNot) (ps : List Rx) : toD (mkW w ps) = .tup (.str (ofL w) :: toDL ps) := by
  rcases KW_mem hw with rfl | rfl | rfl | rfl | rfl
  · rw [mkW, if_pos rfl, toD]; rfl
  · rw [mkW, if_neg (by decide), if_pos rfl, toD]; rfl
  · rw [mkW, if_neg (by decide), if_neg (by decide), toD]; rfl
  · exact absurd rfl h2
  · exact absurd rfl h1
theorem add_lst {a b : List D} (h : a.length + b.length ≤ 16000) : addD (.lst a) (.lst b) = some (.fr (a ++ b)) := by
  show (if a.length + b.length ≤ 16000 then some (Res.fr (a ++ b)) else none) = _
  rw [if_pos h]
theorem pP_count {s A : List Nat} : ∀ {n i j : Nat} {rs : List Rx}, i ≤ s.length → pP s A n i = .ok rs j → rs.length + i ≤ j
  | 0, i, j, r, _, h => by cases h
  | n + 1, i, j, r, hi, h => by
    unfold pP at h
    split at h
    · cases h
      simp
    · obtain ⟨_, k1, g1, h⟩ := bnd_ok h
      obtain ⟨a1, b1⟩ := pX_len hi g1
      obtain ⟨p, k2, g2, h⟩ := bnd_ok h
      obtain ⟨a2, b2⟩ := pE_len b1 g2
      obtain ⟨ps, k3, g3, h⟩ := bnd_ok h
      have := pP_count b2 g3
      simp only [List.length_singleton] at a1
      cases h
      rw [List.length_cons]
      omega
theorem ok_expr1 (m : Nat) (A : AtM K CP "expression" "Parser.expression" ["self"] s_Parser_expression f fd) (m_tuple : mg "tuple" = none) (c_Parser_character : MthM P w K mg base CP "character" 1 1 (g_chr CP)) (c_Parser_expect : MthM P w K mg base CP "expect" 3 2 (g_expect CP CN)) (c_Parser_keyword : MthM P w K mg base CP "keyword" 3 1 (g_keyword CP CN)) (c_Parser_character_set : MthM P w K mg base CP "character_set" 4 1 (g_cset CP CN))
    (c_Parser_expression : MthM P w K mg base CP "expression" (2 * m + 5) 1 (g_expr CP CN m)) (c_Parser_repeat : MthM P w K mg base CP "repeat" (2 * m + 6) 1 (g_repeat CP CN m)) (c_Parser_parts : MthM P w K mg base CP "parts" (2 * m + 6) 1 (g_parts CP CN m)) :
    MthM P w K mg base CP "expression" (2 * (m + 1) + 5) 1 (g_expr CP CN (m + 1)) := by
  refine A.mth (okM (k := 2 * m + 6) A.fn sc_Parser_expression (by decide) (fun cdv A outer s H E hr tk po => (mss_cons (ms_if (mt_eq hr (me_mM0 c_Parser_character tk (hr.mono (by omega)) (me_v 0)) me_str) (mss_one (ms_ret (me_mM0 c_Parser_character_set tk (hr.mono (by omega)) (me_v 0)))) mss_nil)
      (mss_cons (ms_expr (me_mM c_Parser_expect tk (hr.mono (by omega)) (me_v 0) (ma_cons me_str ma_nil)))
      (mss_cons (ms_set 1 sc_Parser_expression.nd rfl (by first | exact Or.inl rfl | exact Or.inr rfl) (me_mM0 c_Parser_keyword tk (hr.mono (by omega)) (me_v 0)))
      (mss_cons (ms_if (mt_eq hr (me_v 1) me_str) (mss_one (ms_set 2 sc_Parser_expression.nd rfl (by first | exact Or.inl rfl | exact Or.inr rfl) (me_mM0 c_Parser_repeat tk (hr.mono (by omega)) (me_v 0)))) (mss_one (ms_if (mt_eq hr (me_v 1) me_str) (mss_cons (ms_expr (me_mM c_Parser_expect tk (hr.mono (by omega)) (me_v 0) (ma_cons me_str ma_nil)))
      (mss_one (ms_set 2 sc_Parser_expression.nd rfl (by first | exact Or.inl rfl | exact Or.inr rfl) (me_tup (ma_cons me_str (ma_cons (me_mM0 c_Parser_expression tk (hr.mono (by omega)) (me_v 0)) ma_nil)))))) (mss_one (ms_set 2 sc_Parser_expression.nd rfl (by first | exact Or.inl rfl | exact Or.inr rfl) (me_tuple (by rfl) m_tuple (ma_cons (me_add (me_lst (ma_cons (me_v 1) ma_nil)) (me_mM0 c_Parser_parts tk (hr.mono (by omega)) (me_v 0))) ma_nil)))))))
      (mss_cons (ms_expr (me_mM c_Parser_expect tk (hr.mono (by omega)) (me_v 0) (ma_cons me_str ma_nil)))
      (mss_one (ms_ret (me_v 2))))))))) ?_)
  rintro ds h Q E hl ⟨p, A, S, i, n, rfl, hp, hA, hS, hi, hn, hm, q⟩
  have hSl := len_l S
  obtain ⟨n, rfl⟩ : ∃ n', n = n' + 1 := ⟨n - 1, by omega⟩
  rw [show h = put h p (PO CP A S i) from (put_self hp).symm]
  walk_at "m"
  refine ⟨⟨_, .inl ⟨p, rfl, put_same⟩, rfl⟩, p, A, S, i, rfl, put_same, hS, ?_⟩
  walk_at "m"
  unfold pE at q
  refine ifd (p := S.cps.toList[i]? = some 91) (eqS_chr S i 91) (fun hc => ?_) (fun hc => ?_)
  · rw [if_pos hc] at q
    walk_at "m"
    refine ⟨⟨_, .inl ⟨p, rfl, put_same⟩, rfl⟩, p, A, S, i, rfl, put_same, hA, hS, ?_⟩
    unfold ends at q ⊢
    refine q.imp (fun a j e z => ?_) (fun j e z => ?_)
    · rw [put_put]; exact z
    · rw [put_put]; exact z
  rw [if_neg hc] at q
  walk_at "m"
  refine ⟨⟨_, .inl ⟨p, rfl, put_same⟩, rfl⟩, p, A, S, i, _, rfl, put_same, hS, ends_call q fun _ i1 h1 q => ?_⟩
  obtain ⟨e1, l1⟩ := pX_len (by omega) h1
  have e1 : i1 = i + 1 := e1
  walk_at "m"
  refine ⟨⟨_, .inl ⟨p, rfl, put_same⟩, rfl⟩, p, A, S, i1, rfl, put_same, hS, ends_call q fun w i2 h2 q => ?_⟩
  obtain ⟨kw, e2, l2⟩ := pK_len l1 h2
  have w3 := KW_len kw
  have e2 : i2 = i1 + w.length := by simpa using e2
  walk_at "m"
  have last : ∀ (r : Rx) (j : Nat) (ρ : Me) (h' : Hd), ρ[0]? = some (some (.raw (.ref p))) → ρ[2]? = some (some (toD r)) → ends CP CN p A S h Q E toD ((pX S.cps.toList [41] j).bnd fun _ k => .ok r k) → h' = put h p (PO CP A S j) →
      mSeq (mDrop (mMeth CP "expect" (g_expect CP CN) (mV 0) (mACons (mK (.str ")")) mANil))) (mRet (mV 2)) (fun x _ h => E x h) { nx := fun _ h => Q (.fz .non) h, rt := fun r h => Q r h } ρ h' := by
    rintro r j ρ h' g1 g2 q rfl
    refine ⟨_, g1, ⟨_, .inl ⟨p, rfl, put_same⟩, rfl⟩, p, A, S, j, _, rfl, put_same, hS, ends_call q fun _ k _ q => ?_⟩
    exact ⟨_, g2, q⟩
  refine ifd (p := w = wAgain) (again_in w) (fun hw => ?_) (fun hw => ?_)
  · rw [if_pos hw] at q
    walk_at "m"
    refine ⟨⟨_, .inl ⟨p, rfl, put_same⟩, rfl⟩, p, A, S, i2, n, rfl, put_same, hA, hS, by omega, by omega, by omega, ends_call q fun r i3 h3 q => ?_⟩
    exact last r i3 _ _ rfl rfl q rfl
  · rw [if_neg hw] at q
    walk_at "m"
    refine ifd (p := w = wNot) (not_in w) (fun hw2 => ?_) (fun hw2 => ?_)
    · rw [if_pos hw2] at q
      walk_at "m"
      have q : ends CP CN p A S h Q E toD ((pX S.cps.toList [32] i2).bnd fun _ i3 => (pE S.cps.toList A.cps.toList n i3).bnd fun r i4 => (PR.ok (Rx.no r) i4).bnd fun r j => (pX S.cps.toList [41] j).bnd fun _ k => .ok r k) := by
        unfold ends at q ⊢
        simp only [post_bnd] at q ⊢
        exact q
      refine ⟨⟨_, .inl ⟨p, rfl, put_same⟩, rfl⟩, p, A, S, i2, _, rfl, put_same, hS, ends_call q fun _ i3 h3 q => ?_⟩
      obtain ⟨e3, l3⟩ := pX_len (by omega) h3
      have e3 : i3 = i2 + 1 := e3
      walk_at "m"
      refine ⟨⟨_, .inl ⟨p, rfl, put_same⟩, rfl⟩, p, A, S, i3, n, rfl, put_same, hA, hS, by omega, by omega, by omega, ends_call q fun r i4 h4 q => ?_⟩
      refine ⟨Nat.le_of_ble_eq_true rfl, ?_⟩
      exact last (.no r) i4 [some (.raw (.ref p)), some (.str (ofL w)), some (.tup [.str "not", toD r])] (put h p (PO CP A S i4)) rfl (by rw [toD]; rfl) q rfl
    · rw [if_neg hw2] at q
      walk_at "m"
      have q : ends CP CN p A S h Q E toD ((pP S.cps.toList A.cps.toList n i2).bnd fun ps i3 => (PR.ok (mkW w ps) i3).bnd fun r j => (pX S.cps.toList [41] j).bnd fun _ k => .ok r k) := by
        unfold ends at q ⊢
        simp only [post_bnd] at q ⊢
        exact q
      refine ⟨⟨_, .inl ⟨p, rfl, put_same⟩, rfl⟩, p, A, S, i2, n, rfl, put_same, hA, hS, by omega, by omega, by omega, ends_call q fun ps i3 h3 q => ?_⟩
      have hc := pP_count l2 h3
      have hl3 := pP_len l2 h3
      refine ⟨_, add_lst (by rw [toDL_len]; simp; omega), ?_⟩
      refine ⟨_, rfl, ?_⟩
      exact last (mkW w ps) i3 [some (.raw (.ref p)), some (.str (ofL w)), some (.tup (.str (ofL w) :: toDL ps))] (put h p (PO CP A S i3)) rfl (by rw [toD_mkW kw hw hw2]; rfl) q rfl
theorem ok_expr (A : AtM K CP "expression" "Parser.expression" ["self"] s_Parser_expression f fd) (A2 : AtM K CP "repeat" "Parser.repeat" ["self"] s_Parser_repeat f2 fd2) (A3 : AtM K CP "parts" "Parser.parts" ["self"] s_Parser_parts f3 fd3) (m_tuple : mg "tuple" = none) (c_Parser_character : MthM P w K mg base CP "character" 1 1 (g_chr CP)) (c_Parser_expect : MthM P w K mg base CP "expect" 3 2 (g_expect CP CN)) (c_Parser_keyword : MthM P w K mg base CP "keyword" 3 1 (g_keyword CP CN)) (c_Parser_character_set : MthM P w K mg base CP "character_set" 4 1 (g_cset CP CN)) (c_Parser_integer : MthM P w K mg base CP "integer" 3 2 (g_integer CP CN)) :
    ∀ m, MthM P w K mg base CP "expression" (2 * m + 5) 1 (g_expr CP CN m)
  | 0 => A.none fun ds hd Q E ⟨_, _, S, i, _, _, _, _, _, hi, _, hm, _⟩ => by omega
  | m + 1 => by
    have ih := ok_expr A A2 A3 m_tuple c_Parser_character c_Parser_expect c_Parser_keyword c_Parser_character_set c_Parser_integer m
    exact ok_expr1 m A m_tuple c_Parser_character c_Parser_expect c_Parser_keyword c_Parser_character_set ih (ok_repeat m A2 c_Parser_character c_Parser_expect c_Parser_integer ih) (ok_parts m A3 c_Parser_character c_Parser_expect ih)
end
end Cut
namespace Cut
open PySem L2 DL ML
local macro_rules | `(tactic| walk_at "m") => `(tactic| repeat (first | with_reducible refine ⟨_, rfl, ?_⟩ | refine ⟨_, rfl, ?_⟩ | refine ⟨rfl, ?_⟩ | refine ⟨_, _, rfl, rfl, ?_⟩ | refine ⟨_, _, rfl, ?_⟩ | refine iteT ?_ | refine iteF ?_ | refine ⟨⟨_, rfl⟩, ?_⟩ | refine ⟨Nat.le_of_ble_eq_true rfl, ?_⟩ | refine ⟨(by decide), ?_⟩ | refine ⟨_, ix_t0 _ _, ?_⟩ | refine ⟨_, ix_l0 _ _, ?_⟩))
/-! ### what is read is an expression -/
theorem sub_filter : ∀ {l L : List Nat}, l.Sublist L → L.Nodup → L.filter (fun c => decide (c ∈ l)) = l := by
  intro l L h
  induction h with
  | slnil => intro _; rfl
  | @cons l L a h ih =>
    intro nd
    rw [List.nodup_cons] at nd
    rw [List.filter_cons, if_neg (by simpa using fun z => nd.1 (h.subset z))]
    exact ih nd.2
  | @cons_cons l L a h ih =>
    intro nd
    rw [List.nodup_cons] at nd
    rw [List.filter_cons, if_pos (by simp)]
    congr 1
    rw [List.filter_congr (q := fun c => decide (c ∈ l)) (fun x hx => ?_)]
    · exact ih nd.2
    · have : x ≠ a := fun z => nd.1 (by rw [← z]; exact hx)
      simp [this]
theorem pC_sub {s : List Nat} : ∀ {n : Nat} {rest f g : List Nat} {i j : Nat}, pC s n rest f i = .ok g j → ∃ u, g = f ++ u ∧ u.Sublist rest
  | 0, _, _, _, _, _, h => by cases h
  | n + 1, rest, f, g, i, j, h => by
    unfold pC at h
    split at h
    · cases h
    · rename_i c hc
      split at h
      · cases h
        exact ⟨[], by simp, List.nil_sublist _⟩
      · split at h
        · rename_i hr
          obtain ⟨u, e, hs⟩ := pC_sub h
          refine ⟨c :: u, by rw [e]; simp, ?_⟩
          have hil : rest.idxOf c < rest.length := List.idxOf_lt_length_iff.mpr hr
          have : rest.drop (rest.idxOf c) = c :: rest.drop (rest.idxOf c + 1) := by
            rw [List.drop_eq_getElem_cons hil, List.getElem_idxOf hil]
          refine List.Sublist.trans ?_ (List.drop_sublist (rest.idxOf c) rest)
          rw [this]
          exact hs.cons_cons c
        · cases h
structure Good (A : Str) (r : Rx) (n : Nat) : Prop where
  st : stR A r = true
  ok : okR r = true
  dp : 5 * rdep r ≤ n
theorem pS_good {s : List Nat} {A : Str} (hA : Alp A) {i j : Nat} {r : Rx} (hs : s.length ≤ 1000) (h : pS s A.cps.toList i = .ok r j) : Good A r (j - i) := by
  unfold pS at h
  obtain ⟨_, i1, h1, h⟩ := bnd_ok h
  obtain ⟨f, i2, h2, h⟩ := bnd_ok h
  obtain ⟨u, e, su⟩ := pC_sub h2
  rw [List.nil_append] at e
  subst e
  obtain ⟨_, i3, h3, h⟩ := bnd_ok h
  cases h
  have hl : (ofL f).length ≤ 6 := by
    rw [len_ofL]
    have := su.length_le
    rw [← len_l] at this
    have := hA.hi
    omega
  refine ⟨?_, ?_, by rw [rdep]; omega⟩
  · rw [stR, Bool.and_eq_true]
    refine ⟨decide_eq_true ?_, decide_eq_true hl⟩
    rw [ofL_l, sub_filter su hA.nd]
  · rw [okR]
    exact decide_eq_true (by omega)
theorem Good.mono {A : Str} {r : Rx} {n m : Nat} (h : Good A r n) (hm : n ≤ m) : Good A r m := ⟨h.st, h.ok, Nat.le_trans h.dp hm⟩
structure GoodL (A : Str) (rs : List Rx) (n : Nat) : Prop where
  st : stRL A rs = true
  ok : okRL rs = true
  dp : rs ≠ [] → 5 * rdepL rs + 1 ≤ n
theorem good_mkW {A : Str} {w : List Nat} {rs : List Rx} {n : Nat} (h : GoodL A rs n) (hl : rs.length ≤ 9999) : Good A (mkW w rs) (n + 5) := by
  have hd : 5 * (rdepL rs + 1) ≤ n + 5 := by
    by_cases e : rs = []
    · subst e; rw [rdepL]; omega
    · have := h.dp e; omega
  have hk : (decide (rs.length ≤ 9999) && okRL rs) = true := by rw [h.ok, decide_eq_true hl]; rfl
  unfold mkW
  split
  · exact ⟨by rw [stR]; exact h.st, by rw [okR]; exact hk, by rw [rdep]; exact hd⟩
  · split
    · exact ⟨by rw [stR]; exact h.st, by rw [okR]; exact hk, by rw [rdep]; exact hd⟩
    · exact ⟨by rw [stR]; exact h.st, by rw [okR]; exact hk, by rw [rdep]; exact hd⟩
mutual
theorem pE_good {s : List Nat} {A : Str} (hA : Alp A) (hs : s.length ≤ 1000) : ∀ {n i j : Nat} {r : Rx}, i ≤ s.length → pE s A.cps.toList n i = .ok r j → Good A r (j - i)
  | 0, i, j, r, _, h => by cases h
  | n + 1, i, j, r, hi, h => by
    unfold pE at h
    split at h
    · exact pS_good hA hs h
    · obtain ⟨_, i1, h1, h⟩ := bnd_ok h
      obtain ⟨e1, l1⟩ := pX_len hi h1
      obtain ⟨w, i2, h2, h⟩ := bnd_ok h
      obtain ⟨kw, e2, l2⟩ := pK_len l1 h2
      have w3 := KW_len kw
      obtain ⟨r', i3, h3, h⟩ := bnd_ok h
      obtain ⟨_, i4, h4, h⟩ := bnd_ok h
      simp only [List.length_singleton, List.length_nil] at e1 e2
      cases h
      have mid : i3 ≤ s.length → Good A r (i3 - i2 + 5) := by
        intro li3
        split at h3
        · obtain ⟨_, k1, g1, h3⟩ := bnd_ok h3
          obtain ⟨a1, b1⟩ := pX_len l2 g1
          obtain ⟨p, k2, g2, h3⟩ := bnd_ok h3
          obtain ⟨a2, b2⟩ := pE_len b1 g2
          have G := pE_good hA hs b1 g2
          obtain ⟨_, k3, g3, h3⟩ := bnd_ok h3
          obtain ⟨a3, b3⟩ := pX_len b2 g3
          obtain ⟨lo, k4, g4, h3⟩ := bnd_ok h3
          obtain ⟨_, lo4, a4, b4⟩ := pD_len g4
          obtain ⟨_, k5, g5, h3⟩ := bnd_ok h3
          obtain ⟨a5, b5⟩ := pX_len b4 g5
          simp only [List.length_singleton] at a1 a3 a5
          have hd := G.dp
          split at h3
          · obtain ⟨_, k6, g6, h3⟩ := bnd_ok h3
            obtain ⟨a6, b6⟩ := pX_len b5 g6
            simp only [List.length_singleton] at a6
            cases h3
            refine ⟨by rw [stR]; exact G.st, by rw [okR, G.ok, decide_eq_true (by omega), decide_eq_true (by omega)]; rfl, by rw [rdep]; omega⟩
          · obtain ⟨hi', k6, g6, h3⟩ := bnd_ok h3
            obtain ⟨c1, c2, a6, b6⟩ := pD_len g6
            cases h3
            refine ⟨by rw [stR]; exact G.st, by rw [okR, G.ok, decide_eq_true (by omega), decide_eq_true (by omega), hiOk, decide_eq_true (by omega), decide_eq_true (by omega)]; rfl, by rw [rdep]; omega⟩
        · split at h3
          · obtain ⟨_, k1, g1, h3⟩ := bnd_ok h3
            obtain ⟨a1, b1⟩ := pX_len l2 g1
            obtain ⟨p, k2, g2, h3⟩ := bnd_ok h3
            obtain ⟨a2, b2⟩ := pE_len b1 g2
            have G := pE_good hA hs b1 g2
            simp only [List.length_singleton] at a1
            have hd := G.dp
            cases h3
            exact ⟨by rw [stR]; exact G.st, by rw [okR]; exact G.ok, by rw [rdep]; omega⟩
          · obtain ⟨ps, k1, g1, h3⟩ := bnd_ok h3
            obtain ⟨a1, b1⟩ := pP_len l2 g1
            have G := pP_good hA hs l2 g1
            have hc := pP_count l2 g1
            cases h3
            exact good_mkW G (by omega)
      have l3 : i2 ≤ i3 ∧ i3 ≤ s.length := by
        have : i3 ≤ s.length := by
          unfold pX at h4
          split at h4
          · rename_i hc
            have := (List.getElem?_eq_some_iff.mp hc).1
            omega
          · cases h4
        refine ⟨?_, this⟩
        split at h3
        · obtain ⟨_, k1, g1, h3⟩ := bnd_ok h3
          obtain ⟨a1, b1⟩ := pX_len l2 g1
          obtain ⟨p, k2, g2, h3⟩ := bnd_ok h3
          obtain ⟨a2, b2⟩ := pE_len b1 g2
          obtain ⟨_, k3, g3, h3⟩ := bnd_ok h3
          obtain ⟨a3, b3⟩ := pX_len b2 g3
          obtain ⟨lo, k4, g4, h3⟩ := bnd_ok h3
          obtain ⟨_, lo4, a4, b4⟩ := pD_len g4
          obtain ⟨_, k5, g5, h3⟩ := bnd_ok h3
          obtain ⟨a5, b5⟩ := pX_len b4 g5
          split at h3
          · obtain ⟨_, k6, g6, h3⟩ := bnd_ok h3
            obtain ⟨a6, b6⟩ := pX_len b5 g6
            cases h3
            omega
          · obtain ⟨hi', k6, g6, h3⟩ := bnd_ok h3
            obtain ⟨c1, c2, a6, b6⟩ := pD_len g6
            cases h3
            omega
        · split at h3
          · obtain ⟨_, k1, g1, h3⟩ := bnd_ok h3
            obtain ⟨a1, b1⟩ := pX_len l2 g1
            obtain ⟨p, k2, g2, h3⟩ := bnd_ok h3
            obtain ⟨a2, b2⟩ := pE_len b1 g2
            cases h3
            omega
          · obtain ⟨ps, k1, g1, h3⟩ := bnd_ok h3
            obtain ⟨a1, b1⟩ := pP_len l2 g1
            cases h3
            omega
      obtain ⟨e4, l4⟩ := pX_len l3.2 h4
      simp only [List.length_singleton] at e4
      exact (mid l3.2).mono (by omega)
theorem pP_good {s : List Nat} {A : Str} (hA : Alp A) (hs : s.length ≤ 1000) : ∀ {n i j : Nat} {rs : List Rx}, i ≤ s.length → pP s A.cps.toList n i = .ok rs j → GoodL A rs (j - i)
  | 0, i, j, r, _, h => by cases h
  | n + 1, i, j, r, hi, h => by
    unfold pP at h
    split at h
    · cases h
      exact ⟨rfl, rfl, fun z => absurd rfl z⟩
    · obtain ⟨_, k1, g1, h⟩ := bnd_ok h
      obtain ⟨a1, b1⟩ := pX_len hi g1
      obtain ⟨p, k2, g2, h⟩ := bnd_ok h
      obtain ⟨a2, b2⟩ := pE_len b1 g2
      have G := pE_good hA hs b1 g2
      obtain ⟨ps, k3, g3, h⟩ := bnd_ok h
      obtain ⟨a3, b3⟩ := pP_len b2 g3
      have GL := pP_good hA hs b2 g3
      simp only [List.length_singleton] at a1
      cases h
      refine ⟨by rw [stRL, G.st, GL.st]; rfl, by rw [okRL, G.ok, GL.ok]; rfl, fun _ => ?_⟩
      rw [rdepL]
      have h1 := G.dp
      by_cases e : ps = []
      · subst e
        rw [rdepL]
        omega
      · have h2 := GL.dp e
        omega
end
/-- the pattern with a notation, or the place of the refusal -/
def pPat (A : List Nat) (s : List Nat) : PR Rx := (pE s A (s.length + 1) 0).bnd fun r j => if j < s.length then .er j else if patR r = true then .ok r j else .er s.length
section
variable {P : Program} {w : World} {K : Fg} {mg : Str → Option Value} {base : Heap} {f : Addr} {fd : FuncData} {CP CN : Addr}
def g_parse (CN : Addr) : FM := fun ds h Q E => ∃ A S, ds = [.str A, .str S] ∧ Alp A ∧ S.length ≤ 399 ∧ (pPat A.cps.toList S.cps.toList).post (fun r _ => Q (.fz (toD r)) h) (fun j => E ⟨CN, [("index", .int (j : Nat))]⟩ h)
theorem ok_parse (A : At K mg "parse_pattern" ["alphabet", "text"] s_parse_pattern f fd) (m_len : mg "len" = none) (f_Parser_index : Fo K CP "index") (c_Parser : MkM P w K mg base "Parser" CP 1 3 (g_Pinit CP)) (c_Parser_expression : MthM P w K mg base CP "expression" 165 1 (g_expr CP CN 80)) (c_is_pattern : Fn0 P w K mg base "is_pattern" 183 2 g_is_pattern) (e_InvalidNotation : Er1 P w K mg base "InvalidNotation" CN "index") :
    FnM P w K mg base "parse_pattern" 185 2 (g_parse CN) := by
  refine (A.fnM (okM (k := 184) A.fn sc_parse_pattern (by decide) (fun cdv A outer s H E hr tk po => (mss_cons (ms_set 2 sc_parse_pattern.nd rfl (by first | exact Or.inl rfl | exact Or.inr rfl) (me_mk c_Parser tk (hr.mono (by decide)) (by rfl) (ma_cons (me_v 0) (ma_cons (me_v 1) ma_nil))))
      (mss_cons (ms_set 3 sc_parse_pattern.nd rfl (by first | exact Or.inl rfl | exact Or.inr rfl) (me_mM0 c_Parser_expression tk (hr.mono (by decide)) (me_v 2)))
      (mss_cons (ms_if (mt_lt (me_fld f_Parser_index (me_v 2)) (me_len (by rfl) m_len (ma_cons (me_v 1) ma_nil))) (mss_one (ms_raise1 e_InvalidNotation rfl tk hr (by decide) (by rfl) (ma_cons (me_fld f_Parser_index (me_v 2)) ma_nil))) mss_nil)
      (mss_cons (ms_if (mt_not (mt_val (me_c0 c_is_pattern (hr.mono (by decide)) (by rfl) (ma_cons (me_v 0) (ma_cons (me_v 3) ma_nil))))) (mss_one (ms_raise1 e_InvalidNotation rfl tk hr (by decide) (by rfl) (ma_cons (me_len (by rfl) m_len (ma_cons (me_v 1) ma_nil)) ma_nil))) mss_nil)
      (mss_one (ms_ret (me_v 3)))))))) ?_)).of_less
  rintro ds h Q E hl ⟨Q0, E0, ⟨A, S, rfl, hA, hS, q⟩, hQ, hE⟩
  have hSl := len_l S
  have hA6 := hA.hi
  walk_at "m"
  intro p hp
  refine ⟨p, A, S, rfl, put_same, ?_⟩
  rw [put_put]
  refine ⟨rfl, ?_⟩
  walk_at "m"
  have en : ∀ (E' : Nat → Prop) (Q' : Rx → Nat → Prop), (pPat A.cps.toList S.cps.toList).post Q' E' = (pE S.cps.toList A.cps.toList (S.cps.toList.length + 1) 0).post (fun r j => ((if j < S.cps.toList.length then PR.er j else if patR r = true then .ok r j else .er S.cps.toList.length) : PR Rx).post Q' E') E' := fun E' Q' => by
    unfold pPat
    rw [post_bnd]
  rw [en] at q
  refine ⟨⟨_, .inl ⟨p, rfl, put_same⟩, rfl⟩, p, A, S, 0, S.cps.toList.length + 1, rfl, put_same, by omega, by omega, by omega, by omega, by omega, ?_⟩
  refine q.imp (fun r j e z => ?_) (fun j e z => ?_)
  rotate_left
  · rw [put_put]
    exact hE _ _ _ (le_put hp) z
  rw [put_put]
  obtain ⟨_, lj⟩ := pE_len (Nat.zero_le _) e
  have G := pE_good hA (by omega) (Nat.zero_le _) e
  have hd := G.dp
  walk_at "m"
  refine ⟨_, _, .inl ⟨p, rfl, put_same⟩, rfl, ?_⟩
  walk_at "m"
  refine ⟨_, len_str (by omega), ?_⟩
  walk_at "m"
  refine ifd (p := j < S.cps.toList.length) (decide_eq_decide.mpr (by rw [← hSl]; omega)) (fun hj => ?_) (fun hj => ?_)
  · rw [if_pos hj] at z
    walk_at "m"
    refine ⟨_, _, .inl ⟨p, rfl, put_same⟩, rfl, ?_⟩
    exact ⟨_, rfl, hE _ _ _ (le_put hp) z⟩
  rw [if_neg hj] at z
  walk_at "m"
  refine ⟨by omega, val_toD r G.ok, by have := dep_toD r; show dep (toD r) < 90; omega, fun z => ?_, fun r' e' _ _ => ?_⟩
  · have z' : isExpr A (toD r) = false := z
    rw [exprR A r G.st G.ok] at z'
    cases z'
  cases toD_inj _ _ e'
  walk_at "m"
  cases hp2 : patR r with
  | false =>
    rw [hp2, if_neg (by decide)] at z
    walk_at "m"
    refine ⟨_, len_str (by omega), ?_⟩
    refine ⟨_, rfl, ?_⟩
    rw [hSl]
    exact hE _ _ _ (le_put hp) z
  | true =>
    rw [hp2, if_pos rfl] at z
    walk_at "m"
    exact hQ _ _ _ (le_put hp) z
end
end Cut
namespace Cut
open PySem L2 DL ML
local macro_rules | `(tactic| walk_at "m") => `(tactic| repeat (first | with_reducible refine ⟨_, rfl, ?_⟩ | refine ⟨_, rfl, ?_⟩ | refine ⟨rfl, ?_⟩ | refine ⟨_, _, rfl, rfl, ?_⟩ | refine ⟨_, _, rfl, ?_⟩ | refine iteT ?_ | refine iteF ?_ | refine ⟨⟨_, rfl⟩, ?_⟩ | refine ⟨Nat.le_of_ble_eq_true rfl, ?_⟩ | refine ⟨(by decide), ?_⟩ | refine ⟨_, ix_t0 _ _, ?_⟩ | refine ⟨_, ix_l0 _ _, ?_⟩))
/-! ### texts joined -/
theorem sjoin_l (sep : Str) : ∀ (y : Str) (ys : List Str), (Str.join sep (y :: ys)).cps.toList = y.cps.toList ++ (ys.map fun z => sep.cps.toList ++ z.cps.toList).flatten
  | y, [] => by simp [Str.join]
  | y, z :: r => by
    show (y ++ sep ++ Str.join sep (z :: r)).cps.toList = _
    rw [l_append, l_append, sjoin_l sep z r]
    simp
theorem strsOf_map {α : Type} (f : α → Str) : ∀ l : List α, strsOf (l.map fun a => D.str (f a)) = some (l.map f)
  | [] => rfl
  | a :: l => by rw [List.map_cons, strsOf, strsOf_map f l]; rfl
theorem join_list {α : Type} (f : α → Str) (y : Str) (l : List α) (h : y.length + (l.map fun a => (f a).length + 1).sum + 1 ≤ 100000) :
    join1D (.str " ") [.lst (.str y :: l.map fun a => .str (f a))] = some (.fz (.str (ofL (y.cps.toList ++ (l.map fun a => 32 :: (f a).cps.toList).flatten)))) := by
  have e : strsOf (.str y :: l.map fun a => D.str (f a)) = some (y :: l.map f) := by rw [strsOf, strsOf_map]; rfl
  have hs : ∀ l : List α, ((l.map f).map (fun s : Str => s.length)).sum + (l.map f).length = (l.map fun a => (f a).length + 1).sum := by
    intro l
    induction l with
    | nil => rfl
    | cons a l ih => simp only [List.map_cons, List.sum_cons, List.length_cons]; omega
  show (match strsOf (.str y :: l.map fun a => D.str (f a)) with | some ys => if (ys.map (fun s : Str => s.length)).sum + ys.length * (" " : Str).length ≤ 100000 then some (Res.fz (.str (Txt.join " " ys))) else none | none => none) = _
  rw [e]
  dsimp only
  rw [if_pos ?_]
  · congr 3
    apply str_ext
    rw [show Txt.join " " (y :: l.map f) = Str.join " " (y :: l.map f) from TL.join_eq _ _, sjoin_l, ofL_l, List.map_map]
    congr 2
  · rw [show (" " : Str).length = 1 by decide +kernel, List.map_cons, List.sum_cons, List.length_cons]
    have := hs l
    omega
/-! ### the lengths of notations -/
theorem fmtL_flat : ∀ ps, fmtL ps = (ps.map fun p => 32 :: fmt p).flatten
  | [] => rfl
  | p :: ps => by rw [fmtL, fmtL_flat ps]; simp
theorem fmtL_mem : ∀ {ps : List Rx} {p : Rx}, p ∈ ps → (fmt p).length + 1 ≤ (fmtL ps).length
  | q :: ps, p, h => by
    rw [fmtL, List.length_cons, List.length_append]
    rcases List.mem_cons.mp h with rfl | h
    · omega
    · have := fmtL_mem h
      omega
theorem fmt_len {r p : Rx} (h : p ∈ r.parts) : (fmt p).length + 1 ≤ (fmt r).length := by
  cases r with
  | set s => cases h
  | row ps => have := fmtL_mem (ps := ps) h; simp only [fmt, List.length_cons, List.length_append]; omega
  | any ps => have := fmtL_mem (ps := ps) h; simp only [fmt, List.length_cons, List.length_append]; omega
  | all ps => have := fmtL_mem (ps := ps) h; simp only [fmt, List.length_cons, List.length_append]; omega
  | no q => rw [List.mem_singleton.mp h]; simp only [fmt, List.length_cons, List.length_append]; omega
  | again q lo hi => rw [List.mem_singleton.mp h]; simp only [fmt, List.length_cons, List.length_append]; omega
mutual
theorem fmt_cnt {A : Str} : ∀ r, stR A r = true → ((fmt r).length : Int) + 1 ≤ 14 * cnt r
  | .set s, h => by
    rw [stR, Bool.and_eq_true] at h
    have := of_decide_eq_true h.2
    rw [len_l] at this
    simp only [fmt, cnt, List.length_cons, List.length_append, List.length_nil]
    omega
  | .row ps, h => by
    rw [stR] at h
    have := fmtL_cnt ps h
    simp only [fmt, cnt, wRow, List.length_cons, List.length_append, List.length_nil]
    omega
  | .any ps, h => by
    rw [stR] at h
    have := fmtL_cnt ps h
    simp only [fmt, cnt, wAny, List.length_cons, List.length_append, List.length_nil]
    omega
  | .all ps, h => by
    rw [stR] at h
    have := fmtL_cnt ps h
    simp only [fmt, cnt, wAll, List.length_cons, List.length_append, List.length_nil]
    omega
  | .no p, h => by
    rw [stR] at h
    have := fmt_cnt p h
    simp only [fmt, cnt, wNot, List.length_cons, List.length_append, List.length_nil]
    omega
  | .again p lo hi, h => by
    rw [stR] at h
    have := fmt_cnt p h
    have e : (hiT hi).length = 1 := by cases hi <;> rfl
    simp only [fmt, cnt, wAgain, dig, List.length_cons, List.length_append, List.length_nil, e]
    omega
theorem fmtL_cnt {A : Str} : ∀ ps, stRL A ps = true → ((fmtL ps).length : Int) ≤ 14 * (cntL ps).sum
  | [], _ => by simp [fmtL, cntL]
  | p :: ps, h => by
    rw [stRL, Bool.and_eq_true] at h
    have h1 := fmt_cnt p h.1
    have h2 := fmtL_cnt ps h.2
    simp only [fmtL, cntL, List.length_cons, List.length_append, List.sum_cons]
    omega
end
theorem str_dig {i : Int} (h0 : 0 ≤ i) (h4 : i ≤ 4) : strD [.int i] = some (.fz (.str (ofL (dig i)))) := by
  have : i = 0 ∨ i = 1 ∨ i = 2 ∨ i = 3 ∨ i = 4 := by omega
  have e : strD [.int i] = some (.fz (.str (toString i))) := by
    show (if decide (i.natAbs < 2 ^ 1900) = true then some (Res.fz (.str (toString i))) else none) = _
    rw [if_pos (decide_eq_true (by have : (4 : Nat) < 2 ^ 1900 := by decide +kernel
                                   omega))]
  rw [e]
  congr 3
  rcases this with rfl | rfl | rfl | rfl | rfl <;> decide +kernel
theorem len_dig (i : Int) : (ofL (dig i)).length = 1 := by rw [len_ofL]; rfl
/-- a word ahead of the texts of parts -/
theorem add3 {a b : Str} {x y : List Nat} (ha : a = ofL x) (hb : b = ofL y) (h : x.length + y.length ≤ 100000) : addD (.str a) (.str b) = some (.fz (.str (ofL (x ++ y)))) := by
  subst ha hb
  rw [add_str (by rw [len_ofL, len_ofL]; exact h), app_ofL]
section
variable {P : Program} {w : World} {K : Fg} {mg : Str → Option Value} {base : Heap} {f : Addr} {fd : FuncData} {CP CN : Addr}
def g_fmt (n : Nat) : FM := fun ds h Q _ => ∃ r, ds = [toD r] ∧ okR r = true ∧ rdep r < n ∧ (fmt r).length ≤ 5000 ∧ Q (.fz (.str (ofL (fmt r)))) h
theorem cases3 (r : Rx) : (∃ s, r = .set s) ∨ (∃ p lo hi, r = .again p lo hi) ∨ (∃ wl ps, r.word = ofL wl ∧ r.tail = toDL ps ∧ r.parts = ps ∧ fmt r = 40 :: (wl ++ (fmtL ps ++ [41])) ∧ wl.length = 3 ∧ r.word ≠ "set" ∧ r.word ≠ "again") := by
  cases r with
  | set s => exact .inl ⟨s, rfl⟩
  | again p lo hi => exact .inr (.inl ⟨p, lo, hi, rfl⟩)
  | row ps => exact .inr (.inr ⟨wRow, ps, (by show ("row" : Str) = ofL wRow; decide +kernel), rfl, rfl, by rw [fmt], rfl, k1, k2⟩)
  | any ps => exact .inr (.inr ⟨wAny, ps, (by show ("any" : Str) = ofL wAny; decide +kernel), rfl, rfl, by rw [fmt], rfl, k4, k5⟩)
  | all ps => exact .inr (.inr ⟨wAll, ps, (by show ("all" : Str) = ofL wAll; decide +kernel), rfl, rfl, by rw [fmt], rfl, k7, k8⟩)
  | no p => exact .inr (.inr ⟨wNot, [p], (by show ("not" : Str) = ofL wNot; decide +kernel), rfl, rfl, by rw [fmt]; simp [fmtL], rfl, k10, k11⟩)
theorem okR_tail {r : Rx} (h : okR r = true) : r.tail.length ≤ 9999 := by
  have := okR_len h
  cases r with
  | set s => show 1 ≤ 9999; decide
  | row ps => show (toDL ps).length ≤ _; rw [toDL_len]; exact this
  | any ps => show (toDL ps).length ≤ _; rw [toDL_len]; exact this
  | all ps => show (toDL ps).length ≤ _; rw [toDL_len]; exact this
  | no p => show 1 ≤ 9999; decide
  | again p lo hi => show 3 ≤ 9999; decide
theorem isd_hi (hi : Option Int) : isD (hiD hi) .non = some (.fz (.bl hi.isNone)) := by cases hi <;> rfl
theorem fmt_again (p : Rx) (lo : Int) (hi : Option Int) : fmt (.again p lo hi) = ((((([40, 97, 103, 97, 105, 110, 32] ++ fmt p) ++ [32]) ++ dig lo) ++ [32]) ++ hiT hi) ++ [41] := by rw [fmt]; simp [wAgain]
end
end Cut
namespace Cut
open PySem L2 DL ML
local macro_rules | `(tactic| walk_at "m") => `(tactic| repeat (first | with_reducible refine ⟨_, rfl, ?_⟩ | refine ⟨_, rfl, ?_⟩ | refine ⟨rfl, ?_⟩ | refine ⟨_, _, rfl, rfl, ?_⟩ | refine ⟨_, _, rfl, ?_⟩ | refine iteT ?_ | refine iteF ?_ | refine ⟨⟨_, rfl⟩, ?_⟩ | refine ⟨Nat.le_of_ble_eq_true rfl, ?_⟩ | refine ⟨(by decide), ?_⟩ | refine ⟨_, ix_t0 _ _, ?_⟩ | refine ⟨_, ix_l0 _ _, ?_⟩))
abbrev s_l_written : Stmt := top 34
abbrev N_l_written : List Str := ["_law_expression", "_law_word", "_law_parts", "_law_high", "_law_part"]
theorem sc_l_written : FnScope N_l_written ["_law_expression"] (defScope s_l_written) := ⟨rfl, rfl, rfl, by decide +kernel, rfl, by decide +kernel, by decide +kernel⟩
section
variable {P : Program} {w : World} {K : Fg} {mg : Str → Option Value} {base : Heap} {f : Addr} {fd : FuncData} {CP CN : Addr}
theorem ok_written (A : At K mg "_law_written" ["_law_expression"] s_l_written f fd) (m_str : mg "str" = none) : ∀ n, FnM P w K mg base "_law_written" (n + 1) 1 (g_fmt n)
  | 0 => A.noneM fun ds h Q E ⟨r, _, _, hd, _⟩ => by omega
  | n + 1 => by
    have c_l_written := ok_written A m_str n
    refine A.fnM (okM (k := n + 1) A.fn sc_l_written (by decide) (fun cdv A outer s H E hr tk po => (mss_cons (ms_par (i := 1) (j := 2) rfl sc_l_written.nd rfl rfl (by decide) rfl rfl (ma_cons (me_ix (me_v 0) me_int (fun _ _ => rfl)) (ma_cons (me_sl (me_v 0) (mo_some me_int) mo_none) ma_nil)) (by rfl))
      (mss_cons (ms_if (mt_eq hr (me_v 1) me_str) (mss_one (ms_ret (me_add (me_add me_str (me_ix (me_v 2) me_int (fun _ _ => rfl))) me_str))) mss_nil)
      (mss_cons (ms_if (mt_eq hr (me_v 1) me_str) (mss_cons (ms_set 3 sc_l_written.nd rfl (by first | exact Or.inl rfl | exact Or.inr rfl) (me_if (mt_is (me_ix (me_v 2) me_int (fun _ _ => rfl)) me_non) me_str (me_strc (by rfl) m_str (ma_cons (me_ix (me_v 2) me_int (fun _ _ => rfl)) ma_nil))))
      (mss_one (ms_ret (me_add (me_add (me_add (me_add (me_add (me_add me_str (me_cM c_l_written tk (hr.mono (by omega)) (by rfl) (ma_cons (me_ix (me_v 2) me_int (fun _ _ => rfl)) ma_nil))) me_str) (me_strc (by rfl) m_str (ma_cons (me_ix (me_v 2) me_int (fun _ _ => rfl)) ma_nil))) me_str) (me_v 3)) me_str)))) mss_nil)
      (mss_one (ms_ret (me_add (me_add me_str (me_join me_str (ma_cons (me_add (me_lst (ma_cons (me_v 1) ma_nil)) (me_lc (own := [("_law_part", 4)]) rfl sc_l_written.nd (mi_seq (me_v 2)) (blkOk_by (N := N_l_written) (sc := defScope s_l_written) (own := [("_law_part", 4)]) (by decide +kernel)) (fun _ _ _ _ _ => (mg_n 4 sc_l_written.nd rfl (by first | exact Or.inl rfl | exact Or.inr rfl))) (fun _ _ _ _ _ => mts_nil) (fun _ _ _ _ _ => (me_cM c_l_written takes0 (hr.mono (by omega)) (by rfl) (ma_cons (me_v 4) ma_nil))))) ma_nil))) me_str))))))) ?_)
    rintro ds h Q E hl ⟨r, rfl, ho, hd, hf, q⟩
    have ht := okR_tail ho
    rw [toD_eq]
    refine ⟨_, rfl, _, ix_t0 _ _, _, rfl, _, rfl, _, (show slD (.tup (.str r.word :: r.tail)) (some 1) none = some (.fz (.tup r.tail)) from ?_), _, _, rfl, ?_⟩
    · show some (Res.fz (.tup (cutD _ _ _))) = _
      rw [cutD_1]
    rcases cases3 r with ⟨s, rfl⟩ | ⟨p, lo, hi, rfl⟩ | ⟨wl, ps, e1, e2, e3, e4, e5, n1, n2⟩
    · have hs : s.length ≤ 5000 := by
        rw [fmt, List.length_cons, List.length_append] at hf
        rw [len_l]
        omega
      walk_at "m"
      refine ifT (by show eqS "set" "set" = true; rw [eqS_eq]; exact decide_eq_true rfl) ?_
      walk_at "m"
      refine ⟨_, add3 (x := [91]) (y := s.cps.toList) rfl (l_ofL s).symm (by rw [← len_l]; show 1 + s.length ≤ _; omega), ?_⟩
      walk_at "m"
      refine ⟨_, add3 (x := [91] ++ s.cps.toList) (y := [93]) rfl rfl (by rw [List.length_append, ← len_l]; show 1 + s.length + 1 ≤ _; omega), ?_⟩
      rw [fmt] at q
      exact q
    · rw [okR, Bool.and_eq_true, Bool.and_eq_true, Bool.and_eq_true] at ho
      obtain ⟨⟨⟨ho1, ho2⟩, ho3⟩, ho4⟩ := ho
      have l0 : 0 ≤ lo := of_decide_eq_true ho2
      have l4 : lo ≤ 4 := of_decide_eq_true ho3
      rw [rdep] at hd
      have hp := fmt_len (r := .again p lo hi) (p := p) (List.mem_singleton.mpr rfl)
      have hhi : (hiT hi).length = 1 := by cases hi <;> rfl
      walk_at "m"
      refine ifF (by show eqS "again" "set" = false; rw [eqS_eq]; exact decide_eq_false k12) ?_
      walk_at "m"
      refine ifT (by show eqS "again" "again" = true; rw [eqS_eq]; exact decide_eq_true rfl) ?_
      walk_at "m"
      have fin : ∀ (T : Str), T = ofL (hiT hi) → ∀ (x y : Option D), mRet (mBin addD (mBin addD (mBin addD (mBin addD (mBin addD (mBin addD (mK (.str "(again ")) (mCallM (g_fmt n) (mACons (mBin ixD (mV 2) (mK (.int 0))) mANil))) (mK (.str " "))) (mCallG strD (mACons (mBin ixD (mV 2) (mK (.int 1))) mANil))) (mK (.str " "))) (mV 3)) (mK (.str ")")))
          (fun x _ h => E x h) { nx := fun _ h => Q (.fz .non) h, rt := fun r h => Q r h } [x, some (.str "again"), some (.tup [toD p, .int lo, hiD hi]), some (.str T), y] h := by
        rintro T rfl x y
        walk_at "m"
        refine ⟨ho1, by omega, by omega, ?_⟩
        refine ⟨_, add3 (a := "(again ") (x := [40, 97, 103, 97, 105, 110, 32]) (y := fmt p) (by decide +kernel) rfl (by show 7 + _ ≤ _; omega), ?_⟩
        walk_at "m"
        refine ⟨_, add3 (y := [32]) rfl rfl (by rw [List.length_append]; show 7 + _ + 1 ≤ _; omega), ?_⟩
        walk_at "m"
        refine ⟨_, str_dig l0 l4, ?_⟩
        refine ⟨_, add3 (y := dig lo) rfl rfl (by rw [List.length_append, List.length_append]; show 7 + _ + 1 + 1 ≤ _; omega), ?_⟩
        walk_at "m"
        refine ⟨_, add3 (y := [32]) rfl rfl (by rw [List.length_append, List.length_append, List.length_append]; show 7 + _ + 1 + 1 + 1 ≤ _; omega), ?_⟩
        walk_at "m"
        refine ⟨_, add3 (y := hiT hi) rfl rfl (by simp only [List.length_append, hhi]; show 7 + _ + 1 + 1 + 1 + 1 ≤ _; omega), ?_⟩
        walk_at "m"
        refine ⟨_, add3 (y := [41]) rfl rfl (by simp only [List.length_append, hhi]; show 7 + _ + 1 + 1 + 1 + 1 + 1 ≤ _; omega), ?_⟩
        rw [fmt_again] at q
        exact q
      refine ⟨_, isd_hi hi, ?_⟩
      cases hi with
      | none =>
        refine ⟨_, rfl, ?_⟩
        refine iteT ?_
        exact fin "*" (by decide +kernel) _ _
      | some v =>
        rw [hiOk, Bool.and_eq_true] at ho4
        have h1 : lo ≤ v := of_decide_eq_true ho4.1
        have h4 : v ≤ 4 := of_decide_eq_true ho4.2
        refine ⟨_, rfl, ?_⟩
        refine iteF ?_
        walk_at "m"
        refine ⟨_, str_dig (by omega) h4, ?_⟩
        exact fin _ rfl _ _
    · have hpt : ∀ p ∈ ps, okR p = true ∧ rdep p < n ∧ (fmt p).length + 1 ≤ (fmt r).length := fun p hp => by
        rw [← e3] at hp
        exact ⟨okR_parts ho p hp, rdep_parts hd (fun z => by rw [z] at hp; cases hp) p hp, fmt_len hp⟩
      have hps : ps.length ≤ 9999 := by have := ht; rw [e2, toDL_len] at this; exact this
      rw [e1] at n1 n2
      rw [e1, e2]
      walk_at "m"
      refine ifF (by show eqS (ofL wl) "set" = false; rw [eqS_eq]; exact decide_eq_false n1) ?_
      walk_at "m"
      refine ifF (by show eqS (ofL wl) "again" = false; rw [eqS_eq]; exact decide_eq_false n2) ?_
      walk_at "m"
      rw [toDL_map]
      refine lcM_map (φ := toD) (f := fun p => .str (ofL (fmt p))) ps (fun p hp R z => ?_) (by omega) ?_
      · obtain ⟨o1, o2, o3⟩ := hpt p hp
        walk_at "m"
        exact ⟨o1, o2, by omega, z⟩
      have hsum : ((ps.map fun a => (ofL (fmt a)).length + 1).sum) = (fmtL ps).length := by
        rw [fmtL_flat, List.length_flatten, List.map_map]
        congr 1
      have hfl : (fmtL ps).length + 5 = (fmt r).length := by rw [e4]; simp only [List.length_cons, List.length_append, List.length_nil]; omega
      refine ⟨_, add_lst (by simp; omega), ?_⟩
      refine ⟨_, join_list (fun p => ofL (fmt p)) (ofL wl) ps (by rw [hsum, len_ofL]; omega), ?_⟩
      simp only [ofL_l]
      have hfl2 : (ps.map fun p => 32 :: fmt p).flatten.length = (fmtL ps).length := by rw [fmtL_flat]
      refine ⟨_, add3 (x := [40]) rfl rfl (by rw [List.length_append, hfl2]; show 1 + _ ≤ _; omega), ?_⟩
      walk_at "m"
      refine ⟨_, add3 (y := [41]) rfl rfl (by rw [List.length_append, List.length_append, hfl2]; show 1 + _ + 1 ≤ _; omega), ?_⟩
      rw [e4, fmtL_flat] at q
      rw [show [40] ++ (wl ++ (ps.map fun p => 32 :: fmt p).flatten) ++ [41] = 40 :: (wl ++ ((ps.map fun p => 32 :: fmt p).flatten ++ [41])) by simp]
      exact q
end
end Cut
namespace Cut
open PySem L2 DL ML
local macro_rules | `(tactic| walk_at "m") => `(tactic| repeat (first | with_reducible refine ⟨_, rfl, ?_⟩ | refine ⟨_, rfl, ?_⟩ | refine ⟨rfl, ?_⟩ | refine ⟨_, _, rfl, rfl, ?_⟩ | refine ⟨_, _, rfl, ?_⟩ | refine iteT ?_ | refine iteF ?_ | refine ⟨⟨_, rfl⟩, ?_⟩ | refine ⟨Nat.le_of_ble_eq_true rfl, ?_⟩ | refine ⟨(by decide), ?_⟩ | refine ⟨_, ix_t0 _ _, ?_⟩ | refine ⟨_, ix_l0 _ _, ?_⟩))
abbrev s_l_is_pattern : Stmt := top 33
abbrev N_l_is_pattern : List Str := ["_law_expression", "_law_wide", "_law_tuples", "_law_plain_here", "_law_right"]
theorem sc_l_is_pattern : FnScope N_l_is_pattern ["_law_expression"] (defScope s_l_is_pattern) := ⟨rfl, rfl, rfl, by decide +kernel, rfl, by decide +kernel, by decide +kernel⟩
section
variable {P : Program} {w : World} {K : Fg} {mg : Str → Option Value} {base : Heap} {f : Addr} {fd : FuncData} {CP CN : Addr}
def g_ispat : FM := fun ds h Q _ => ∃ r, ds = [toD r] ∧ okR r = true ∧ rdep r < 90 ∧ Q (.fz (.bl (patR r))) h
theorem ok_ispat (A : At K mg "_law_is_pattern" ["_law_expression"] s_l_is_pattern f fd) (c_l_measures : Fn0 P w K mg base "_law_measures" 91 1 (g_measures 90)) : FnM P w K mg base "_law_is_pattern" 92 1 g_ispat := by
  refine A.fnM (okM (k := 91) A.fn sc_l_is_pattern (by decide) (fun cdv A outer s H E hr tk po => (mss_cons (ms_asg (me_c0 c_l_measures (hr.mono (by decide)) (by rfl) (ma_cons (me_v 0) ma_nil)) (mg_tup (n := 4) rfl (mgs_cons (mg_n 1 sc_l_is_pattern.nd rfl (by first | exact Or.inl rfl | exact Or.inr rfl)) (mgs_cons (mg_n 2 sc_l_is_pattern.nd rfl (by first | exact Or.inl rfl | exact Or.inr rfl)) (mgs_cons (mg_n 3 sc_l_is_pattern.nd rfl (by first | exact Or.inl rfl | exact Or.inr rfl)) (mgs_cons (mg_n 4 sc_l_is_pattern.nd rfl (by first | exact Or.inl rfl | exact Or.inr rfl)) mgs_nil))))))
      (mss_one (ms_ret (me_and (me_le (me_v 1) me_int) (me_and (me_le (me_v 2) me_int) (me_one (me_v 4)))))))) ?_)
  rintro ds h Q E hl ⟨r, rfl, ho, hd, q⟩
  walk_at "m"
  refine ⟨ho, hd, ?_⟩
  refine ⟨_, rfl, rfl, _, _, rfl, _, _, rfl, _, _, rfl, _, _, rfl, rfl, ?_⟩
  unfold patR at q
  walk_at "m"
  by_cases h1 : wd r ≤ 10
  · refine ifT (decide_eq_true h1) ?_
    walk_at "m"
    by_cases h2 : cnt r ≤ 20
    · refine ifT (decide_eq_true h2) ?_
      walk_at "m"
      rw [decide_eq_true h1, decide_eq_true h2, Bool.and_true, Bool.and_true] at q
      exact q
    · refine ifF (decide_eq_false h2) ?_
      rw [decide_eq_false h2, Bool.false_and, Bool.and_false] at q
      exact q
  · refine ifF (decide_eq_false h1) ?_
    rw [decide_eq_false h1, Bool.and_false, Bool.and_false] at q
    exact q
end
end Cut
/-! Patterns as values: when they are equal. Plain Lean. -/
namespace Cut
open PySem L2 DL
/-! nested tuples of texts, numbers, None -/
mutual
def sd : D → Bool
  | .non | .int _ | .str _ => true
  | .tup ds => decide (ds.length ≤ 10000) && sdL ds
  | _ => false
def sdL : List D → Bool
  | [] => true
  | d :: ds => sd d && sdL ds
end
theorem sdL_mem : ∀ {ds : List D}, sdL ds = true → ∀ d ∈ ds, sd d = true
  | _ :: _, h, d, hd => by
    rw [sdL, Bool.and_eq_true] at h
    rcases List.mem_cons.mp hd with e | e
    · rw [e]; exact h.1
    · exact sdL_mem h.2 d e
theorem sdL_all : ∀ {ds : List D}, (∀ d ∈ ds, sd d = true) → sdL ds = true
  | [], _ => rfl
  | d :: ds, h => by rw [sdL, h d (List.mem_cons_self ..), sdL_all fun x hx => h x (List.mem_cons_of_mem _ hx)]; rfl
mutual
theorem sd_toD : ∀ r, okR r = true → sd (toD r) = true
  | .set s, _ => rfl
  | .row ps, h => by
    rw [okR, Bool.and_eq_true] at h
    have := of_decide_eq_true h.1
    rw [toD, sd, sdL, sd_toDL ps h.2, List.length_cons, toDL_len, decide_eq_true (by omega)]; rfl
  | .any ps, h => by
    rw [okR, Bool.and_eq_true] at h
    have := of_decide_eq_true h.1
    rw [toD, sd, sdL, sd_toDL ps h.2, List.length_cons, toDL_len, decide_eq_true (by omega)]; rfl
  | .all ps, h => by
    rw [okR, Bool.and_eq_true] at h
    have := of_decide_eq_true h.1
    rw [toD, sd, sdL, sd_toDL ps h.2, List.length_cons, toDL_len, decide_eq_true (by omega)]; rfl
  | .no p, h => by
    rw [okR] at h
    rw [toD, sd, sdL, sdL, sd_toD p h]; rfl
  | .again p lo hi, h => by
    rw [okR, Bool.and_eq_true, Bool.and_eq_true, Bool.and_eq_true] at h
    rw [toD, sd, sdL, sdL, sdL, sdL, sd_toD p h.1.1.1]
    cases hi <;> rfl
theorem sd_toDL : ∀ ps, okRL ps = true → sdL (toDL ps) = true
  | [], _ => rfl
  | p :: ps, h => by
    rw [okRL, Bool.and_eq_true] at h
    rw [toDL, sdL, sd_toD p h.1, sd_toDL ps h.2]; rfl
end
mutual
theorem eqv_sd : ∀ d e : D, sd d = true → sd e = true → (PyData.eqv d.py e.py = true ↔ d = e)
  | .non, e, _, h => by cases e <;> simp [sd, D.py, PyData.eqv] at h ⊢
  | .int i, e, _, h => by cases e <;> simp [sd, D.py, PyData.eqv] at h ⊢
  | .str x, e, _, h => by cases e <;> simp [sd, D.py, PyData.eqv] at h ⊢
  | .tup ds, .tup es, h, h' => by
    rw [sd, Bool.and_eq_true] at h h'
    rw [D.py, D.py, PyData.eqv, eqvL_sd ds es h.2 h'.2]
    exact ⟨fun z => by rw [z], fun z => by cases z; rfl⟩
  | .tup ds, .non, _, _ => by simp [D.py, PyData.eqv]
  | .tup ds, .int _, _, _ => by simp [D.py, PyData.eqv]
  | .tup ds, .str _, _, _ => by simp [D.py, PyData.eqv]
  | .tup ds, .bl _, _, h => by simp [sd] at h
  | .tup ds, .lst _, _, h => by simp [sd] at h
  | .tup ds, .obj _ _, _, h => by simp [sd] at h
  | .tup ds, .ty _, _, h => by simp [sd] at h
  | .tup ds, .raw _, _, h => by simp [sd] at h
  | .tup ds, .scr _, _, h => by simp [sd] at h
  | .bl _, _, h, _ | .lst _, _, h, _ | .obj _ _, _, h, _ | .ty _, _, h, _ | .raw _, _, h, _ | .scr _, _, h, _ => by simp [sd] at h
theorem eqvL_sd : ∀ ds es : List D, sdL ds = true → sdL es = true → (PyData.eqvAll (pyL ds) (pyL es) = true ↔ ds = es)
  | [], [], _, _ => by simp [pyL, PyData.eqvAll]
  | [], _ :: _, _, _ => by simp [pyL, PyData.eqvAll]
  | _ :: _, [], _, _ => by simp [pyL, PyData.eqvAll]
  | d :: ds, e :: es, h, h' => by
    rw [sdL, Bool.and_eq_true] at h h'
    rw [pyL, pyL, PyData.eqvAll, Bool.and_eq_true, eqv_sd d e h.1 h'.1, eqvL_sd ds es h.2 h'.2]
    exact ⟨fun ⟨z1, z2⟩ => by rw [z1, z2], fun z => by cases z; exact ⟨rfl, rfl⟩⟩
end
theorem CH_lt : ∀ c ∈ CH, c < 1114112 := by rw [CH_eq]; decide
theorem strOk_set {A s : Str} (hA : Alp A) (h : isSetM A [.str s] = true) : PyData.strOk s = true := by
  have e : s = ofL (A.cps.toList.filter fun c => decide (c ∈ s.cps.toList)) := of_decide_eq_true h
  unfold PyData.strOk
  rw [Array.all_eq_true_iff_forall_mem]
  intro c hc
  rw [e] at hc
  have hc' : c ∈ (ofL (A.cps.toList.filter fun c => decide (c ∈ s.cps.toList))).cps.toList := Array.mem_toList_iff.mpr hc
  have : c ∈ A.cps.toList := by
    have h2 : c ∈ A.cps.toList.filter fun c => decide (c ∈ s.cps.toList) := by simpa using hc'
    exact (List.mem_filter.mp h2).1
  exact decide_eq_true (CH_lt c (hA.ch c this))
mutual
theorem lay_toD {A : Str} (hA : Alp A) : ∀ r, stR A r = true → (toD r).py.canLay0 = true ∧ (toD r).okP = true ∧ (toD r).py.depth ≤ rdep r + 1
  | .set s, h => by
    rw [stR, Bool.and_eq_true] at h
    refine ⟨?_, rfl, ?_⟩
    · show (PyData.strOk _ && (PyData.strOk s && true)) = true
      rw [strOk_set hA h.1]; decide +kernel
    · simp [toD, D.py, pyL, PyData.depth, PyData.depthAll]
  | .row ps, h => by
    rw [stR] at h
    obtain ⟨h1, h2, h3⟩ := lay_toDL hA ps h
    refine ⟨?_, ?_, ?_⟩
    · show (PyData.strOk _ && PyData.canLayAll0 (pyL (toDL ps))) = true
      rw [h1]; decide +kernel
    · show (true && okL (toDL ps)) = true
      rw [h2]; rfl
    · simp only [toD, D.py, pyL, PyData.depth, PyData.depthAll, rdep]; omega
  | .any ps, h => by
    rw [stR] at h
    obtain ⟨h1, h2, h3⟩ := lay_toDL hA ps h
    refine ⟨?_, ?_, ?_⟩
    · show (PyData.strOk _ && PyData.canLayAll0 (pyL (toDL ps))) = true
      rw [h1]; decide +kernel
    · show (true && okL (toDL ps)) = true
      rw [h2]; rfl
    · simp only [toD, D.py, pyL, PyData.depth, PyData.depthAll, rdep]; omega
  | .all ps, h => by
    rw [stR] at h
    obtain ⟨h1, h2, h3⟩ := lay_toDL hA ps h
    refine ⟨?_, ?_, ?_⟩
    · show (PyData.strOk _ && PyData.canLayAll0 (pyL (toDL ps))) = true
      rw [h1]; decide +kernel
    · show (true && okL (toDL ps)) = true
      rw [h2]; rfl
    · simp only [toD, D.py, pyL, PyData.depth, PyData.depthAll, rdep]; omega
  | .no p, h => by
    rw [stR] at h
    obtain ⟨h1, h2, h3⟩ := lay_toD hA p h
    refine ⟨?_, ?_, ?_⟩
    · show (PyData.strOk _ && ((toD p).py.canLay0 && true)) = true
      rw [h1]; decide +kernel
    · show (true && ((toD p).okP && true)) = true
      rw [h2]; rfl
    · simp only [toD, D.py, pyL, PyData.depth, PyData.depthAll, rdep]; omega
  | .again p lo hi, h => by
    rw [stR] at h
    obtain ⟨h1, h2, h3⟩ := lay_toD hA p h
    refine ⟨?_, ?_, ?_⟩
    · show (PyData.strOk _ && ((toD p).py.canLay0 && (true && ((hiD hi).py.canLay0 && true)))) = true
      rw [h1, show (hiD hi).py.canLay0 = true by cases hi <;> rfl]; decide +kernel
    · show (true && ((toD p).okP && (true && ((hiD hi).okP && true)))) = true
      rw [h2, show (hiD hi).okP = true by cases hi <;> rfl]; rfl
    · have : (hiD hi).py.depth = 0 := by cases hi <;> simp [hiD, D.py, PyData.depth]
      simp only [toD, D.py, pyL, PyData.depth, PyData.depthAll, rdep, this]; omega
theorem lay_toDL {A : Str} (hA : Alp A) : ∀ ps, stRL A ps = true → PyData.canLayAll0 (pyL (toDL ps)) = true ∧ okL (toDL ps) = true ∧ PyData.depthAll (pyL (toDL ps)) ≤ rdepL ps + 1
  | [], _ => ⟨rfl, rfl, by simp [toDL, pyL, PyData.depthAll]⟩
  | p :: ps, h => by
    rw [stRL, Bool.and_eq_true] at h
    obtain ⟨h1, h2, h3⟩ := lay_toD hA p h.1
    obtain ⟨g1, g2, g3⟩ := lay_toDL hA ps h.2
    refine ⟨?_, ?_, ?_⟩
    · show ((toD p).py.canLay0 && PyData.canLayAll0 (pyL (toDL ps))) = true
      rw [h1, g1]; rfl
    · show ((toD p).okP && okL (toDL ps)) = true
      rw [h2, g2]; rfl
    · simp only [toDL, pyL, PyData.depthAll, rdepL]; omega
end
theorem shaped_toD {A : Str} (hA : Alp A) {r : Rx} (hs : stR A r = true) (hd : rdep r ≤ 60) : shapedD (toD r) = true := by
  obtain ⟨h1, h2, h3⟩ := lay_toD hA r hs
  unfold shapedD SeqAt.shaped
  rw [h1, h2, decide_eq_true (by omega)]
  rfl
theorem eqB_toD {r r' : Rx} (h : okR r = true) (h' : okR r' = true) : eqB (toD r) (toD r') = true ↔ r = r' := by
  rw [eqB_eq]
  unfold eqvD
  rw [eqv_sd _ _ (sd_toD r h) (sd_toD r' h')]
  exact ⟨fun z => toD_inj _ _ z, fun z => by rw [z]⟩
theorem eq_toD {A : Str} (hA : Alp A) {r r' : Rx} (hs : stR A r = true) (hd : rdep r ≤ 60) (hs' : stR A r' = true) (hd' : rdep r' ≤ 60) : eqD (toD r) (toD r') = some (.fz (.bl (eqB (toD r) (toD r')))) ∧ neD (toD r) (toD r') = some (.fz (.bl (!eqB (toD r) (toD r')))) := by
  unfold eqD neD
  rw [shaped_toD hA hs hd, shaped_toD hA hs' hd', Bool.and_self, Bool.or_true]
  exact ⟨rfl, rfl⟩
end Cut
namespace Cut
open PySem L2 DL ML
abbrev s_InvalidNotation_init : Stmt := inClass (top 2) 0
abbrev N_InvalidNotation_init : List Str := ["self", "index"]
theorem sc_InvalidNotation_init : FnScope N_InvalidNotation_init ["self", "index"] (defScope s_InvalidNotation_init) := ⟨rfl, rfl, rfl, by decide +kernel, rfl, by decide +kernel, by decide +kernel⟩
section
variable {P : Program} {w : World} {K : Fg} {mg : Str → Option Value} {base : Heap} {f : Addr} {fd : FuncData} {CB CN : Addr}
/-- what the written part says of the class CutError -/
structure BsC (K : Fg) (mg : Str → Option Value) (B : Addr) : Prop where
  nm : mg "CutError" = some (.ref B)
  rd : PySem.W.readsIn K B (.type "type") = true
  sp : PySem.W.specialIn K (.ref B) "__getattribute__" = some (some (.builtin "type.__getattribute__"))
  fi : PySem.W.findCls K (.ref B) (.type "type") "__init__" = some (.val (.builtin "ValueError.__init__"))
theorem ok_erI (F : Fun K "__init__" "InvalidNotation.__init__" s_InvalidNotation_init f fd) (B : BsC K mg CB) (T : OexC K CN) (hno : PySem.W.findIn K (.ref CN) "index" = some none) : FnOk P w K mg base CX0 1 f fd ["self", "index"] (spE1 K CN "index") := by
  refine F.ok (k := 0) sc_InvalidNotation_init (fun vs H Q E ⟨a, y, e, _⟩ => by rw [e]; rfl) fun cdv A outer s H vs Q E hr ⟨a, y, e, ha, q⟩ => ?_
  subst e
  refine ⟨_, pss_cons (ps_expr (pe_binit (by rfl) B.nm B.rd B.sp B.fi (pa_cons (pv 0) (pa_cons pe_str pa_nil)))) (pss_one (ps_ost (pv 0) (pv 1))), ?_⟩
  refine ⟨.ref a, rfl, ?_⟩
  refine ⟨a, CN, [.str "invalid notation"], rfl, by decide, T, ha, ?_⟩
  refine ⟨y, rfl, .ref a, rfl, a, CN, rfl, T, hno, .inl ⟨ha, fun dx h1 h2 => ?_⟩⟩
  exact q dx h1 h2
end
end Cut
/-! Notations cut short. Plain Lean. -/
namespace Cut
open PySem L2 DL
theorem take_at {t : List Nat} {m i : Nat} (h : i < m) : (t.take m)[i]? = t[i]? := by rw [List.getElem?_take, if_pos h]
theorem take_no {t : List Nat} {m i : Nat} (h : m ≤ i) : (t.take m)[i]? = none := by rw [List.getElem?_take, if_neg (by omega)]
/-- what is read to j is read to j where the text is cut behind it, and refused at the cut ahead of it -/
def Wk {α : Type} (i : Nat) (p : List Nat → PR α) : Prop := ∀ t a j, p t = .ok a j → i ≤ j ∧ (∀ m, j < m → p (t.take m) = .ok a j) ∧ (∀ m, i ≤ m → m < j → p (t.take m) = .er m) ∧ (p (t.take j) = .ok a j ∨ p (t.take j) = .er j)
theorem Wk.ok {α : Type} (a : α) (i : Nat) : Wk i (fun _ => PR.ok a i) := fun t b j h => by
  cases h
  exact ⟨Nat.le_refl _, fun _ _ => rfl, fun m h1 h2 => absurd h1 (by omega), .inl rfl⟩
theorem Wk.er {α : Type} (i : Nat) : Wk i (fun _ => (PR.er i : PR α)) := fun t b j h => by cases h
theorem Wk.bnd {α β : Type} {i : Nat} {p : List Nat → PR α} {f : List Nat → α → Nat → PR β} (hp : Wk i p) (hf : ∀ a j, i ≤ j → Wk j (fun s => f s a j)) : Wk i (fun s => (p s).bnd (f s)) := fun t b k h => by
  obtain ⟨a, j, e1, e2⟩ := bnd_ok h
  obtain ⟨h1, h2, h3, h4⟩ := hp t a j e1
  obtain ⟨g1, g2, g3, g4⟩ := hf a j h1 t b k e2
  have up : ∀ m, j < m → (p (t.take m)).bnd (f (t.take m)) = f (t.take m) a j := fun m hm => by rw [h2 m hm]; rfl
  refine ⟨by omega, fun m hm => ?_, fun m hm1 hm2 => ?_, ?_⟩
  · show (p (t.take m)).bnd (f (t.take m)) = _
    rw [up m (by omega)]
    exact g2 m hm
  · show (p (t.take m)).bnd (f (t.take m)) = _
    rcases Nat.lt_trichotomy m j with hl | hl | hl
    · rw [h3 m hm1 hl]; rfl
    · subst hl
      rcases h4 with h4 | h4
      · rw [h4]; exact g3 m (Nat.le_refl _) hm2
      · rw [h4]; rfl
    · rw [up m hl]
      exact g3 m (by omega) hm2
  · show (p (t.take k)).bnd (f (t.take k)) = _ ∨ (p (t.take k)).bnd (f (t.take k)) = _
    rcases Nat.lt_or_ge j k with hl | hl
    · rw [up k hl]
      exact g4
    · have : k = j := by omega
      subst this
      rcases h4 with h4 | h4
      · rw [h4]; exact g4
      · rw [h4]; exact .inr rfl
/-- a look at one character -/
theorem Wk.look {α : Type} {i c : Nat} {p q : List Nat → PR α} (hp : Wk i p) (hq : Wk i q) (hn : ∀ s, s[i]? = none → q s = .er i) : Wk i (fun s => if s[i]? = some c then p s else q s) := fun t a j h => by
  have un : ∀ m, m ≤ i → (if (t.take m)[i]? = some c then p (t.take m) else q (t.take m)) = .er i := fun m hm => by
    rw [if_neg (by rw [take_no hm]; simp)]
    exact hn _ (take_no hm)
  by_cases hc : t[i]? = some c
  · have h' : p t = .ok a j := by
      have h : (if t[i]? = some c then p t else q t) = .ok a j := h
      rwa [if_pos hc] at h
    obtain ⟨h1, h2, h3, h4⟩ := hp t a j h'
    have up : ∀ m, i < m → (if (t.take m)[i]? = some c then p (t.take m) else q (t.take m)) = p (t.take m) := fun m hm => by rw [if_pos (by rw [take_at hm]; exact hc)]
    refine ⟨h1, fun m hm => (up m (by omega)).trans (h2 m hm), fun m hm1 hm2 => ?_, ?_⟩
    · rcases Nat.lt_or_ge i m with hl | hl
      · exact (up m hl).trans (h3 m hm1 hm2)
      · have : m = i := by omega
        subst this
        exact un m (Nat.le_refl _)
    · rcases Nat.lt_or_ge i j with hl | hl
      · rcases h4 with h4 | h4
        · exact .inl ((up j hl).trans h4)
        · exact .inr ((up j hl).trans h4)
      · have : j = i := by omega
        subst this
        exact .inr (un j (Nat.le_refl _))
  · have h' : q t = .ok a j := by
      have h : (if t[i]? = some c then p t else q t) = .ok a j := h
      rwa [if_neg hc] at h
    obtain ⟨h1, h2, h3, h4⟩ := hq t a j h'
    have up : ∀ m, (if (t.take m)[i]? = some c then p (t.take m) else q (t.take m)) = q (t.take m) := fun m => by
      refine if_neg fun z => ?_
      rcases Nat.lt_or_ge i m with hl | hl
      · rw [take_at hl] at z; exact hc z
      · rw [take_no hl] at z; cases z
    exact ⟨h1, fun m hm => (up m).trans (h2 m hm), fun m hm1 hm2 => (up m).trans (h3 m hm1 hm2), h4.imp (fun z => (up j).trans z) fun z => (up j).trans z⟩
theorem Wk.ite {α : Type} {i : Nat} {P : Prop} [Decidable P] {p q : List Nat → PR α} (hp : Wk i p) (hq : Wk i q) : Wk i (fun s => if P then p s else q s) := by
  by_cases h : P
  · simpa only [if_pos h] using hp
  · simpa only [if_neg h] using hq
/-- a step over one character -/
theorem Wk.char {α : Type} {i : Nat} {g : Nat → List Nat → PR α} (hg : ∀ c, Wk i (g c) ∨ Wk (i + 1) (g c)) : Wk i (fun s => match s[i]? with | none => .er i | some c => g c s) := fun t a j h => by
  cases hc : t[i]? with
  | none =>
    have h : (match t[i]? with | none => PR.er i | some c => g c t) = .ok a j := h
    rw [hc] at h
    cases h
  | some c =>
    have h : (match t[i]? with | none => PR.er i | some c => g c t) = .ok a j := h
    rw [hc] at h
    have up : ∀ m, i < m → (match (t.take m)[i]? with | none => PR.er i | some c => g c (t.take m)) = g c (t.take m) := fun m hm => by rw [take_at hm, hc]
    have un : ∀ m, m ≤ i → (match (t.take m)[i]? with | none => PR.er i | some c => g c (t.take m)) = .er i := fun m hm => by rw [take_no hm]
    have hw : i ≤ j ∧ (∀ m, j < m → g c (t.take m) = .ok a j) ∧ (∀ m, i < m → m < j → g c (t.take m) = .er m) ∧ (g c (t.take j) = .ok a j ∨ g c (t.take j) = .er j) := by
      rcases hg c with w | w
      · obtain ⟨h1, h2, h3, h4⟩ := w t a j h
        exact ⟨h1, h2, fun m hm => h3 m (by omega), h4⟩
      · obtain ⟨h1, h2, h3, h4⟩ := w t a j h
        exact ⟨by omega, h2, fun m hm => h3 m (by omega), h4⟩
    obtain ⟨h1, h2, h3, h4⟩ := hw
    refine ⟨h1, fun m hm => (up m (by omega)).trans (h2 m hm), fun m hm1 hm2 => ?_, ?_⟩
    · rcases Nat.lt_or_ge i m with hl | hl
      · exact (up m hl).trans (h3 m hl hm2)
      · have : m = i := by omega
        subst this
        exact un m (Nat.le_refl _)
    · rcases Nat.lt_or_ge i j with hl | hl
      · exact h4.imp (fun z => (up j hl).trans z) fun z => (up j hl).trans z
      · have : j = i := by omega
        subst this
        exact .inr (un j (Nat.le_refl _))
theorem Wk.pX : ∀ (cs : List Nat) (i : Nat), Wk i (fun s => Cut.pX s cs i)
  | [], i => Wk.ok () i
  | c :: cs, i => by
    have ih := Wk.pX cs (i + 1)
    have : Wk i (fun s => match s[i]? with | none => PR.er i | some d => if d = c then Cut.pX s cs (i + 1) else .er i) := Wk.char fun d => by
      by_cases h : d = c
      · right; simpa only [if_pos h] using ih
      · left; simpa only [if_neg h] using Wk.er i
    refine cast (congrArg (Wk i) (funext fun s => ?_)) this
    rw [Cut.pX]
    cases s[i]? with
    | none => simp
    | some d => simp
theorem Wk.pK : ∀ (n : Nat) (f : List Nat) (i : Nat), Wk i (fun s => Cut.pK s n f i)
  | 0, f, i => Wk.er i
  | n + 1, f, i => Wk.ite (Wk.ok f i) (Wk.char fun c => by
      by_cases h : isPre (f ++ [c]) = true
      · right; simpa only [if_pos h] using Wk.pK n (f ++ [c]) (i + 1)
      · left; simpa only [if_neg h] using Wk.er i)
theorem Wk.pD (low i : Nat) : Wk i (fun s => Cut.pD s low i) := Wk.char fun c => by
  by_cases h : 48 + low ≤ c ∧ c ≤ 52
  · right; simpa only [if_pos h] using Wk.ok (c - 48) (i + 1)
  · left; simpa only [if_neg h] using Wk.er i
theorem Wk.pC : ∀ (n : Nat) (rest f : List Nat) (i : Nat), Wk i (fun s => Cut.pC s n rest f i)
  | 0, rest, f, i => Wk.er i
  | n + 1, rest, f, i => Wk.char fun c => by
      by_cases h : c = 93
      · left; simpa only [if_pos h] using Wk.ok f i
      · simp only [if_neg h]
        by_cases h2 : c ∈ rest
        · right; simpa only [if_pos h2] using Wk.pC n (rest.drop (rest.idxOf c + 1)) (f ++ [c]) (i + 1)
        · left; simpa only [if_neg h2] using Wk.er i
theorem Wk.pS (A : List Nat) (i : Nat) : Wk i (fun s => Cut.pS s A i) := (Wk.pX [91] i).bnd fun _ j _ => (Wk.pC (A.length + 1) A [] j).bnd fun f k _ => (Wk.pX [93] k).bnd fun _ l _ => Wk.ok (Rx.set (ofL f)) l
theorem pX_none {s cs : List Nat} {c i : Nat} (h : s[i]? = none) : Cut.pX s (c :: cs) i = .er i := by rw [Cut.pX, h]; simp
theorem pD_none {s : List Nat} {low i : Nat} (h : s[i]? = none) : Cut.pD s low i = .er i := by rw [Cut.pD, h]
theorem Wk.pEP (A : List Nat) : ∀ n i, Wk i (fun s => Cut.pE s A n i) ∧ Wk i (fun s => Cut.pP s A n i)
  | 0, i => ⟨by simpa only [Cut.pE] using Wk.er i, by simpa only [Cut.pP] using Wk.er i⟩
  | n + 1, i => by
    have ih := Wk.pEP A n
    constructor
    · have : Wk i (fun s => if s[i]? = some 91 then Cut.pS s A i else (Cut.pX s [40] i).bnd fun _ i1 => (Cut.pK s 6 [] i1).bnd fun w i2 =>
        (if w = wAgain then (Cut.pX s [32] i2).bnd fun _ i3 => (Cut.pE s A n i3).bnd fun p i4 => (Cut.pX s [32] i4).bnd fun _ i5 => (Cut.pD s 0 i5).bnd fun lo i6 => (Cut.pX s [32] i6).bnd fun _ i7 =>
          (if s[i7]? = some 42 then (Cut.pX s [42] i7).bnd fun _ i8 => .ok (Rx.again p (lo : Nat) none) i8 else (Cut.pD s lo i7).bnd fun hi i8 => .ok (.again p (lo : Nat) (some (hi : Nat))) i8)
        else if w = wNot then (Cut.pX s [32] i2).bnd fun _ i3 => (Cut.pE s A n i3).bnd fun p i4 => .ok (.no p) i4
        else (Cut.pP s A n i2).bnd fun ps i3 => .ok (mkW w ps) i3).bnd fun r j => (Cut.pX s [41] j).bnd fun _ k => .ok r k) := by
        refine Wk.look (Wk.pS A i) ?_ fun s hs => by rw [pX_none hs]; rfl
        refine (Wk.pX [40] i).bnd fun _ i1 _ => (Wk.pK 6 [] i1).bnd fun w i2 _ => ?_
        refine Wk.bnd (p := fun s => if w = wAgain then _ else _) ?_ fun r j _ => (Wk.pX [41] j).bnd fun _ k _ => Wk.ok r k
        refine Wk.ite ?_ (Wk.ite ?_ ?_)
        · refine (Wk.pX [32] i2).bnd fun _ i3 _ => (ih i3).1.bnd fun p i4 _ => (Wk.pX [32] i4).bnd fun _ i5 _ => (Wk.pD 0 i5).bnd fun lo i6 _ => (Wk.pX [32] i6).bnd fun _ i7 _ => ?_
          exact Wk.look ((Wk.pX [42] i7).bnd fun _ i8 _ => Wk.ok _ i8) ((Wk.pD lo i7).bnd fun hi i8 _ => Wk.ok _ i8) fun s hs => by rw [pD_none hs]; rfl
        · exact (Wk.pX [32] i2).bnd fun _ i3 _ => (ih i3).1.bnd fun p i4 _ => Wk.ok _ i4
        · exact (ih i2).2.bnd fun ps i3 _ => Wk.ok _ i3
      refine cast (congrArg (Wk i) (funext fun s => ?_)) this
      rw [Cut.pE]
    · have : Wk i (fun s => if s[i]? = some 41 then .ok [] i else (Cut.pX s [32] i).bnd fun _ i1 => (Cut.pE s A n i1).bnd fun p i2 => (Cut.pP s A n i2).bnd fun ps i3 => .ok (p :: ps) i3) := by
        refine Wk.look (Wk.ok [] i) ?_ fun s hs => by rw [pX_none hs]; rfl
        exact (Wk.pX [32] i).bnd fun _ i1 _ => (ih i1).1.bnd fun p i2 _ => (ih i2).2.bnd fun ps i3 _ => Wk.ok _ i3
      refine cast (congrArg (Wk i) (funext fun s => ?_)) this
      rw [Cut.pP]
/-! ### fuel -/
theorem bnd_congr {α β : Type} {x : PR α} {f g : α → Nat → PR β} (h : ∀ a j, x = .ok a j → f a j = g a j) : x.bnd f = x.bnd g := by
  cases x with
  | ok a j => exact h a j rfl
  | er j => rfl
theorem bnd_congr2 {α β : Type} {x y : PR α} {f g : α → Nat → PR β} (e : x = y) (h : ∀ a j, y = .ok a j → f a j = g a j) : x.bnd f = y.bnd g := by
  subst e
  exact bnd_congr h
theorem fuel {s A : List Nat} : ∀ n i, s.length < i + n → Cut.pE s A (n + 1) i = Cut.pE s A n i ∧ Cut.pP s A (n + 1) i = Cut.pP s A n i
  | 0, i, h => by
    have hn : s[i]? = none := List.getElem?_eq_none (by omega)
    constructor
    · rw [Cut.pE, Cut.pE, hn, if_neg (by simp), pX_none hn]; rfl
    · rw [Cut.pP, Cut.pP, hn, if_neg (by simp), pX_none hn]; rfl
  | n + 1, i, h => by
    have le : ∀ {α : Type} {p : List Nat → PR α} {i : Nat} {a : α} {j : Nat}, Wk i p → p s = .ok a j → i ≤ j := fun w e => (w s _ _ e).1
    have lx : ∀ {c i j : Nat}, Cut.pX s [c] i = .ok () j → j = i + 1 := fun {c i j} e => by
      rw [Cut.pX] at e
      split at e
      · rw [Cut.pX] at e; cases e; rfl
      · cases e
    constructor
    · rw [Cut.pE, Cut.pE]
      refine congrArg (fun z => if s[i]? = some 91 then Cut.pS s A i else z) ?_
      refine bnd_congr fun _ i1 e1 => bnd_congr fun w i2 e2 => ?_
      have h1 := lx e1
      have h2 := le (Wk.pK 6 [] i1) e2
      refine congrArg (fun z : PR Rx => z.bnd fun r j => (Cut.pX s [41] j).bnd fun _ k => .ok r k) ?_
      by_cases w1 : w = wAgain
      · rw [if_pos w1, if_pos w1]
        refine bnd_congr fun _ i3 e3 => ?_
        have h3 := lx e3
        exact bnd_congr2 (fuel n i3 (by omega)).1 fun _ _ _ => rfl
      · rw [if_neg w1, if_neg w1]
        by_cases w2 : w = wNot
        · rw [if_pos w2, if_pos w2]
          refine bnd_congr fun _ i3 e3 => ?_
          have h3 := lx e3
          exact bnd_congr2 (fuel n i3 (by omega)).1 fun _ _ _ => rfl
        · rw [if_neg w2, if_neg w2]
          exact bnd_congr2 (fuel n i2 (by omega)).2 fun _ _ _ => rfl
    · rw [Cut.pP, Cut.pP]
      refine congrArg (fun z => if s[i]? = some 41 then PR.ok [] i else z) ?_
      refine bnd_congr fun _ i1 e1 => ?_
      have h1 := lx e1
      refine bnd_congr2 (fuel n i1 (by omega)).1 fun p i2 e2 => ?_
      have h2 := le (Wk.pEP A n i1).1 e2
      exact bnd_congr2 (fuel n i2 (by omega)).2 fun _ _ _ => rfl
theorem fuel_any {s A : List Nat} {i n : Nat} (h : s.length < i + n) : ∀ k, Cut.pE s A (n + k) i = Cut.pE s A n i
  | 0 => rfl
  | k + 1 => by rw [← Nat.add_assoc, (fuel (n + k) i (by omega)).1, fuel_any h k]
end Cut
/-! A pattern like another one but for one part. Plain Lean. -/
namespace Cut
open PySem L2 DL
theorem okL_ints : ∀ ns : List Int, okL (ns.map D.int) = true
  | [] => rfl
  | n :: ns => by rw [List.map_cons, okL, okL_ints ns]; rfl
theorem pyL_ints : ∀ ns : List Int, pyL (ns.map D.int) = ns.map PyData.int
  | [] => rfl
  | n :: ns => by rw [List.map_cons, pyL, pyL_ints ns]; rfl
theorem eqvAll_ints : ∀ ns ms : List Int, PyData.eqvAll (ns.map PyData.int) (ms.map PyData.int) = decide (ns = ms)
  | [], [] => rfl
  | [], _ :: _ => rfl
  | _ :: _, [] => rfl
  | n :: ns, m :: ms => by
    rw [List.map_cons, List.map_cons, PyData.eqvAll, eqvAll_ints ns ms]
    show (n == m && decide (ns = ms)) = decide (n :: ns = m :: ms)
    rw [Bool.eq_iff_iff]
    simp
theorem eq_ints (ns ms : List Int) : eqB (.lst (ns.map D.int)) (.lst (ms.map D.int)) = decide (ns = ms) := by
  rw [eqB_eq, eqvD, D.py, D.py, pyL_ints, pyL_ints]
  exact eqvAll_ints ns ms
theorem shaped_ints' (ns : List Int) : shapedD (.lst (ns.map D.int)) = true := by
  rw [shapedD, D.okP, okL_ints, D.py, pyL_ints, Bool.true_and]
  exact PySem.W.shaped_ints ns
theorem eqD_ints (ns ms : List Int) : eqD (.lst (ns.map D.int)) (.lst (ms.map D.int)) = some (.fz (.bl (decide (ns = ms)))) := by
  unfold eqD
  rw [shaped_ints', shaped_ints', eq_ints]
  rfl
theorem neD_ints (ns ms : List Int) : neD (.lst (ns.map D.int)) (.lst (ms.map D.int)) = some (.fz (.bl (!decide (ns = ms)))) := by
  unfold neD
  rw [shaped_ints', shaped_ints', eq_ints]
  rfl
structure Lk (A : Str) (r r' : Rx) : Prop where
  st : stR A r' = true
  ok : okR r' = true
  dp : rdep r' ≤ rdep r
  ct : cnt r' = cnt r
structure LkL (A : Str) (ps qs : List Rx) : Prop where
  st : stRL A qs = true
  ok : okRL qs = true
  dp : rdepL qs ≤ rdepL ps
  ct : (cntL qs).sum = (cntL ps).sum
  ln : qs.length = ps.length
theorem LkL.set {A : Str} : ∀ {ps : List Rx} {i : Nat} (hi : i < ps.length) {q : Rx}, stRL A ps = true → okRL ps = true → Lk A ps[i] q → LkL A ps (ps.set i q)
  | p :: ps, 0, _, q, hs, ho, h => by
    rw [stRL, Bool.and_eq_true] at hs
    rw [okRL, Bool.and_eq_true] at ho
    have h1 := h.dp
    have h2 := h.ct
    simp only [List.getElem_cons_zero] at h1 h2
    exact ⟨by rw [List.set_cons_zero, stRL, h.st, hs.2]; rfl, by rw [List.set_cons_zero, okRL, h.ok, ho.2]; rfl, by rw [List.set_cons_zero, rdepL, rdepL]; omega, by rw [List.set_cons_zero, cntL, cntL, List.sum_cons, List.sum_cons, h2], by simp⟩
  | p :: ps, i + 1, hi, q, hs, ho, h => by
    rw [stRL, Bool.and_eq_true] at hs
    rw [okRL, Bool.and_eq_true] at ho
    have k := LkL.set (A := A) (ps := ps) (i := i) (by simpa using hi) hs.2 ho.2 (q := q) (by simpa using h)
    have := k.dp
    exact ⟨by rw [List.set_cons_succ, stRL, k.st, hs.1]; rfl, by rw [List.set_cons_succ, okRL, k.ok, ho.1]; rfl, by rw [List.set_cons_succ, rdepL, rdepL]; omega, by rw [List.set_cons_succ, cntL, cntL, List.sum_cons, List.sum_cons, k.ct], by simp⟩
theorem stRL_mem {A : Str} : ∀ {ps : List Rx}, stRL A ps = true → ∀ p ∈ ps, stR A p = true
  | _ :: _, h, d, hd => by
    rw [stRL, Bool.and_eq_true] at h
    rcases List.mem_cons.mp hd with e | e
    · rw [e]; exact h.1
    · exact stRL_mem h.2 d e
theorem toDL_set : ∀ (ps : List Rx) (i : Nat) (q : Rx), toDL (ps.set i q) = (toDL ps).set i (toD q)
  | [], _, _ => rfl
  | p :: ps, 0, q => rfl
  | p :: ps, i + 1, q => by rw [List.set_cons_succ, toDL, toDL, toDL_set ps i q]; rfl
theorem toDL_get : ∀ (ps : List Rx) (i : Nat), (toDL ps)[i]? = ps[i]?.map toD
  | [], _ => rfl
  | p :: ps, 0 => rfl
  | p :: ps, i + 1 => by rw [toDL, List.getElem?_cons_succ, List.getElem?_cons_succ, toDL_get ps i]
def isT : D → Bool
  | .tup _ => true
  | _ => false
theorem isT_toD (r : Rx) : isT (toD r) = true := by rw [toD_eq]; rfl
theorem isT_hi (hi : Option Int) : isT (hiD hi) = false := by cases hi <;> rfl
/-- a tuple within a pattern is a part; another one in its place -/
theorem part_at {A : Str} {r : Rx} {i : Nat} {d : D} (hs : stR A r = true) (ho : okR r = true) (h : r.tail[i]? = some d) (ht : isT d = true) :
    ∃ p, d = toD p ∧ stR A p = true ∧ okR p = true ∧ rdep p < rdep r ∧ ∀ q, Lk A p q → ∃ r', toD r' = .tup (.str r.word :: r.tail.set i (toD q)) ∧ Lk A r r' := by
  have list : ∀ (ps : List Rx), stRL A ps = true → okRL ps = true → (toDL ps)[i]? = some d → ∃ p, d = toD p ∧ stR A p = true ∧ okR p = true ∧ rdep p < rdepL ps + 1 ∧ ∀ q, Lk A p q → LkL A ps (ps.set i q) := by
    intro ps h1 h2 h3
    rw [toDL_get] at h3
    cases h4 : ps[i]? with
    | none => rw [h4] at h3; cases h3
    | some p =>
      rw [h4] at h3
      cases h3
      obtain ⟨hi, e⟩ := List.getElem?_eq_some_iff.mp h4
      have hm : p ∈ ps := by rw [← e]; exact List.getElem_mem hi
      exact ⟨p, rfl, stRL_mem h1 p hm, okRL_mem h2 p hm, rdepL_mem (Nat.lt_succ_self _) p hm, fun q hq => LkL.set hi h1 h2 (by rw [e]; exact hq)⟩
  cases r with
  | set s =>
    match i, h with
    | 0, h => cases h; cases ht
    | _ + 1, h => simp [Rx.tail] at h
  | row ps =>
    rw [stR] at hs
    rw [okR, Bool.and_eq_true] at ho
    obtain ⟨p, e, h1, h2, h3, h4⟩ := list ps hs ho.2 h
    refine ⟨p, e, h1, h2, h3, fun q hq => ?_⟩
    have k := h4 q hq
    refine ⟨.row (ps.set i q), by rw [toD, toDL_set]; rfl, ⟨by rw [stR]; exact k.st, by rw [okR, k.ok, k.ln, ho.1]; rfl, ?_, by rw [cnt, cnt, k.ct]⟩⟩
    have := k.dp
    rw [rdep, rdep]; omega
  | any ps =>
    rw [stR] at hs
    rw [okR, Bool.and_eq_true] at ho
    obtain ⟨p, e, h1, h2, h3, h4⟩ := list ps hs ho.2 h
    refine ⟨p, e, h1, h2, h3, fun q hq => ?_⟩
    have k := h4 q hq
    refine ⟨.any (ps.set i q), by rw [toD, toDL_set]; rfl, ⟨by rw [stR]; exact k.st, by rw [okR, k.ok, k.ln, ho.1]; rfl, ?_, by rw [cnt, cnt, k.ct]⟩⟩
    have := k.dp
    rw [rdep, rdep]; omega
  | all ps =>
    rw [stR] at hs
    rw [okR, Bool.and_eq_true] at ho
    obtain ⟨p, e, h1, h2, h3, h4⟩ := list ps hs ho.2 h
    refine ⟨p, e, h1, h2, h3, fun q hq => ?_⟩
    have k := h4 q hq
    refine ⟨.all (ps.set i q), by rw [toD, toDL_set]; rfl, ⟨by rw [stR]; exact k.st, by rw [okR, k.ok, k.ln, ho.1]; rfl, ?_, by rw [cnt, cnt, k.ct]⟩⟩
    have := k.dp
    rw [rdep, rdep]; omega
  | no p =>
    match i, h with
    | 0, h =>
      cases h
      rw [stR] at hs
      rw [okR] at ho
      refine ⟨p, rfl, hs, ho, by rw [rdep]; omega, fun q hq => ⟨.no q, by rw [toD]; rfl, ⟨by rw [stR]; exact hq.st, by rw [okR]; exact hq.ok, by have := hq.dp; rw [rdep, rdep]; omega, by rw [cnt, cnt, hq.ct]⟩⟩⟩
    | _ + 1, h => simp [Rx.tail] at h
  | again p lo hi =>
    match i, h with
    | 0, h =>
      cases h
      rw [stR] at hs
      rw [okR, Bool.and_eq_true, Bool.and_eq_true, Bool.and_eq_true] at ho
      refine ⟨p, rfl, hs, ho.1.1.1, by rw [rdep]; omega, fun q hq => ⟨.again q lo hi, by rw [toD]; rfl, ⟨by rw [stR]; exact hq.st, by rw [okR, hq.ok, ho.1.1.2, ho.1.2, ho.2]; rfl, by have := hq.dp; rw [rdep, rdep]; omega, by rw [cnt, cnt, hq.ct]⟩⟩⟩
    | 1, h => cases h; cases ht
    | 2, h =>
      have e : hiD hi = d := Option.some.inj h
      rw [← e, isT_hi] at ht; cases ht
    | _ + 3, h => simp [Rx.tail] at h
/-- a pattern without inner tuples counts one -/
theorem leaf {r : Rx} (h : ∀ (i : Nat) (d : D), r.tail[i]? = some d → isT d = false) : cnt r = 1 := by
  have list : ∀ ps : List Rx, (∀ (i : Nat) (d : D), (toDL ps)[i]? = some d → isT d = false) → ps = [] := fun ps k => by
    cases ps with
    | nil => rfl
    | cons p ps => have := k 0 (toD p) rfl; rw [isT_toD] at this; cases this
  cases r with
  | set s => rfl
  | row ps => rw [list ps h]; rfl
  | any ps => rw [list ps h]; rfl
  | all ps => rw [list ps h]; rfl
  | no p => have := h 0 (toD p) rfl; rw [isT_toD] at this; cases this
  | again p lo hi => have := h 0 (toD p) rfl; rw [isT_toD] at this; cases this
theorem isi_T {d : D} (h : D.top d = true) : isiD [d, .ty "tuple"] = some (.fz (.bl (isT d))) := by cases d <;> first | rfl | (simp [D.top] at h)
def tupAt (vs : List D) (i : Nat) : Bool := match vs[i]? with
  | some d => isT d
  | none => false
theorem cutD_to (xs : List D) (k : Nat) : cutD xs none (some (k : Int)) = xs.take k := by
  unfold cutD
  rw [HT.sIx_nat, show HT.sIx xs.length 0 none = 0 from rfl, List.drop_zero, Nat.sub_zero]
  rcases Nat.le_total k xs.length with h | h
  · rw [Nat.min_eq_left h]
  · rw [Nat.min_eq_right h, List.take_length, List.take_of_length_le h]
theorem cutD_from (xs : List D) (k : Nat) : cutD xs (some (k : Int)) none = xs.drop k := by
  unfold cutD
  rw [HT.sIx_nat, show HT.sIx xs.length xs.length none = xs.length from rfl]
  rcases Nat.le_total k xs.length with h | h
  · rw [Nat.min_eq_left h, List.take_of_length_le (by rw [List.length_drop]; omega)]
  · rw [Nat.min_eq_right h, List.drop_length, List.drop_of_length_le h]; simp
theorem cut_set {x y : D} {xs : List D} {i : Nat} (h : i < xs.length) : cutD (x :: xs) none (some (1 + (i : Int))) ++ [y] ++ cutD (x :: xs) (some (1 + (i : Int) + 1)) none = x :: xs.set i y := by
  rw [show (1 + (i : Int)) = ((i + 1 : Nat) : Int) by omega, cutD_to, show (((i + 1 : Nat) : Int) + 1) = ((i + 2 : Nat) : Int) by omega, cutD_from, List.take_succ_cons, List.drop_succ_cons, List.set_eq_take_append_cons_drop, if_pos h]
  simp
theorem cut_len (xs : List D) (lo hi : Option Int) : (cutD xs lo hi).length ≤ xs.length := by
  unfold cutD
  rw [List.length_take, List.length_drop]
  omega
theorem pick {l : List D} {j : Int} {G : Res → Prop} (p : D → Prop) (j0 : 0 ≤ j) (j1 : j < (l.length : Int)) (hl : ∀ x ∈ l, p x) (q : ∀ d, p d → G (.fz d)) : ∃ c, ixD (.lst l) (.int j) = some c ∧ G c := by
  obtain ⟨d, hd, hm⟩ := atI_ok j0 j1
  exact ⟨_, ix_lst hd, q d (hl d hm)⟩
theorem tail_top {r : Rx} {d : D} (h : d ∈ r.tail) : D.top d = true := by
  have list : ∀ ps : List Rx, d ∈ toDL ps → D.top d = true := fun ps k => by
    rw [toDL_map] at k
    obtain ⟨p, _, rfl⟩ := List.mem_map.mp k
    rw [toD_eq]; rfl
  have one : ∀ p, d = toD p → D.top d = true := fun p e => by rw [e, toD_eq]; rfl
  cases r with
  | set s => rw [List.mem_singleton.mp h]; rfl
  | row ps => exact list ps h
  | any ps => exact list ps h
  | all ps => exact list ps h
  | no p => exact one p (List.mem_singleton.mp h)
  | again p lo hi =>
    simp only [Rx.tail, List.mem_cons, List.mem_nil_iff, or_false] at h
    rcases h with h | h | h
    · exact one p h
    · rw [h]; rfl
    · rw [h]; cases hi <;> rfl
end Cut
namespace Cut
open PySem L2 DL ML
local macro_rules | `(tactic| walk_at "m") => `(tactic| repeat (first | with_reducible refine ⟨_, rfl, ?_⟩ | refine ⟨_, rfl, ?_⟩ | refine ⟨rfl, ?_⟩ | refine ⟨_, _, rfl, rfl, ?_⟩ | refine ⟨_, _, rfl, ?_⟩ | refine iteT ?_ | refine iteF ?_ | refine ⟨⟨_, rfl⟩, ?_⟩ | refine ⟨Nat.le_of_ble_eq_true rfl, ?_⟩ | refine ⟨(by decide), ?_⟩ | refine ⟨_, ix_t0 _ _, ?_⟩ | refine ⟨_, ix_l0 _ _, ?_⟩))
abbrev s_l_read_word : Stmt := top 35
abbrev N_l_read_word : List Str := ["_law_text", "_law_at", "_law_words", "_law_far", "_law_begun", "_law_word"]
theorem sc_l_read_word : FnScope N_l_read_word ["_law_text", "_law_at"] (defScope s_l_read_word) := ⟨rfl, rfl, rfl, by decide +kernel, rfl, by decide +kernel, by decide +kernel⟩
abbrev s_l_read_set : Stmt := top 36
abbrev N_l_read_set : List Str := ["_law_alphabet_here", "_law_text", "_law_at", "_law_far", "_law_last"]
theorem sc_l_read_set : FnScope N_l_read_set ["_law_alphabet_here", "_law_text", "_law_at"] (defScope s_l_read_set) := ⟨rfl, rfl, rfl, by decide +kernel, rfl, by decide +kernel, by decide +kernel⟩
abbrev s_l_read_again : Stmt := top 37
abbrev N_l_read_again : List Str := ["_law_alphabet_here", "_law_text", "_law_at", "_law_part", "_law_far", "_law_low", "_law_high", "_law_allowed"]
theorem sc_l_read_again : FnScope N_l_read_again ["_law_alphabet_here", "_law_text", "_law_at"] (defScope s_l_read_again) := ⟨rfl, rfl, rfl, by decide +kernel, rfl, by decide +kernel, by decide +kernel⟩
abbrev s_l_read_parts : Stmt := top 38
abbrev N_l_read_parts : List Str := ["_law_alphabet_here", "_law_text", "_law_at", "_law_word", "_law_parts", "_law_far", "_law_part"]
theorem sc_l_read_parts : FnScope N_l_read_parts ["_law_alphabet_here", "_law_text", "_law_at", "_law_word"] (defScope s_l_read_parts) := ⟨rfl, rfl, rfl, by decide +kernel, rfl, by decide +kernel, by decide +kernel⟩
abbrev s_l_read_expression : Stmt := top 39
abbrev N_l_read_expression : List Str := ["_law_alphabet_here", "_law_text", "_law_at", "_law_word", "_law_far"]
theorem sc_l_read_expression : FnScope N_l_read_expression ["_law_alphabet_here", "_law_text", "_law_at"] (defScope s_l_read_expression) := ⟨rfl, rfl, rfl, by decide +kernel, rfl, by decide +kernel, by decide +kernel⟩
abbrev s_l_read_pattern : Stmt := top 40
abbrev N_l_read_pattern : List Str := ["_law_alphabet_here", "_law_text", "_law_found", "_law_far"]
theorem sc_l_read_pattern : FnScope N_l_read_pattern ["_law_alphabet_here", "_law_text"] (defScope s_l_read_pattern) := ⟨rfl, rfl, rfl, by decide +kernel, rfl, by decide +kernel, by decide +kernel⟩
/-- what a reader of the law returns -/
def outp {α : Type} (v : α → D) (x : PR α) (h : Hd) (Q : Res → Hd → Prop) : Prop := x.post (fun a j => Q (.fz (.tup [v a, .int (j : Nat)])) h) (fun j => Q (.fz (.tup [.non, .int (j : Nat)])) h)
theorem take_more {l : List Nat} {i j c : Nat} (hij : i ≤ j) (h : l[j]? = some c) : (l.drop i).take (j + 1 - i) = (l.drop i).take (j - i) ++ [c] := by
  rw [show j + 1 - i = (j - i) + 1 by omega, List.take_succ, List.getElem?_drop, show i + (j - i) = j by omega, h]
  rfl
theorem ix_str {S : Str} {i c : Nat} (hS : S.length ≤ 1000) (h : S.cps.toList[i]? = some c) : ixD (.str S) (.int (i : Nat)) = some (.fz (.str ⟨#[c]⟩)) := by
  show (if S.length ≤ 100000 then (atI S.cps.toList (i : Nat)).map fun c => Res.fz (.str ⟨#[c]⟩) else none) = _
  obtain ⟨hi, e⟩ := List.getElem?_eq_some_iff.mp h
  rw [if_pos (by omega), atI_get (by omega) (by omega), Int.toNat_natCast, h]
  rfl
section
variable {P : Program} {w : World} {K : Fg} {mg : Str → Option Value} {base : Heap} {f f2 f3 : Addr} {fd fd2 fd3 : FuncData} {CP CN : Addr}
def g_rword : FM := fun ds h Q _ => ∃ S i, ds = [.str S, .int (i : Nat)] ∧ S.length ≤ 1000 ∧ outp (fun f => .str (ofL f)) (pK S.cps.toList 6 [] i) h Q
theorem ok_rword (A : At K mg "_law_read_word" ["_law_text", "_law_at"] s_l_read_word f fd) (m_len : mg "len" = none) : FnM P w K mg base "_law_read_word" 1 2 g_rword := by
  refine A.fnM (okM (k := 0) A.fn sc_l_read_word (by decide) (fun cdv A outer s H E hr tk po => (mss_cons (ms_set 2 sc_l_read_word.nd rfl (by first | exact Or.inl rfl | exact Or.inr rfl) (me_lst (ma_cons me_str (ma_cons me_str (ma_cons me_str (ma_cons me_str (ma_cons me_str ma_nil)))))))
      (mss_cons (ms_set 3 sc_l_read_word.nd rfl (by first | exact Or.inl rfl | exact Or.inr rfl) (me_v 1))
      (mss_cons (ms_while po (mt_lt (me_v 3) (me_len (by rfl) m_len (ma_cons (me_v 0) ma_nil))) (mss_cons (ms_set 4 sc_l_read_word.nd rfl (by first | exact Or.inl rfl | exact Or.inr rfl) (me_sl (me_v 0) (mo_some (me_v 1)) (mo_some (me_add (me_v 3) me_int))))
      (mss_cons (ms_if (mt_notin (me_v 4) (me_lc (own := [("_law_word", 5)]) rfl sc_l_read_word.nd (mi_seq (me_v 2)) (blkOk_by (N := N_l_read_word) (sc := defScope s_l_read_word) (own := [("_law_word", 5)]) (by decide +kernel)) (fun _ _ _ _ _ => (mg_n 5 sc_l_read_word.nd rfl (by first | exact Or.inl rfl | exact Or.inr rfl))) (fun _ _ _ _ _ => mts_nil) (fun _ _ _ _ _ => (me_sl (me_v 5) mo_none (mo_some (me_len (by rfl) m_len (ma_cons (me_v 4) ma_nil))))))) (mss_one (ms_ret (me_tup (ma_cons me_non (ma_cons (me_v 3) ma_nil))))) mss_nil)
      (mss_cons (ms_set 3 sc_l_read_word.nd rfl (by first | exact Or.inl rfl | exact Or.inr rfl) (me_add (me_v 3) me_int))
      (mss_one (ms_if (mt_in (me_v 4) (me_v 2)) (mss_one (ms_ret (me_tup (ma_cons (me_v 4) (ma_cons (me_v 3) ma_nil))))) mss_nil))))))
      (mss_one (ms_ret (me_tup (ma_cons me_non (ma_cons (me_v 3) ma_nil))))))))) ?_)
  rintro ds h Q E hl ⟨S, i, rfl, hS, q⟩
  have hSl := len_l S
  walk_at "m"
  refine ⟨fun m ρ h' => ∃ g j x y, ρ = [some (.str S), some (.int (i : Nat)), some (.lst kwD), some (.int (j : Nat)), x, y] ∧ h' = h ∧ i ≤ j ∧ g = (S.cps.toList.drop i).take (j - i) ∧ g.length + m = 6 ∧ isPre g = true ∧ KW.contains g = false ∧ outp (fun f => .str (ofL f)) (pK S.cps.toList m g j) h Q, ⟨6, [], i, none, none, rfl, rfl, Nat.le_refl _, by rw [Nat.sub_self]; rfl, rfl, rfl, rfl, q⟩, ?_⟩
  rintro m ρ h' ⟨g, j, x, y, rfl, rfl, hij, hg, hm, hpre, hkw, q⟩
  have hg5 := isPre_len hpre
  obtain ⟨m, rfl⟩ : ∃ m', m = m' + 1 := ⟨m - 1, by omega⟩
  walk_at "m"
  refine ⟨_, len_str (by omega), ?_⟩
  walk_at "m"
  unfold outp pK at q
  rw [if_neg (by rw [hkw]; decide)] at q
  cases hs : S.cps.toList[j]? with
  | none =>
    rw [hs] at q
    have := List.getElem?_eq_none_iff.mp hs
    refine ifF (decide_eq_false (by omega)) ?_
    walk_at "m"
    exact q
  | some c =>
    rw [hs] at q
    dsimp only at q
    obtain ⟨hj, _⟩ := List.getElem?_eq_some_iff.mp hs
    refine ifT (decide_eq_true (by omega)) ?_
    walk_at "m"
    refine ⟨_, sl_str' (by omega), ?_⟩
    rw [show ((j : Int) + 1) = ((j + 1 : Nat) : Int) by omega, cut_nat, take_more hij hs, ← hg]
    walk_at "m"
    refine lcM_mapD (f := preD (g ++ [c]).length) kwD (fun d hd R r => ?_) (by decide) ?_
    · obtain ⟨a, rfl, ha⟩ : ∃ a, d = .str a ∧ a.length ≤ 100 := by
        simp only [kwD, List.mem_cons, List.mem_nil_iff, or_false] at hd
        rcases hd with rfl | rfl | rfl | rfl | rfl <;> exact ⟨_, rfl, by decide +kernel⟩
      walk_at "m"
      refine ⟨_, len_str (by rw [len_ofL]; simp; omega), ?_⟩
      walk_at "m"
      refine ⟨_, sl_str' (by omega), ?_⟩
      rw [len_ofL]
      exact r
    refine ⟨_, pre_in (g ++ [c]), ?_⟩
    walk_at "m"
    by_cases hq : isPre (g ++ [c]) = true
    · rw [if_pos hq] at q
      refine ifF (by rw [hq]; rfl) ?_
      have hq5 := isPre_len hq
      rw [List.length_append, List.length_singleton] at hq5
      obtain ⟨m, rfl⟩ : ∃ m', m = m' + 1 := ⟨m - 1, by omega⟩
      walk_at "m"
      by_cases hk : KW.contains (g ++ [c]) = true
      · unfold pK at q
        rw [if_pos hk] at q
        refine ifT (by show (kwD.any fun b => eqB b (.str (ofL (g ++ [c])))) = true; rw [kw_in]; exact hk) ?_
        walk_at "m"
        exact q
      · refine ifF (by show (kwD.any fun b => eqB b (.str (ofL (g ++ [c])))) = false; rw [kw_in]; simpa using hk) ?_
        exact ⟨m + 1, by omega, g ++ [c], j + 1, _, _, rfl, rfl, by omega, by rw [take_more hij hs, ← hg], by rw [List.length_append, List.length_singleton]; omega, hq, by simpa using hk, q⟩
    · rw [if_neg hq] at q
      refine ifT (by simp [hq]) ?_
      walk_at "m"
      exact q
theorem idx_drop {A : List Nat} (nd : A.Nodup) {L c : Nat} (h : c ∈ A.drop L) : A.idxOf c = L + (A.drop L).idxOf c := by
  have hl : (A.drop L).idxOf c < (A.drop L).length := List.idxOf_lt_length_iff.mpr h
  have e : (A.drop L)[(A.drop L).idxOf c]? = some c := by
    rw [List.getElem?_eq_getElem hl, List.getElem_idxOf]
  rw [List.getElem?_drop] at e
  refine idx_first A c _ e fun k hk z => ?_
  obtain ⟨h1, e1⟩ := List.getElem?_eq_some_iff.mp e
  obtain ⟨h2, e2⟩ := List.getElem?_eq_some_iff.mp z
  exact List.pairwise_iff_getElem.mp nd k _ h2 h1 hk (e2.trans e1.symm)
def pSt (s A : List Nat) (i : Nat) : PR Rx := (pC s (A.length + 1) A [] i).bnd fun f k => (pX s [93] k).bnd fun _ l => .ok (.set (ofL f)) l
def g_rset : FM := fun ds h Q _ => ∃ A S i, ds = [.str A, .str S, .int (i : Nat)] ∧ Alp A ∧ S.length ≤ 1000 ∧ outp toD (pSt S.cps.toList A.cps.toList i) h Q
theorem ok_rset (A : At K mg "_law_read_set" ["_law_alphabet_here", "_law_text", "_law_at"] s_l_read_set f fd) (m_len : mg "len" = none) : FnM P w K mg base "_law_read_set" 1 3 g_rset := by
  refine A.fnM (okM (k := 0) A.fn sc_l_read_set (by decide) (fun cdv A outer s H E hr tk po => (mss_cons (ms_par (i := 3) (j := 4) rfl sc_l_read_set.nd rfl rfl (by decide) rfl rfl (ma_cons (me_v 2) (ma_cons (me_neg me_int) ma_nil)) (by rfl))
      (mss_cons (ms_while po (MW.mt (mw_and (mt_lt (me_v 3) (me_len (by rfl) m_len (ma_cons (me_v 1) ma_nil))) (mw_and1 (mt_in (me_ix (me_v 1) (me_v 3) (fun _ _ => rfl)) (me_sl (me_v 0) (mo_some (me_add (me_v 4) me_int)) mo_none))))) (mss_cons (ms_set 4 sc_l_read_set.nd rfl (by first | exact Or.inl rfl | exact Or.inr rfl) (me_sindex (me_v 0) (ma_cons (me_ix (me_v 1) (me_v 3) (fun _ _ => rfl)) ma_nil)))
      (mss_one (ms_set 3 sc_l_read_set.nd rfl (by first | exact Or.inl rfl | exact Or.inr rfl) (me_add (me_v 3) me_int)))))
      (mss_cons (ms_if (MW.mt (mw_and (mt_lt (me_v 3) (me_len (by rfl) m_len (ma_cons (me_v 1) ma_nil))) (mw_and1 (mt_eq hr (me_ix (me_v 1) (me_v 3) (fun _ _ => rfl)) me_str)))) (mss_one (ms_ret (me_tup (ma_cons (me_tup (ma_cons me_str (ma_cons (me_sl (me_v 1) (mo_some (me_v 2)) (mo_some (me_v 3))) ma_nil))) (ma_cons (me_add (me_v 3) me_int) ma_nil))))) mss_nil)
      (mss_one (ms_ret (me_tup (ma_cons me_non (ma_cons (me_v 3) ma_nil))))))))) ?_)
  rintro ds h Q E hl ⟨A, S, i, rfl, hA, hS, q⟩
  have hSl := len_l S
  have hAl := len_l A
  have hA6 := hA.hi
  have h9 : 93 ∉ A.cps.toList := fun z => by
    have := hA.ch 93 z
    rw [CH_eq] at this
    revert this
    decide
  walk_at "m"
  refine ⟨fun m ρ h' => ∃ g j L, ρ = [some (.str A), some (.str S), some (.int (i : Nat)), some (.int (j : Nat)), some (.int ((L : Nat) - 1))] ∧ h' = h ∧ i ≤ j ∧ g = (S.cps.toList.drop i).take (j - i) ∧ (A.cps.toList.drop L).length < m ∧ outp toD ((pC S.cps.toList m (A.cps.toList.drop L) g j).bnd fun f k => (pX S.cps.toList [93] k).bnd fun _ l => .ok (.set (ofL f)) l) h Q, ⟨A.cps.toList.length + 1, [], i, 0, rfl, rfl, Nat.le_refl _, by rw [Nat.sub_self]; rfl, by rw [List.drop_zero]; omega, q⟩, ?_⟩
  rintro m ρ h' ⟨g, j, L, rfl, rfl, hij, hg, hm, q⟩
  obtain ⟨m, rfl⟩ : ∃ m', m = m' + 1 := ⟨m - 1, by omega⟩
  walk_at "m"
  refine ⟨_, len_str (by omega), ?_⟩
  walk_at "m"
  unfold outp pC at q
  cases hs : S.cps.toList[j]? with
  | none =>
    rw [hs] at q
    have := List.getElem?_eq_none_iff.mp hs
    refine ifF (decide_eq_false (by omega)) ?_
    refine ifF rfl ?_
    walk_at "m"
    refine ⟨_, len_str (by omega), ?_⟩
    walk_at "m"
    refine ifF (decide_eq_false (by omega)) ?_
    refine ifF rfl ?_
    walk_at "m"
    exact q
  | some c =>
    rw [hs] at q
    dsimp only at q
    obtain ⟨hj, _⟩ := List.getElem?_eq_some_iff.mp hs
    refine ifT (decide_eq_true (by omega)) ?_
    walk_at "m"
    refine ⟨_, ix_str hS hs, ?_⟩
    walk_at "m"
    refine ⟨_, sl_str' (by omega), ?_⟩
    rw [show ((L : Int) - 1 + 1) = ((L : Nat) : Int) by omega, cut_from]
    walk_at "m"
    by_cases hc : c ∈ A.cps.toList.drop L
    · have hcA : c ∈ A.cps.toList := List.mem_of_mem_drop hc
      have hn : c ≠ 93 := fun z => h9 (z ▸ hcA)
      rw [if_neg hn, if_pos hc] at q
      refine ifT (by show decide (c ∈ (ofL (A.cps.toList.drop L)).cps.toList) = true; rw [ofL_l]; exact decide_eq_true hc) ?_
      walk_at "m"
      refine ⟨_, ix_str hS hs, ?_⟩
      walk_at "m"
      refine ⟨_, s1_index hcA, ?_⟩
      walk_at "m"
      have hi := idx_drop hA.nd hc
      have hil : (A.cps.toList.drop L).idxOf c < (A.cps.toList.drop L).length := List.idxOf_lt_length_iff.mpr hc
      rw [List.drop_drop, show L + ((A.cps.toList.drop L).idxOf c + 1) = A.cps.toList.idxOf c + 1 by omega] at q
      refine ⟨m, by omega, g ++ [c], j + 1, A.cps.toList.idxOf c + 1, ?_, rfl, by omega, by rw [take_more hij hs, ← hg], ?_, q⟩
      · rw [show (((A.cps.toList.idxOf c + 1 : Nat) : Int) - 1) = ((A.cps.toList.idxOf c : Nat) : Int) by omega]
        rfl
      · rw [List.length_drop] at hil hm ⊢
        omega
    · rw [if_neg hc] at q
      refine ifF (by show decide (c ∈ (ofL (A.cps.toList.drop L)).cps.toList) = false; rw [ofL_l]; exact decide_eq_false hc) ?_
      walk_at "m"
      refine ⟨_, len_str (by omega), ?_⟩
      walk_at "m"
      refine ifT (decide_eq_true (by omega)) ?_
      walk_at "m"
      refine ⟨_, ix_str hS hs, ?_⟩
      walk_at "m"
      by_cases hn : c = 93
      · subst hn
        rw [if_pos rfl] at q
        have q2 : ((pX S.cps.toList [93] j).bnd fun _ l => PR.ok (Rx.set (ofL g)) l).post (fun a j => Q (.fz (.tup [toD a, .int (j : Nat)])) h') (fun j => Q (.fz (.tup [.non, .int (j : Nat)])) h') := q
        rw [show pX S.cps.toList [93] j = .ok () (j + 1) by rw [pX, if_pos hs, pX]] at q2
        refine ifT (by show eqS (⟨#[93]⟩ : Str) "]" = true; decide +kernel) ?_
        walk_at "m"
        refine ⟨_, sl_str' (by omega), ?_⟩
        rw [cut_nat, ← hg]
        walk_at "m"
        exact q2
      · rw [if_neg hn] at q
        refine ifF (by show eqS (⟨#[c]⟩ : Str) "]" = false; rw [eqS_eq]; exact decide_eq_false fun z => hn (one_inj (z.trans (by decide +kernel : ("]" : Str) = ⟨#[93]⟩)))) ?_
        walk_at "m"
        exact q
theorem bnd_assoc {α β γ : Type} (x : PR α) (f : α → Nat → PR β) (g : β → Nat → PR γ) : (x.bnd f).bnd g = x.bnd fun a j => (f a j).bnd g := by cases x <;> rfl
/-- again, behind its word -/
def pAg (s A : List Nat) (n i2 : Nat) : PR Rx := (pX s [32] i2).bnd fun _ i3 => (pE s A n i3).bnd fun p i4 => (pX s [32] i4).bnd fun _ i5 => (pD s 0 i5).bnd fun lo i6 => (pX s [32] i6).bnd fun _ i7 =>
        if s[i7]? = some 42 then (pX s [42] i7).bnd fun _ i8 => (pX s [41] i8).bnd fun _ k => .ok (.again p (lo : Nat) none) k else (pD s lo i7).bnd fun hi i8 => (pX s [41] i8).bnd fun _ k => .ok (.again p (lo : Nat) (some (hi : Nat))) k
/-- the others, behind their word -/
def pPs (s A : List Nat) (n i2 : Nat) (w : List Nat) : PR Rx := if w = wNot then (pX s [32] i2).bnd fun _ i3 => (pE s A n i3).bnd fun p i4 => (pX s [41] i4).bnd fun _ k => .ok (.no p) k else (pP s A n i2).bnd fun ps i3 => (pX s [41] i3).bnd fun _ k => .ok (mkW w ps) k
theorem pE_succ (s A : List Nat) (n i : Nat) : pE s A (n + 1) i = if s[i]? = some 91 then pS s A i else (pX s [40] i).bnd fun _ i1 => (pK s 6 [] i1).bnd fun w i2 => if w = wAgain then pAg s A n i2 else pPs s A n i2 w := by
  rw [pE]
  refine congrArg (fun z => if s[i]? = some 91 then pS s A i else z) ?_
  refine bnd_congr fun _ i1 _ => bnd_congr fun w i2 _ => ?_
  by_cases h1 : w = wAgain
  · rw [if_pos h1, if_pos h1, bnd_assoc]
    refine bnd_congr fun _ i3 _ => ?_
    rw [bnd_assoc]
    refine bnd_congr fun p i4 _ => ?_
    rw [bnd_assoc]
    refine bnd_congr fun _ i5 _ => ?_
    rw [bnd_assoc]
    refine bnd_congr fun lo i6 _ => ?_
    rw [bnd_assoc]
    refine bnd_congr fun _ i7 _ => ?_
    by_cases h2 : s[i7]? = some 42
    · rw [if_pos h2, if_pos h2, bnd_assoc]; rfl
    · rw [if_neg h2, if_neg h2, bnd_assoc]; rfl
  · rw [if_neg h1, if_neg h1]
    unfold pPs
    by_cases h2 : w = wNot
    · rw [if_pos h2, if_pos h2, bnd_assoc]
      refine bnd_congr fun _ i3 _ => ?_
      rw [bnd_assoc]; rfl
    · rw [if_neg h2, if_neg h2, bnd_assoc]; rfl
def g_rexpr (m : Nat) : FM := fun ds h Q _ => ∃ A S i n, ds = [.str A, .str S, .int (i : Nat)] ∧ Alp A ∧ S.length ≤ 1000 ∧ i ≤ S.length ∧ S.length < i + n ∧ S.length < i + 5 * m ∧ outp toD (pE S.cps.toList A.cps.toList n i) h Q
def g_ragain (m : Nat) : FM := fun ds h Q _ => ∃ A S i n, ds = [.str A, .str S, .int (i : Nat)] ∧ Alp A ∧ S.length ≤ 1000 ∧ i ≤ S.length ∧ S.length < i + 1 + n ∧ S.length < i + 1 + 5 * m ∧ outp toD (pAg S.cps.toList A.cps.toList n i) h Q
def g_rparts (m : Nat) : FM := fun ds h Q _ => ∃ A S i n wl, ds = [.str A, .str S, .int (i : Nat), .str (ofL wl)] ∧ wl ∈ KW ∧ wl ≠ wAgain ∧ Alp A ∧ S.length ≤ 1000 ∧ i ≤ S.length ∧ S.length < i + n ∧ S.length < i + 1 + 5 * m ∧ outp toD (pPs S.cps.toList A.cps.toList n i wl) h Q
theorem outp_bnd {α β : Type} {v : β → D} {v' : α → D} {x : PR α} {f : α → Nat → PR β} {h : Hd} {Q Q' : Res → Hd → Prop} (q : outp v (x.bnd f) h Q) (k : ∀ a j, x = .ok a j → outp v (f a j) h Q → Q' (.fz (.tup [v' a, .int (j : Nat)])) h) (ke : ∀ j, x = .er j → Q (.fz (.tup [.non, .int (j : Nat)])) h → Q' (.fz (.tup [.non, .int (j : Nat)])) h) : outp v' x h Q' := by
  unfold outp at q ⊢
  rw [post_bnd] at q
  exact q.imp (fun a j e z => k a j e z) fun j e z => ke j e z
theorem sp1 : (" " : Str) = ⟨#[32]⟩ := by decide +kernel
theorem rp1 : (")" : Str) = ⟨#[41]⟩ := by decide +kernel
theorem st1 : ("*" : Str) = ⟨#[42]⟩ := by decide +kernel
theorem isd_r (p : Rx) : isD (toD p) .non = some (.fz (.bl false)) := by rw [toD_eq]; rfl
theorem int_dig {c : Nat} (h : 48 ≤ c) (h2 : c ≤ 52) : intTxtD [.str ⟨#[c]⟩] = some (.fz (.int ((c - 48 : Nat) : Int))) := by
  have : c = 48 ∨ c = 49 ∨ c = 50 ∨ c = 51 ∨ c = 52 := by omega
  have k : ∀ (a : Str) (n : Int), a.length ≤ 640 → PySem.intText? a = some n → intTxtD [.str a] = some (.fz (.int n)) := fun a n h1 h2 => by
    show (if decide (a.length ≤ 640) = true then (PySem.intText? a).map fun n => Res.fz (.int n) else none) = _
    rw [if_pos (decide_eq_true h1), h2]
    rfl
  rcases this with rfl | rfl | rfl | rfl | rfl <;> exact k _ _ (by decide +kernel) (by decide +kernel)
theorem low_eq : ("01234" : Str).cps.toList = [48, 49, 50, 51, 52] := by decide +kernel
theorem low_in (c : Nat) : (!decide (c ∈ ("01234" : Str).cps.toList)) = decide (¬ (48 + 0 ≤ c ∧ c ≤ 52)) := by
  rw [low_eq, decide_not]
  congr 1
  refine decide_eq_decide.mpr ?_
  simp
  omega
theorem one_in (c d : Nat) : (!decide (c ∈ (⟨#[d]⟩ : Str).cps.toList)) = decide (¬ c = d) := by
  rw [decide_not]
  congr 1
  exact decide_eq_decide.mpr (by simp)
theorem high_in {lo : Nat} (h : lo ≤ 4) (c : Nat) : c ∈ (ofL (42 :: [48, 49, 50, 51, 52].drop lo)).cps.toList ↔ c = 42 ∨ (48 + lo ≤ c ∧ c ≤ 52) := by
  rw [ofL_l]
  have : lo = 0 ∨ lo = 1 ∨ lo = 2 ∨ lo = 3 ∨ lo = 4 := by omega
  rcases this with rfl | rfl | rfl | rfl | rfl <;> simp <;> omega
/-- one turn of the loop over what may come -/
def tAg2 : TMS := mSeq (mIf (mOrT (mT (mBin geD (mV 4) (mCallG lenD (mACons (mV 1) mANil)))) (mT (mBin notinD (mBin ixD (mV 1) (mV 4)) (mV 7)))) (mRet (mTup (mACons (mK D.non) (mACons (mV 4) mANil)))) mNext)
  (mSeq (mIf (mT (mBin eqD (mV 7) (mK (D.str "01234")))) (mSet 5 (mBin ixD (mV 1) (mV 4))) mNext)
  (mSeq (mIf (mT (mBin eqD (mBin ixD (mV 7) (mK (D.int 0))) (mK (D.str "*")))) (mSet 6 (mBin ixD (mV 1) (mV 4))) mNext) (mSet 4 (mBin addD (mV 4) (mK (D.int 1))))))
def tAg : TMS := mSeq (mIf (mT (mBin eqD (mV 7) (mK (D.str "*")))) (mSet 7 (mBin addD (mK (D.str "*")) (mSl (mK (D.str "01234")) (mOSome (mCallG intTxtD (mACons (mV 5) mANil))) mONone))) mNext) tAg2
theorem ag2 {ω : Wω} {PD : MEnds} {A S al : Str} {i j c0 : Nat} {p lo hi : D} {h : Hd} (b5 b6 : Bool) (hS : S.length ≤ 1000) (h5 : eqS al "01234" = b5) (h0 : al.cps.toList[0]? = some c0) (ha : al.length ≤ 1000) (h6 : eqS ⟨#[c0]⟩ "*" = b6)
    (hn : S.cps.toList[j]? = none → PD.rt (.fz (.tup [.non, .int (j : Nat)])) h) (hs : ∀ c, S.cps.toList[j]? = some c → c ∉ al.cps.toList → PD.rt (.fz (.tup [.non, .int (j : Nat)])) h)
    (ok : ∀ c, S.cps.toList[j]? = some c → c ∈ al.cps.toList → PD.nx [some (.str A), some (.str S), some (.int (i : Nat)), some p, some (.int ((j + 1 : Nat) : Int)), some (if b5 = true then .str ⟨#[c]⟩ else lo), some (if b6 = true then .str ⟨#[c]⟩ else hi), some (.str al)] h) :
    tAg2 ω PD [some (.str A), some (.str S), some (.int (i : Nat)), some p, some (.int (j : Nat)), some lo, some hi, some (.str al)] h := by
  have hSl := len_l S
  refine ⟨_, rfl, _, rfl, _, len_str (by omega), _, rfl, _, rfl, ?_⟩
  cases hc : S.cps.toList[j]? with
  | none =>
    have := List.getElem?_eq_none_iff.mp hc
    refine ifT (decide_eq_true (by omega)) ?_
    refine ifT rfl ?_
    exact ⟨_, rfl, Nat.le_of_ble_eq_true rfl, hn hc⟩
  | some c =>
    obtain ⟨hj, _⟩ := List.getElem?_eq_some_iff.mp hc
    refine ifF (decide_eq_false (by omega)) ?_
    refine ⟨_, rfl, _, rfl, _, ix_str hS hc, _, rfl, _, rfl, _, rfl, ?_⟩
    by_cases hm : c ∈ al.cps.toList
    · refine ifF (by show (!decide (c ∈ al.cps.toList)) = false; rw [decide_eq_true hm]; rfl) ?_
      have o := ok c hc hm
      have fin : ∀ lo' hi', lo' = (if b5 = true then D.str ⟨#[c]⟩ else lo) → hi' = (if b6 = true then D.str ⟨#[c]⟩ else hi) → PD.nx [some (.str A), some (.str S), some (.int (i : Nat)), some p, some (.int ((j : Nat) + 1)), some lo', some hi', some (.str al)] h := fun lo' hi' e1 e2 => by
        rw [e1, e2]; exact o
      have last : ∀ lo', lo' = (if b5 = true then D.str ⟨#[c]⟩ else lo) → mSeq (mIf (mT (mBin eqD (mBin ixD (mV 7) (mK (D.int 0))) (mK (D.str "*")))) (mSet 6 (mBin ixD (mV 1) (mV 4))) mNext) (mSet 4 (mBin addD (mV 4) (mK (D.int 1)))) ω PD [some (.str A), some (.str S), some (.int (i : Nat)), some p, some (.int (j : Nat)), some lo', some hi, some (.str al)] h := fun lo' e1 => by
        refine ⟨_, rfl, _, ix_str (i := 0) ha h0, _, rfl, _, rfl, ?_⟩
        cases b6 with
        | true =>
          refine ifT h6 ?_
          exact ⟨_, rfl, _, rfl, _, ix_str hS hc, _, rfl, _, rfl, fin _ _ e1 rfl⟩
        | false =>
          refine ifF h6 ?_
          exact ⟨_, rfl, _, rfl, fin _ _ e1 rfl⟩
      refine ⟨_, rfl, _, rfl, _, rfl, ?_⟩
      cases b5 with
      | true =>
        refine ifT h5 ?_
        exact ⟨_, rfl, _, rfl, _, ix_str hS hc, last _ rfl⟩
      | false =>
        refine ifF h5 ?_
        exact last _ rfl
    · refine ifT (by show (!decide (c ∈ al.cps.toList)) = true; rw [decide_eq_false hm]; rfl) ?_
      exact ⟨_, rfl, Nat.le_of_ble_eq_true rfl, hs c hc hm⟩
theorem ag1 {ω : Wω} {PD : MEnds} {A S al : Str} {i j : Nat} {p lo hi : D} {h : Hd} (hn : eqS al "*" = false) (q : tAg2 ω PD [some (.str A), some (.str S), some (.int (i : Nat)), some p, some (.int (j : Nat)), some lo, some hi, some (.str al)] h) :
    tAg ω PD [some (.str A), some (.str S), some (.int (i : Nat)), some p, some (.int (j : Nat)), some lo, some hi, some (.str al)] h := ⟨_, rfl, _, rfl, _, rfl, ifF hn q⟩
theorem ag1s {ω : Wω} {PD : MEnds} {A S : Str} {i j c : Nat} {p hi : D} {h : Hd} (h1 : 48 ≤ c) (h2 : c ≤ 52) (q : tAg2 ω PD [some (.str A), some (.str S), some (.int (i : Nat)), some p, some (.int (j : Nat)), some (.str ⟨#[c]⟩), some hi, some (.str (ofL (42 :: [48, 49, 50, 51, 52].drop (c - 48))))] h) :
    tAg ω PD [some (.str A), some (.str S), some (.int (i : Nat)), some p, some (.int (j : Nat)), some (.str ⟨#[c]⟩), some hi, some (.str "*")] h := by
  refine ⟨_, rfl, _, rfl, _, rfl, ifT (by decide +kernel) ?_⟩
  refine ⟨_, rfl, _, int_dig h1 h2, _, rfl, _, sl_str' (by decide +kernel), ?_⟩
  rw [cut_from, low_eq]
  exact ⟨_, add3 (x := [42]) (y := [48, 49, 50, 51, 52].drop (c - 48)) st1 rfl (by rw [List.length_drop]; show 1 + (5 - _) ≤ _; omega), q⟩
end
end Cut
namespace Cut
open PySem L2 DL ML
local macro_rules | `(tactic| walk_at "m") => `(tactic| repeat (first | with_reducible refine ⟨_, rfl, ?_⟩ | refine ⟨_, rfl, ?_⟩ | refine ⟨rfl, ?_⟩ | refine ⟨_, _, rfl, rfl, ?_⟩ | refine ⟨_, _, rfl, ?_⟩ | refine iteT ?_ | refine iteF ?_ | refine ⟨⟨_, rfl⟩, ?_⟩ | refine ⟨Nat.le_of_ble_eq_true rfl, ?_⟩ | refine ⟨(by decide), ?_⟩ | refine ⟨_, ix_t0 _ _, ?_⟩ | refine ⟨_, ix_l0 _ _, ?_⟩))
section
variable {P : Program} {w : World} {K : Fg} {mg : Str → Option Value} {base : Heap} {f f2 f3 : Addr} {fd fd2 fd3 : FuncData} {CP CN : Addr}
theorem ok_ragain (m : Nat) (A : At K mg "_law_read_again" ["_law_alphabet_here", "_law_text", "_law_at"] s_l_read_again f fd) (m_len : mg "len" = none) (m_int : mg "int" = none) (c_l_read_expression : FnM P w K mg base "_law_read_expression" (2 * m + 3) 3 (g_rexpr m)) : FnM P w K mg base "_law_read_again" (2 * m + 4) 3 (g_ragain m) := by
  refine A.fnM (okM (k := 2 * m + 3) A.fn sc_l_read_again (by decide) (fun cdv A outer s H E hr tk po => (mss_cons (ms_if (mt_ne hr (me_sl (me_v 1) (mo_some (me_v 2)) (mo_some (me_add (me_v 2) me_int))) me_str) (mss_one (ms_ret (me_tup (ma_cons me_non (ma_cons (me_v 2) ma_nil))))) mss_nil)
      (mss_cons (ms_asg (me_cM c_l_read_expression tk (hr.mono (by omega)) (by rfl) (ma_cons (me_v 0) (ma_cons (me_v 1) (ma_cons (me_add (me_v 2) me_int) ma_nil)))) (mg_tup (n := 2) rfl (mgs_cons (mg_n 3 sc_l_read_again.nd rfl (by first | exact Or.inl rfl | exact Or.inr rfl)) (mgs_cons (mg_n 4 sc_l_read_again.nd rfl (by first | exact Or.inl rfl | exact Or.inr rfl)) mgs_nil))))
      (mss_cons (ms_if (mt_is (me_v 3) me_non) (mss_one (ms_ret (me_tup (ma_cons me_non (ma_cons (me_v 4) ma_nil))))) mss_nil)
      (mss_cons (ms_asg (me_tup (ma_cons me_str (ma_cons me_str ma_nil))) (mg_tup (n := 2) rfl (mgs_cons (mg_n 5 sc_l_read_again.nd rfl (by first | exact Or.inl rfl | exact Or.inr rfl)) (mgs_cons (mg_n 6 sc_l_read_again.nd rfl (by first | exact Or.inl rfl | exact Or.inr rfl)) mgs_nil))))
      (mss_cons (ms_for po rfl (mi_seq (me_tup (ma_cons me_str (ma_cons me_str (ma_cons me_str (ma_cons me_str (ma_cons me_str ma_nil))))))) (mg_n 7 sc_l_read_again.nd rfl (by first | exact Or.inl rfl | exact Or.inr rfl)) (mss_cons (ms_if (mt_eq hr (me_v 7) me_str) (mss_one (ms_set 7 sc_l_read_again.nd rfl (by first | exact Or.inl rfl | exact Or.inr rfl) (me_add me_str (me_sl me_str (mo_some (me_intT (by rfl) m_int (ma_cons (me_v 5) ma_nil))) mo_none)))) mss_nil)
      (mss_cons (ms_if (MW.mt (mw_or (mt_ge (me_v 4) (me_len (by rfl) m_len (ma_cons (me_v 1) ma_nil))) (mw_or1 (mt_notin (me_ix (me_v 1) (me_v 4) (fun _ _ => rfl)) (me_v 7))))) (mss_one (ms_ret (me_tup (ma_cons me_non (ma_cons (me_v 4) ma_nil))))) mss_nil)
      (mss_cons (ms_if (mt_eq hr (me_v 7) me_str) (mss_one (ms_set 5 sc_l_read_again.nd rfl (by first | exact Or.inl rfl | exact Or.inr rfl) (me_ix (me_v 1) (me_v 4) (fun _ _ => rfl)))) mss_nil)
      (mss_cons (ms_if (mt_eq hr (me_ix (me_v 7) me_int (fun _ _ => rfl)) me_str) (mss_one (ms_set 6 sc_l_read_again.nd rfl (by first | exact Or.inl rfl | exact Or.inr rfl) (me_ix (me_v 1) (me_v 4) (fun _ _ => rfl)))) mss_nil)
      (mss_one (ms_set 4 sc_l_read_again.nd rfl (by first | exact Or.inl rfl | exact Or.inr rfl) (me_add (me_v 4) me_int))))))))
      (mss_one (ms_ret (me_tup (ma_cons (me_tup (ma_cons me_str (ma_cons (me_v 3) (ma_cons (me_intT (by rfl) m_int (ma_cons (me_v 5) ma_nil)) (ma_cons (me_if (mt_eq hr (me_v 6) me_str) me_non (me_intT (by rfl) m_int (ma_cons (me_v 6) ma_nil))) ma_nil))))) (ma_cons (me_v 4) ma_nil))))))))))) ?_)
  rintro ds h Q E hl ⟨A, S, i, n, rfl, hA, hS, hi, hn, hm, q⟩
  have hSl := len_l S
  unfold pAg at q
  walk_at "m"
  refine ⟨_, sl_chr (by omega), ?_⟩
  walk_at "m"
  refine ifd (show (!eqS (chS S i) " ") = _ from by rw [sp1]; exact neC S i 32) (fun hc => ?_) (fun hc => ?_)
  · walk_at "m"
    rw [show pX S.cps.toList [32] i = .er i by rw [pX, if_neg hc]] at q
    exact q
  have hc := Decidable.not_not.mp hc
  obtain ⟨hi', _⟩ := List.getElem?_eq_some_iff.mp hc
  rw [show pX S.cps.toList [32] i = .ok () (i + 1) by rw [pX, if_pos hc, pX]] at q
  walk_at "m"
  refine ⟨A, S, i + 1, n, rfl, hA, hS, by omega, by omega, by omega, ?_⟩
  refine outp_bnd q (fun p j e q => ?_) (fun j e z => ?_)
  rotate_left
  · walk_at "m"
    exact z
  obtain ⟨j1, j2⟩ := pE_len (by omega) e
  walk_at "m"
  refine ⟨_, isd_r p, ?_⟩
  walk_at "m"
  refine loop_step ?_
  have e0 : (" " : Str).cps.toList = [32] := by decide +kernel
  have e9 : (")" : Str).cps.toList = [41] := by decide +kernel
  have x1 : ∀ {k c : Nat}, S.cps.toList[k]? = some c → (pX S.cps.toList [c] k) = .ok () (k + 1) := fun {k c} z => by rw [pX, if_pos z, pX]
  have x2 : ∀ {k c d : Nat}, S.cps.toList[k]? = some c → ¬ c = d → (pX S.cps.toList [d] k) = .er k := fun {k c d} z hn => by rw [pX, z, if_neg fun w => hn (Option.some.inj w)]
  show tAg _ _ [some (.str A), some (.str S), some (.int (i : Nat)), some (toD p), some (.int (j : Nat)), some (.str ""), some (.str ""), some (.str " ")] h
  refine ag1 (by decide +kernel) (ag2 false false hS (by decide +kernel) (c0 := 32) (by rw [e0]; rfl) (by decide +kernel) (by decide +kernel) (fun hs => ?_) (fun c hs hc => ?_) fun c hs hc => ?_)
  · rw [pX_none hs] at q
    exact q
  · rw [x2 hs (by rw [e0] at hc; simpa using hc)] at q
    exact q
  obtain rfl : c = 32 := by rw [e0] at hc; simpa using hc
  rw [x1 hs] at q
  obtain ⟨hj, _⟩ := List.getElem?_eq_some_iff.mp hs
  clear hs hc
  have q : outp toD ((pD S.cps.toList 0 (j + 1)).bnd _) h Q := q
  refine loop_step ?_
  show tAg _ _ [some (.str A), some (.str S), some (.int (i : Nat)), some (toD p), some (.int ((j + 1 : Nat) : Int)), some (.str ""), some (.str ""), some (.str "01234")] h
  refine ag1 (by decide +kernel) (ag2 true false hS (by decide +kernel) (c0 := 48) (by rw [low_eq]; rfl) (by decide +kernel) (by decide +kernel) (fun hs => ?_) (fun c hs hc => ?_) fun c hs hc => ?_)
  · rw [pD_none hs] at q
    exact q
  · unfold pD at q
    rw [hs] at q
    dsimp only at q
    rw [if_neg (by rw [low_eq] at hc; simp at hc; omega)] at q
    exact q
  have hc2 : 48 ≤ c ∧ c ≤ 52 := by rw [low_eq] at hc; simp at hc; omega
  unfold pD at q
  rw [hs] at q
  dsimp only at q
  rw [if_pos (by omega)] at q
  have q : outp toD ((pX S.cps.toList [32] (j + 1 + 1)).bnd _) h Q := q
  clear hs hc
  refine loop_step ?_
  show tAg _ _ [some (.str A), some (.str S), some (.int (i : Nat)), some (toD p), some (.int ((j + 1 + 1 : Nat) : Int)), some (.str ⟨#[c]⟩), some (.str ""), some (.str " ")] h
  refine ag1 (by decide +kernel) (ag2 false false hS (by decide +kernel) (c0 := 32) (by rw [e0]; rfl) (by decide +kernel) (by decide +kernel) (fun hs => ?_) (fun c' hs hc => ?_) fun c' hs hc => ?_)
  · rw [pX_none hs] at q
    exact q
  · rw [x2 hs (by rw [e0] at hc; simpa using hc)] at q
    exact q
  obtain rfl : c' = 32 := by rw [e0] at hc; simpa using hc
  rw [x1 hs] at q
  clear hs hc
  have q : outp toD (if S.cps.toList[j + 1 + 1 + 1]? = some 42 then (pX S.cps.toList [42] (j + 1 + 1 + 1)).bnd fun _ i8 => (pX S.cps.toList [41] i8).bnd fun _ k => .ok (.again p ((c - 48 : Nat) : Nat) none) k else (pD S.cps.toList (c - 48) (j + 1 + 1 + 1)).bnd fun hi i8 => (pX S.cps.toList [41] i8).bnd fun _ k => .ok (.again p ((c - 48 : Nat) : Nat) (some (hi : Nat))) k) h Q := q
  refine loop_step ?_
  show tAg _ _ [some (.str A), some (.str S), some (.int (i : Nat)), some (toD p), some (.int ((j + 1 + 1 + 1 : Nat) : Int)), some (.str ⟨#[c]⟩), some (.str ""), some (.str "*")] h
  have c4 : c - 48 ≤ 4 := by omega
  have mem := high_in c4
  refine ag1s hc2.1 hc2.2 (ag2 false true hS ?_ (c0 := 42) (by rw [ofL_l]; rfl) ?_ (by decide +kernel) (fun hs => ?_) (fun d hs hc => ?_) fun d hs hc => ?_)
  · rw [eqS_eq]
    refine decide_eq_false fun z => ?_
    have := congrArg (fun s : Str => s.cps.toList.head?) z
    rw [show (ofL (42 :: [48, 49, 50, 51, 52].drop (c - 48))).cps.toList.head? = some 42 by rw [ofL_l]; rfl, low_eq] at this
    cases this
  · rw [len_ofL, List.length_cons, List.length_drop]
    show 5 - _ + 1 ≤ _
    omega
  · rw [if_neg (by rw [hs]; simp), pD_none hs] at q
    exact q
  · have hc := fun z => hc ((mem d).mpr z)
    rw [if_neg (by rw [hs]; exact fun z => hc (.inl (Option.some.inj z)))] at q
    unfold pD at q
    rw [hs] at q
    dsimp only at q
    rw [if_neg (fun z => hc (.inr z))] at q
    exact q
  have hd := (mem d).mp hc
  have q : outp toD ((pX S.cps.toList [41] (j + 1 + 1 + 1 + 1)).bnd fun _ k => .ok (.again p ((c - 48 : Nat) : Nat) (if d = 42 then none else some ((d - 48 : Nat) : Int))) k) h Q := by
    by_cases h4 : d = 42
    · subst h4
      rw [if_pos hs, x1 hs] at q
      rw [if_pos rfl]
      exact q
    · rw [if_neg (by rw [hs]; exact fun z => h4 (Option.some.inj z))] at q
      unfold pD at q
      rw [hs] at q
      dsimp only at q
      rw [if_pos (by omega)] at q
      rw [if_neg h4]
      exact q
  clear hs hc
  refine loop_step ?_
  show tAg _ _ [some (.str A), some (.str S), some (.int (i : Nat)), some (toD p), some (.int ((j + 1 + 1 + 1 + 1 : Nat) : Int)), some (.str ⟨#[c]⟩), some (.str ⟨#[d]⟩), some (.str ")")] h
  refine ag1 (by decide +kernel) (ag2 false false hS (by decide +kernel) (c0 := 41) (by rw [e9]; rfl) (by decide +kernel) (by decide +kernel) (fun hs => ?_) (fun c' hs hc => ?_) fun c' hs hc => ?_)
  · rw [pX_none hs] at q
    exact q
  · rw [x2 hs (by rw [e9] at hc; simpa using hc)] at q
    exact q
  obtain rfl : c' = 41 := by rw [e9] at hc; simpa using hc
  rw [x1 hs] at q
  refine loop_end ?_
  refine ⟨_, rfl, _, rfl, _, int_dig hc2.1 hc2.2, _, rfl, _, rfl, _, rfl, ?_⟩
  have q : Q (.fz (.tup [toD (.again p ((c - 48 : Nat) : Nat) (if d = 42 then none else some ((d - 48 : Nat) : Int))), .int ((j + 1 + 1 + 1 + 1 + 1 : Nat) : Int)])) h := q
  by_cases h4 : d = 42
  · subst h4
    rw [if_pos rfl] at q
    refine ifT (by decide +kernel) ?_
    walk_at "m"
    exact q
  · rw [if_neg h4] at q
    refine ifF (by show eqS (⟨#[d]⟩ : Str) "*" = false; rw [eqS_eq, st1]; exact decide_eq_false fun z => h4 (one_inj z)) ?_
    refine ⟨_, rfl, _, int_dig (by omega) (by omega), ?_⟩
    walk_at "m"
    exact q
end
end Cut
namespace Cut
open PySem L2 DL ML
local macro_rules | `(tactic| walk_at "m") => `(tactic| repeat (first | with_reducible refine ⟨_, rfl, ?_⟩ | refine ⟨_, rfl, ?_⟩ | refine ⟨rfl, ?_⟩ | refine ⟨_, _, rfl, rfl, ?_⟩ | refine ⟨_, _, rfl, ?_⟩ | refine iteT ?_ | refine iteF ?_ | refine ⟨⟨_, rfl⟩, ?_⟩ | refine ⟨Nat.le_of_ble_eq_true rfl, ?_⟩ | refine ⟨(by decide), ?_⟩ | refine ⟨_, ix_t0 _ _, ?_⟩ | refine ⟨_, ix_l0 _ _, ?_⟩))
theorem eqSp (S : Str) (i : Nat) : eqS (chS S i) " " = decide (S.cps.toList[i]? = some 32) := by rw [sp1]; exact eqS_chr S i 32
theorem eqRp (S : Str) (i : Nat) : eqS (chS S i) ")" = decide (S.cps.toList[i]? = some 41) := by rw [rp1]; exact eqS_chr S i 41
theorem vw_own {h : Hd} {a : Addr} {xs : List D} : vw (put h a (.lst xs)) (.raw (.ref a)) = .lst xs := by
  show (match put h a (.lst xs) a with | some (.lst xs) => D.lst xs | _ => .raw (.ref a)) = _
  rw [put_same]
theorem eqE_nil {A : Str} (hA : Alp A) {rs : List Rx} (hs : stRL A rs = true) : eqE (.lst (toDL rs)) (.lst []) = some (.fz (.bl (decide (rs = [])))) := by
  obtain ⟨h1, h2, _⟩ := lay_toDL hA rs hs
  unfold eqE
  rw [if_pos (by
    show (okL (toDL rs) && PyData.canLayAll0 (pyL (toDL rs)) && (true && decide (min (PyData.depthAll (pyL (toDL rs)) + 1) 1 ≤ 64))) = true
    rw [h1, h2, decide_eq_true (by omega)]
    rfl)]
  cases rs with
  | nil => rfl
  | cons r rs => rfl
theorem outp_bndH {α β : Type} {v : β → D} {v' : α → D} {x : PR α} {f : α → Nat → PR β} {h h2 : Hd} {Q Q' : Res → Hd → Prop} (q : outp v (x.bnd f) h Q) (k : ∀ a j, x = .ok a j → outp v (f a j) h Q → Q' (.fz (.tup [v' a, .int (j : Nat)])) h2) (ke : ∀ j, x = .er j → Q (.fz (.tup [.non, .int (j : Nat)])) h → Q' (.fz (.tup [.non, .int (j : Nat)])) h2) : outp v' x h2 Q' := by
  unfold outp at q ⊢
  rw [post_bnd] at q
  exact q.imp (fun a j e z => k a j e z) fun j e z => ke j e z
theorem neRp (S : Str) (i : Nat) : (!eqS (chS S i) ")") = decide (¬ S.cps.toList[i]? = some 41) := by rw [eqRp, decide_not]
section
variable {P : Program} {w : World} {K : Fg} {mg : Str → Option Value} {base : Heap} {f f2 f3 : Addr} {fd fd2 fd3 : FuncData} {CP CN : Addr}
theorem ok_rparts (m : Nat) (A : At K mg "_law_read_parts" ["_law_alphabet_here", "_law_text", "_law_at", "_law_word"] s_l_read_parts f fd) (m_tuple : mg "tuple" = none) (c_l_read_expression : FnM P w K mg base "_law_read_expression" (2 * m + 3) 3 (g_rexpr m)) : FnM P w K mg base "_law_read_parts" (2 * m + 4) 4 (g_rparts m) := by
  refine (A.fnM (okM (k := 2 * m + 3) A.fn sc_l_read_parts (by decide) (fun cdv A outer s H E hr tk po => (mss_cons (ms_par (i := 4) (j := 5) rfl sc_l_read_parts.nd rfl rfl (by decide) rfl rfl (ma_cons (me_own (me_lst ma_nil)) (ma_cons (me_v 2) ma_nil)) (by rfl))
      (mss_cons (ms_while po (MW.mt (mw_and (mt_eq hr (me_sl (me_v 1) (mo_some (me_v 5)) (mo_some (me_add (me_v 5) me_int))) me_str) (mw_and1 (MW.mt (mw_or (mt_ne hr (me_v 3) me_str) (mw_or1 (mt_eqVE hr (me_v 4) (me_lst ma_nil)))))))) (mss_cons (ms_asg (me_cM c_l_read_expression tk (hr.mono (by omega)) (by rfl) (ma_cons (me_v 0) (ma_cons (me_v 1) (ma_cons (me_add (me_v 5) me_int) ma_nil)))) (mg_tup (n := 2) rfl (mgs_cons (mg_n 6 sc_l_read_parts.nd rfl (by first | exact Or.inl rfl | exact Or.inr rfl)) (mgs_cons (mg_n 5 sc_l_read_parts.nd rfl (by first | exact Or.inl rfl | exact Or.inr rfl)) mgs_nil))))
      (mss_cons (ms_if (mt_is (me_v 6) me_non) (mss_one (ms_ret (me_tup (ma_cons me_non (ma_cons (me_v 5) ma_nil))))) mss_nil)
      (mss_one (ms_expr (me_app (me_v 4) (ma_cons (me_v 6) ma_nil)))))))
      (mss_cons (ms_if (MW.mt (mw_or (mt_ne hr (me_sl (me_v 1) (mo_some (me_v 5)) (mo_some (me_add (me_v 5) me_int))) me_str) (mw_or1 (MW.mt (mw_and (mt_eq hr (me_v 3) me_str) (mw_and1 (mt_eqVE hr (me_v 4) (me_lst ma_nil)))))))) (mss_one (ms_ret (me_tup (ma_cons me_non (ma_cons (me_v 5) ma_nil))))) mss_nil)
      (mss_one (ms_fzs 4 (ms_ret (me_tup (ma_cons (me_add (me_tup (ma_cons (me_v 3) ma_nil)) (me_tuple (by rfl) m_tuple (ma_cons (me_v 4) ma_nil))) (ma_cons (me_add (me_v 5) me_int) ma_nil)))))))))) ?_)).of_less
  rintro ds h Q E hl ⟨Q0, E0, ⟨A, S, i, n, wl, rfl, hw, hwa, hA, hS, hi, hn, hm, q⟩, hQ, hE⟩
  have hSl := len_l S
  walk_at "m"
  intro a ha
  have fin : ∀ {r L}, Q0 r h → Q r (put h a L) := fun z => hQ _ _ _ (le_put ha) z
  have x1 : ∀ {k c : Nat}, S.cps.toList[k]? = some c → (pX S.cps.toList [c] k) = .ok () (k + 1) := fun {k c} z => by rw [pX, if_pos z, pX]
  have x2 : ∀ {k d : Nat}, ¬ S.cps.toList[k]? = some d → (pX S.cps.toList [d] k) = .er k := fun {k d} z => by rw [pX, if_neg z]
  by_cases hwn : wl = wNot
  · subst hwn
    unfold pPs at q
    rw [if_pos rfl] at q
    walk_at "m"
    refine ⟨fun mm ρ h' => (mm = 1 ∧ ∃ x, ρ = [some (.str A), some (.str S), some (.int (i : Nat)), some (.str (ofL wNot)), some (.raw (.ref a)), some (.int (i : Nat)), x] ∧ h' = put h a (.lst [])) ∨ (mm = 0 ∧ ∃ p j x, ρ = [some (.str A), some (.str S), some (.int (i : Nat)), some (.str (ofL wNot)), some (.raw (.ref a)), some (.int (j : Nat)), x] ∧ h' = put h a (.lst [toD p]) ∧ stR A p = true ∧ outp toD ((pX S.cps.toList [41] j).bnd fun _ k => .ok (.no p) k) h Q0), ⟨1, .inl ⟨rfl, none, rfl, rfl⟩⟩, ?_⟩
    rintro mm ρ h' (⟨rfl, x, rfl, rfl⟩ | ⟨rfl, p, j, x, rfl, rfl, hp, q2⟩)
    · have nil0 : eqE (vw (put h a (.lst [])) (.raw (.ref a))) (.lst []) = some (.fz (.bl true)) := by
        rw [vw_own]; exact eqE_nil hA (rs := []) rfl
      walk_at "m"
      refine ⟨_, sl_chr (by omega), ?_⟩
      walk_at "m"
      refine ifd (eqSp S i) (fun hc => ?_) (fun hc => ?_)
      · obtain ⟨hj, _⟩ := List.getElem?_eq_some_iff.mp hc
        rw [x1 hc] at q
        walk_at "m"
        refine ifF (by decide +kernel) ?_
        walk_at "m"
        refine ⟨_, nil0, rfl, ?_⟩
        walk_at "m"
        refine ⟨A, S, i + 1, n, rfl, hA, hS, by omega, by omega, by omega, ?_⟩
        refine outp_bndH q (fun p j e q => ?_) (fun j e z => ?_)
        rotate_left
        · walk_at "m"
          exact fin z
        have G := pE_good hA (by omega) (by omega) e
        walk_at "m"
        refine ⟨_, isd_r p, ?_⟩
        walk_at "m"
        refine ⟨a, _, rfl, put_same, ?_⟩
        walk_at "m"
        refine ⟨_, _, put_same, rfl, by decide, ?_⟩
        rw [put_put]
        exact ⟨0, by decide, .inr ⟨rfl, p, j, _, rfl, rfl, G.st, q⟩⟩
      · rw [x2 hc] at q
        refine ifF rfl ?_
        walk_at "m"
        refine ⟨_, sl_chr (by omega), ?_⟩
        walk_at "m"
        refine ifd (neRp S i) (fun hd => ?_) (fun hd => ?_)
        · refine ifT rfl ?_
          walk_at "m"
          exact fin q
        · walk_at "m"
          refine ifT (by decide +kernel) ?_
          walk_at "m"
          refine ⟨_, nil0, rfl, ?_⟩
          walk_at "m"
          exact fin q
    · have nil1 : eqE (vw (put h a (.lst [toD p])) (.raw (.ref a))) (.lst []) = some (.fz (.bl false)) := by
        rw [vw_own]; exact eqE_nil hA (rs := [p]) (by rw [stRL, hp]; rfl)
      walk_at "m"
      refine ⟨_, sl_chr (by omega), ?_⟩
      walk_at "m"
      refine ifd (eqSp S j) (fun hc => ?_) (fun hc => ?_)
      · walk_at "m"
        refine ifF (by decide +kernel) ?_
        walk_at "m"
        refine ⟨_, nil1, rfl, ?_⟩
        walk_at "m"
        refine ⟨_, sl_chr (by omega), ?_⟩
        walk_at "m"
        refine ifd (neRp S j) (fun hd => ?_) (fun hd => ?_)
        · refine ifT rfl ?_
          walk_at "m"
          rw [x2 hd] at q2
          exact fin q2
        · walk_at "m"
          refine ifT (by decide +kernel) ?_
          walk_at "m"
          refine ⟨_, nil1, rfl, ?_⟩
          walk_at "m"
          refine ⟨a, [toD p], rfl, put_same, ?_⟩
          rw [off_put ha]
          walk_at "m"
          rw [x1 (Decidable.not_not.mp hd)] at q2
          have q3 : Q0 (.fz (.tup [toD (.no p), .int ((j + 1 : Nat) : Int)])) h := q2
          rw [toD, show ("not" : Str) = ofL wNot by decide +kernel] at q3
          exact hQ _ _ _ (Le.refl _) q3
      · refine ifF rfl ?_
        walk_at "m"
        refine ⟨_, sl_chr (by omega), ?_⟩
        walk_at "m"
        refine ifd (neRp S j) (fun hd => ?_) (fun hd => ?_)
        · refine ifT rfl ?_
          walk_at "m"
          rw [x2 hd] at q2
          exact fin q2
        · walk_at "m"
          refine ifT (by decide +kernel) ?_
          walk_at "m"
          refine ⟨_, nil1, rfl, ?_⟩
          walk_at "m"
          refine ⟨a, [toD p], rfl, put_same, ?_⟩
          rw [off_put ha]
          walk_at "m"
          rw [x1 (Decidable.not_not.mp hd)] at q2
          have q3 : Q0 (.fz (.tup [toD (.no p), .int ((j + 1 : Nat) : Int)])) h := q2
          rw [toD, show ("not" : Str) = ofL wNot by decide +kernel] at q3
          exact hQ _ _ _ (Le.refl _) q3
  · have hkw : KW.contains wl = true := List.contains_iff_mem.mpr hw
    have nn : eqS (ofL wl) "not" = false := by rw [not_in]; exact decide_eq_false hwn
    unfold pPs at q
    rw [if_neg hwn] at q
    walk_at "m"
    refine ⟨fun mm ρ h' => ∃ rs j n x, ρ = [some (.str A), some (.str S), some (.int (i : Nat)), some (.str (ofL wl)), some (.raw (.ref a)), some (.int (j : Nat)), x] ∧ h' = put h a (.lst (toDL rs)) ∧ mm = S.length - j ∧ j ≤ S.length ∧ rs.length ≤ j ∧ S.length < j + n ∧ S.length < j + 1 + 5 * m ∧ outp toD ((pP S.cps.toList A.cps.toList n j).bnd fun ps i3 => (pX S.cps.toList [41] i3).bnd fun _ k => .ok (mkW wl (rs ++ ps)) k) h Q0, ⟨S.length - i, [], i, n, none, rfl, rfl, rfl, hi, Nat.zero_le _, hn, hm, q⟩, ?_⟩
    rintro mm ρ h' ⟨rs, j, n, x, rfl, rfl, rfl, hj, hr, hn, hm, q⟩
    obtain ⟨n, rfl⟩ : ∃ n', n = n' + 1 := ⟨n - 1, by omega⟩
    walk_at "m"
    refine ⟨_, sl_chr (by omega), ?_⟩
    walk_at "m"
    unfold pP at q
    refine ifd (eqSp S j) (fun hc => ?_) (fun hc => ?_)
    · obtain ⟨hj', _⟩ := List.getElem?_eq_some_iff.mp hc
      rw [if_neg (by rw [hc]; decide), x1 hc] at q
      walk_at "m"
      refine ifT (by show (!eqS (ofL wl) "not") = true; rw [nn]; rfl) ?_
      refine ifT rfl ?_
      walk_at "m"
      refine ⟨A, S, j + 1, n, rfl, hA, hS, by omega, by omega, by omega, ?_⟩
      have q : outp toD (((pE S.cps.toList A.cps.toList n (j + 1)).bnd fun p i2 => (pP S.cps.toList A.cps.toList n i2).bnd fun ps i3 => PR.ok (p :: ps) i3).bnd fun ps i3 => (pX S.cps.toList [41] i3).bnd fun _ k => .ok (mkW wl (rs ++ ps)) k) h Q0 := q
      rw [bnd_assoc] at q
      refine outp_bndH q (fun p k e q => ?_) (fun k e z => ?_)
      rotate_left
      · walk_at "m"
        exact fin z
      obtain ⟨e2, l2⟩ := pE_len (by omega) e
      walk_at "m"
      refine ⟨_, isd_r p, ?_⟩
      walk_at "m"
      refine ⟨a, _, rfl, put_same, ?_⟩
      walk_at "m"
      refine ⟨_, _, put_same, rfl, by rw [toDL_len]; omega, ?_⟩
      rw [put_put]
      refine ⟨S.length - k, by omega, rs ++ [p], k, n, _, rfl, ?_, rfl, by omega, by simp; omega, by omega, by omega, ?_⟩
      · rw [toDL_map, toDL_map, List.map_append]
        rfl
      · rw [bnd_assoc] at q
        have e3 : ∀ ps : List Rx, rs ++ [p] ++ ps = rs ++ (p :: ps) := fun ps => by simp
        simp only [e3]
        exact q
    · refine ifF rfl ?_
      walk_at "m"
      refine ⟨_, sl_chr (by omega), ?_⟩
      walk_at "m"
      refine ifd (neRp S j) (fun hd => ?_) (fun hd => ?_)
      · rw [if_neg hd, x2 hc] at q
        refine ifT rfl ?_
        walk_at "m"
        exact fin q
      · have hd := Decidable.not_not.mp hd
        rw [if_pos hd] at q
        have q : outp toD ((pX S.cps.toList [41] j).bnd fun _ k => .ok (mkW wl (rs ++ [])) k) h Q0 := q
        rw [x1 hd, List.append_nil] at q
        have q3 : Q0 (.fz (.tup [toD (mkW wl rs), .int ((j + 1 : Nat) : Int)])) h := q
        rw [toD_mkW hkw hwa hwn] at q3
        walk_at "m"
        refine ifF nn ?_
        walk_at "m"
        refine ⟨a, toDL rs, rfl, put_same, ?_⟩
        rw [off_put ha]
        walk_at "m"
        refine ⟨_, add_tup (by rw [toDL_len]; show 1 + _ ≤ _; omega), ?_⟩
        walk_at "m"
        exact hQ _ _ _ (Le.refl _) q3
end
end Cut
namespace Cut
open PySem L2 DL ML
local macro_rules | `(tactic| walk_at "m") => `(tactic| repeat (first | with_reducible refine ⟨_, rfl, ?_⟩ | refine ⟨_, rfl, ?_⟩ | refine ⟨rfl, ?_⟩ | refine ⟨_, _, rfl, rfl, ?_⟩ | refine ⟨_, _, rfl, ?_⟩ | refine iteT ?_ | refine iteF ?_ | refine ⟨⟨_, rfl⟩, ?_⟩ | refine ⟨Nat.le_of_ble_eq_true rfl, ?_⟩ | refine ⟨(by decide), ?_⟩ | refine ⟨_, ix_t0 _ _, ?_⟩ | refine ⟨_, ix_l0 _ _, ?_⟩))
theorem lb1 : ("[" : Str) = ⟨#[91]⟩ := by decide +kernel
theorem lp1 : ("(" : Str) = ⟨#[40]⟩ := by decide +kernel
theorem isnt_r (p : Rx) : isntD (toD p) .non = some (.fz (.bl true)) := by rw [toD_eq]; rfl
section
variable {P : Program} {w : World} {K : Fg} {mg : Str → Option Value} {base : Heap} {f f2 f3 : Addr} {fd fd2 fd3 : FuncData} {CP CN : Addr}
theorem ok_rexpr1 (m : Nat) (A : At K mg "_law_read_expression" ["_law_alphabet_here", "_law_text", "_law_at"] s_l_read_expression f fd) (c_l_read_set : FnM P w K mg base "_law_read_set" 1 3 g_rset) (c_l_read_word : FnM P w K mg base "_law_read_word" 1 2 g_rword)
    (c_l_read_again : FnM P w K mg base "_law_read_again" (2 * m + 4) 3 (g_ragain m)) (c_l_read_parts : FnM P w K mg base "_law_read_parts" (2 * m + 4) 4 (g_rparts m)) : FnM P w K mg base "_law_read_expression" (2 * (m + 1) + 3) 3 (g_rexpr (m + 1)) := by
  refine A.fnM (okM (k := 2 * m + 4) A.fn sc_l_read_expression (by decide) (fun cdv A outer s H E hr tk po => (mss_cons (ms_if (mt_eq hr (me_sl (me_v 1) (mo_some (me_v 2)) (mo_some (me_add (me_v 2) me_int))) me_str) (mss_one (ms_ret (me_cM c_l_read_set tk (hr.mono (by omega)) (by rfl) (ma_cons (me_v 0) (ma_cons (me_v 1) (ma_cons (me_add (me_v 2) me_int) ma_nil)))))) mss_nil)
      (mss_cons (ms_if (mt_ne hr (me_sl (me_v 1) (mo_some (me_v 2)) (mo_some (me_add (me_v 2) me_int))) me_str) (mss_one (ms_ret (me_tup (ma_cons me_non (ma_cons (me_v 2) ma_nil))))) mss_nil)
      (mss_cons (ms_asg (me_cM c_l_read_word tk (hr.mono (by omega)) (by rfl) (ma_cons (me_v 1) (ma_cons (me_add (me_v 2) me_int) ma_nil))) (mg_tup (n := 2) rfl (mgs_cons (mg_n 3 sc_l_read_expression.nd rfl (by first | exact Or.inl rfl | exact Or.inr rfl)) (mgs_cons (mg_n 4 sc_l_read_expression.nd rfl (by first | exact Or.inl rfl | exact Or.inr rfl)) mgs_nil))))
      (mss_cons (ms_if (mt_is (me_v 3) me_non) (mss_one (ms_ret (me_tup (ma_cons me_non (ma_cons (me_v 4) ma_nil))))) mss_nil)
      (mss_cons (ms_if (mt_eq hr (me_v 3) me_str) (mss_one (ms_ret (me_cM c_l_read_again tk (hr.mono (by omega)) (by rfl) (ma_cons (me_v 0) (ma_cons (me_v 1) (ma_cons (me_v 4) ma_nil)))))) mss_nil)
      (mss_one (ms_ret (me_cM c_l_read_parts tk (hr.mono (by omega)) (by rfl) (ma_cons (me_v 0) (ma_cons (me_v 1) (ma_cons (me_v 4) (ma_cons (me_v 3) ma_nil))))))))))))) ?_)
  rintro ds h Q E hl ⟨A, S, i, n, rfl, hA, hS, hi, hn, hm, q⟩
  have hSl := len_l S
  obtain ⟨n, rfl⟩ : ∃ n', n = n' + 1 := ⟨n - 1, by omega⟩
  rw [pE_succ] at q
  have x1 : ∀ {k c : Nat}, S.cps.toList[k]? = some c → (pX S.cps.toList [c] k) = .ok () (k + 1) := fun {k c} z => by rw [pX, if_pos z, pX]
  have x2 : ∀ {k d : Nat}, ¬ S.cps.toList[k]? = some d → (pX S.cps.toList [d] k) = .er k := fun {k d} z => by rw [pX, if_neg z]
  walk_at "m"
  refine ⟨_, sl_chr (by omega), ?_⟩
  walk_at "m"
  refine ifd (show eqS (chS S i) "[" = _ by rw [lb1]; exact eqS_chr S i 91) (fun hc => ?_) (fun hc => ?_)
  · rw [if_pos hc, pS, x1 hc] at q
    walk_at "m"
    exact ⟨A, S, i + 1, rfl, hA, hS, q⟩
  rw [if_neg hc] at q
  walk_at "m"
  refine ⟨_, sl_chr (by omega), ?_⟩
  walk_at "m"
  refine ifd (show (!eqS (chS S i) "(") = decide (¬ S.cps.toList[i]? = some 40) by rw [lp1]; exact neC S i 40) (fun hd => ?_) (fun hd => ?_)
  · rw [x2 hd] at q
    walk_at "m"
    exact q
  have hd := Decidable.not_not.mp hd
  obtain ⟨hi', _⟩ := List.getElem?_eq_some_iff.mp hd
  rw [x1 hd] at q
  have q : outp toD ((pK S.cps.toList 6 [] (i + 1)).bnd fun w i2 => if w = wAgain then pAg S.cps.toList A.cps.toList n i2 else pPs S.cps.toList A.cps.toList n i2 w) h Q := q
  walk_at "m"
  refine ⟨hS, outp_bndH q (fun wl j e q => ?_) (fun j e z => ?_)⟩
  rotate_left
  · walk_at "m"
    exact z
  obtain ⟨kw, e2, l2⟩ := pK_len (s := S.cps.toList) (i := i + 1) (by omega) e
  have w3 := KW_len kw
  rw [List.length_nil, Nat.add_zero] at e2
  walk_at "m"
  by_cases ha : wl = wAgain
  · subst ha
    rw [if_pos rfl] at q
    refine ifT (by show eqS (ofL wAgain) "again" = true; rw [again_in]; exact decide_eq_true rfl) ?_
    walk_at "m"
    exact ⟨A, S, j, n, rfl, hA, hS, by omega, by omega, by omega, q⟩
  · rw [if_neg ha] at q
    refine ifF (by show eqS (ofL wl) "again" = false; rw [again_in]; exact decide_eq_false ha) ?_
    walk_at "m"
    exact ⟨A, S, j, n, wl, rfl, List.contains_iff_mem.mp kw, ha, hA, hS, by omega, by omega, by omega, q⟩
theorem ok_rexpr (A : At K mg "_law_read_expression" ["_law_alphabet_here", "_law_text", "_law_at"] s_l_read_expression f fd) (A2 : At K mg "_law_read_again" ["_law_alphabet_here", "_law_text", "_law_at"] s_l_read_again f2 fd2) (A3 : At K mg "_law_read_parts" ["_law_alphabet_here", "_law_text", "_law_at", "_law_word"] s_l_read_parts f3 fd3)
    (m_len : mg "len" = none) (m_int : mg "int" = none) (m_tuple : mg "tuple" = none) (c_l_read_set : FnM P w K mg base "_law_read_set" 1 3 g_rset) (c_l_read_word : FnM P w K mg base "_law_read_word" 1 2 g_rword) : ∀ m, FnM P w K mg base "_law_read_expression" (2 * m + 3) 3 (g_rexpr m)
  | 0 => A.noneM fun ds h Q E ⟨_, _, _, _, _, _, _, h1, _, h2, _⟩ => by omega
  | m + 1 => by
    have ih := ok_rexpr A A2 A3 m_len m_int m_tuple c_l_read_set c_l_read_word m
    exact ok_rexpr1 m A c_l_read_set c_l_read_word (ok_ragain m A2 m_len m_int ih) (ok_rparts m A3 m_tuple ih)
def g_rpat : FM := fun ds h Q _ => ∃ A S, ds = [.str A, .str S] ∧ Alp A ∧ S.length ≤ 399 ∧ (pPat A.cps.toList S.cps.toList).post (fun r _ => Q (.fz (.tup [toD r, .int (S.length : Nat)])) h) (fun j => Q (.fz (.tup [.non, .int (j : Nat)])) h)
theorem ok_rpat (A : At K mg "_law_read_pattern" ["_law_alphabet_here", "_law_text"] s_l_read_pattern f fd) (m_len : mg "len" = none) (c_l_read_expression : FnM P w K mg base "_law_read_expression" 163 3 (g_rexpr 80)) (c_l_is_pattern : FnM P w K mg base "_law_is_pattern" 92 1 g_ispat) : FnM P w K mg base "_law_read_pattern" 185 2 g_rpat := by
  refine A.fnM (okM (k := 184) A.fn sc_l_read_pattern (by decide) (fun cdv A outer s H E hr tk po => (mss_cons (ms_asg (me_cM c_l_read_expression tk (hr.mono (by decide)) (by rfl) (ma_cons (me_v 0) (ma_cons (me_v 1) (ma_cons me_int ma_nil)))) (mg_tup (n := 2) rfl (mgs_cons (mg_n 2 sc_l_read_pattern.nd rfl (by first | exact Or.inl rfl | exact Or.inr rfl)) (mgs_cons (mg_n 3 sc_l_read_pattern.nd rfl (by first | exact Or.inl rfl | exact Or.inr rfl)) mgs_nil))))
      (mss_cons (ms_if (MW.mt (mw_and (mt_isnt (me_v 2) me_non) (mw_and1 (MW.mt (mw_or (mt_lt (me_v 3) (me_len (by rfl) m_len (ma_cons (me_v 1) ma_nil))) (mw_or1 (mt_not (mt_val (me_cM c_l_is_pattern tk (hr.mono (by decide)) (by rfl) (ma_cons (me_v 2) ma_nil)))))))))) (mss_one (ms_set 2 sc_l_read_pattern.nd rfl (by first | exact Or.inl rfl | exact Or.inr rfl) me_non)) mss_nil)
      (mss_one (ms_ret (me_tup (ma_cons (me_v 2) (ma_cons (me_v 3) ma_nil)))))))) ?_)
  rintro ds h Q E hl ⟨A, S, rfl, hA, hS, q⟩
  have hSl := len_l S
  unfold pPat at q
  rw [post_bnd] at q
  walk_at "m"
  refine ⟨A, S, 0, S.cps.toList.length + 1, rfl, hA, by omega, by omega, by omega, by omega, ?_⟩
  unfold outp
  refine q.imp (fun r j e z => ?_) (fun j e z => ?_)
  rotate_left
  · walk_at "m"
    exact z
  obtain ⟨_, lj⟩ := pE_len (Nat.zero_le _) e
  have G := pE_good hA (by omega) (Nat.zero_le _) e
  have hd := G.dp
  walk_at "m"
  refine ⟨_, isnt_r r, ?_⟩
  walk_at "m"
  refine ⟨_, len_str (by omega), ?_⟩
  walk_at "m"
  refine ifd (p := j < S.cps.toList.length) (decide_eq_decide.mpr (by rw [← hSl]; omega)) (fun hj => ?_) (fun hj => ?_)
  · rw [if_pos hj] at z
    refine ifT rfl ?_
    walk_at "m"
    exact z
  rw [if_neg hj] at z
  have ej : j = S.length := by omega
  subst ej
  walk_at "m"
  refine ⟨G.ok, by omega, ?_⟩
  walk_at "m"
  cases hp2 : patR r with
  | false =>
    rw [hp2, if_neg (by decide)] at z
    refine ifT rfl ?_
    walk_at "m"
    rw [← hSl] at z
    exact z
  | true =>
    rw [hp2, if_pos rfl] at z
    refine ifF rfl ?_
    walk_at "m"
    exact z
end
end Cut
namespace Cut
open PySem L2 DL ML
local macro_rules | `(tactic| walk_at "m") => `(tactic| repeat (first | with_reducible refine ⟨_, rfl, ?_⟩ | refine ⟨_, rfl, ?_⟩ | refine ⟨rfl, ?_⟩ | refine ⟨_, _, rfl, rfl, ?_⟩ | refine ⟨_, _, rfl, ?_⟩ | refine iteT ?_ | refine iteF ?_ | refine ⟨⟨_, rfl⟩, ?_⟩ | refine ⟨Nat.le_of_ble_eq_true rfl, ?_⟩ | refine ⟨(by decide), ?_⟩ | refine ⟨_, ix_t0 _ _, ?_⟩ | refine ⟨_, ix_l0 _ _, ?_⟩))
abbrev s_l_told : Stmt := top 42
abbrev N_l_told : List Str := ["_law_alphabet_here", "_law_text", "_law_found", "e", "_law_right"]
theorem sc_l_told : FnScope N_l_told ["_law_alphabet_here", "_law_text"] (defScope s_l_told) := ⟨rfl, rfl, rfl, by decide +kernel, rfl, by decide +kernel, by decide +kernel⟩
section
variable {P : Program} {w : World} {K : Fg} {mg : Str → Option Value} {base : Heap} {f f2 f3 : Addr} {fd fd2 fd3 : FuncData} {CP CN CB : Addr}
/-- what isinstance tells of InvalidNotation -/
def isNt (CB : Addr) : D → Bool → Prop := fun d b => b = true ∧ (d = .raw (.ref CB) ∨ d = .ty "ValueError")
def g_told : FM := fun ds h Q _ => ∃ A S, ds = [.str A, .str S] ∧ Alp A ∧ S.length ≤ 399 ∧ (pPat A.cps.toList S.cps.toList).post (fun r _ => Q (.fz (.tup [toD r, .int (S.length : Nat)])) h) (fun j => Q (.fz (.tup [.non, .int (j : Nat)])) h)
theorem ok_told (A : At K mg "_law_told" ["_law_alphabet_here", "_law_text"] s_l_told f fd) (m_len : mg "len" = none) (m_isinstance : mg "isinstance" = none) (m_ValueError : mg "ValueError" = none) (c_CutError : Gc K mg "CutError" (.raw (.ref CB))) (c_parse_pattern : FnM P w K mg base "parse_pattern" 185 2 (g_parse CN)) (y_InvalidNotation : ∀ C ∈ [CN], PySem.W.exmOne K (.ref C) (.ref CN) = some true) (n_InvalidNotation : mg "InvalidNotation" = some (.ref CN)) (x_InvalidNotation : XfC K CN ∧ PySem.W.findIn K (.ref CN) "index" = some none) (t_InvalidNotation : IsT K CN (isNt CB)) :
    FnM P w K mg base "_law_told" 186 2 g_told := by
  have z_InvalidNotation : ∀ C ∈ ([] : List Addr), PySem.W.exmOne K (.ref C) (.ref CN) = some false := fun _ h => (nomatch h)
  refine A.fnM (okM (k := 185) A.fn sc_l_told (by decide) (fun cdv A outer s H E hr tk po => (mss_cons (ms_set 2 sc_l_told.nd rfl (by first | exact Or.inl rfl | exact Or.inr rfl) me_non)
      (mss_cons (ms_try' (i := 3) y_InvalidNotation z_InvalidNotation rfl rfl sc_l_told.nd rfl rfl ⟨(by rfl), (by decide), Or.inl n_InvalidNotation⟩ tk (fun _ _ _ tk po => (mss_one (ms_set 2 sc_l_told.nd rfl (by first | exact Or.inl rfl | exact Or.inr rfl) (me_tup (ma_cons (me_cM c_parse_pattern tk (hr.mono (by decide)) (by rfl) (ma_cons (me_v 0) (ma_cons (me_v 1) ma_nil))) (ma_cons (me_len (by rfl) m_len (ma_cons (me_v 1) ma_nil)) ma_nil)))))) (fun _ _ _ _ _ _ hz hv => (mss_cons (ms_set 4 sc_l_told.nd rfl (by first | exact Or.inl rfl | exact Or.inr rfl) (me_and (me_isx t_InvalidNotation hz hv (by rfl) m_isinstance (ma_cons (me_v 3) (ma_cons (me_g c_CutError (by rfl)) ma_nil))) (me_one (me_isx t_InvalidNotation hz hv (by rfl) m_isinstance (ma_cons (me_v 3) (ma_cons (me_ty (n := "ValueError") (by rfl) m_ValueError (by decide +kernel)) ma_nil))))))
      (mss_one (ms_set 2 sc_l_told.nd rfl (by first | exact Or.inl rfl | exact Or.inr rfl) (me_tup (ma_cons me_non (ma_cons (me_if (mt_val (me_v 4)) (me_xf x_InvalidNotation.1 x_InvalidNotation.2 hz hv (me_v 3)) (me_neg me_int)) ma_nil))))))))
      (mss_one (ms_ret (me_v 2)))))) ?_)
  rintro ds h Q E hl ⟨A, S, rfl, hA, hS, q⟩
  walk_at "m"
  refine ⟨hA, hS, ?_⟩
  refine q.imp (fun r j e z => ?_) (fun j e z => ?_)
  · walk_at "m"
    refine ⟨_, len_str (by omega), ?_⟩
    walk_at "m"
    exact z
  · refine .inl ⟨List.mem_singleton.mpr rfl, fun a => ?_⟩
    walk_at "m"
    refine ⟨_, true, rfl, rfl, ⟨rfl, .inl rfl⟩, ?_⟩
    walk_at "m"
    refine ⟨_, true, rfl, rfl, ⟨rfl, .inr rfl⟩, ?_⟩
    walk_at "m"
    exact z
end
end Cut
namespace Cut
open PySem L2 DL ML
local macro_rules | `(tactic| walk_at "m") => `(tactic| repeat (first | with_reducible refine ⟨_, rfl, ?_⟩ | refine ⟨_, rfl, ?_⟩ | refine ⟨rfl, ?_⟩ | refine ⟨_, _, rfl, rfl, ?_⟩ | refine ⟨_, _, rfl, ?_⟩ | refine iteT ?_ | refine iteF ?_ | refine ⟨⟨_, rfl⟩, ?_⟩ | refine ⟨Nat.le_of_ble_eq_true rfl, ?_⟩ | refine ⟨(by decide), ?_⟩ | refine ⟨_, ix_t0 _ _, ?_⟩ | refine ⟨_, ix_l0 _ _, ?_⟩))
abbrev s_l_spoilt : Stmt := top 41
abbrev N_l_spoilt : List Str := ["_law_source_here", "_law_alphabet_here", "_law_text", "_law_way", "_law_at", "_law_to", "_law_signs", "_law_sign", "_law_pair", "_law_places", "_law_k"]
theorem sc_l_spoilt : FnScope N_l_spoilt ["_law_source_here", "_law_alphabet_here", "_law_text"] (defScope s_l_spoilt) := ⟨rfl, rfl, rfl, by decide +kernel, rfl, by decide +kernel, by decide +kernel⟩
theorem cat_len (a b : Str) : (a ++ b).length = a.length + b.length := by rw [len_l, len_l, len_l, l_append, List.length_append]
theorem ix_str' {S : Str} {i : Int} (hS : S.length ≤ 100000) (h0 : 0 ≤ i) (h1 : i < (S.length : Int)) : ∃ c, ixD (.str S) (.int i) = some (.fz (.str ⟨#[c]⟩)) := by
  have e := len_l S
  obtain ⟨c, hc, _⟩ := atI_ok (xs := S.cps.toList) h0 (by omega)
  refine ⟨c, ?_⟩
  show (if S.length ≤ 100000 then (atI S.cps.toList i).map fun c => Res.fz (.str ⟨#[c]⟩) else none) = _
  rw [if_pos hS, hc]
  rfl
theorem len_cto (S : Str) {j : Int} (h : 0 ≤ j) : (cutS S none (some j)).length ≤ j.toNat ∧ (cutS S none (some j)).length ≤ S.length ∧ (cutS S none (some j)).length = min j.toNat S.length := by
  obtain ⟨k, rfl⟩ := Int.eq_ofNat_of_zero_le h
  have e := len_l S
  rw [Int.toNat_natCast, cut_to, len_ofL, List.length_take]
  omega
theorem len_cfr (S : Str) {j : Int} (h : 0 ≤ j) : (cutS S (some j) none).length = S.length - j.toNat := by
  obtain ⟨k, rfl⟩ := Int.eq_ofNat_of_zero_le h
  rw [Int.toNat_natCast, cut_from, len_ofL, List.length_drop, len_l S]
theorem len_cft (S : Str) {i j : Int} (h : 0 ≤ i) (h' : 0 ≤ j) : (cutS S (some i) (some j)).length ≤ j.toNat - i.toNat := by
  obtain ⟨k, rfl⟩ := Int.eq_ofNat_of_zero_le h
  obtain ⟨l, rfl⟩ := Int.eq_ofNat_of_zero_le h'
  rw [Int.toNat_natCast, Int.toNat_natCast, cut_nat, len_ofL, List.length_take]
  omega
theorem atI_map {ns : List Int} {i n : Int} (h : atI ns i = some n) : atI (ns.map D.int) i = some (.int n) := by
  unfold atI at h ⊢
  rw [List.length_map]
  cases e : ixN ns.length i with
  | none => rw [e] at h; cases h
  | some j =>
    rw [e] at h
    show (ns.map D.int)[j]? = _
    have h : ns[j]? = some n := h
    rw [List.getElem?_map, h]; rfl
section
variable {P : Program} {w : World} {K : Fg} {mg : Str → Option Value} {base : Heap} {f : Addr} {fd : FuncData}
def g_spoilt : FM := fun ds h Q _ => ∃ a xs c A S, ds = [.raw (.ref a), .str A, .str S] ∧ h a = some (.lst xs) ∧ Alp A ∧ S.length ≤ 10000 ∧ Src c xs ∧ c ≤ 100000 ∧ ∀ S' h', S'.length ≤ S.length + 6 → (∃ xs', h' a = some (.lst xs') ∧ Src (c + 6) xs') → Q (.fz (.str S')) h'
theorem ok_spoilt (A : At K mg "_law_spoilt" ["_law_source_here", "_law_alphabet_here", "_law_text"] s_l_spoilt f fd) (m_len : mg "len" = none) (m_min : mg "min" = none) (m_range : mg "range" = none) (c_l_draw : Fn1 P w K mg base "_law_draw" 1 2 g_draw) :
    FnM P w K mg base "_law_spoilt" 2 3 g_spoilt := by
  refine A.fnM (okM (k := 1) A.fn sc_l_spoilt (by decide) (fun cdv A outer s H E hr tk po => (mss_cons (ms_set 3 sc_l_spoilt.nd rfl (by first | exact Or.inl rfl | exact Or.inr rfl) (me_c1 c_l_draw (hr.mono (by decide)) (by rfl) (ma_cons (me_v 0) (ma_cons me_int ma_nil))))
      (mss_cons (ms_set 4 sc_l_spoilt.nd rfl (by first | exact Or.inl rfl | exact Or.inr rfl) (me_c1 c_l_draw (hr.mono (by decide)) (by rfl) (ma_cons (me_v 0) (ma_cons (me_add (me_len (by rfl) m_len (ma_cons (me_v 2) ma_nil)) me_int) ma_nil))))
      (mss_cons (ms_set 5 sc_l_spoilt.nd rfl (by first | exact Or.inl rfl | exact Or.inr rfl) (me_min2 rfl (by rfl) m_min (ma_cons (me_len (by rfl) m_len (ma_cons (me_v 2) ma_nil)) (ma_cons (me_add (me_add (me_v 4) me_int) (me_c1 c_l_draw (hr.mono (by decide)) (by rfl) (ma_cons (me_v 0) (ma_cons me_int ma_nil)))) ma_nil))))
      (mss_cons (ms_set 6 sc_l_spoilt.nd rfl (by first | exact Or.inl rfl | exact Or.inr rfl) (me_add (me_add me_str (me_v 1)) me_str))
      (mss_cons (ms_set 7 sc_l_spoilt.nd rfl (by first | exact Or.inl rfl | exact Or.inr rfl) (me_ix (me_v 6) (me_c1 c_l_draw (hr.mono (by decide)) (by rfl) (ma_cons (me_v 0) (ma_cons (me_len (by rfl) m_len (ma_cons (me_v 6) ma_nil)) ma_nil))) (fun _ _ => rfl)))
      (mss_cons (ms_if (mt_eq hr (me_v 3) me_int) (mss_one (ms_ret (me_add (me_sl (me_v 2) mo_none (mo_some (me_v 4))) (me_sl (me_v 2) (mo_some (me_add (me_v 4) me_int)) mo_none)))) mss_nil)
      (mss_cons (ms_if (mt_eq hr (me_v 3) me_int) (mss_one (ms_ret (me_add (me_add (me_sl (me_v 2) mo_none (mo_some (me_v 4))) (me_sl (me_v 2) (mo_some (me_v 4)) (mo_some (me_add (me_v 4) me_int)))) (me_sl (me_v 2) (mo_some (me_v 4)) mo_none)))) mss_nil)
      (mss_cons (ms_if (mt_eq hr (me_v 3) me_int) (mss_one (ms_ret (me_add (me_sl (me_v 2) mo_none (mo_some (me_v 4))) (me_sl (me_v 2) (mo_some (me_v 5)) mo_none)))) mss_nil)
      (mss_cons (ms_if (mt_eq hr (me_v 3) me_int) (mss_one (ms_ret (me_add (me_add (me_sl (me_v 2) mo_none (mo_some (me_v 4))) (me_sl (me_v 2) (mo_some (me_v 4)) (mo_some (me_v 5)))) (me_sl (me_v 2) (mo_some (me_v 4)) mo_none)))) mss_nil)
      (mss_cons (ms_if (mt_eq hr (me_v 3) me_int) (mss_cons (ms_set 2 sc_l_spoilt.nd rfl (by first | exact Or.inl rfl | exact Or.inr rfl) (me_add (me_v 2) me_str))
      (mss_cons (ms_set 8 sc_l_spoilt.nd rfl (by first | exact Or.inl rfl | exact Or.inr rfl) (me_if (mt_lt (me_add (me_v 4) me_int) (me_len (by rfl) m_len (ma_cons (me_v 2) ma_nil))) (me_add (me_ix (me_v 2) (me_add (me_v 4) me_int) (fun _ _ => rfl)) (me_ix (me_v 2) (me_v 4) (fun _ _ => rfl))) me_str))
      (mss_one (ms_ret (me_add (me_add (me_sl (me_v 2) mo_none (mo_some (me_v 4))) (me_v 8)) (me_sl (me_v 2) (mo_some (me_add (me_v 4) me_int)) mo_none)))))) mss_nil)
      (mss_cons (ms_if (mt_eq hr (me_v 3) me_int) (mss_one (ms_ret (me_add (me_add (me_sl (me_v 2) mo_none (mo_some (me_v 4))) (me_v 7)) (me_sl (me_v 2) (mo_some (me_v 4)) mo_none)))) mss_nil)
      (mss_cons (ms_setLc (i := 9) (own := [("_law_k", 10)]) rfl sc_l_spoilt.nd rfl rfl (sw_true rfl rfl rfl (by decide +kernel)) (mi_range1 (by rfl) m_range (ma_cons (me_len (by rfl) m_len (ma_cons (me_v 2) ma_nil)) ma_nil)) (blkOk_by (N := N_l_spoilt) (sc := defScope s_l_spoilt) (own := [("_law_k", 10)]) (by decide +kernel)) (fun _ _ _ _ _ => (mg_n 10 sc_l_spoilt.nd rfl (by first | exact Or.inl rfl | exact Or.inr rfl))) (fun _ _ _ _ _ => (mts_one (mt_in (me_ix (me_v 2) (me_v 10) (fun _ _ => rfl)) me_str))) (fun _ _ _ _ _ => (me_v 10)))
      (mss_cons (ms_if (MW.mt (mw_and (mt_eq hr (me_v 3) me_int) (mw_and1 (mt_ne hr (me_v 9) (me_lst ma_nil))))) (mss_cons (ms_set 4 sc_l_spoilt.nd rfl (by first | exact Or.inl rfl | exact Or.inr rfl) (me_ix (me_v 9) (me_c1 c_l_draw (hr.mono (by decide)) (by rfl) (ma_cons (me_v 0) (ma_cons (me_len (by rfl) m_len (ma_cons (me_v 9) ma_nil)) ma_nil))) (fun _ _ => rfl)))
      (mss_one (ms_set 7 sc_l_spoilt.nd rfl (by first | exact Or.inl rfl | exact Or.inr rfl) (me_ix me_str (me_c1 c_l_draw (hr.mono (by decide)) (by rfl) (ma_cons (me_v 0) (ma_cons me_int ma_nil))) (fun _ _ => rfl))))) mss_nil)
      (mss_one (ms_ret (me_add (me_add (me_sl (me_v 2) mo_none (mo_some (me_v 4))) (me_v 7)) (me_sl (me_v 2) (mo_some (me_add (me_v 4) me_int)) mo_none)))))))))))))))))) ?_)
  rintro ds h Q E hl ⟨a, xs, c, A, S, rfl, hha, hA, hS, hx, hc, q⟩
  have hA6 := hA.hi
  walk_at "m"
  refine ⟨a, _, _, rfl, hha, c, _, rfl, hx, by omega, by decide, by decide, fun j1 xs1 j10 j11 hS1 => ?_⟩
  walk_at "m"
  refine ⟨_, len_str (by omega), ?_⟩
  walk_at "m"
  refine ⟨a, _, _, rfl, put_same, c + 1, _, rfl, hS1, by omega, by omega, by omega, fun j2 xs2 j20 j21 hS2 => ?_⟩
  walk_at "m"
  refine ⟨_, len_str (by omega), ?_⟩
  walk_at "m"
  refine ⟨a, _, _, rfl, put_same, c + 2, _, rfl, hS2, by omega, by decide, by decide, fun j3 xs3 j30 j31 hS3 => ?_⟩
  walk_at "m"
  generalize ht : (if j2 + 1 + j3 < (S.length : Int) then j2 + 1 + j3 else (S.length : Int)) = to
  have ht' : j2 ≤ to ∧ to ≤ j2 + 6 := by
    rw [← ht]; split <;> omega
  refine ⟨_, add_str (by show 23 + _ ≤ _; omega), ?_⟩
  walk_at "m"
  refine ⟨_, add_str (by rw [cat_len]; show 23 + _ + 4 ≤ _; omega), ?_⟩
  have hg : (("[]() 01234*5-rowanylgit" ++ A) ++ ("#A~\n" : Str)).length = A.length + 27 := by
    rw [cat_len, cat_len]; show 23 + A.length + 4 = _; omega
  generalize (("[]() 01234*5-rowanylgit" ++ A) ++ ("#A~\n" : Str)) = G at hg
  walk_at "m"
  refine ⟨_, len_str (by omega), ?_⟩
  walk_at "m"
  refine ⟨a, _, _, rfl, put_same, c + 3, _, rfl, hS3, by omega, by omega, by omega, fun j4 xs4 j40 j41 hS4 => ?_⟩
  obtain ⟨g0, hg0⟩ := ix_str' (S := G) (by omega) j40 (by omega)
  refine ⟨_, hg0, ?_⟩
  have q' : ∀ S' : Str, S'.length ≤ S.length + 6 → ∀ h', (∃ xs', h' a = some (.lst xs') ∧ Src (c + 6) xs') → Q (.fz (.str S')) h' := fun S' l h' z => q S' h' l z
  have z4 : ∃ xs', put (put (put (put h a (.lst xs1)) a (.lst xs2)) a (.lst xs3)) a (.lst xs4) a = some (.lst xs') ∧ Src (c + 6) xs' := ⟨xs4, put_same, hS4.mono (by omega)⟩
  have t1 := len_cto S j20
  have f1 := len_cfr S (j := j2) j20
  have f2 := len_cfr S (j := j2 + 1) (by omega)
  have f3 := len_cfr S (j := to) (by omega)
  have b1 := len_cft S (i := j2) (j := j2 + 1) j20 (by omega)
  have b2 := len_cft S (i := j2) (j := to) j20 (by omega)
  have one : ∀ c : Nat, (⟨#[c]⟩ : Str).length = 1 := fun _ => rfl
  have e1 := fun lo hi => sl_str' (z := S) (lo := lo) (hi := hi) (by omega)
  walk_at "m"
  refine ifB (fun _ => ?_) (fun _ => ?_)
  · walk_at "m"
    refine ⟨_, e1 _ _, ?_⟩
    walk_at "m"
    refine ⟨_, e1 _ _, ?_⟩
    refine ⟨_, add_str (by omega), ?_⟩
    exact q' _ (by rw [cat_len]; omega) _ z4
  walk_at "m"
  refine ifB (fun _ => ?_) (fun _ => ?_)
  · walk_at "m"
    refine ⟨_, e1 _ _, ?_⟩
    walk_at "m"
    refine ⟨_, e1 _ _, ?_⟩
    refine ⟨_, add_str (by omega), ?_⟩
    walk_at "m"
    refine ⟨_, e1 _ _, ?_⟩
    refine ⟨_, add_str (by rw [cat_len]; omega), ?_⟩
    exact q' _ (by rw [cat_len, cat_len]; omega) _ z4
  walk_at "m"
  refine ifB (fun _ => ?_) (fun _ => ?_)
  · walk_at "m"
    refine ⟨_, e1 _ _, ?_⟩
    walk_at "m"
    refine ⟨_, e1 _ _, ?_⟩
    refine ⟨_, add_str (by omega), ?_⟩
    exact q' _ (by rw [cat_len]; omega) _ z4
  walk_at "m"
  refine ifB (fun _ => ?_) (fun _ => ?_)
  · walk_at "m"
    refine ⟨_, e1 _ _, ?_⟩
    walk_at "m"
    refine ⟨_, e1 _ _, ?_⟩
    refine ⟨_, add_str (by omega), ?_⟩
    walk_at "m"
    refine ⟨_, e1 _ _, ?_⟩
    refine ⟨_, add_str (by rw [cat_len]; omega), ?_⟩
    exact q' _ (by rw [cat_len, cat_len]; omega) _ z4
  walk_at "m"
  refine ifB (fun _ => ?_) (fun _ => ?_)
  · walk_at "m"
    refine ⟨_, add_str (by show S.length + 1 ≤ _; omega), ?_⟩
    have hs4 : (S ++ (" " : Str)).length = S.length + 1 := by rw [cat_len]; rfl
    generalize S ++ (" " : Str) = T at hs4
    have e2 := fun lo hi => sl_str' (z := T) (lo := lo) (hi := hi) (by omega)
    have t2 := len_cto T j20
    have f4 := len_cfr T (j := j2 + 2) (by omega)
    walk_at "m"
    refine ⟨_, len_str (by omega), ?_⟩
    walk_at "m"
    have fin : ∀ (p : Str) (x y z : Option D), p.length ≤ 2 → (p.length ≤ 0 ∨ j2 + 1 < T.length) → mRet (mBin addD (mBin addD (mSl (mV 2) mONone (mOSome (mV 4))) (mV 8)) (mSl (mV 2) (mOSome (mBin addD (mV 4) (mK (.int 2)))) mONone)) (fun x _ h => E x h) { nx := fun _ h => Q (.fz .non) h, rt := fun r h => Q r h }
        [some (.raw (.ref a)), some (.str A), some (.str T), some (.int j1), some (.int j2), some (.int to), some (.str G), some (.str ⟨#[g0]⟩), some (.str p), x, y] (put (put (put (put h a (.lst xs1)) a (.lst xs2)) a (.lst xs3)) a (.lst xs4)) := by
      intro p x y z hp hp2
      walk_at "m"
      refine ⟨_, e2 _ _, ?_⟩
      walk_at "m"
      refine ⟨_, add_str (by omega), ?_⟩
      walk_at "m"
      refine ⟨_, e2 _ _, ?_⟩
      refine ⟨_, add_str (by rw [cat_len]; omega), ?_⟩
      exact q' _ (by rw [cat_len, cat_len]; omega) _ z4
    refine ifB (fun hlt => ?_) (fun hlt => ?_)
    · have hlt := of_decide_eq_true hlt
      obtain ⟨u1, hu1⟩ := ix_str' (S := T) (i := j2 + 1) (by omega) (by omega) (by omega)
      obtain ⟨u2, hu2⟩ := ix_str' (S := T) (i := j2) (by omega) (by omega) (by omega)
      walk_at "m"
      refine ⟨_, hu1, ?_⟩
      walk_at "m"
      refine ⟨_, hu2, ?_⟩
      refine ⟨_, add_str (by rw [one, one]; omega), ?_⟩
      exact fin _ _ _ none (by rw [cat_len, one, one]; omega) (.inr hlt)
    · exact fin _ _ _ none (by show 0 ≤ 2; omega) (.inl (Nat.le_refl 0))
  walk_at "m"
  refine ifB (fun _ => ?_) (fun _ => ?_)
  · walk_at "m"
    refine ⟨_, e1 _ _, ?_⟩
    walk_at "m"
    refine ⟨_, add_str (by rw [one]; omega), ?_⟩
    walk_at "m"
    refine ⟨_, e1 _ _, ?_⟩
    refine ⟨_, add_str (by rw [cat_len, one]; omega), ?_⟩
    exact q' _ (by rw [cat_len, cat_len, one]; omega) _ z4
  walk_at "m"
  refine ⟨_, len_str (by omega), ?_⟩
  refine ⟨_, rfl, ⟨by omega, by omega⟩, ?_⟩
  refine lcM_inv (fun ds h' acc => ∃ ns : List Int, acc = ns.map D.int ∧ (∀ n ∈ ns, 0 ≤ n ∧ n < S.length) ∧ (∀ d ∈ ds, ∃ n : Int, d = .int n ∧ 0 ≤ n ∧ n < S.length) ∧ acc.length + ds.length ≤ S.length ∧ h' = put (put (put (put h a (.lst xs1)) a (.lst xs2)) a (.lst xs3)) a (.lst xs4)) _ _ _ ⟨[], rfl, (fun _ z => nomatch z), fun d hd => ?_, by rw [rangeD_map, List.length_map, List.length_range]; simp, rfl⟩ ?_ ?_
  · rw [rangeD_map] at hd
    obtain ⟨i, hi, rfl⟩ := List.mem_map.mp hd
    have hi' : i < (S.length : Int).toNat := List.mem_range.mp hi
    exact ⟨_, rfl, by omega, by omega⟩
  · rintro d es h' acc R ⟨ns, rfl, y1, y2, y3, rfl⟩ hR
    obtain ⟨n, rfl, n0, n1⟩ := y2 d (List.mem_cons_self ..)
    rw [List.length_cons, List.length_map] at y3
    obtain ⟨u1, hu1⟩ := ix_str' (S := S) (i := n) (by omega) n0 n1
    walk_at "m"
    refine ⟨_, hu1, ?_⟩
    walk_at "m"
    refine ifB (fun _ => ?_) (fun _ => ?_)
    · walk_at "m"
      refine ⟨by rw [List.length_map]; omega, hR _ _ ⟨ns ++ [n], by rw [List.map_append]; rfl, fun m hm => ?_, fun d hd => y2 d (List.mem_cons_of_mem _ hd), by simp; omega, rfl⟩⟩
      rcases List.mem_append.mp hm with hm | hm
      · exact y1 m hm
      · rw [List.mem_singleton.mp hm]; exact ⟨n0, n1⟩
    · exact hR _ _ ⟨ns, rfl, y1, fun d hd => y2 d (List.mem_cons_of_mem _ hd), by rw [List.length_map]; omega, rfl⟩
  rintro h' acc ⟨ns, rfl, y1, _, y3, rfl⟩
  rw [List.length_map, List.length_nil, Nat.add_zero] at y3
  have fin : ∀ (b : Int) (p : Str) (x y z : Option D) (h' : Hd), p.length = 1 → 0 ≤ b → b ≤ S.length → (∃ xs', h' a = some (.lst xs') ∧ Src (c + 6) xs') → mRet (mBin addD (mBin addD (mSl (mV 2) mONone (mOSome (mV 4))) (mV 7)) (mSl (mV 2) (mOSome (mBin addD (mV 4) (mK (.int 1)))) mONone)) (fun x _ h => E x h) { nx := fun _ h => Q (.fz .non) h, rt := fun r h => Q r h }
      [some (.raw (.ref a)), some (.str A), some (.str S), some (.int j1), some (.int b), some (.int to), some (.str G), some (.str p), x, y, z] h' := by
    intro b p x y z h' hp b0 b1 z4
    have t5 := len_cto S b0
    have f5 := len_cfr S (j := b + 1) (by omega)
    walk_at "m"
    refine ⟨_, e1 _ _, ?_⟩
    walk_at "m"
    refine ⟨_, add_str (by omega), ?_⟩
    walk_at "m"
    refine ⟨_, e1 _ _, ?_⟩
    refine ⟨_, add_str (by rw [cat_len]; omega), ?_⟩
    exact q' _ (by rw [cat_len, cat_len]; omega) _ z4
  walk_at "m"
  refine ifB (fun _ => ?_) (fun _ => ?_)
  · walk_at "m"
    refine ⟨_, neD_ints ns [], ?_⟩
    walk_at "m"
    refine ifB (fun hne => ?_) (fun hne => ?_)
    · have hn : ns ≠ [] := by simpa using hne
      have hn' : 0 < ns.length := List.length_pos_iff.mpr hn
      walk_at "m"
      refine ⟨a, _, _, rfl, put_same, c + 4, _, congrArg (fun z => [D.int (z : Nat)]) (List.length_map ..), hS4, by omega, by omega, by omega, fun j5 xs5 j50 j51 hS5 => ?_⟩
      obtain ⟨n, hn1, hn2⟩ := atI_ok (xs := ns) j50 j51
      obtain ⟨n0, n1⟩ := y1 n hn2
      refine ⟨_, ix_lst (atI_map hn1), ?_⟩
      walk_at "m"
      refine ⟨a, _, _, rfl, put_same, c + 5, _, rfl, hS5, by omega, by decide, by decide, fun j6 xs6 j60 j61 hS6 => ?_⟩
      obtain ⟨u2, hu2⟩ := ix_str' (S := ("01234*5" : Str)) (i := j6) (by decide) j60 (by show j6 < (7 : Int); omega)
      refine ⟨_, hu2, ?_⟩
      exact fin n _ _ _ _ _ (one _) n0 (by omega) ⟨xs6, put_same, hS6.mono (by omega)⟩
    · exact fin j2 _ _ _ _ _ (one _) j20 (by omega) z4
  · exact fin j2 _ _ _ _ _ (one _) j20 (by omega) z4
end
end Cut
namespace Cut
open PySem L2 DL ML
local macro_rules | `(tactic| walk_at "m") => `(tactic| repeat (first | with_reducible refine ⟨_, rfl, ?_⟩ | refine ⟨_, rfl, ?_⟩ | refine ⟨rfl, ?_⟩ | refine ⟨_, _, rfl, rfl, ?_⟩ | refine ⟨_, _, rfl, ?_⟩ | refine iteT ?_ | refine iteF ?_ | refine ⟨⟨_, rfl⟩, ?_⟩ | refine ⟨Nat.le_of_ble_eq_true rfl, ?_⟩ | refine ⟨(by decide), ?_⟩ | refine ⟨_, ix_t0 _ _, ?_⟩ | refine ⟨_, ix_l0 _ _, ?_⟩))
mutual
theorem rdep_cnt : ∀ r, (rdep r : Int) ≤ cnt r
  | .set _ => by rw [rdep, cnt]; omega
  | .row ps => by have := rdepL_cnt ps; rw [rdep, cnt]; omega
  | .any ps => by have := rdepL_cnt ps; rw [rdep, cnt]; omega
  | .all ps => by have := rdepL_cnt ps; rw [rdep, cnt]; omega
  | .no p => by have := rdep_cnt p; rw [rdep, cnt]; omega
  | .again p _ _ => by have := rdep_cnt p; rw [rdep, cnt]; omega
theorem rdepL_cnt : ∀ ps, (rdepL ps : Int) ≤ (cntL ps).sum
  | [] => by rw [rdepL, cntL]; exact Int.le_refl _
  | p :: ps => by have := rdep_cnt p; have := rdepL_cnt ps; rw [rdepL, cntL, List.sum_cons]; omega
end
theorem ne_pair {A : Str} (hA : Alp A) {r : Rx} (hs : stR A r = true) (ho : okR r = true) (hd : rdep r ≤ 50) (i : Int) : neD (.tup [toD r, .int i]) (.tup [toD r, .int i]) = some (.fz (.bl false)) := by
  have h := lay_toD hA r hs
  have e0 : sd (.tup [toD r, .int i]) = true := by
    rw [sd, sdL, sdL, sdL, sd_toD r ho]; rfl
  have e : shapedD (.tup [toD r, .int i]) = true := by
    unfold shapedD SeqAt.shaped
    have e1 : (D.tup [toD r, .int i]).okP = true := by show ((toD r).okP && true) = true; rw [h.2.1]; rfl
    have e2 : (D.tup [toD r, .int i]).py.canLay0 = true := by
      show (((toD r).py.canLay0 && true)) = true
      rw [h.1]; rfl
    have e3 : (D.tup [toD r, .int i]).py.depth ≤ 64 := by
      show max (toD r).py.depth (max _ _) + 1 ≤ 64
      have := h.2.2
      have z1 : PyData.depthAll (pyL []) = 0 := rfl
      have z2 : (D.int i).py.depth = 0 := rfl
      omega
    rw [e1, e2, decide_eq_true e3]
    rfl
  unfold neD
  rw [e, Bool.and_self, Bool.or_true, if_pos rfl, eqB_eq]
  unfold eqvD
  rw [(eqv_sd _ _ e0 e0).mpr rfl]
  rfl
theorem ne_none (i : Int) : neD (.tup [.non, .int i]) (.tup [.non, .int i]) = some (.fz (.bl false)) := by
  show some (Res.fz (.bl (!eqB _ _))) = _
  rw [eqB_eq]
  unfold eqvD
  rw [(eqv_sd (.tup [.non, .int i]) (.tup [.non, .int i]) rfl rfl).mpr rfl]
  rfl
theorem pPat_good {A : Str} (hA : Alp A) {T : Str} {r : Rx} {j : Nat} (hT : T.length ≤ 399) (h : pPat A.cps.toList T.cps.toList = .ok r j) : Good A r T.length ∧ patR r = true := by
  have hl := len_l T
  unfold pPat at h
  obtain ⟨r1, j1, h1, h⟩ := bnd_ok h
  obtain ⟨_, lj⟩ := pE_len (Nat.zero_le _) h1
  have G := pE_good hA (by omega) (Nat.zero_le _) h1
  split at h
  · cases h
  · split at h
    · rename_i hp
      cases h
      exact ⟨G.mono (by omega), hp⟩
    · cases h
abbrev s_law : Stmt := top 43
abbrev N_law : List Str := ["_law_script", "_law_k", "_law_source_here", "_law_alphabet_here", "_law_text", "_law_nested_here", "_law_turn"]
theorem sc_law : FnScope N_law ["_law_script"] (defScope s_law) := ⟨rfl, rfl, rfl, by decide +kernel, rfl, by decide +kernel, by decide +kernel⟩
def wrapW : List D := [.str "not", .str "any", .str "all", .str "row"]
theorem wrap_ok {A : Str} {r : Rx} {x : D} (hx : x ∈ wrapW) (hs : stR A r = true) (ho : okR r = true) : ∃ r', D.tup [x, toD r] = toD r' ∧ stR A r' = true ∧ okR r' = true ∧ rdep r' = rdep r + 1 ∧ cnt r' = cnt r + 1 := by
  simp only [wrapW, List.mem_cons, List.mem_nil_iff, or_false] at hx
  rcases hx with rfl | rfl | rfl | rfl
  · exact ⟨.no r, rfl, hs, ho, rfl, by rw [cnt]; omega⟩
  · exact ⟨.any [r], rfl, by rw [stR, stRL, stRL, hs]; rfl, by rw [okR, okRL, okRL, ho]; rfl, by rw [rdep, rdepL, rdepL]; omega, by rw [cnt, cntL, cntL, List.sum_cons, List.sum_nil]; omega⟩
  · exact ⟨.all [r], rfl, by rw [stR, stRL, stRL, hs]; rfl, by rw [okR, okRL, okRL, ho]; rfl, by rw [rdep, rdepL, rdepL]; omega, by rw [cnt, cntL, cntL, List.sum_cons, List.sum_nil]; omega⟩
  · exact ⟨.row [r], rfl, by rw [stR, stRL, stRL, hs]; rfl, by rw [okR, okRL, okRL, ho]; rfl, by rw [rdep, rdepL, rdepL]; omega, by rw [cnt, cntL, cntL, List.sum_cons, List.sum_nil]; omega⟩
section
variable {P : Program} {w : World} {K : Fg} {mg : Str → Option Value} {base : Heap} {f : Addr} {fd : FuncData} {CP CN : Addr}
def g_law : FM := fun ds h Q _ => ∃ (ns : List Int), ds = [.scr ns] ∧ ∀ h', Q (.fz (.bl true)) h'
def LI (ns : List Int) (ds : List D) (ρ : Me) (_ : Hd) : Prop := ∃ s1 s2 s3 s4 s5 s6, ρ = [some (.scr ns), s1, s2, s3, s4, s5, s6] ∧ ∀ d ∈ ds, ∃ k : Int, d = .int k ∧ 0 ≤ k ∧ k < 8
theorem ok_law (A : At K mg "law" ["_law_script"] s_law f fd) (m_range : mg "range" = none) (m_len : mg "len" = none) (c_l_draw : Fn1 P w K mg base "_law_draw" 1 2 g_draw) (c_l_source : Fn0 P w K mg base "_law_source" 1 2 g_source)
    (c_l_alphabet : Fn1 P w K mg base "_law_alphabet" 2 2 g_alphabet) (c_l_pattern : Fn1 P w K mg base "_law_pattern" 5 3 g_pattern) (c_l_nested : Fn1 P w K mg base "_law_nested" 8 3 (g_nested 5)) (c_l_written : FnM P w K mg base "_law_written" 91 1 (g_fmt 90))
    (c_l_spoilt : FnM P w K mg base "_law_spoilt" 2 3 g_spoilt) (c_l_told : FnM P w K mg base "_law_told" 186 2 g_told) (c_l_read_pattern : FnM P w K mg base "_law_read_pattern" 185 2 g_rpat) : FnOk P w K mg base (L2.CX P w) 187 f fd ["_law_script"] (spM K 1 g_law) := by
  refine okM (k := 186) A.fn sc_law (by decide) (fun cdv A outer s H E hr tk po => (mss_cons (ms_for po rfl (mi_range1 (by rfl) m_range (ma_cons me_int ma_nil)) (mg_n 1 sc_law.nd rfl (by first | exact Or.inl rfl | exact Or.inr rfl)) (mss_cons (ms_set 2 sc_law.nd rfl (by first | exact Or.inl rfl | exact Or.inr rfl) (me_own (me_c0 c_l_source (hr.mono (by decide)) (by rfl) (ma_cons (me_v 0) (ma_cons (me_v 1) ma_nil)))))
      (mss_cons (ms_set 3 sc_law.nd rfl (by first | exact Or.inl rfl | exact Or.inr rfl) (me_c1 c_l_alphabet (hr.mono (by decide)) (by rfl) (ma_cons (me_v 2) (ma_cons (me_add me_int (me_c1 c_l_draw (hr.mono (by decide)) (by rfl) (ma_cons (me_v 2) (ma_cons me_int ma_nil)))) ma_nil))))
      (mss_cons (ms_set 4 sc_law.nd rfl (by first | exact Or.inl rfl | exact Or.inr rfl) (me_cM c_l_written tk (hr.mono (by decide)) (by rfl) (ma_cons (me_c1 c_l_pattern (hr.mono (by decide)) (by rfl) (ma_cons (me_v 2) (ma_cons (me_v 3) (ma_cons (me_add me_int (me_c1 c_l_draw (hr.mono (by decide)) (by rfl) (ma_cons (me_v 2) (ma_cons me_int ma_nil)))) ma_nil)))) ma_nil)))
      (mss_cons (ms_if (mt_eq hr (me_c1 c_l_draw (hr.mono (by decide)) (by rfl) (ma_cons (me_v 2) (ma_cons me_int ma_nil))) me_int) (mss_cons (ms_set 5 sc_law.nd rfl (by first | exact Or.inl rfl | exact Or.inr rfl) (me_c1 c_l_nested (hr.mono (by decide)) (by rfl) (ma_cons (me_v 2) (ma_cons (me_v 3) (ma_cons (me_add me_int (me_c1 c_l_draw (hr.mono (by decide)) (by rfl) (ma_cons (me_v 2) (ma_cons me_int ma_nil)))) ma_nil)))))
      (mss_cons (ms_for po rfl (mi_range1 (by rfl) m_range (ma_cons (me_ix (me_lst (ma_cons me_int (ma_cons me_int (ma_cons me_int (ma_cons me_int ma_nil))))) (me_c1 c_l_draw (hr.mono (by decide)) (by rfl) (ma_cons (me_v 2) (ma_cons me_int ma_nil))) (fun _ _ => rfl)) ma_nil)) (mg_n 6 sc_law.nd rfl (by first | exact Or.inl rfl | exact Or.inr rfl)) (mss_one (ms_set 5 sc_law.nd rfl (by first | exact Or.inl rfl | exact Or.inr rfl) (me_tup (ma_cons (me_ix (me_lst (ma_cons me_str (ma_cons me_str (ma_cons me_str (ma_cons me_str ma_nil))))) (me_c1 c_l_draw (hr.mono (by decide)) (by rfl) (ma_cons (me_v 2) (ma_cons me_int ma_nil))) (fun _ _ => rfl)) (ma_cons (me_v 5) ma_nil))))))
      (mss_one (ms_set 4 sc_law.nd rfl (by first | exact Or.inl rfl | exact Or.inr rfl) (me_cM c_l_written tk (hr.mono (by decide)) (by rfl) (ma_cons (me_v 5) ma_nil)))))) mss_nil)
      (mss_cons (ms_for po rfl (mi_range1 (by rfl) m_range (ma_cons (me_c1 c_l_draw (hr.mono (by decide)) (by rfl) (ma_cons (me_v 2) (ma_cons me_int ma_nil))) ma_nil)) (mg_n 6 sc_law.nd rfl (by first | exact Or.inl rfl | exact Or.inr rfl)) (mss_one (ms_set 4 sc_law.nd rfl (by first | exact Or.inl rfl | exact Or.inr rfl) (me_cM c_l_spoilt tk (hr.mono (by decide)) (by rfl) (ma_cons (me_v 2) (ma_cons (me_v 3) (ma_cons (me_v 4) ma_nil)))))))
      (mss_one (ms_if (MW.mt (mw_and (mt_lt (me_len (by rfl) m_len (ma_cons (me_v 4) ma_nil)) me_int) (mw_and1 (mt_ne hr (me_cM c_l_told tk (hr.mono (by decide)) (by rfl) (ma_cons (me_v 3) (ma_cons (me_v 4) ma_nil))) (me_cM c_l_read_pattern tk (hr.mono (by decide)) (by rfl) (ma_cons (me_v 3) (ma_cons (me_v 4) ma_nil))))))) (mss_one (ms_ret me_bl)) mss_nil))))))))
      (mss_one (ms_ret me_bl)))) ?_
  rintro ds h Q E hl ⟨ns, rfl, q⟩
  refine ⟨8, rfl, ⟨by decide, by decide⟩, ?_⟩
  refine loopM_inv (LI ns) _ _ _ ⟨none, none, none, none, none, none, rfl, ?_⟩ ?_ ?_
  · intro d hd
    rw [rangeD_map] at hd
    obtain ⟨i, hi, rfl⟩ := List.mem_map.mp hd
    have hi' : i < (8 : Int).toNat := List.mem_range.mp hi
    exact ⟨_, rfl, by omega, by omega⟩
  rotate_left
  · intro ρ h' ⟨s1, s2, s3, s4, s5, s6, e, _⟩
    exact q _
  rintro d es ρ h1 R ⟨s1, s2, s3, s4, s5, s6, rfl, hd⟩ hR
  obtain ⟨k, rfl, k0, k1⟩ := hd d (List.mem_cons_self ..)
  have hd' := fun d h => hd d (List.mem_cons_of_mem _ h)
  clear hd
  walk_at "m"
  refine ⟨k0, by omega, fun xs hS => ?_⟩
  refine ⟨_, rfl, fun a ha => ?_⟩
  walk_at "m"
  refine ⟨a, _, _, rfl, put_same, 0, _, rfl, hS, by omega, by decide, by decide, fun j xs1 j0 j1 hS1 => ?_⟩
  walk_at "m"
  refine ⟨a, _, _, rfl, put_same, 1, _, rfl, hS1, by omega, by omega, by omega, fun A xs2 hA hAl hS2 => ?_⟩
  walk_at "m"
  refine ⟨a, _, _, rfl, put_same, 7, _, rfl, hS2, by omega, by decide, by decide, fun j2 xs3 j20 j21 hS3 => ?_⟩
  walk_at "m"
  refine ⟨a, _, _, rfl, put_same, 8, A, 1 + j2, rfl, hA, hS3, by omega, by omega, by omega, fun r0 xs4 hp hS4 => ?_⟩
  walk_at "m"
  have hfl := fmt_cnt r0 hp.st
  have hct := hp.ct
  refine ⟨hp.ok, by have := hp.dp; omega, by omega, ?_⟩
  dsimp only
  refine seq_cut (fun ρ' h' => ∃ T s5 s6 xs, ρ' = [some (.scr ns), some (.int k), some (.raw (.ref a)), some (.str A), some (.str T), s5, s6] ∧ T.length ≤ 5000 ∧ h' a = some (.lst xs) ∧ Src 20000 xs) (fun R2 hR2 => ?_) ?_
  · walk_at "m"
    refine ⟨a, _, _, rfl, put_same, 5008, _, rfl, hS4, by omega, by decide, by decide, fun j3 xs5 j30 j31 hS5 => ?_⟩
    walk_at "m"
    refine ifB (fun h => ?_) (fun h => ?_)
    rotate_left
    · exact hR2 _ _ ⟨_, _, _, _, rfl, by rw [len_ofL]; omega, put_same, hS5.mono (by omega)⟩
    walk_at "m"
    refine ⟨a, _, _, rfl, put_same, 5009, _, rfl, hS5, by omega, by decide, by decide, fun j4 xs6 j40 j41 hS6 => ?_⟩
    obtain ⟨jn, hjn⟩ : ∃ jn : Nat, (jn : Int) = 1 + j4 := ⟨(1 + j4).toNat, by omega⟩
    have hks : ks jn ≤ 400 := by
      have : jn = 1 ∨ jn = 2 ∨ jn = 3 := by omega
      rcases this with rfl | rfl | rfl <;> decide
    have hcb : cb jn ≤ 40 := by
      have : jn = 1 ∨ jn = 2 ∨ jn = 3 := by omega
      rcases this with rfl | rfl | rfl <;> decide
    walk_at "m"
    refine ⟨a, _, _, rfl, put_same, 5010, jn, A, congrArg (fun z : Int => [D.str A, .int z]) hjn.symm, hA, by omega, by omega, hS6, by omega, fun r' xs7 hn hS7 => ?_⟩
    have hrd := hn.dp
    have hrc := hn.ct
    dsimp only
    refine seq_cut (fun ρ' h' => ∃ r s6 xs, ρ' = [some (.scr ns), some (.int k), some (.raw (.ref a)), some (.str A), some (.str (ofL (fmt r0))), some (toD r), s6] ∧ stR A r = true ∧ okR r = true ∧ rdep r ≤ 80 ∧ cnt r ≤ 120 ∧ h' a = some (.lst xs) ∧ Src 20000 xs) (fun R3 hR3 => ?_) ?_
    · walk_at "m"
      refine ⟨a, _, _, rfl, put_same, 6000, _, rfl, hS7.mono (by omega), by omega, by decide, by decide, fun j5 xs8 j50 j51 hS8 => ?_⟩
      obtain ⟨v, hv, v0, v1⟩ : ∃ v : Int, ixD (.lst [.int 0, .int 0, .int 5, .int 60]) (.int j5) = some (.fz (.int v)) ∧ 0 ≤ v ∧ v ≤ 60 := by
        have : j5 = 0 ∨ j5 = 1 ∨ j5 = 2 ∨ j5 = 3 := by omega
        rcases this with rfl | rfl | rfl | rfl <;> exact ⟨_, rfl, by decide, by decide⟩
      refine ⟨_, hv, v, rfl, ⟨by omega, by omega⟩, ?_⟩
      have hnl : (rangeD 0 v.toNat).length = v.toNat := by rw [rangeD_map, List.length_map, List.length_range]
      refine loopM_inv (fun ds ρ' h' => ∃ r s6 xs, ρ' = [some (.scr ns), some (.int k), some (.raw (.ref a)), some (.str A), some (.str (ofL (fmt r0))), some (toD r), s6] ∧ stR A r = true ∧ okR r = true ∧ rdep r + ds.length ≤ 80 ∧ cnt r + ds.length ≤ 120 ∧ h' a = some (.lst xs) ∧ Src (7000 - ds.length) xs) _ _ _ ⟨r', _, xs8, rfl, hn.st, hn.ok, by omega, by omega, put_same, hS8.mono (by omega)⟩ ?_ ?_
      rotate_left
      · rintro ρ h3 ⟨r, s6, xs, rfl, z1, z2, z3, z4, z5, z6⟩
        exact hR3 _ _ ⟨r, s6, xs, rfl, z1, z2, by simpa using z3, by simpa using z4, z5, z6.mono (by omega)⟩
      rintro d es2 ρ h3 R4 ⟨r, s6, xs, rfl, z1, z2, z3, z4, z5, z6⟩ hR4
      rw [List.length_cons] at z3 z4 z6
      walk_at "m"
      refine ⟨a, _, _, rfl, z5, _, _, rfl, z6, by omega, by decide, by decide, fun j6 xs9 j60 j61 hS9 => ?_⟩
      obtain ⟨x, hx, hxm⟩ := atI_ok (xs := wrapW) j60 (by show _ < (4 : Int); omega)
      refine ⟨_, ix_lst (xs := wrapW) hx, ?_⟩
      walk_at "m"
      obtain ⟨r2, e2, y1, y2, y3, y4⟩ := wrap_ok hxm z1 z2
      have hR5 := hR4 [some (.scr ns), some (.int k), some (.raw (.ref a)), some (.str A), some (.str (ofL (fmt r0))), some (toD r2), some d] (put h3 a (.lst xs9)) ⟨r2, _, xs9, rfl, y1, y2, by omega, by omega, put_same, hS9.mono (by omega)⟩
      rw [← e2] at hR5
      exact hR5
    rintro ρ h3 ⟨r, s6, xs, rfl, z1, z2, z3, z4, z5, z6⟩
    have hf2 := fmt_cnt r z1
    walk_at "m"
    refine ⟨z2, by omega, by omega, ?_⟩
    exact hR2 _ _ ⟨_, _, _, _, rfl, by rw [len_ofL]; omega, z5, z6⟩
  rintro ρ h2 ⟨T, s5, s6, xs, rfl, hT, hha, hxs⟩
  refine seq_cut (fun ρ' h' => ∃ T s5 s6, ρ' = [some (.scr ns), some (.int k), some (.raw (.ref a)), some (.str A), some (.str T), s5, s6] ∧ T.length ≤ 6000) (fun R3 hR3 => ?_) ?_
  · walk_at "m"
    refine ⟨a, _, _, rfl, hha, 20000, _, rfl, hxs, by omega, by decide, by decide, fun j7 xs10 j70 j71 hS10 => ?_⟩
    refine ⟨j7, rfl, ⟨by omega, by omega⟩, ?_⟩
    have hnl : (rangeD 0 j7.toNat).length = j7.toNat := by rw [rangeD_map, List.length_map, List.length_range]
    refine loopM_inv (fun ds ρ' h' => ∃ T s5 s6 xs, ρ' = [some (.scr ns), some (.int k), some (.raw (.ref a)), some (.str A), some (.str T), s5, s6] ∧ T.length + 6 * ds.length ≤ 5100 ∧ h' a = some (.lst xs) ∧ Src (20100 - 6 * ds.length) xs) _ _ _ ⟨T, _, _, xs10, rfl, by omega, put_same, hS10.mono (by omega)⟩ ?_ ?_
    rotate_left
    · rintro ρ h3 ⟨T, s5, s6, xs, rfl, z3, z5, z6⟩
      exact hR3 _ _ ⟨T, s5, s6, rfl, by omega⟩
    rintro d es2 ρ h3 R4 ⟨T, s5, s6, xs, rfl, z3, z5, z6⟩ hR4
    rw [List.length_cons] at z3 z6
    walk_at "m"
    refine ⟨a, xs, _, A, T, rfl, z5, hA, by omega, z6, by omega, fun T' h' y1 ⟨xs', y2, y3⟩ => ?_⟩
    exact hR4 _ _ ⟨T', _, _, xs', rfl, by omega, y2, y3.mono (by omega)⟩
  rintro ρ h3 ⟨T, s5, s6, rfl, hT2⟩
  have fin : ∀ h', R [some (.scr ns), some (.int k), some (.raw (.ref a)), some (.str A), some (.str T), s5, s6] h' := fun h' => hR _ _ ⟨_, _, _, _, _, _, rfl, hd'⟩
  walk_at "m"
  refine ⟨_, len_str (by omega), ?_⟩
  walk_at "m"
  refine ifB (fun hlt => ?_) (fun hlt => ?_)
  rotate_left
  · exact fin _
  have hlt' : T.length ≤ 399 := by
    have := of_decide_eq_true hlt
    omega
  walk_at "m"
  refine ⟨hA, by omega, ?_⟩
  cases e : pPat A.cps.toList T.cps.toList with
  | ok r j =>
    have G : Good A r T.length ∧ patR r = true := pPat_good hA (by omega) e
    have hcn : cnt r ≤ 20 := by
      have hpr := G.2
      unfold patR at hpr
      rw [Bool.and_eq_true, Bool.and_eq_true] at hpr
      exact of_decide_eq_true hpr.2.1
    have hrc := rdep_cnt r
    walk_at "m"
    refine ⟨hA, by omega, ?_⟩
    rw [e]
    refine ⟨_, ne_pair hA G.1.st G.1.ok (by omega) _, ?_⟩
    walk_at "m"
    exact fin _
  | er j =>
    walk_at "m"
    refine ⟨hA, by omega, ?_⟩
    rw [e]
    refine ⟨_, ne_none _, ?_⟩
    walk_at "m"
    exact fin _
end
end Cut
namespace Cut
open PySem L2 DL ML
theorem isT_mk {K : Fg} {C CB : Addr} (ex : ExcC K C) (h1 : PySem.W.kitOne K (.ref C) (.ref CB) = some true) (h2 : PySem.W.kitOne K (.ref C) (.type "ValueError") = some true) : IsT K C (isNt CB) := ⟨ex, fun d b ⟨hb, hd⟩ => by
  subst hb
  rcases hd with rfl | rfl
  · exact ⟨.ref CB, fun H v r u q => by cases r; exact q, h1⟩
  · exact ⟨.type "ValueError", fun H v r u q => by cases r; exact q, h2⟩⟩
end Cut
namespace Cut
open PySem L2 DL ML
theorem gc_int {K : Fg} {h : Heap} {mg : Str → Option Value} {x : Str} {i : Int} {t : Tok} (X : K.In h) (G : h.Ns mainGlobals mg) (e : PySem.W.nsIn K mainGlobals x = some (some (.int i t))) : Gc K mg x (.int i) := ⟨.int i, _, PySem.W.mg_of X G e, ⟨_, rfl⟩, fun _ => .int i⟩
theorem gc_str {K : Fg} {h : Heap} {mg : Str → Option Value} {x i : Str} {t : Tok} (X : K.In h) (G : h.Ns mainGlobals mg) (e : PySem.W.nsIn K mainGlobals x = some (some (.str i t))) : Gc K mg x (.str i) := ⟨.str i, _, PySem.W.mg_of X G e, ⟨_, rfl⟩, fun _ => .str i⟩
theorem gc_LISTED {K : Fg} {h : Heap} {mg : Str → Option Value} {x : Str} {a : Addr} {od : Option Addr} {t0 t1 t2 : Tok} {nn : Nat} {sl : Array (Option Value)} (X : K.In h) (G : h.Ns mainGlobals mg) (e : PySem.W.nsIn K mainGlobals x = some (some (.ref a))) (l : K.lookup a = some ⟨.type "tuple", od, .seq #[.str "row" t0, .str "any" t1, .str "all" t2] nn, sl⟩) : Gc K mg x (.tup [.str "row", .str "any", .str "all"]) :=
  ⟨.ref a, _, PySem.W.mg_of X G e, rfl, fun H => .tup (xs := [.str "row", .str "any", .str "all"]) (.inr ⟨_, _, _, l, rfl, rfl, (show 3 ≤ sizeLine by decide), .cons ⟨_, rfl⟩ (.cons ⟨_, rfl⟩ (.cons ⟨_, rfl⟩ (.nil)))⟩) (.cons (.str _) (.cons (.str _) (.cons (.str _) (.nil))))⟩
theorem gc_KEYWORDS {K : Fg} {h : Heap} {mg : Str → Option Value} {x : Str} {a : Addr} {od : Option Addr} {t0 t1 t2 t3 t4 : Tok} {nn : Nat} {sl : Array (Option Value)} (X : K.In h) (G : h.Ns mainGlobals mg) (e : PySem.W.nsIn K mainGlobals x = some (some (.ref a))) (l : K.lookup a = some ⟨.type "tuple", od, .seq #[.str "row" t0, .str "any" t1, .str "all" t2, .str "not" t3, .str "again" t4] nn, sl⟩) : Gc K mg x (.tup [.str "row", .str "any", .str "all", .str "not", .str "again"]) :=
  ⟨.ref a, _, PySem.W.mg_of X G e, rfl, fun H => .tup (xs := [.str "row", .str "any", .str "all", .str "not", .str "again"]) (.inr ⟨_, _, _, l, rfl, rfl, (show 5 ≤ sizeLine by decide), .cons ⟨_, rfl⟩ (.cons ⟨_, rfl⟩ (.cons ⟨_, rfl⟩ (.cons ⟨_, rfl⟩ (.cons ⟨_, rfl⟩ (.nil)))))⟩) (.cons (.str _) (.cons (.str _) (.cons (.str _) (.cons (.str _) (.cons (.str _) (.nil))))))⟩
theorem all_mk {l : PySem.W.OpenLaw} {w : World} {K : PySem.W.Frag} {h : Heap} {mg : Str → Option Value} {fa : Addr} (X : K.In h) (G : h.Ns mainGlobals mg) (hfa : mg "law" = some (.ref fa))
    {od0 od1 od2 od3 od4 od5 od6 od7 od8 od9 od10 od11 od12 od13 od14 od15 od16 od17 od18 od19 od20 od21 od22 od23 od24 od25 od26 od27 od28 od29 od30 od31 od32 od33 od34 od35 od36 od37 od38 od39 od40 an0 an1 an2 an3 an4 an5 an6 an7 an8 an9 an10 an11 an12 an13 an14 an15 an16 an17 an18 an19 an20 an21 an22 an23 an24 an25 an26 an27 an28 an29 an30 an31 an32 an33 an34 an35 an36 an37 an38 an39 an40 : Option Addr} {sl0 sl1 sl2 sl3 sl4 sl5 sl6 sl7 sl8 sl9 sl10 sl11 sl12 sl13 sl14 sl15 sl16 sl17 sl18 sl19 sl20 sl21 sl22 sl23 sl24 sl25 sl26 sl27 sl28 sl29 sl30 sl31 sl32 sl33 sl34 sl35 sl36 sl37 sl38 sl39 sl40 : Array (Option Value)} {oc0 oc1 oc2 oc3 oc4 oc5 oc6 oc7 oc8 oc9 oc10 oc11 oc12 oc13 oc14 oc15 oc16 oc17 oc18 oc19 oc20 oc21 oc22 oc23 oc24 oc25 oc26 oc27 oc28 oc29 oc30 oc31 oc32 oc33 oc34 oc35 oc36 oc37 oc38 oc39 oc40 kV0 kV1 kV2 kV3 kV4 kV5 kV6 kV7 kV8 kV9 kV10 kV11 kV12 kV13 kV14 kV15 kV16 kV17 kV18 kV19 kV20 kV21 kV22 kV23 kV24 kV25 kV26 kV27 kV28 kV29 kV30 kV31 kV32 kV33 kV34 kV35 kV36 kV37 kV38 kV39 kV40 dc0 dc1 dc2 dc3 dc4 dc5 dc6 dc7 dc8 dc9 dc10 dc11 dc12 dc13 dc14 dc15 dc16 dc17 dc18 dc19 dc20 dc21 dc22 dc23 dc24 dc25 dc26 dc27 dc28 dc29 dc30 dc31 dc32 dc33 dc34 dc35 dc36 dc37 dc38 dc39 dc40 pm0 pm1 pm2 pm3 pm4 pm5 pm6 pm7 pm8 pm9 pm10 pm11 pm12 pm13 pm14 pm15 pm16 pm17 pm18 pm19 pm20 pm21 pm22 pm23 pm24 pm25 pm26 pm27 pm28 pm29 pm30 pm31 pm32 pm33 pm34 pm35 pm36 pm37 pm38 pm39 pm40 cd0 cd1 cd2 cd3 cd4 cd5 cd6 cd7 cd8 cd9 cd10 cd11 cd12 cd13 cd14 cd15 cd16 cd17 cd18 cd19 cd20 cd21 cd22 cd23 cd24 cd25 cd26 cd27 cd28 cd29 cd30 cd31 cd32 cd33 cd34 cd35 cd36 cd37 cd38 cd39 cd40 ct0 ct1 ct2 ct3 ct4 ct5 ct6 ct7 ct8 ct9 ct10 ct11 ct12 ct13 ct14 ct15 ct16 ct17 ct18 ct19 ct20 ct21 ct22 ct23 ct24 ct25 ct26 ct27 ct28 ct29 ct30 ct31 ct32 ct33 ct34 ct35 ct36 ct37 ct38 ct39 ct40 : Value} {f0 f1 f2 f3 f4 f5 f6 f7 f8 f9 f10 f11 f12 f13 f14 f15 f16 f17 f18 f19 f20 f21 f22 f23 f24 f25 f26 f27 f28 f29 f30 f31 f32 f33 f34 f35 f36 f37 f38 f39 f40 : Addr}
    {C_Parser C_InvalidNotation C_CutError : Addr}
    {nm_InvalidNotation q_InvalidNotation : Str} {N_InvalidNotation : Addr} {bs_InvalidNotation sub_InvalidNotation : List Value} {sn_InvalidNotation : List Str} {ab_InvalidNotation : Bool} {col_InvalidNotation : Option Bool} {dd_InvalidNotation : Option Addr} {m0_InvalidNotation m1_InvalidNotation m2_InvalidNotation m3_InvalidNotation m5_InvalidNotation : Option Value}
    {ta0 : Addr} {to0 : Option Addr} {tn0 : Nat} {tl0 : Array (Option Value)} {tt0_0 tt0_1 tt0_2 : Tok} {ta1 : Addr} {to1 : Option Addr} {tn1 : Nat} {tl1 : Array (Option Value)} {tt1_0 tt1_1 tt1_2 tt1_3 tt1_4 : Tok}
    {it0 it1 it2 : Tok}
    {st0 : Tok}
    (n_Parser : PySem.W.nsIn K mainGlobals "Parser" = some (some (.ref C_Parser)))
    (pg_Parser : PySem.W.plainGet K C_Parser Str.empty = true)
    (hd_Parser : PySem.W.hasDictIn K C_Parser = true)
    (po_Parser : PySem.W.plainOver K C_Parser = true)
    (sa_Parser : PySem.W.findIn K (.ref C_Parser) "__setattr__" = some (some (.builtin "object.__setattr__")))
    (mk_Parser : PySem.W.makesIn K C_Parser = true)
    (kc_Parser : PySem.W.keepIn K (.ref C_Parser) = true)
    (no_Parser_alphabet : PySem.W.findIn K (.ref C_Parser) "alphabet" = some none)
    (no_Parser_source : PySem.W.findIn K (.ref C_Parser) "source" = some none)
    (no_Parser_index : PySem.W.findIn K (.ref C_Parser) "index" = some none)
    (n_CutError : PySem.W.nsIn K mainGlobals "CutError" = some (some (.ref C_CutError)))
    (rd_CutError : PySem.W.readsIn K C_CutError (.type "type") = true)
    (sp_CutError : PySem.W.specialIn K (.ref C_CutError) "__getattribute__" = some (some (.builtin "type.__getattribute__")))
    (fi_CutError : PySem.W.findCls K (.ref C_CutError) (.type "type") "__init__" = some (.val (.builtin "ValueError.__init__")))
    (n_InvalidNotation : PySem.W.nsIn K mainGlobals "InvalidNotation" = some (some (.ref C_InvalidNotation)))
    (xl_InvalidNotation : K.lookup C_InvalidNotation = some (excClassObj nm_InvalidNotation q_InvalidNotation C_InvalidNotation N_InvalidNotation bs_InvalidNotation [.ref C_CutError, .type "ValueError", .type "Exception", .type "BaseException", .type "object"] true sn_InvalidNotation sub_InvalidNotation ab_InvalidNotation col_InvalidNotation dd_InvalidNotation m0_InvalidNotation m1_InvalidNotation m2_InvalidNotation m3_InvalidNotation m5_InvalidNotation "ValueError.__new__"))
    (sa_InvalidNotation : PySem.W.findIn K (.ref C_InvalidNotation) "__setattr__" = some (some (.builtin "object.__setattr__")))
    (ga_InvalidNotation : PySem.W.findIn K (.ref C_InvalidNotation) "__getattribute__" = some (some (.builtin "BaseException.__getattribute__")))
    (gg_InvalidNotation : PySem.W.findIn K (.ref C_InvalidNotation) "__getattr__" = some none)
    (ex_InvalidNotation : PySem.W.subIn K (.ref C_InvalidNotation) (.type "BaseException") = some true)
    (ty_InvalidNotation : PySem.W.typeIn K (.ref C_InvalidNotation) = some (.type "type"))
    (kc_InvalidNotation : PySem.W.keepIn K (.ref C_InvalidNotation) = true)
    (hd_InvalidNotation : PySem.W.hasDictIn K C_InvalidNotation = true)
    (no_InvalidNotation_index : PySem.W.findIn K (.ref C_InvalidNotation) "index" = some none)
    (sb_InvalidNotation : PySem.W.subIn K (.ref C_InvalidNotation) (.ref C_InvalidNotation) = some true)
    (cl_InvalidNotation : PySem.W.findIn K (.ref C_InvalidNotation) "__class__" = some (some (.builtin "object.__class__")))
    (cg : PySem.W.specialIn K (.builtin "object.__class__") "__get__" = some (some (.builtin "getset_descriptor.__get__")))
    (ct : PySem.W.takesIn K (.builtin "object.__class__") = some true)
    (cm_InvalidNotation : PySem.W.mroIn K C_InvalidNotation (.type "object") = some true)
    (kt1 : PySem.W.kitOne K (.ref C_InvalidNotation) (.ref C_CutError) = some true)
    (kt2 : PySem.W.kitOne K (.ref C_InvalidNotation) (.type "ValueError") = some true)
    (a0 : PySem.W.nsIn K mainGlobals "is_integer" = some (some (.ref f0)))
    (l0 : K.lookup f0 = some ⟨oc0, od0, .func (PySem.W.fnOf "is_integer" "is_integer" (defArgs s_is_integer) (defBody s_is_integer) (defScope s_is_integer) .none kV0 dc0 pm0 an0 cd0 ct0), sl0⟩)
    (c0 : PySem.W.codeIn K cd0 "is_integer" = true)
    (k0 : PySem.W.keepIn K (.ref f0) = true)
    (a1 : PySem.W.nsIn K mainGlobals "is_set" = some (some (.ref f1)))
    (l1 : K.lookup f1 = some ⟨oc1, od1, .func (PySem.W.fnOf "is_set" "is_set" (defArgs s_is_set) (defBody s_is_set) (defScope s_is_set) .none kV1 dc1 pm1 an1 cd1 ct1), sl1⟩)
    (c1 : PySem.W.codeIn K cd1 "is_set" = true)
    (k1 : PySem.W.keepIn K (.ref f1) = true)
    (a2 : PySem.W.nsIn K mainGlobals "is_again" = some (some (.ref f2)))
    (l2 : K.lookup f2 = some ⟨oc2, od2, .func (PySem.W.fnOf "is_again" "is_again" (defArgs s_is_again) (defBody s_is_again) (defScope s_is_again) .none kV2 dc2 pm2 an2 cd2 ct2), sl2⟩)
    (c2 : PySem.W.codeIn K cd2 "is_again" = true)
    (k2 : PySem.W.keepIn K (.ref f2) = true)
    (a3 : PySem.W.nsIn K mainGlobals "is_expression" = some (some (.ref f3)))
    (l3 : K.lookup f3 = some ⟨oc3, od3, .func (PySem.W.fnOf "is_expression" "is_expression" (defArgs s_is_expression) (defBody s_is_expression) (defScope s_is_expression) .none kV3 dc3 pm3 an3 cd3 ct3), sl3⟩)
    (c3 : PySem.W.codeIn K cd3 "is_expression" = true)
    (k3 : PySem.W.keepIn K (.ref f3) = true)
    (a4 : PySem.W.nsIn K mainGlobals "parts_of" = some (some (.ref f4)))
    (l4 : K.lookup f4 = some ⟨oc4, od4, .func (PySem.W.fnOf "parts_of" "parts_of" (defArgs s_parts_of) (defBody s_parts_of) (defScope s_parts_of) .none kV4 dc4 pm4 an4 cd4 ct4), sl4⟩)
    (c4 : PySem.W.codeIn K cd4 "parts_of" = true)
    (k4 : PySem.W.keepIn K (.ref f4) = true)
    (a5 : PySem.W.nsIn K mainGlobals "count_tuples" = some (some (.ref f5)))
    (l5 : K.lookup f5 = some ⟨oc5, od5, .func (PySem.W.fnOf "count_tuples" "count_tuples" (defArgs s_count_tuples) (defBody s_count_tuples) (defScope s_count_tuples) .none kV5 dc5 pm5 an5 cd5 ct5), sl5⟩)
    (c5 : PySem.W.codeIn K cd5 "count_tuples" = true)
    (k5 : PySem.W.keepIn K (.ref f5) = true)
    (a6 : PySem.W.nsIn K mainGlobals "width" = some (some (.ref f6)))
    (l6 : K.lookup f6 = some ⟨oc6, od6, .func (PySem.W.fnOf "width" "width" (defArgs s_width) (defBody s_width) (defScope s_width) .none kV6 dc6 pm6 an6 cd6 ct6), sl6⟩)
    (c6 : PySem.W.codeIn K cd6 "width" = true)
    (k6 : PySem.W.keepIn K (.ref f6) = true)
    (a7 : PySem.W.nsIn K mainGlobals "is_plain" = some (some (.ref f7)))
    (l7 : K.lookup f7 = some ⟨oc7, od7, .func (PySem.W.fnOf "is_plain" "is_plain" (defArgs s_is_plain) (defBody s_is_plain) (defScope s_is_plain) .none kV7 dc7 pm7 an7 cd7 ct7), sl7⟩)
    (c7 : PySem.W.codeIn K cd7 "is_plain" = true)
    (k7 : PySem.W.keepIn K (.ref f7) = true)
    (a8 : PySem.W.nsIn K mainGlobals "has_plain_repeats" = some (some (.ref f8)))
    (l8 : K.lookup f8 = some ⟨oc8, od8, .func (PySem.W.fnOf "has_plain_repeats" "has_plain_repeats" (defArgs s_has_plain_repeats) (defBody s_has_plain_repeats) (defScope s_has_plain_repeats) .none kV8 dc8 pm8 an8 cd8 ct8), sl8⟩)
    (c8 : PySem.W.codeIn K cd8 "has_plain_repeats" = true)
    (k8 : PySem.W.keepIn K (.ref f8) = true)
    (a9 : PySem.W.nsIn K mainGlobals "is_pattern" = some (some (.ref f9)))
    (l9 : K.lookup f9 = some ⟨oc9, od9, .func (PySem.W.fnOf "is_pattern" "is_pattern" (defArgs s_is_pattern) (defBody s_is_pattern) (defScope s_is_pattern) .none kV9 dc9 pm9 an9 cd9 ct9), sl9⟩)
    (c9 : PySem.W.codeIn K cd9 "is_pattern" = true)
    (k9 : PySem.W.keepIn K (.ref f9) = true)
    (a10 : PySem.W.nsIn K mainGlobals "parse_pattern" = some (some (.ref f10)))
    (l10 : K.lookup f10 = some ⟨oc10, od10, .func (PySem.W.fnOf "parse_pattern" "parse_pattern" (defArgs s_parse_pattern) (defBody s_parse_pattern) (defScope s_parse_pattern) .none kV10 dc10 pm10 an10 cd10 ct10), sl10⟩)
    (c10 : PySem.W.codeIn K cd10 "parse_pattern" = true)
    (k10 : PySem.W.keepIn K (.ref f10) = true)
    (a11 : PySem.W.nsIn K mainGlobals "_law_source" = some (some (.ref f11)))
    (l11 : K.lookup f11 = some ⟨oc11, od11, .func (PySem.W.fnOf "_law_source" "_law_source" (defArgs s_l_source) (defBody s_l_source) (defScope s_l_source) .none kV11 dc11 pm11 an11 cd11 ct11), sl11⟩)
    (c11 : PySem.W.codeIn K cd11 "_law_source" = true)
    (k11 : PySem.W.keepIn K (.ref f11) = true)
    (a12 : PySem.W.nsIn K mainGlobals "_law_draw" = some (some (.ref f12)))
    (l12 : K.lookup f12 = some ⟨oc12, od12, .func (PySem.W.fnOf "_law_draw" "_law_draw" (defArgs s_l_draw) (defBody s_l_draw) (defScope s_l_draw) .none kV12 dc12 pm12 an12 cd12 ct12), sl12⟩)
    (c12 : PySem.W.codeIn K cd12 "_law_draw" = true)
    (k12 : PySem.W.keepIn K (.ref f12) = true)
    (a13 : PySem.W.nsIn K mainGlobals "_law_alphabet" = some (some (.ref f13)))
    (l13 : K.lookup f13 = some ⟨oc13, od13, .func (PySem.W.fnOf "_law_alphabet" "_law_alphabet" (defArgs s_l_alphabet) (defBody s_l_alphabet) (defScope s_l_alphabet) .none kV13 dc13 pm13 an13 cd13 ct13), sl13⟩)
    (c13 : PySem.W.codeIn K cd13 "_law_alphabet" = true)
    (k13 : PySem.W.keepIn K (.ref f13) = true)
    (a14 : PySem.W.nsIn K mainGlobals "_law_set" = some (some (.ref f14)))
    (l14 : K.lookup f14 = some ⟨oc14, od14, .func (PySem.W.fnOf "_law_set" "_law_set" (defArgs s_l_set) (defBody s_l_set) (defScope s_l_set) .none kV14 dc14 pm14 an14 cd14 ct14), sl14⟩)
    (c14 : PySem.W.codeIn K cd14 "_law_set" = true)
    (k14 : PySem.W.keepIn K (.ref f14) = true)
    (a15 : PySem.W.nsIn K mainGlobals "_law_row" = some (some (.ref f15)))
    (l15 : K.lookup f15 = some ⟨oc15, od15, .func (PySem.W.fnOf "_law_row" "_law_row" (defArgs s_l_row) (defBody s_l_row) (defScope s_l_row) .none kV15 dc15 pm15 an15 cd15 ct15), sl15⟩)
    (c15 : PySem.W.codeIn K cd15 "_law_row" = true)
    (k15 : PySem.W.keepIn K (.ref f15) = true)
    (a16 : PySem.W.nsIn K mainGlobals "_law_plain" = some (some (.ref f16)))
    (l16 : K.lookup f16 = some ⟨oc16, od16, .func (PySem.W.fnOf "_law_plain" "_law_plain" (defArgs s_l_plain) (defBody s_l_plain) (defScope s_l_plain) .none kV16 dc16 pm16 an16 cd16 ct16), sl16⟩)
    (c16 : PySem.W.codeIn K cd16 "_law_plain" = true)
    (k16 : PySem.W.keepIn K (.ref f16) = true)
    (a17 : PySem.W.nsIn K mainGlobals "_law_pattern" = some (some (.ref f17)))
    (l17 : K.lookup f17 = some ⟨oc17, od17, .func (PySem.W.fnOf "_law_pattern" "_law_pattern" (defArgs s_l_pattern) (defBody s_l_pattern) (defScope s_l_pattern) .none kV17 dc17 pm17 an17 cd17 ct17), sl17⟩)
    (c17 : PySem.W.codeIn K cd17 "_law_pattern" = true)
    (k17 : PySem.W.keepIn K (.ref f17) = true)
    (a18 : PySem.W.nsIn K mainGlobals "_law_nested" = some (some (.ref f18)))
    (l18 : K.lookup f18 = some ⟨oc18, od18, .func (PySem.W.fnOf "_law_nested" "_law_nested" (defArgs s_l_nested) (defBody s_l_nested) (defScope s_l_nested) .none kV18 dc18 pm18 an18 cd18 ct18), sl18⟩)
    (c18 : PySem.W.codeIn K cd18 "_law_nested" = true)
    (k18 : PySem.W.keepIn K (.ref f18) = true)
    (a19 : PySem.W.nsIn K mainGlobals "_law_measures" = some (some (.ref f19)))
    (l19 : K.lookup f19 = some ⟨oc19, od19, .func (PySem.W.fnOf "_law_measures" "_law_measures" (defArgs s_l_measures) (defBody s_l_measures) (defScope s_l_measures) .none kV19 dc19 pm19 an19 cd19 ct19), sl19⟩)
    (c19 : PySem.W.codeIn K cd19 "_law_measures" = true)
    (k19 : PySem.W.keepIn K (.ref f19) = true)
    (a20 : PySem.W.nsIn K mainGlobals "_law_is_pattern" = some (some (.ref f20)))
    (l20 : K.lookup f20 = some ⟨oc20, od20, .func (PySem.W.fnOf "_law_is_pattern" "_law_is_pattern" (defArgs s_l_is_pattern) (defBody s_l_is_pattern) (defScope s_l_is_pattern) .none kV20 dc20 pm20 an20 cd20 ct20), sl20⟩)
    (c20 : PySem.W.codeIn K cd20 "_law_is_pattern" = true)
    (k20 : PySem.W.keepIn K (.ref f20) = true)
    (a21 : PySem.W.nsIn K mainGlobals "_law_written" = some (some (.ref f21)))
    (l21 : K.lookup f21 = some ⟨oc21, od21, .func (PySem.W.fnOf "_law_written" "_law_written" (defArgs s_l_written) (defBody s_l_written) (defScope s_l_written) .none kV21 dc21 pm21 an21 cd21 ct21), sl21⟩)
    (c21 : PySem.W.codeIn K cd21 "_law_written" = true)
    (k21 : PySem.W.keepIn K (.ref f21) = true)
    (a22 : PySem.W.nsIn K mainGlobals "_law_read_word" = some (some (.ref f22)))
    (l22 : K.lookup f22 = some ⟨oc22, od22, .func (PySem.W.fnOf "_law_read_word" "_law_read_word" (defArgs s_l_read_word) (defBody s_l_read_word) (defScope s_l_read_word) .none kV22 dc22 pm22 an22 cd22 ct22), sl22⟩)
    (c22 : PySem.W.codeIn K cd22 "_law_read_word" = true)
    (k22 : PySem.W.keepIn K (.ref f22) = true)
    (a23 : PySem.W.nsIn K mainGlobals "_law_read_set" = some (some (.ref f23)))
    (l23 : K.lookup f23 = some ⟨oc23, od23, .func (PySem.W.fnOf "_law_read_set" "_law_read_set" (defArgs s_l_read_set) (defBody s_l_read_set) (defScope s_l_read_set) .none kV23 dc23 pm23 an23 cd23 ct23), sl23⟩)
    (c23 : PySem.W.codeIn K cd23 "_law_read_set" = true)
    (k23 : PySem.W.keepIn K (.ref f23) = true)
    (a24 : PySem.W.nsIn K mainGlobals "_law_read_again" = some (some (.ref f24)))
    (l24 : K.lookup f24 = some ⟨oc24, od24, .func (PySem.W.fnOf "_law_read_again" "_law_read_again" (defArgs s_l_read_again) (defBody s_l_read_again) (defScope s_l_read_again) .none kV24 dc24 pm24 an24 cd24 ct24), sl24⟩)
    (c24 : PySem.W.codeIn K cd24 "_law_read_again" = true)
    (k24 : PySem.W.keepIn K (.ref f24) = true)
    (a25 : PySem.W.nsIn K mainGlobals "_law_read_parts" = some (some (.ref f25)))
    (l25 : K.lookup f25 = some ⟨oc25, od25, .func (PySem.W.fnOf "_law_read_parts" "_law_read_parts" (defArgs s_l_read_parts) (defBody s_l_read_parts) (defScope s_l_read_parts) .none kV25 dc25 pm25 an25 cd25 ct25), sl25⟩)
    (c25 : PySem.W.codeIn K cd25 "_law_read_parts" = true)
    (k25 : PySem.W.keepIn K (.ref f25) = true)
    (a26 : PySem.W.nsIn K mainGlobals "_law_read_expression" = some (some (.ref f26)))
    (l26 : K.lookup f26 = some ⟨oc26, od26, .func (PySem.W.fnOf "_law_read_expression" "_law_read_expression" (defArgs s_l_read_expression) (defBody s_l_read_expression) (defScope s_l_read_expression) .none kV26 dc26 pm26 an26 cd26 ct26), sl26⟩)
    (c26 : PySem.W.codeIn K cd26 "_law_read_expression" = true)
    (k26 : PySem.W.keepIn K (.ref f26) = true)
    (a27 : PySem.W.nsIn K mainGlobals "_law_read_pattern" = some (some (.ref f27)))
    (l27 : K.lookup f27 = some ⟨oc27, od27, .func (PySem.W.fnOf "_law_read_pattern" "_law_read_pattern" (defArgs s_l_read_pattern) (defBody s_l_read_pattern) (defScope s_l_read_pattern) .none kV27 dc27 pm27 an27 cd27 ct27), sl27⟩)
    (c27 : PySem.W.codeIn K cd27 "_law_read_pattern" = true)
    (k27 : PySem.W.keepIn K (.ref f27) = true)
    (a28 : PySem.W.nsIn K mainGlobals "_law_spoilt" = some (some (.ref f28)))
    (l28 : K.lookup f28 = some ⟨oc28, od28, .func (PySem.W.fnOf "_law_spoilt" "_law_spoilt" (defArgs s_l_spoilt) (defBody s_l_spoilt) (defScope s_l_spoilt) .none kV28 dc28 pm28 an28 cd28 ct28), sl28⟩)
    (c28 : PySem.W.codeIn K cd28 "_law_spoilt" = true)
    (k28 : PySem.W.keepIn K (.ref f28) = true)
    (a29 : PySem.W.nsIn K mainGlobals "_law_told" = some (some (.ref f29)))
    (l29 : K.lookup f29 = some ⟨oc29, od29, .func (PySem.W.fnOf "_law_told" "_law_told" (defArgs s_l_told) (defBody s_l_told) (defScope s_l_told) .none kV29 dc29 pm29 an29 cd29 ct29), sl29⟩)
    (c29 : PySem.W.codeIn K cd29 "_law_told" = true)
    (k29 : PySem.W.keepIn K (.ref f29) = true)
    (a30 : PySem.W.nsIn K mainGlobals "law" = some (some (.ref f30)))
    (l30 : K.lookup f30 = some ⟨oc30, od30, .func (PySem.W.fnOf "law" "law" (defArgs s_law) (defBody s_law) (defScope s_law) .none kV30 dc30 pm30 an30 cd30 ct30), sl30⟩)
    (c30 : PySem.W.codeIn K cd30 "law" = true)
    (k30 : PySem.W.keepIn K (.ref f30) = true)
    (a31 : PySem.W.findIn K (.ref C_Parser) "__init__" = some (some (.ref f31)))
    (i31 : PySem.W.isFn K (.ref f31) = true)
    (l31 : K.lookup f31 = some ⟨oc31, od31, .func (PySem.W.fnOf "__init__" "Parser.__init__" (defArgs s_Parser_init) (defBody s_Parser_init) (defScope s_Parser_init) .none kV31 dc31 pm31 an31 cd31 ct31), sl31⟩)
    (c31 : PySem.W.codeIn K cd31 "Parser.__init__" = true)
    (k31 : PySem.W.keepIn K (.ref f31) = true)
    (a32 : PySem.W.findIn K (.ref C_Parser) "character" = some (some (.ref f32)))
    (i32 : PySem.W.isFn K (.ref f32) = true)
    (l32 : K.lookup f32 = some ⟨oc32, od32, .func (PySem.W.fnOf "character" "Parser.character" (defArgs s_Parser_character) (defBody s_Parser_character) (defScope s_Parser_character) .none kV32 dc32 pm32 an32 cd32 ct32), sl32⟩)
    (c32 : PySem.W.codeIn K cd32 "Parser.character" = true)
    (k32 : PySem.W.keepIn K (.ref f32) = true)
    (a33 : PySem.W.findIn K (.ref C_Parser) "expect" = some (some (.ref f33)))
    (i33 : PySem.W.isFn K (.ref f33) = true)
    (l33 : K.lookup f33 = some ⟨oc33, od33, .func (PySem.W.fnOf "expect" "Parser.expect" (defArgs s_Parser_expect) (defBody s_Parser_expect) (defScope s_Parser_expect) .none kV33 dc33 pm33 an33 cd33 ct33), sl33⟩)
    (c33 : PySem.W.codeIn K cd33 "Parser.expect" = true)
    (k33 : PySem.W.keepIn K (.ref f33) = true)
    (a34 : PySem.W.findIn K (.ref C_Parser) "keyword" = some (some (.ref f34)))
    (i34 : PySem.W.isFn K (.ref f34) = true)
    (l34 : K.lookup f34 = some ⟨oc34, od34, .func (PySem.W.fnOf "keyword" "Parser.keyword" (defArgs s_Parser_keyword) (defBody s_Parser_keyword) (defScope s_Parser_keyword) .none kV34 dc34 pm34 an34 cd34 ct34), sl34⟩)
    (c34 : PySem.W.codeIn K cd34 "Parser.keyword" = true)
    (k34 : PySem.W.keepIn K (.ref f34) = true)
    (a35 : PySem.W.findIn K (.ref C_Parser) "integer" = some (some (.ref f35)))
    (i35 : PySem.W.isFn K (.ref f35) = true)
    (l35 : K.lookup f35 = some ⟨oc35, od35, .func (PySem.W.fnOf "integer" "Parser.integer" (defArgs s_Parser_integer) (defBody s_Parser_integer) (defScope s_Parser_integer) .none kV35 dc35 pm35 an35 cd35 ct35), sl35⟩)
    (c35 : PySem.W.codeIn K cd35 "Parser.integer" = true)
    (k35 : PySem.W.keepIn K (.ref f35) = true)
    (a36 : PySem.W.findIn K (.ref C_Parser) "character_set" = some (some (.ref f36)))
    (i36 : PySem.W.isFn K (.ref f36) = true)
    (l36 : K.lookup f36 = some ⟨oc36, od36, .func (PySem.W.fnOf "character_set" "Parser.character_set" (defArgs s_Parser_character_set) (defBody s_Parser_character_set) (defScope s_Parser_character_set) .none kV36 dc36 pm36 an36 cd36 ct36), sl36⟩)
    (c36 : PySem.W.codeIn K cd36 "Parser.character_set" = true)
    (k36 : PySem.W.keepIn K (.ref f36) = true)
    (a37 : PySem.W.findIn K (.ref C_Parser) "repeat" = some (some (.ref f37)))
    (i37 : PySem.W.isFn K (.ref f37) = true)
    (l37 : K.lookup f37 = some ⟨oc37, od37, .func (PySem.W.fnOf "repeat" "Parser.repeat" (defArgs s_Parser_repeat) (defBody s_Parser_repeat) (defScope s_Parser_repeat) .none kV37 dc37 pm37 an37 cd37 ct37), sl37⟩)
    (c37 : PySem.W.codeIn K cd37 "Parser.repeat" = true)
    (k37 : PySem.W.keepIn K (.ref f37) = true)
    (a38 : PySem.W.findIn K (.ref C_Parser) "parts" = some (some (.ref f38)))
    (i38 : PySem.W.isFn K (.ref f38) = true)
    (l38 : K.lookup f38 = some ⟨oc38, od38, .func (PySem.W.fnOf "parts" "Parser.parts" (defArgs s_Parser_parts) (defBody s_Parser_parts) (defScope s_Parser_parts) .none kV38 dc38 pm38 an38 cd38 ct38), sl38⟩)
    (c38 : PySem.W.codeIn K cd38 "Parser.parts" = true)
    (k38 : PySem.W.keepIn K (.ref f38) = true)
    (a39 : PySem.W.findIn K (.ref C_Parser) "expression" = some (some (.ref f39)))
    (i39 : PySem.W.isFn K (.ref f39) = true)
    (l39 : K.lookup f39 = some ⟨oc39, od39, .func (PySem.W.fnOf "expression" "Parser.expression" (defArgs s_Parser_expression) (defBody s_Parser_expression) (defScope s_Parser_expression) .none kV39 dc39 pm39 an39 cd39 ct39), sl39⟩)
    (c39 : PySem.W.codeIn K cd39 "Parser.expression" = true)
    (k39 : PySem.W.keepIn K (.ref f39) = true)
    (a40 : PySem.W.findIn K (.ref C_InvalidNotation) "__init__" = some (some (.ref f40)))
    (i40 : PySem.W.typeIn K (.ref f40) = some (.type "function"))
    (l40 : K.lookup f40 = some ⟨oc40, od40, .func (PySem.W.fnOf "__init__" "InvalidNotation.__init__" (defArgs s_InvalidNotation_init) (defBody s_InvalidNotation_init) (defScope s_InvalidNotation_init) .none kV40 dc40 pm40 an40 cd40 ct40), sl40⟩)
    (c40 : PySem.W.codeIn K cd40 "InvalidNotation.__init__" = true)
    (k40 : PySem.W.keepIn K (.ref f40) = true)
    (ii0 : PySem.W.nsIn K mainGlobals "MOST_REPEATS" = some (some (.int 4 it0)))
    (ii1 : PySem.W.nsIn K mainGlobals "MOST_WIDTH" = some (some (.int 10 it1)))
    (ii2 : PySem.W.nsIn K mainGlobals "MOST_TUPLES" = some (some (.int 20 it2)))
    (is0 : PySem.W.nsIn K mainGlobals "DIGITS" = some (some (.str "0123456789" st0)))
    (t0 : PySem.W.nsIn K mainGlobals "LISTED" = some (some (.ref ta0)))
    (u0 : K.lookup ta0 = some ⟨.type "tuple", to0, .seq #[.str "row" tt0_0, .str "any" tt0_1, .str "all" tt0_2] tn0, tl0⟩)
    (t1 : PySem.W.nsIn K mainGlobals "KEYWORDS" = some (some (.ref ta1)))
    (u1 : K.lookup ta1 = some ⟨.type "tuple", to1, .seq #[.str "row" tt1_0, .str "any" tt1_1, .str "all" tt1_2, .str "not" tt1_3, .str "again" tt1_4] tn1, tl1⟩)
    (z0 : PySem.W.nsIn K mainGlobals "isinstance" = some none)
    (z1 : PySem.W.nsIn K mainGlobals "int" = some none)
    (z2 : PySem.W.nsIn K mainGlobals "bool" = some none)
    (z3 : PySem.W.nsIn K mainGlobals "str" = some none)
    (z4 : PySem.W.nsIn K mainGlobals "tuple" = some none)
    (z5 : PySem.W.nsIn K mainGlobals "len" = some none)
    (z6 : PySem.W.nsIn K mainGlobals "all" = some none)
    (z7 : PySem.W.nsIn K mainGlobals "sum" = some none)
    (z8 : PySem.W.nsIn K mainGlobals "max" = some none)
    (z9 : PySem.W.nsIn K mainGlobals "min" = some none)
    (z10 : PySem.W.nsIn K mainGlobals "range" = some none)
    (z11 : PySem.W.nsIn K mainGlobals "list" = some none)
    (z12 : PySem.W.nsIn K mainGlobals "ValueError" = some none)
    : ∃ fd : FuncData, (∀ (s : Shared) (v : Value), BindsTo s fd ⟨[v], []⟩ [("_law_script", v)]) ∧ ∀ base : Heap, K.In base → base.Ns mainGlobals mg → FnOk l.prog w K mg base (L2.CX l.prog w) 187 fa fd ["_law_script"] (spM K 1 g_law) := by
  have e := hfa.symm.trans (PySem.W.mg_of X G a30)
  cases e
  have cl_Parser : Cls K C_Parser := ⟨pg_Parser, hd_Parser, po_Parser, sa_Parser⟩
  have f_Parser_alphabet : Fo K C_Parser "alphabet" := ⟨cl_Parser, no_Parser_alphabet⟩
  have f_Parser_source : Fo K C_Parser "source" := ⟨cl_Parser, no_Parser_source⟩
  have f_Parser_index : Fo K C_Parser "index" := ⟨cl_Parser, no_Parser_index⟩
  have F0 := fun_mk (st := s_is_integer) l0 c0 k0
  have A_is_integer : At K mg "is_integer" ["value"] s_is_integer _ _ := ⟨F0, PySem.W.mg_of X G a0, F0.binds (ps := ["value"]) fun _ _ _ _ _ _ us hl => match us, hl with | [_], _ => rfl⟩
  have F1 := fun_mk (st := s_is_set) l1 c1 k1
  have A_is_set : At K mg "is_set" ["alphabet", "parts"] s_is_set _ _ := ⟨F1, PySem.W.mg_of X G a1, F1.binds (ps := ["alphabet", "parts"]) fun _ _ _ _ _ _ us hl => match us, hl with | [_, _], _ => rfl⟩
  have F2 := fun_mk (st := s_is_again) l2 c2 k2
  have A_is_again : At K mg "is_again" ["alphabet", "parts"] s_is_again _ _ := ⟨F2, PySem.W.mg_of X G a2, F2.binds (ps := ["alphabet", "parts"]) fun _ _ _ _ _ _ us hl => match us, hl with | [_, _], _ => rfl⟩
  have F3 := fun_mk (st := s_is_expression) l3 c3 k3
  have A_is_expression : At K mg "is_expression" ["alphabet", "value"] s_is_expression _ _ := ⟨F3, PySem.W.mg_of X G a3, F3.binds (ps := ["alphabet", "value"]) fun _ _ _ _ _ _ us hl => match us, hl with | [_, _], _ => rfl⟩
  have F4 := fun_mk (st := s_parts_of) l4 c4 k4
  have A_parts_of : At K mg "parts_of" ["expression"] s_parts_of _ _ := ⟨F4, PySem.W.mg_of X G a4, F4.binds (ps := ["expression"]) fun _ _ _ _ _ _ us hl => match us, hl with | [_], _ => rfl⟩
  have F5 := fun_mk (st := s_count_tuples) l5 c5 k5
  have A_count_tuples : At K mg "count_tuples" ["expression"] s_count_tuples _ _ := ⟨F5, PySem.W.mg_of X G a5, F5.binds (ps := ["expression"]) fun _ _ _ _ _ _ us hl => match us, hl with | [_], _ => rfl⟩
  have F6 := fun_mk (st := s_width) l6 c6 k6
  have A_width : At K mg "width" ["expression"] s_width _ _ := ⟨F6, PySem.W.mg_of X G a6, F6.binds (ps := ["expression"]) fun _ _ _ _ _ _ us hl => match us, hl with | [_], _ => rfl⟩
  have F7 := fun_mk (st := s_is_plain) l7 c7 k7
  have A_is_plain : At K mg "is_plain" ["expression"] s_is_plain _ _ := ⟨F7, PySem.W.mg_of X G a7, F7.binds (ps := ["expression"]) fun _ _ _ _ _ _ us hl => match us, hl with | [_], _ => rfl⟩
  have F8 := fun_mk (st := s_has_plain_repeats) l8 c8 k8
  have A_has_plain_repeats : At K mg "has_plain_repeats" ["expression"] s_has_plain_repeats _ _ := ⟨F8, PySem.W.mg_of X G a8, F8.binds (ps := ["expression"]) fun _ _ _ _ _ _ us hl => match us, hl with | [_], _ => rfl⟩
  have F9 := fun_mk (st := s_is_pattern) l9 c9 k9
  have A_is_pattern : At K mg "is_pattern" ["alphabet", "value"] s_is_pattern _ _ := ⟨F9, PySem.W.mg_of X G a9, F9.binds (ps := ["alphabet", "value"]) fun _ _ _ _ _ _ us hl => match us, hl with | [_, _], _ => rfl⟩
  have F10 := fun_mk (st := s_parse_pattern) l10 c10 k10
  have A_parse_pattern : At K mg "parse_pattern" ["alphabet", "text"] s_parse_pattern _ _ := ⟨F10, PySem.W.mg_of X G a10, F10.binds (ps := ["alphabet", "text"]) fun _ _ _ _ _ _ us hl => match us, hl with | [_, _], _ => rfl⟩
  have F11 := fun_mk (st := s_l_source) l11 c11 k11
  have A_l_source : At K mg "_law_source" ["_law_script", "_law_k"] s_l_source _ _ := ⟨F11, PySem.W.mg_of X G a11, F11.binds (ps := ["_law_script", "_law_k"]) fun _ _ _ _ _ _ us hl => match us, hl with | [_, _], _ => rfl⟩
  have F12 := fun_mk (st := s_l_draw) l12 c12 k12
  have A_l_draw : At K mg "_law_draw" ["_law_source_here", "_law_many"] s_l_draw _ _ := ⟨F12, PySem.W.mg_of X G a12, F12.binds (ps := ["_law_source_here", "_law_many"]) fun _ _ _ _ _ _ us hl => match us, hl with | [_, _], _ => rfl⟩
  have F13 := fun_mk (st := s_l_alphabet) l13 c13 k13
  have A_l_alphabet : At K mg "_law_alphabet" ["_law_source_here", "_law_many"] s_l_alphabet _ _ := ⟨F13, PySem.W.mg_of X G a13, F13.binds (ps := ["_law_source_here", "_law_many"]) fun _ _ _ _ _ _ us hl => match us, hl with | [_, _], _ => rfl⟩
  have F14 := fun_mk (st := s_l_set) l14 c14 k14
  have A_l_set : At K mg "_law_set" ["_law_source_here", "_law_alphabet_here"] s_l_set _ _ := ⟨F14, PySem.W.mg_of X G a14, F14.binds (ps := ["_law_source_here", "_law_alphabet_here"]) fun _ _ _ _ _ _ us hl => match us, hl with | [_, _], _ => rfl⟩
  have F15 := fun_mk (st := s_l_row) l15 c15 k15
  have A_l_row : At K mg "_law_row" ["_law_source_here", "_law_alphabet_here", "_law_many"] s_l_row _ _ := ⟨F15, PySem.W.mg_of X G a15, F15.binds (ps := ["_law_source_here", "_law_alphabet_here", "_law_many"]) fun _ _ _ _ _ _ us hl => match us, hl with | [_, _, _], _ => rfl⟩
  have F16 := fun_mk (st := s_l_plain) l16 c16 k16
  have A_l_plain : At K mg "_law_plain" ["_law_source_here", "_law_alphabet_here", "_law_room"] s_l_plain _ _ := ⟨F16, PySem.W.mg_of X G a16, F16.binds (ps := ["_law_source_here", "_law_alphabet_here", "_law_room"]) fun _ _ _ _ _ _ us hl => match us, hl with | [_, _, _], _ => rfl⟩
  have F17 := fun_mk (st := s_l_pattern) l17 c17 k17
  have A_l_pattern : At K mg "_law_pattern" ["_law_source_here", "_law_alphabet_here", "_law_room"] s_l_pattern _ _ := ⟨F17, PySem.W.mg_of X G a17, F17.binds (ps := ["_law_source_here", "_law_alphabet_here", "_law_room"]) fun _ _ _ _ _ _ us hl => match us, hl with | [_, _, _], _ => rfl⟩
  have F18 := fun_mk (st := s_l_nested) l18 c18 k18
  have A_l_nested : At K mg "_law_nested" ["_law_source_here", "_law_alphabet_here", "_law_depth"] s_l_nested _ _ := ⟨F18, PySem.W.mg_of X G a18, F18.binds (ps := ["_law_source_here", "_law_alphabet_here", "_law_depth"]) fun _ _ _ _ _ _ us hl => match us, hl with | [_, _, _], _ => rfl⟩
  have F19 := fun_mk (st := s_l_measures) l19 c19 k19
  have A_l_measures : At K mg "_law_measures" ["_law_value"] s_l_measures _ _ := ⟨F19, PySem.W.mg_of X G a19, F19.binds (ps := ["_law_value"]) fun _ _ _ _ _ _ us hl => match us, hl with | [_], _ => rfl⟩
  have F20 := fun_mk (st := s_l_is_pattern) l20 c20 k20
  have A_l_is_pattern : At K mg "_law_is_pattern" ["_law_expression"] s_l_is_pattern _ _ := ⟨F20, PySem.W.mg_of X G a20, F20.binds (ps := ["_law_expression"]) fun _ _ _ _ _ _ us hl => match us, hl with | [_], _ => rfl⟩
  have F21 := fun_mk (st := s_l_written) l21 c21 k21
  have A_l_written : At K mg "_law_written" ["_law_expression"] s_l_written _ _ := ⟨F21, PySem.W.mg_of X G a21, F21.binds (ps := ["_law_expression"]) fun _ _ _ _ _ _ us hl => match us, hl with | [_], _ => rfl⟩
  have F22 := fun_mk (st := s_l_read_word) l22 c22 k22
  have A_l_read_word : At K mg "_law_read_word" ["_law_text", "_law_at"] s_l_read_word _ _ := ⟨F22, PySem.W.mg_of X G a22, F22.binds (ps := ["_law_text", "_law_at"]) fun _ _ _ _ _ _ us hl => match us, hl with | [_, _], _ => rfl⟩
  have F23 := fun_mk (st := s_l_read_set) l23 c23 k23
  have A_l_read_set : At K mg "_law_read_set" ["_law_alphabet_here", "_law_text", "_law_at"] s_l_read_set _ _ := ⟨F23, PySem.W.mg_of X G a23, F23.binds (ps := ["_law_alphabet_here", "_law_text", "_law_at"]) fun _ _ _ _ _ _ us hl => match us, hl with | [_, _, _], _ => rfl⟩
  have F24 := fun_mk (st := s_l_read_again) l24 c24 k24
  have A_l_read_again : At K mg "_law_read_again" ["_law_alphabet_here", "_law_text", "_law_at"] s_l_read_again _ _ := ⟨F24, PySem.W.mg_of X G a24, F24.binds (ps := ["_law_alphabet_here", "_law_text", "_law_at"]) fun _ _ _ _ _ _ us hl => match us, hl with | [_, _, _], _ => rfl⟩
  have F25 := fun_mk (st := s_l_read_parts) l25 c25 k25
  have A_l_read_parts : At K mg "_law_read_parts" ["_law_alphabet_here", "_law_text", "_law_at", "_law_word"] s_l_read_parts _ _ := ⟨F25, PySem.W.mg_of X G a25, F25.binds (ps := ["_law_alphabet_here", "_law_text", "_law_at", "_law_word"]) fun _ _ _ _ _ _ us hl => match us, hl with | [_, _, _, _], _ => rfl⟩
  have F26 := fun_mk (st := s_l_read_expression) l26 c26 k26
  have A_l_read_expression : At K mg "_law_read_expression" ["_law_alphabet_here", "_law_text", "_law_at"] s_l_read_expression _ _ := ⟨F26, PySem.W.mg_of X G a26, F26.binds (ps := ["_law_alphabet_here", "_law_text", "_law_at"]) fun _ _ _ _ _ _ us hl => match us, hl with | [_, _, _], _ => rfl⟩
  have F27 := fun_mk (st := s_l_read_pattern) l27 c27 k27
  have A_l_read_pattern : At K mg "_law_read_pattern" ["_law_alphabet_here", "_law_text"] s_l_read_pattern _ _ := ⟨F27, PySem.W.mg_of X G a27, F27.binds (ps := ["_law_alphabet_here", "_law_text"]) fun _ _ _ _ _ _ us hl => match us, hl with | [_, _], _ => rfl⟩
  have F28 := fun_mk (st := s_l_spoilt) l28 c28 k28
  have A_l_spoilt : At K mg "_law_spoilt" ["_law_source_here", "_law_alphabet_here", "_law_text"] s_l_spoilt _ _ := ⟨F28, PySem.W.mg_of X G a28, F28.binds (ps := ["_law_source_here", "_law_alphabet_here", "_law_text"]) fun _ _ _ _ _ _ us hl => match us, hl with | [_, _, _], _ => rfl⟩
  have F29 := fun_mk (st := s_l_told) l29 c29 k29
  have A_l_told : At K mg "_law_told" ["_law_alphabet_here", "_law_text"] s_l_told _ _ := ⟨F29, PySem.W.mg_of X G a29, F29.binds (ps := ["_law_alphabet_here", "_law_text"]) fun _ _ _ _ _ _ us hl => match us, hl with | [_, _], _ => rfl⟩
  have F30 := fun_mk (st := s_law) l30 c30 k30
  have A_law : At K mg "law" ["_law_script"] s_law _ _ := ⟨F30, PySem.W.mg_of X G a30, F30.binds (ps := ["_law_script"]) fun _ _ _ _ _ _ us hl => match us, hl with | [_], _ => rfl⟩
  have F31 := fun_mk (st := s_Parser_init) l31 c31 k31
  have A_Parser_init : AtI K mg C_Parser "Parser" "Parser.__init__" ["self", "alphabet", "text"] s_Parser_init _ _ := ⟨F31, ⟨mk_Parser, a31, i31, kc_Parser⟩, PySem.W.mg_of X G n_Parser, F31.binds (ps := ["self", "alphabet", "text"]) fun _ _ _ _ _ _ us hl => match us, hl with | [_, _, _], _ => rfl⟩
  have F32 := fun_mk (st := s_Parser_character) l32 c32 k32
  have A_Parser_character : AtM K C_Parser "character" "Parser.character" ["self"] s_Parser_character _ _ := ⟨F32, cl_Parser, ⟨a32, i32, k32⟩, F32.binds (ps := ["self"]) fun _ _ _ _ _ _ us hl => match us, hl with | [_], _ => rfl⟩
  have F33 := fun_mk (st := s_Parser_expect) l33 c33 k33
  have A_Parser_expect : AtM K C_Parser "expect" "Parser.expect" ["self", "text"] s_Parser_expect _ _ := ⟨F33, cl_Parser, ⟨a33, i33, k33⟩, F33.binds (ps := ["self", "text"]) fun _ _ _ _ _ _ us hl => match us, hl with | [_, _], _ => rfl⟩
  have F34 := fun_mk (st := s_Parser_keyword) l34 c34 k34
  have A_Parser_keyword : AtM K C_Parser "keyword" "Parser.keyword" ["self"] s_Parser_keyword _ _ := ⟨F34, cl_Parser, ⟨a34, i34, k34⟩, F34.binds (ps := ["self"]) fun _ _ _ _ _ _ us hl => match us, hl with | [_], _ => rfl⟩
  have F35 := fun_mk (st := s_Parser_integer) l35 c35 k35
  have A_Parser_integer : AtM K C_Parser "integer" "Parser.integer" ["self", "low"] s_Parser_integer _ _ := ⟨F35, cl_Parser, ⟨a35, i35, k35⟩, F35.binds (ps := ["self", "low"]) fun _ _ _ _ _ _ us hl => match us, hl with | [_, _], _ => rfl⟩
  have F36 := fun_mk (st := s_Parser_character_set) l36 c36 k36
  have A_Parser_character_set : AtM K C_Parser "character_set" "Parser.character_set" ["self"] s_Parser_character_set _ _ := ⟨F36, cl_Parser, ⟨a36, i36, k36⟩, F36.binds (ps := ["self"]) fun _ _ _ _ _ _ us hl => match us, hl with | [_], _ => rfl⟩
  have F37 := fun_mk (st := s_Parser_repeat) l37 c37 k37
  have A_Parser_repeat : AtM K C_Parser "repeat" "Parser.repeat" ["self"] s_Parser_repeat _ _ := ⟨F37, cl_Parser, ⟨a37, i37, k37⟩, F37.binds (ps := ["self"]) fun _ _ _ _ _ _ us hl => match us, hl with | [_], _ => rfl⟩
  have F38 := fun_mk (st := s_Parser_parts) l38 c38 k38
  have A_Parser_parts : AtM K C_Parser "parts" "Parser.parts" ["self"] s_Parser_parts _ _ := ⟨F38, cl_Parser, ⟨a38, i38, k38⟩, F38.binds (ps := ["self"]) fun _ _ _ _ _ _ us hl => match us, hl with | [_], _ => rfl⟩
  have F39 := fun_mk (st := s_Parser_expression) l39 c39 k39
  have A_Parser_expression : AtM K C_Parser "expression" "Parser.expression" ["self"] s_Parser_expression _ _ := ⟨F39, cl_Parser, ⟨a39, i39, k39⟩, F39.binds (ps := ["self"]) fun _ _ _ _ _ _ us hl => match us, hl with | [_], _ => rfl⟩
  have F40 := fun_mk (st := s_InvalidNotation_init) l40 c40 k40
  have B_InvalidNotation := F40.binds (ps := ["self", "index"]) fun _ _ _ _ _ _ us hl => match us, hl with | [_, _], _ => rfl
  have T_InvalidNotation : OexC K C_InvalidNotation := ⟨⟨_, _, _, _, _, _, _, _, _, _, _, _, _, _, _, xl_InvalidNotation, (by rfl)⟩, sa_InvalidNotation, ex_InvalidNotation, ty_InvalidNotation, kc_InvalidNotation⟩
  have U_InvalidNotation : XfC K C_InvalidNotation := ⟨ga_InvalidNotation, gg_InvalidNotation, ex_InvalidNotation, hd_InvalidNotation⟩
  have BS : BsC K mg C_CutError := ⟨PySem.W.mg_of X G n_CutError, rd_CutError, sp_CutError, fi_CutError⟩
  have c_MOST_REPEATS := gc_int X G ii0
  have c_MOST_WIDTH := gc_int X G ii1
  have c_MOST_TUPLES := gc_int X G ii2
  have c_DIGITS := gc_str X G is0
  have c_LISTED := gc_LISTED X G t0 u0
  have c_KEYWORDS := gc_KEYWORDS X G t1 u1
  have m_isinstance := PySem.W.mg_none_of X G z0
  have m_int := PySem.W.mg_none_of X G z1
  have m_bool := PySem.W.mg_none_of X G z2
  have m_str := PySem.W.mg_none_of X G z3
  have m_tuple := PySem.W.mg_none_of X G z4
  have m_len := PySem.W.mg_none_of X G z5
  have m_all := PySem.W.mg_none_of X G z6
  have m_sum := PySem.W.mg_none_of X G z7
  have m_max := PySem.W.mg_none_of X G z8
  have m_min := PySem.W.mg_none_of X G z9
  have m_range := PySem.W.mg_none_of X G z10
  have m_list := PySem.W.mg_none_of X G z11
  have m_ValueError := PySem.W.mg_none_of X G z12
  refine ⟨PySem.W.fnOf "law" "law" (defArgs s_law) (defBody s_law) (defScope s_law) .none kV30 dc30 pm30 an30 cd30 ct30, fun s v => .of_eq rfl, fun base _ _ => ?_⟩
  have e_InvalidNotation : Er1 l.prog w K mg base "InvalidNotation" C_InvalidNotation "index" := ⟨⟨T_InvalidNotation, PySem.W.mg_of X G n_InvalidNotation, U_InvalidNotation⟩, no_InvalidNotation_index, _, _, _, a40, i40, ok_erI F40 BS T_InvalidNotation no_InvalidNotation_index, B_InvalidNotation⟩
  have o1 := ok_is_integer (P := l.prog) (w := w) (base := base) (mg := mg) A_is_integer m_isinstance m_int m_bool
  have o2 := ok_is_set (P := l.prog) (w := w) (base := base) (mg := mg) A_is_set m_isinstance m_str m_len
  have o3 := ok_is_expression (P := l.prog) (w := w) (base := base) (mg := mg) A_is_expression A_is_again m_len m_isinstance m_tuple m_str m_all c_LISTED c_MOST_REPEATS o2 o1 90
  have o4 := ok_parts_of (P := l.prog) (w := w) (base := base) (mg := mg) A_parts_of
  have o5 := ok_count (P := l.prog) (w := w) (base := base) (mg := mg) A_count_tuples m_sum o4 90
  have o6 := ok_width (P := l.prog) (w := w) (base := base) (mg := mg) A_width m_sum m_max o4 90
  have o7 := ok_is_plain (P := l.prog) (w := w) (base := base) (mg := mg) A_is_plain m_all o4 90
  have o8 := ok_hasP (P := l.prog) (w := w) (base := base) (mg := mg) A_has_plain_repeats m_all o4 o7 90 (Nat.le_refl _)
  have o9 := ok_is_pattern (P := l.prog) (w := w) (base := base) (mg := mg) A_is_pattern o3 o8 o5 o6 c_MOST_TUPLES c_MOST_WIDTH
  have p1 := ok_source (P := l.prog) (w := w) (base := base) (mg := mg) A_l_source m_len
  have p2 := ok_draw (P := l.prog) (w := w) (base := base) (mg := mg) A_l_draw
  have p3 := ok_alphabet (P := l.prog) (w := w) (base := base) (mg := mg) A_l_alphabet m_len m_list m_range p2
  have p4 := ok_set (P := l.prog) (w := w) (base := base) (mg := mg) A_l_set m_len m_range p2
  have p5 := ok_row (P := l.prog) (w := w) (base := base) (mg := mg) A_l_row m_tuple m_range p4
  have p6 := ok_plain (P := l.prog) (w := w) (base := base) (mg := mg) A_l_plain m_min m_int p2 p4 p5
  have p7 := ok_pattern (P := l.prog) (w := w) (base := base) (mg := mg) A_l_pattern p2 p6
  have p8 := ok_nested (P := l.prog) (w := w) (base := base) (mg := mg) A_l_nested m_range m_tuple p2 p4 5
  have p13 := ok_measures (P := l.prog) (w := w) (base := base) (mg := mg) A_l_measures m_isinstance m_tuple m_sum m_max m_all 90
  have q1 := ok_Pinit (P := l.prog) (w := w) (base := base) (mg := mg) A_Parser_init f_Parser_alphabet f_Parser_source f_Parser_index
  have q2 := ok_chr (P := l.prog) (w := w) (base := base) (mg := mg) A_Parser_character f_Parser_source f_Parser_index
  have q3 := ok_expect (P := l.prog) (w := w) (base := base) (mg := mg) A_Parser_expect f_Parser_index q2 e_InvalidNotation
  have q4 := ok_keyword (P := l.prog) (w := w) (base := base) (mg := mg) A_Parser_keyword f_Parser_index m_len c_KEYWORDS q2 e_InvalidNotation
  have q5 := ok_integer (P := l.prog) (w := w) (base := base) (mg := mg) A_Parser_integer f_Parser_index c_DIGITS c_MOST_REPEATS q2 e_InvalidNotation
  have q6 := ok_cset (P := l.prog) (w := w) (base := base) (mg := mg) A_Parser_character_set f_Parser_index f_Parser_alphabet q2 q3 e_InvalidNotation
  have q7 := ok_expr (P := l.prog) (w := w) (base := base) (mg := mg) A_Parser_expression A_Parser_repeat A_Parser_parts m_tuple q2 q3 q4 q6 q5 80
  have q8 := ok_parse (P := l.prog) (w := w) (base := base) (mg := mg) A_parse_pattern m_len f_Parser_index q1 q7 o9 e_InvalidNotation
  have r2 := ok_written (P := l.prog) (w := w) (base := base) (mg := mg) A_l_written m_str 90
  have r3 := ok_ispat (P := l.prog) (w := w) (base := base) (mg := mg) A_l_is_pattern p13
  have y1 : ∀ C ∈ [C_InvalidNotation], PySem.W.exmOne K (.ref C) (.ref C_InvalidNotation) = some true := fun C h => by rw [List.mem_singleton.mp h]; exact PySem.W.exm_ref ex_InvalidNotation hd_InvalidNotation ty_InvalidNotation sb_InvalidNotation
  have t0 := isT_mk ⟨ga_InvalidNotation, gg_InvalidNotation, ex_InvalidNotation, hd_InvalidNotation, cl_InvalidNotation, cg, ct, cm_InvalidNotation⟩ kt1 kt2
  have c_CutError : Gc K mg "CutError" (.raw (.ref C_CutError)) := ⟨.ref C_CutError, _, PySem.W.mg_of X G n_CutError, rfl, fun _ => .raw _⟩
  have t1 := ok_rword (P := l.prog) (w := w) (base := base) (mg := mg) A_l_read_word m_len
  have t2 := ok_rset (P := l.prog) (w := w) (base := base) (mg := mg) A_l_read_set m_len
  have t3 := ok_rexpr (P := l.prog) (w := w) (base := base) (mg := mg) A_l_read_expression A_l_read_again A_l_read_parts m_len m_int m_tuple t2 t1 80
  have t4 := ok_rpat (P := l.prog) (w := w) (base := base) (mg := mg) A_l_read_pattern m_len t3 r3
  have t5 := ok_told (P := l.prog) (w := w) (base := base) (mg := mg) A_l_told m_len m_isinstance m_ValueError c_CutError q8 y1 (PySem.W.mg_of X G n_InvalidNotation) ⟨U_InvalidNotation, no_InvalidNotation_index⟩ t0
  have t6 := ok_spoilt (P := l.prog) (w := w) (base := base) (mg := mg) A_l_spoilt m_len m_min m_range p2
  exact ok_law A_law m_range m_len p2 p1 p3 p7 p8 r2 t6 t5 t4
theorem walk {l : PySem.W.OpenLaw} {q : Program} {loose : List Str} {XP : (Str → Option Value) → Heap → Prop} {YP : World → Heap → Prop} {d : DefRec} {K : Params → PySem.W.Frag} (hn : l.most = some 63) (hdf : d.params.defaults = [])
    (hY : ∀ (w : World) (h : Heap), YP w h → (K w.params).In h)
    (F : ∀ (w : World) (mg : Str → Option Value) (fa : Addr) (h : Heap), (K w.params).In h → h.Ns mainGlobals mg → mg d.name = some (.ref fa) →
      ∃ fd : FuncData, (∀ (s : Shared) (u : Value), BindsTo s fd ⟨[u], []⟩ [("_law_script", u)]) ∧ ∀ base : Heap, (K w.params).In base → base.Ns mainGlobals mg → FnOk l.prog w (K w.params) mg base (L2.CX l.prog w) 187 fa fd ["_law_script"] (spM (K w.params) 1 g_law)) :
    PySem.W.WalkO q loose XP YP l.row.toRowW d [] (fun f vs => PySem.call f vs) :=
  L2.walk_of (n := 63) (k := 187) (x := "_law_script") (CX := fun w => L2.CX l.prog w) (sp := fun w => spM (K w.params) 1 g_law) hn (by decide) hdf ⟨rfl, by decide, by decide⟩ hY F
    (fun w H a ns hl _ hS => ⟨H, fun _ => none, [.scr ns], fun r _ => r = .fz (.bl true), fun _ _ => False, ⟨fun _ _ h => h, fun _ _ z => (nomatch z)⟩, .cons (.scr hS) .nil, rfl, ⟨ns, rfl, fun _ => rfl⟩, fun v H' Hf' r h' _ _ ok e => by subst e; exact Rep.bl_inv ok, fun _ _ _ _ _ _ _ _ _ z => z⟩) fun _ _ _ _ _ ⟨_, _, _, _, _, _, _, _, _, _, _, _, z⟩ => z
end Cut
open PySem PySem.W PyProof.Rows
set_option maxRecDepth 100000 in
set_option maxHeartbeats 0 in
theorem PySem.Challenge.cw_cutscribe_k81_notations_spoilt_holds : PySem.Challenge.rw_cutscribe_k81_notations_spoilt.Holds := by
  w_on; o_law; k_head; (case hw => w_witness2)
  k_fill
  refine Cut.walk (l := PySem.Challenge.rw_cutscribe_k81_notations_spoilt) rfl rfl (fun w h Y => PySem.W.kIn_of Y) ?F
  case F =>
    intro w mg fa h KX G hmg0
    have hmg : mg "law" = some (.ref fa) := hmg0
    clear hmg0
    refine' Cut.all_mk KX G hmg ?n_Parser ?pg_Parser ?hd_Parser ?po_Parser ?sa_Parser ?mk_Parser ?kc_Parser ?no_Parser_alphabet ?no_Parser_source ?no_Parser_index ?n_CutError ?rd_CutError ?sp_CutError ?fi_CutError ?n_InvalidNotation ?xl_InvalidNotation ?sa_InvalidNotation ?ga_InvalidNotation ?gg_InvalidNotation ?ex_InvalidNotation ?ty_InvalidNotation ?kc_InvalidNotation ?hd_InvalidNotation ?no_InvalidNotation_index ?sb_InvalidNotation ?cl_InvalidNotation ?cg ?ct ?cm_InvalidNotation ?kt1 ?kt2 ?a0 ?l0 ?c0 ?k0 ?a1 ?l1 ?c1 ?k1 ?a2 ?l2 ?c2 ?k2 ?a3 ?l3 ?c3 ?k3 ?a4 ?l4 ?c4 ?k4 ?a5 ?l5 ?c5 ?k5 ?a6 ?l6 ?c6 ?k6 ?a7 ?l7 ?c7 ?k7 ?a8 ?l8 ?c8 ?k8 ?a9 ?l9 ?c9 ?k9 ?a10 ?l10 ?c10 ?k10 ?a11 ?l11 ?c11 ?k11 ?a12 ?l12 ?c12 ?k12 ?a13 ?l13 ?c13 ?k13 ?a14 ?l14 ?c14 ?k14 ?a15 ?l15 ?c15 ?k15 ?a16 ?l16 ?c16 ?k16 ?a17 ?l17 ?c17 ?k17 ?a18 ?l18 ?c18 ?k18 ?a19 ?l19 ?c19 ?k19 ?a20 ?l20 ?c20 ?k20 ?a21 ?l21 ?c21 ?k21 ?a22 ?l22 ?c22 ?k22 ?a23 ?l23 ?c23 ?k23 ?a24 ?l24 ?c24 ?k24 ?a25 ?l25 ?c25 ?k25 ?a26 ?l26 ?c26 ?k26 ?a27 ?l27 ?c27 ?k27 ?a28 ?l28 ?c28 ?k28 ?a29 ?l29 ?c29 ?k29 ?a30 ?l30 ?c30 ?k30 ?a31 ?i31 ?l31 ?c31 ?k31 ?a32 ?i32 ?l32 ?c32 ?k32 ?a33 ?i33 ?l33 ?c33 ?k33 ?a34 ?i34 ?l34 ?c34 ?k34 ?a35 ?i35 ?l35 ?c35 ?k35 ?a36 ?i36 ?l36 ?c36 ?k36 ?a37 ?i37 ?l37 ?c37 ?k37 ?a38 ?i38 ?l38 ?c38 ?k38 ?a39 ?i39 ?l39 ?c39 ?k39 ?a40 ?i40 ?l40 ?c40 ?k40 ?ii0 ?ii1 ?ii2 ?is0 ?t0 ?u0 ?t1 ?u1 ?z0 ?z1 ?z2 ?z3 ?z4 ?z5 ?z6 ?z7 ?z8 ?z9 ?z10 ?z11 ?z12
    (case n_Parser => k_is)
    (case pg_Parser => k_is)
    (case hd_Parser => k_is)
    (case po_Parser => k_is)
    (case sa_Parser => k_is)
    (case mk_Parser => k_is)
    (case kc_Parser => k_is)
    (case no_Parser_alphabet => k_is)
    (case no_Parser_source => k_is)
    (case no_Parser_index => k_is)
    (case n_CutError => k_is)
    (case rd_CutError => k_is)
    (case sp_CutError => k_is)
    (case fi_CutError => k_is)
    (case n_InvalidNotation => k_is)
    (case xl_InvalidNotation => k_is)
    (case sa_InvalidNotation => k_is)
    (case ga_InvalidNotation => k_is)
    (case gg_InvalidNotation => k_is)
    (case ex_InvalidNotation => k_is)
    (case ty_InvalidNotation => k_is)
    (case kc_InvalidNotation => k_is)
    (case hd_InvalidNotation => k_is)
    (case no_InvalidNotation_index => k_is)
    (case sb_InvalidNotation => first | rfl | k_is)
    (case cl_InvalidNotation => first | rfl | k_is)
    (case cg => first | rfl | k_is)
    (case ct => first | rfl | k_is)
    (case cm_InvalidNotation => first | rfl | k_is)
    (case kt1 => first | rfl | k_is)
    (case kt2 => first | rfl | k_is)
    (case a0 => k_is)
    (case l0 => k_is)
    (case c0 => k_is)
    (case k0 => k_is)
    (case a1 => k_is)
    (case l1 => k_is)
    (case c1 => k_is)
    (case k1 => k_is)
    (case a2 => k_is)
    (case l2 => k_is)
    (case c2 => k_is)
    (case k2 => k_is)
    (case a3 => k_is)
    (case l3 => k_is)
    (case c3 => k_is)
    (case k3 => k_is)
    (case a4 => k_is)
    (case l4 => k_is)
    (case c4 => k_is)
    (case k4 => k_is)
    (case a5 => k_is)
    (case l5 => k_is)
    (case c5 => k_is)
    (case k5 => k_is)
    (case a6 => k_is)
    (case l6 => k_is)
    (case c6 => k_is)
    (case k6 => k_is)
    (case a7 => k_is)
    (case l7 => k_is)
    (case c7 => k_is)
    (case k7 => k_is)
    (case a8 => k_is)
    (case l8 => k_is)
    (case c8 => k_is)
    (case k8 => k_is)
    (case a9 => k_is)
    (case l9 => k_is)
    (case c9 => k_is)
    (case k9 => k_is)
    (case a10 => k_is)
    (case l10 => k_is)
    (case c10 => k_is)
    (case k10 => k_is)
    (case a11 => k_is)
    (case l11 => k_is)
    (case c11 => k_is)
    (case k11 => k_is)
    (case a12 => k_is)
    (case l12 => k_is)
    (case c12 => k_is)
    (case k12 => k_is)
    (case a13 => k_is)
    (case l13 => k_is)
    (case c13 => k_is)
    (case k13 => k_is)
    (case a14 => k_is)
    (case l14 => k_is)
    (case c14 => k_is)
    (case k14 => k_is)
    (case a15 => k_is)
    (case l15 => k_is)
    (case c15 => k_is)
    (case k15 => k_is)
    (case a16 => k_is)
    (case l16 => k_is)
    (case c16 => k_is)
    (case k16 => k_is)
    (case a17 => k_is)
    (case l17 => k_is)
    (case c17 => k_is)
    (case k17 => k_is)
    (case a18 => k_is)
    (case l18 => k_is)
    (case c18 => k_is)
    (case k18 => k_is)
    (case a19 => k_is)
    (case l19 => k_is)
    (case c19 => k_is)
    (case k19 => k_is)
    (case a20 => k_is)
    (case l20 => k_is)
    (case c20 => k_is)
    (case k20 => k_is)
    (case a21 => k_is)
    (case l21 => k_is)
    (case c21 => k_is)
    (case k21 => k_is)
    (case a22 => k_is)
    (case l22 => k_is)
    (case c22 => k_is)
    (case k22 => k_is)
    (case a23 => k_is)
    (case l23 => k_is)
    (case c23 => k_is)
    (case k23 => k_is)
    (case a24 => k_is)
    (case l24 => k_is)
    (case c24 => k_is)
    (case k24 => k_is)
    (case a25 => k_is)
    (case l25 => k_is)
    (case c25 => k_is)
    (case k25 => k_is)
    (case a26 => k_is)
    (case l26 => k_is)
    (case c26 => k_is)
    (case k26 => k_is)
    (case a27 => k_is)
    (case l27 => k_is)
    (case c27 => k_is)
    (case k27 => k_is)
    (case a28 => k_is)
    (case l28 => k_is)
    (case c28 => k_is)
    (case k28 => k_is)
    (case a29 => k_is)
    (case l29 => k_is)
    (case c29 => k_is)
    (case k29 => k_is)
    (case a30 => k_is)
    (case l30 => k_is)
    (case c30 => k_is)
    (case k30 => k_is)
    (case a31 => k_is)
    (case i31 => k_is)
    (case l31 => k_is)
    (case c31 => k_is)
    (case k31 => k_is)
    (case a32 => k_is)
    (case i32 => k_is)
    (case l32 => k_is)
    (case c32 => k_is)
    (case k32 => k_is)
    (case a33 => k_is)
    (case i33 => k_is)
    (case l33 => k_is)
    (case c33 => k_is)
    (case k33 => k_is)
    (case a34 => k_is)
    (case i34 => k_is)
    (case l34 => k_is)
    (case c34 => k_is)
    (case k34 => k_is)
    (case a35 => k_is)
    (case i35 => k_is)
    (case l35 => k_is)
    (case c35 => k_is)
    (case k35 => k_is)
    (case a36 => k_is)
    (case i36 => k_is)
    (case l36 => k_is)
    (case c36 => k_is)
    (case k36 => k_is)
    (case a37 => k_is)
    (case i37 => k_is)
    (case l37 => k_is)
    (case c37 => k_is)
    (case k37 => k_is)
    (case a38 => k_is)
    (case i38 => k_is)
    (case l38 => k_is)
    (case c38 => k_is)
    (case k38 => k_is)
    (case a39 => k_is)
    (case i39 => k_is)
    (case l39 => k_is)
    (case c39 => k_is)
    (case k39 => k_is)
    (case a40 => k_is)
    (case i40 => k_is)
    (case l40 => k_is)
    (case c40 => k_is)
    (case k40 => k_is)
    (case ii0 => k_is)
    (case ii1 => k_is)
    (case ii2 => k_is)
    (case is0 => k_is)
    (case t0 => k_is)
    (case u0 => k_is)
    (case t1 => k_is)
    (case u1 => k_is)
    (case z0 => k_is)
    (case z1 => k_is)
    (case z2 => k_is)
    (case z3 => k_is)
    (case z4 => k_is)
    (case z5 => k_is)
    (case z6 => k_is)
    (case z7 => k_is)
    (case z8 => k_is)
    (case z9 => k_is)
    (case z10 => k_is)
    (case z11 => k_is)
    (case z12 => k_is)
