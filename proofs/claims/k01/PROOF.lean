import PyProof.Rows.All
import Wide.All
import OpenK.AllK
import Wide.FinOn
import KE.KUnpackStar
import HandS.ForMost
import HandS.TupMul
import HandS.IsInst
import HandS.Zip
import HandS.Conv
import HandS.Strs
import HandS.TupAny
import HandS.SetFor
import PyProof.ListStr
import HandS.NoneIn
import PySem.Challenge.RW_cutscribe_k01_patterns_looked_at
set_option Elab.async false
set_option linter.all false
set_option maxRecDepth 100000
set_option maxHeartbeats 1000000
/-! A star at the end of a target: a, b, *rest = e (a tuple or a list) -/
namespace L2
open PySem PySem.Spec PyProof.Rows
section
variable {X : Cx} {pos : Pos}
/-- (a, .., *r) = a tuple or a list with at least so many items -/
def gStar (K : PySem.W.Frag) (k : Nat) (t : TGs) : TG := fun v σ H Q => ∃ (a : Addr) (ys xs : List V), v = .ref a ∧ (SqT K H a (ys ++ xs) ∨ SqL K H a (ys ++ xs)) ∧ ys.length = k ∧ (ys ++ xs).length ≤ 16000 ∧
  ∀ D, H D = none → t (ys ++ [.ref D]) σ (upd H D (.lst xs)) Q
theorem pgs_star {e : Expr} {p : Pos} {t : TG} (h1 : PG X e t) : PGs X [.Starred e p] (gCons t gNil) := by
  refine ⟨fun pins s σ H vs us Q I r h => ?_⟩
  obtain ⟨v, vr, e1, h⟩ := h
  subst e1
  cases r with
  | cons r rr =>
    show wpAny _ _ (assignInOrder (assign e X.env :: []) _) _ _ _
    refine assignInOrder_cons (thn (h1.run pins s σ H _ _ _ I r h) fun _ s1 ⟨σ1, H1, I1, q1⟩ => ?_)
    obtain ⟨e2, q1⟩ := q1
    subst e2
    cases rr
    exact assignInOrder_nil ⟨σ1, H1, I1, q1⟩
theorem pg_star {es : List Expr} {k i : Nat} {t : TGs} (hc : X.calm = true) (h : PGs X es t)
    (hn : (assignEach es X.env).length = i + 1 := by rfl) (hst : (assignEach es X.env).findIdx? (·.1) = some i := by rfl) : PG X (.Tuple es k pos) (gStar X.K i t) := by
  refine ⟨fun pins s σ H v u Q I r hw => ?_⟩
  obtain ⟨a, ys, xs, e1, hq, hl, hz, hw⟩ := hw
  subst e1
  cases r
  rw [assign_Tuple]
  refine wpAny_bind (wpAny_standAt ?_)
  unfold unpack
  rw [hn, hst]
  refine wpAny_bind (wpAny_holding ?_)
  -- behind the drawing: the new list
  have fin : ∀ (its : List Value) (h₂ : Heap) (tk : Nat), Vals (ys ++ xs) its → Inv X pins σ H { s with heap := h₂, toks := tk } →
      wpAny (model X.prog X.w) X.A (newList ((its.drop i).take ((its.drop i).length - (i + 1 - 1 - i))) >>= fun d => pure (its.take i ++ [d] ++ (its.drop i).drop ((its.drop i).length - (i + 1 - 1 - i))))
        (fun x s1 => wpAny (model X.prog X.w) X.A (assignInOrder ((assignEach es X.env).map (·.2)) x) (fun _ s' => ∃ σ' H', Inv X pins σ' H' s' ∧ Q σ' H') X.xe s1) X.xe { s with heap := h₂, toks := tk } := by
    intro its h₂ tk rv I2
    have e0 : i + 1 - 1 - i = 0 := by omega
    rw [e0, Nat.sub_zero, List.take_length, List.drop_length]
    simp only [List.append_nil]
    have hrx : Vals xs (its.drop i) := by
      have := Vals.drop i rv
      rw [List.drop_append_of_le_length (by omega), List.drop_of_length_le (by omega), List.nil_append] at this
      exact this
    have hry : Vals ys (its.take i) := by
      have := Vals.take i rv
      rw [List.take_append_of_le_length (by omega), List.take_of_length_le (by omega)] at this
      exact this
    have hzx : xs.length ≤ sizeLine := by
      rw [List.length_append] at hz
      exact Nat.le_trans (by omega : xs.length ≤ 16000) (by decide)
    refine wpAny_bind (wpAny_newList ?_ (by rw [← hrx.length]; exact hzx))
    refine wpAny_pure ?_
    have I3 := I2.lnew (t' := tk) hrx hzx
    exact h.run pins _ σ _ (ys ++ [.ref h₂.objs.size]) _ Q I3 (Vals.append hry (.cons (show RelV (.ref h₂.objs.size) (Value.ref h₂.objs.size) from rfl) .nil)) (hw _ I2.fresh)
  rcases hq with hq | hq
  · obtain ⟨its, rv, hl', hz'⟩ := I.tuple hq
    have hsz : its.toArray.size = (ys ++ xs).length := by rw [List.size_toArray, rv.length]
    have hlt : a ≠ s.heap.objs.size := by obtain ⟨o, ho, _⟩ := hl'; exact Nat.ne_of_lt (Heap.lt_size ho)
    unfold unpackItems
    refine wpAny_bind ?_
    unfold notIterableAtAll
    refine wpAny_bind (wpAny_specialOf hl'.typeIs slot_tuple_iter.lookup ?_)
    refine wpAny_pure ?_
    simp only [Bool.false_eq_true, if_false]
    refine wpAny_bind (wpAny_holding (iter_tuple hl' ?_))
    refine wpAny_bind (wpAny_holding (draw_tuple hlt i 0 _ _ ⟨_, Heap.get?_push_size _ rfl, rfl, rfl⟩ (hl'.push _) (by rw [hsz, List.length_append]; omega) fun h₁ hit₁ hs₁ => ?_))
    have hl₁ : IsTup h₁ a its.toArray := (hl'.push _).extBut hs₁.extBut hlt
    rw [Nat.zero_add] at hit₁
    have hit₁' := hit₁
    obtain ⟨oi, hoi, _⟩ := hit₁'
    have hl₁' := hl₁
    obtain ⟨ol, hol, _⟩ := hl₁'
    rw [List.drop_zero]
    have hil : its.length = (ys ++ xs).length := rv.length.symm
    have hfl : (its.toArray.toList.take i).length = i := by rw [List.length_take, Array.length_toList, hsz, List.length_append]; omega
    rw [if_neg (show ¬ ((its.toArray.toList.take i).length < i) by rw [hfl]; omega)]
    refine wpAny_bind (wpAny_holding (PySem.W.kun_collect (s := { s with heap := h₁ }) (T := "tuple_iterator") (.inr (.inr (.inr rfl))) (Walks.tuple (A := X.A.in1) (I.ok.hd hc) s.heap.objs.size a hlt its.toArray) (fun j u st => st.1.typeIs) (k := i) (by rw [hsz, List.length_append]; omega) ⟨hit₁, hl₁⟩ (Heap.lt_size hoi) (Heap.lt_size hol) (fun h₂ tk hk => ?_) (by rw [hsz]; exact hz')))
    show wpAny _ _ (if (its.drop i).length < i + 1 - 1 - i then _ else _) _ _ _
    rw [if_neg (by omega)]
    have he : Heap.ExtBut s.heap.objs.size s.heap h₂ := fun b o hb e => hk b o hb (hs₁.extBut b o hb (Heap.get?_push_of_some _ e))
    exact fin its h₂ tk rv (I.kept fun b o e => he b o (Nat.ne_of_lt (Heap.lt_size e)) e)
  · obtain ⟨its, rv, hl', hz'⟩ := I.list hq
    have hsz : its.toArray.size = (ys ++ xs).length := by rw [List.size_toArray, rv.length]
    have hlI : s.heap.IsList a its.toArray := hl'.isList
    have hlt : a ≠ s.heap.objs.size := by obtain ⟨o, ho, _⟩ := hlI; exact Nat.ne_of_lt (Heap.lt_size ho)
    unfold unpackItems
    refine wpAny_bind ?_
    unfold notIterableAtAll
    refine wpAny_bind (wpAny_specialOf hlI.typeIs slot_list_iter.lookup ?_)
    refine wpAny_pure ?_
    simp only [Bool.false_eq_true, if_false]
    refine wpAny_bind (wpAny_holding (wpAny_pyIter_list hlI ?_))
    refine wpAny_bind (wpAny_holding (PySem.W.kun_draw hlt i 0 _ _ ⟨_, Heap.get?_push_size _ rfl, rfl, rfl⟩ (hlI.push _) (by rw [hsz, List.length_append]; omega) fun h₁ hit₁ hs₁ => ?_))
    have hl₁ : h₁.IsList a its.toArray := (hlI.push _).extBut hs₁.extBut hlt
    rw [Nat.zero_add] at hit₁
    have hit₁' := hit₁
    obtain ⟨oi, hoi, _⟩ := hit₁'
    have hl₁' := hl₁
    obtain ⟨ol, hol, _⟩ := hl₁'
    rw [List.drop_zero]
    have hfl : (its.toArray.toList.take i).length = i := by rw [List.length_take, Array.length_toList, hsz, List.length_append]; omega
    rw [if_neg (show ¬ ((its.toArray.toList.take i).length < i) by rw [hfl]; omega)]
    refine wpAny_bind (wpAny_holding (PySem.W.kun_collect (s := { s with heap := h₁ }) (T := "list_iterator") (.inr (.inr (.inl rfl))) (Walks.list (A := X.A.in1) (I.ok.hd hc) s.heap.objs.size a hlt its.toArray) (fun j u st => st.1.typeIs) (k := i) (by rw [hsz, List.length_append]; omega) ⟨hit₁, hl₁⟩ (Heap.lt_size hoi) (Heap.lt_size hol) (fun h₂ tk hk => ?_) (by rw [hsz]; exact Nat.le_trans hz (by decide))))
    show wpAny _ _ (if (its.drop i).length < i + 1 - 1 - i then _ else _) _ _ _
    rw [if_neg (by omega)]
    have he : Heap.ExtBut s.heap.objs.size s.heap h₂ := fun b o hb e => hk b o hb (hs₁.extBut b o hb (Heap.get?_push_of_some _ e))
    exact fin its h₂ tk rv (I.kept fun b o e => he b o (Nat.ne_of_lt (Heap.lt_size e)) e)
end
end L2
namespace L2
open PySem PySem.Spec PyProof.Rows
theorem tuple_mul_one (l : Addr) (items : Array Value) (n : Nat) (dd : Option Addr) (sl : Array (Option Value)) (x : Int) (u : Tok) (c0 : (decide (x < -(2 ^ 63)) || decide (x ≥ 2 ^ 63)) = false) (c1 : (items.isEmpty || x == 1) = true) :
    Meets (Builtin.«tuple.__mul__» ⟨[.ref l, .int x u], []⟩) (fun _ R s => s.heap.get? l = some { cls := .type "tuple", dict := dd, data := .seq items n, slots := sl } ∧
      R (.ok (.ret (Value.ref l))) s) :=
  .of_wp fun prog w A R s h => by
    obtain ⟨hp, g, d, tk, os⟩ := s
    obtain ⟨hl, h⟩ := h
    have f1 := AutoSeq1.idx_int
    wp_walk using wpAny_loadPart' hl
    repeat (first
      | (refine wpAny_ite_false (decide_eq_false (by rw [c0]; exact Bool.false_ne_true)) ?_; wp_walk using wpAny_loadPart' hl)
      | (refine wpAny_ite_true (decide_eq_true (by rw [c1])) ?_; wp_walk using wpAny_loadPart' hl))
    exact ⟨_, rfl, h⟩
theorem tuple_mul_none (l : Addr) (items : Array Value) (n : Nat) (dd : Option Addr) (sl : Array (Option Value)) (x : Int) (u : Tok) (c0 : (decide (x < -(2 ^ 63)) || decide (x ≥ 2 ^ 63)) = false) (c1 : (items.isEmpty || x == 1) = false) (c2 : (decide (x ≤ 0) || items.isEmpty) = true) :
    Meets (Builtin.«tuple.__mul__» ⟨[.ref l, .int x u], []⟩) (fun _ R s => s.heap.get? l = some { cls := .type "tuple", dict := dd, data := .seq items n, slots := sl } ∧
      R (.ok (.ret (Value.ref s.heap.objs.size))) { s with heap := s.heap.push { cls := Value.type "tuple", data := Data.seq #[] }, toks := s.toks }) :=
  .of_wp fun prog w A R s h => by
    obtain ⟨hp, g, d, tk, os⟩ := s
    obtain ⟨hl, h⟩ := h
    have f1 := AutoSeq1.idx_int
    wp_walk using wpAny_loadPart' hl
    repeat (first
      | (refine wpAny_ite_false (decide_eq_false (by rw [c0]; exact Bool.false_ne_true)) ?_; wp_walk using wpAny_loadPart' hl)
      | (refine wpAny_ite_false (decide_eq_false (by rw [c1]; exact Bool.false_ne_true)) ?_; wp_walk using wpAny_loadPart' hl)
      | (refine wpAny_ite_true (decide_eq_true (by rw [c2])) ?_; wp_walk using wpAny_loadPart' hl))
    exact ⟨_, rfl, h⟩
/-- t * k, t not empty -/
def rRepA (K : PySem.W.Frag) : R2 := fun x y H Q => ∃ l k xs, x = .ref l ∧ y = .int k ∧ SqT K H l xs ∧ xs ≠ [] ∧ 0 ≤ k ∧ k ≤ 1000 ∧ xs.length ≤ 1000 ∧
  (k = 1 → Q (.ref l) H) ∧ (k ≠ 1 → ∀ p, H p = none → Q (.ref p) (upd H p (.tup (List.replicate k.toNat xs).flatten)))
section
variable {X : Cx}
theorem op_repA : OpR X (binaryOp .Mult) (rRepA X.K) := by
  intro pins s σ H x y v u Q I rx ry h
  obtain ⟨l, k, xs, rfl, rfl, hT, hne, h0, h2, hz, q1, q2⟩ := h
  by_cases hk : 2 ≤ k
  · exact op_repT pins s σ H _ _ v u Q I rx ry ⟨l, k, xs, rfl, rfl, hT, hne, hk, h2, hz, q2 (by omega)⟩
  cases rx
  obtain ⟨t, rfl⟩ := ry
  obtain ⟨its, r, ⟨⟨cls, dd, data, sl⟩, ho, hc, n, hd⟩, hs⟩ := I.tuple hT
  simp only at hc hd
  subst hc hd
  have hle : its.length = xs.length := r.length.symm
  have hn : its ≠ [] := fun e => hne (by
    rw [e] at hle
    exact List.eq_nil_of_length_eq_zero hle.symm)
  have hi : its.toArray.isEmpty = false := by
    cases its with
    | nil => exact absurd rfl hn
    | cons a b => rfl
  have c0 : (decide (k < -(2 ^ 63)) || decide (k ≥ 2 ^ 63)) = false := by
    rw [decide_eq_false (by omega), decide_eq_false (by omega)] <;> rfl
  by_cases e1 : k = 1
  · have c1 : (its.toArray.isEmpty || k == 1) = true := by
      rw [hi, Bool.false_or]
      exact beq_iff_eq.mpr e1
    refine wpAny_binaryOp_repeat_ref (T := "tuple") (U := "int") (by decide) ⟨_, ho, rfl⟩ (fun s' => typeIs_int s' k t) noFill_tuple_mul F.fills_int_mul F.slot_int_rmul repeat_tuple F.slot_int_index.lookup
      (call_meets F.slot_int_rmul (typeIs_int s k t) F.entry_int_rmul (F.args_int_rmul_2 _ _) (int_rmul_tuple k t l its.toArray n dd sl)
        ⟨ho, rfl, ⟨_, ho, rfl⟩, call_meets F.slot_tuple_mul ⟨_, ho, rfl⟩ F.entry_tuple_mul (F.args_tuple_mul_2 _ _) (tuple_mul_one l its.toArray n dd sl k t c0 c1) ⟨ho, ?_⟩⟩)
    exact ⟨.ref l, H, I, rfl, q1 e1⟩
  · have e0 : k = 0 := by omega
    have c1 : (its.toArray.isEmpty || k == 1) = false := by
      rw [hi, Bool.false_or]
      exact beq_eq_false_iff_ne.mpr e1
    have c2 : (decide (k ≤ 0) || its.toArray.isEmpty) = true := by
      rw [hi, Bool.or_false]
      exact decide_eq_true (by omega)
    refine wpAny_binaryOp_repeat_ref (T := "tuple") (U := "int") (by decide) ⟨_, ho, rfl⟩ (fun s' => typeIs_int s' k t) noFill_tuple_mul F.fills_int_mul F.slot_int_rmul repeat_tuple F.slot_int_index.lookup
      (call_meets F.slot_int_rmul (typeIs_int s k t) F.entry_int_rmul (F.args_int_rmul_2 _ _) (int_rmul_tuple k t l its.toArray n dd sl)
        ⟨ho, rfl, ⟨_, ho, rfl⟩, call_meets F.slot_tuple_mul ⟨_, ho, rfl⟩ F.entry_tuple_mul (F.args_tuple_mul_2 _ _) (tuple_mul_none l its.toArray n dd sl k t c0 c1 c2) ⟨ho, ?_⟩⟩)
    have en : (List.replicate k.toNat xs).flatten = [] := by rw [e0]; rfl
    have q3 := q2 e1 s.heap.objs.size (I.hok.fresh (Nat.le_refl _))
    rw [en] at q3
    refine ⟨.ref s.heap.objs.size, _, I.laid (t' := s.toks) (o := .tup []) (fun b ob q => Heap.get?_push_of_some _ q) (Nat.le_refl _) ?_, rfl, q3⟩
    exact ⟨Nat.zero_le _, [], .nil, IsTup.new _ _⟩
end
end L2
/-! The data layer, 1: data, what they stand for, environments of data, movements. -/
namespace DL
open PySem L2
/-- data -/
inductive D where
  | non | bl (b : Bool) | int (i : Int) | str (x : Str) | tup (xs : List D) | lst (xs : List D) | obj (C : Addr) (fs : List (Str × D)) | ty (n : String) | raw (v : V) | scr (ns : List Int)
  deriving Inhabited
abbrev Fg := PySem.W.Frag
mutual
inductive Rep (K : Fg) (H : Hp) : V → D → Prop
  | non : Rep K H .non .non
  | bl (b : Bool) : Rep K H (.bl b) (.bl b)
  | int (i : Int) : Rep K H (.int i) (.int i)
  | str (x : Str) : Rep K H (.str x) (.str x)
  | ty (n : String) : Rep K H (.ty n) (.ty n)
  | raw (v : V) : Rep K H v (.raw v)
  | scr {a : Addr} {ns : List Int} : SqL K H a (ns.map V.int) → Rep K H (.ref a) (.scr ns)
  | tup {a : Addr} {xs : List V} {ds : List D} : SqT K H a xs → RepL K H xs ds → Rep K H (.ref a) (.tup ds)
  | lst {a : Addr} {xs : List V} {ds : List D} : H a = some (.lst xs) → RepL K H xs ds → Rep K H (.ref a) (.lst ds)
  | obj {a C dx : Addr} {fs : List (Str × V)} {gs : List (Str × D)} : H a = some (.ins C dx fs) → RepF K H fs gs → Rep K H (.ref a) (.obj C gs)
inductive RepL (K : Fg) (H : Hp) : List V → List D → Prop
  | nil : RepL K H [] []
  | cons {v : V} {vs : List V} {d : D} {ds : List D} : Rep K H v d → RepL K H vs ds → RepL K H (v :: vs) (d :: ds)
inductive RepF (K : Fg) (H : Hp) : List (Str × V) → List (Str × D) → Prop
  | nil : RepF K H [] []
  | cons {f : Str} {v : V} {vs : List (Str × V)} {d : D} {ds : List (Str × D)} : Rep K H v d → RepF K H vs ds → RepF K H ((f, v) :: vs) ((f, d) :: ds)
end
section
variable {K : Fg} {H H' : Hp}
theorem rd_same (e : ∀ b o, H b = some o → H' b = some o) {a : Addr} {u : HO} (h : Rd H a u) : Rd H' a u := by
  rcases h with h | ⟨o, h⟩
  · exact .inl (e _ _ h)
  · exact .inr ⟨o, e _ _ h⟩
theorem sqL_same (e : ∀ b o, H b = some o → H' b = some o) {a : Addr} {xs : List V} (h : SqL K H a xs) : SqL K H' a xs := by
  rcases h with h | h
  · exact .inl (rd_same e h)
  · exact .inr h
theorem sqT_same (e : ∀ b o, H b = some o → H' b = some o) {a : Addr} {xs : List V} (h : SqT K H a xs) : SqT K H' a xs := by
  rcases h with h | h
  · exact .inl (rd_same e h)
  · exact .inr h
mutual
theorem Rep.mono (e : ∀ b o, H b = some o → H' b = some o) : ∀ {d : D} {v : V}, Rep K H v d → Rep K H' v d
  | _, _, .non => .non
  | _, _, .bl b => .bl b
  | _, _, .int i => .int i
  | _, _, .str x => .str x
  | _, _, .ty n => .ty n
  | _, _, .raw v => .raw v
  | _, _, .scr h => .scr (sqL_same e h)
  | _, _, .tup h r => .tup (sqT_same e h) (RepL.mono e r)
  | _, _, .lst h r => .lst (e _ _ h) (RepL.mono e r)
  | _, _, .obj h r => .obj (e _ _ h) (RepF.mono e r)
theorem RepL.mono (e : ∀ b o, H b = some o → H' b = some o) : ∀ {ds : List D} {vs : List V}, RepL K H vs ds → RepL K H' vs ds
  | _, _, .nil => .nil
  | _, _, .cons h r => .cons (Rep.mono e h) (RepL.mono e r)
theorem RepF.mono (e : ∀ b o, H b = some o → H' b = some o) : ∀ {ds : List (Str × D)} {vs : List (Str × V)}, RepF K H vs ds → RepF K H' vs ds
  | _, _, .nil => .nil
  | _, _, .cons h r => .cons (Rep.mono e h) (RepF.mono e r)
end
theorem RepL.length : ∀ {vs : List V} {ds : List D}, RepL K H vs ds → vs.length = ds.length
  | _, _, .nil => rfl
  | _, _, .cons _ r => congrArg (· + 1) r.length
theorem RepL.append : ∀ {vs ws : List V} {ds es : List D}, RepL K H vs ds → RepL K H ws es → RepL K H (vs ++ ws) (ds ++ es)
  | _, _, _, _, .nil, s => s
  | _, _, _, _, .cons h r, s => .cons h (RepL.append r s)
theorem RepL.get : ∀ {vs : List V} {ds : List D} {i : Nat} {d : D}, RepL K H vs ds → ds[i]? = some d → ∃ v, vs[i]? = some v ∧ Rep K H v d
  | _, _, _, _, .nil, e => by simp at e
  | _, _, 0, _, .cons h _, e => by simp at e; subst e; exact ⟨_, rfl, h⟩
  | _, _, i + 1, d, .cons _ r, e => by
    obtain ⟨v, h1, h2⟩ := RepL.get (i := i) (d := d) r (by simpa using e)
    exact ⟨v, by simpa using h1, h2⟩
theorem RepL.getV : ∀ {vs : List V} {ds : List D} {i : Nat} {v : V}, RepL K H vs ds → vs[i]? = some v → ∃ d, ds[i]? = some d ∧ Rep K H v d
  | _, _, _, _, .nil, e => by simp at e
  | _, _, 0, _, .cons h _, e => by simp at e; subst e; exact ⟨_, rfl, h⟩
  | _, _, i + 1, d, .cons _ r, e => by
    obtain ⟨v, h1, h2⟩ := RepL.getV (i := i) (v := d) r (by simpa using e)
    exact ⟨v, by simpa using h1, h2⟩
theorem RepL.take : ∀ {vs : List V} {ds : List D} (n : Nat), RepL K H vs ds → RepL K H (vs.take n) (ds.take n)
  | _, _, 0, _ => .nil
  | _, _, _ + 1, .nil => .nil
  | _, _, n + 1, .cons h r => .cons h (RepL.take n r)
theorem RepL.drop : ∀ {vs : List V} {ds : List D} (n : Nat), RepL K H vs ds → RepL K H (vs.drop n) (ds.drop n)
  | _, _, 0, r => r
  | _, _, _ + 1, .nil => .nil
  | _, _, n + 1, .cons _ r => RepL.drop n r
theorem RepL.set {v : V} {d : D} (h : Rep K H v d) : ∀ {vs : List V} {ds : List D} (i : Nat), RepL K H vs ds → RepL K H (vs.set i v) (ds.set i d)
  | _, _, _, .nil => .nil
  | _, _, 0, .cons _ r => .cons h r
  | _, _, i + 1, .cons q r => .cons q (RepL.set h i r)
theorem RepL.eraseIdx : ∀ {vs : List V} {ds : List D} (i : Nat), RepL K H vs ds → RepL K H (vs.eraseIdx i) (ds.eraseIdx i)
  | _, _, _, .nil => .nil
  | _, _, 0, .cons _ r => r
  | _, _, i + 1, .cons q r => .cons q (RepL.eraseIdx i r)
theorem RepL.dropLast : ∀ {vs : List V} {ds : List D}, RepL K H vs ds → RepL K H vs.dropLast ds.dropLast
  | _, _, .nil => .nil
  | _, _, .cons _ .nil => .nil
  | _, _, .cons h (.cons h2 r) => .cons h (RepL.dropLast (.cons h2 r))
theorem RepL.split : ∀ {ds es : List D} {vs : List V}, RepL K H vs (ds ++ es) → ∃ us ws, vs = us ++ ws ∧ RepL K H us ds ∧ RepL K H ws es
  | [], _, vs, r => ⟨[], vs, rfl, .nil, r⟩
  | _ :: _, _, _, .cons h r => by
    obtain ⟨us, ws, e, r1, r2⟩ := RepL.split r
    exact ⟨_ :: us, ws, by rw [e]; rfl, .cons h r1, r2⟩
theorem RepL.replicate {v : V} {d : D} (h : Rep K H v d) : ∀ n, RepL K H (List.replicate n v) (List.replicate n d)
  | 0 => .nil
  | n + 1 => .cons h (RepL.replicate h n)
end
/-- a slot of an environment: data that stay, or a list of one's own (pinned: a parameter's) -/
inductive Sl where
  | fz (d : D) | ow (pin : Bool) (xs : List D)
abbrev Ev := List (Option Sl)
/-- a result: data that stay, or a new list -/
inductive Res where
  | fz (d : D) | fr (xs : List D)
def Res.dat : Res → D
  | .fz d => d
  | .fr xs => .lst xs
@[simp] theorem dat_fz (d : D) : (Res.fz d).dat = d := rfl
@[simp] theorem dat_fr (xs : List D) : (Res.fr xs).dat = .lst xs := rfl
def SlOk (K : Fg) (H Hf : Hp) (ov : Option (Option V)) : Sl → Prop
  | .fz d => ∃ v, ov = some (some v) ∧ Rep K Hf v d
  | .ow _ xs => ∃ a ys, ov = some (some (.ref a)) ∧ H a = some (.lst ys) ∧ Hf a = none ∧ RepL K Hf ys xs
def Own (σ : St) (ρ : Ev) (a : Addr) : Prop := ∃ (i : Nat) (p : Bool) (xs : List D), ρ[i]? = some (some (.ow p xs)) ∧ σ[i]? = some (some (.ref a))
structure DEnv (K : Fg) (H Hf : Hp) (σ : St) (ρ : Ev) : Prop where
  sub : ∀ b o, Hf b = some o → H b = some o
  sl : ∀ (i : Nat) (s : Sl), ρ[i]? = some (some s) → SlOk K H Hf σ[i]? s
  sep : ∀ (i j : Nat) (a : Addr) (p : Bool) (xs : List D) (q : Bool) (ys : List D), ρ[i]? = some (some (.ow p xs)) → ρ[j]? = some (some (.ow q ys)) → σ[i]? = some (some (.ref a)) → σ[j]? = some (some (.ref a)) → i = j
  len : σ.length = ρ.length
structure Mv (σ : St) (ρ ρ' : Ev) (H H' Hf Hf' : Hp) : Prop where
  keep : ∀ b o, H b = some o → ¬ Own σ ρ b → H' b = some o
  live : ∀ b, H' b = none → H b = none
  grow : ∀ b o, Hf b = some o → Hf' b = some o
  new : ∀ b o, Hf' b = some o → Hf b = some o ∨ H b = none ∨ Own σ ρ b
  own : ∀ (i : Nat) (p : Bool) (xs : List D), ρ'[i]? = some (some (.ow p xs)) → ∃ ys, ρ[i]? = some (some (.ow p ys))
  pin : ∀ (i : Nat) (xs : List D), ρ[i]? = some (some (.ow true xs)) → ∃ ys, ρ'[i]? = some (some (.ow true ys))
def ResOk (K : Fg) (H H' Hf' : Hp) (v : V) : Res → Prop
  | .fz d => Rep K Hf' v d
  | .fr xs => ∃ a ys, v = .ref a ∧ H' a = some (.lst ys) ∧ Hf' a = none ∧ H a = none ∧ RepL K Hf' ys xs
section
variable {K : Fg} {σ : St} {ρ ρ1 ρ2 : Ev} {H H1 H2 Hf Hf1 Hf2 : Hp}
theorem Mv.refl (σ : St) (ρ : Ev) (H Hf : Hp) : Mv σ ρ ρ H H Hf Hf := ⟨fun _ _ h _ => h, fun _ h => h, fun _ _ h => h, fun _ _ h => .inl h, fun _ _ xs h => ⟨xs, h⟩, fun _ xs h => ⟨xs, h⟩⟩
theorem Mv.ow (m : Mv σ ρ ρ1 H H1 Hf Hf1) {a : Addr} (h : Own σ ρ1 a) : Own σ ρ a := by
  obtain ⟨i, p, xs, h1, h2⟩ := h
  obtain ⟨ys, h3⟩ := m.own i p xs h1
  exact ⟨i, p, ys, h3, h2⟩
theorem Mv.trans (m : Mv σ ρ ρ1 H H1 Hf Hf1) (n : Mv σ ρ1 ρ2 H1 H2 Hf1 Hf2) : Mv σ ρ ρ2 H H2 Hf Hf2 where
  keep := fun b o h ho => n.keep b o (m.keep b o h ho) fun z => ho (m.ow z)
  live := fun b h => m.live b (n.live b h)
  grow := fun b o h => n.grow b o (m.grow b o h)
  new := fun b o h => by
    rcases n.new b o h with h | h | h
    · exact m.new b o h
    · exact .inr (.inl (m.live b h))
    · exact .inr (.inr (m.ow h))
  own := fun i p xs h => by
    obtain ⟨ys, h1⟩ := n.own i p xs h
    exact m.own i p ys h1
  pin := fun i xs h => by
    obtain ⟨ys, h1⟩ := m.pin i xs h
    exact n.pin i ys h1
theorem Own.at (e : DEnv K H Hf σ ρ) {a : Addr} (h : Own σ ρ a) : (∃ ys, H a = some (.lst ys)) ∧ Hf a = none := by
  obtain ⟨i, p, xs, h1, h2⟩ := h
  obtain ⟨b, ys, e1, e2, e3, _⟩ := e.sl i _ h1
  rw [h2] at e1
  cases e1
  exact ⟨⟨ys, e2⟩, e3⟩
/-- what was not known ahead of a movement is not owned -/
theorem not_own (e : DEnv K H Hf σ ρ) {a : Addr} (h : H a = none) : ¬ Own σ ρ a := fun z => by
  obtain ⟨⟨ys, q⟩, _⟩ := z.at e
  rw [h] at q
  cases q
/-- the heap grows, nothing of one's own is touched -/
structure Ext (H H' Hf Hf' : Hp) : Prop where
  same : ∀ b o, H b = some o → H' b = some o
  sub : ∀ b o, Hf' b = some o → H' b = some o
  grow : ∀ b o, Hf b = some o → Hf' b = some o
  new : ∀ b o, Hf' b = some o → Hf b = some o ∨ H b = none
theorem Ext.refl (h : ∀ b o, Hf b = some o → H b = some o) : Ext H H Hf Hf := ⟨fun _ _ h => h, h, fun _ _ h => h, fun _ _ h => .inl h⟩
theorem Ext.live (x : Ext H H1 Hf Hf1) (b : Addr) (h : H1 b = none) : H b = none := by
  cases q : H b with
  | none => rfl
  | some o =>
    rw [x.same b o q] at h
    cases h
theorem Ext.mv (x : Ext H H1 Hf Hf1) : Mv σ ρ ρ H H1 Hf Hf1 :=
  ⟨fun b o h _ => x.same b o h, x.live, x.grow, fun b o h => (x.new b o h).imp id .inl, fun _ _ xs h => ⟨xs, h⟩, fun _ xs h => ⟨xs, h⟩⟩
theorem Ext.env (x : Ext H H1 Hf Hf1) (e : DEnv K H Hf σ ρ) : DEnv K H1 Hf1 σ ρ where
  sub := x.sub
  sl := fun i s h => by
    have q := e.sl i s h
    cases s with
    | fz d =>
      obtain ⟨v, q1, q2⟩ := q
      exact ⟨v, q1, q2.mono x.grow⟩
    | ow p xs =>
      obtain ⟨a, ys, q1, q2, q3, q4⟩ := q
      refine ⟨a, ys, q1, x.same _ _ q2, ?_, q4.mono x.grow⟩
      cases z : Hf1 a with
      | none => rfl
      | some o =>
        rcases x.new a o z with z | z
        · rw [q3] at z; cases z
        · rw [q2] at z; cases z
  sep := e.sep
  len := e.len
theorem Ext.trans (x : Ext H H1 Hf Hf1) (y : Ext H1 H2 Hf1 Hf2) : Ext H H2 Hf Hf2 :=
  ⟨fun b o h => y.same b o (x.same b o h), y.sub, fun b o h => y.grow b o (x.grow b o h), fun b o h => by
    rcases y.new b o h with h | h
    · exact x.new b o h
    · exact .inr (x.live b h)⟩
/-- a new object that stays -/
theorem Ext.add (h : ∀ b o, Hf b = some o → H b = some o) {a : Addr} (o : HO) (n : H a = none) : Ext H (upd H a o) Hf (upd Hf a o) where
  same := fun b u e => by rw [upd_ne (ne_of_none e n)]; exact e
  sub := fun b u e => by
    by_cases hb : b = a
    · subst hb
      rw [upd_same] at e ⊢
      exact e
    · rw [upd_ne hb] at e ⊢
      exact h b u e
  grow := fun b u e => by rw [upd_ne (ne_of_none (h _ _ e) n)]; exact e
  new := fun b u e => by
    by_cases hb : b = a
    · subst hb
      exact .inr n
    · rw [upd_ne hb] at e
      exact .inl e
/-- a new object that is not told of -/
theorem Ext.add' (h : ∀ b o, Hf b = some o → H b = some o) {a : Addr} (o : HO) (n : H a = none) : Ext H (upd H a o) Hf Hf where
  same := fun b u e => by rw [upd_ne (ne_of_none e n)]; exact e
  sub := fun b u e => by rw [upd_ne (ne_of_none (h _ _ e) n)]; exact h _ _ e
  grow := fun b u e => e
  new := fun b u e => .inl e
/-- a new list is frozen -/
theorem ResOk.freeze {v : V} {r : Res} (e : DEnv K H Hf σ ρ) (e1 : DEnv K H1 Hf1 σ ρ1) (m : Mv σ ρ ρ1 H H1 Hf Hf1) (h : ResOk K H H1 Hf1 v r) :
    ∃ Hf2, DEnv K H1 Hf2 σ ρ1 ∧ Mv σ ρ ρ1 H H1 Hf Hf2 ∧ Rep K Hf2 v r.dat := by
  cases r with
  | fz d => exact ⟨Hf1, e1, m, h⟩
  | fr xs =>
    obtain ⟨a, ys, rfl, h1, h2, h3, h4⟩ := h
    have g : ∀ b o, Hf1 b = some o → upd Hf1 a (.lst ys) b = some o := fun b o q => by rw [upd_ne (ne_of_none q h2)]; exact q
    refine ⟨upd Hf1 a (.lst ys), ⟨fun b o q => ?_, fun i s q => ?_, e1.sep, e1.len⟩, ⟨m.keep, m.live, fun b o q => g b o (m.grow b o q), fun b o q => ?_, m.own, m.pin⟩, .lst upd_same (h4.mono g)⟩
    · by_cases hb : b = a
      · subst hb
        rw [upd_same] at q
        rw [h1]
        exact q
      · rw [upd_ne hb] at q
        exact e1.sub b o q
    · have z := e1.sl i s q
      cases s with
      | fz d =>
        obtain ⟨v, q1, q2⟩ := z
        exact ⟨v, q1, q2.mono g⟩
      | ow p us =>
        obtain ⟨b, zs, q1, q2, q3, q4⟩ := z
        have hb : b ≠ a := fun w => by
          have o1 : Own σ ρ b := m.ow ⟨i, p, us, q, q1⟩
          obtain ⟨⟨_, o2⟩, _⟩ := o1.at e
          rw [w, h3] at o2
          cases o2
        exact ⟨b, zs, q1, q2, by rw [upd_ne hb]; exact q3, q4.mono g⟩
    · by_cases hb : b = a
      · subst hb
        exact .inr (.inl h3)
      · rw [upd_ne hb] at q
        exact m.new b o q
end
/-! ### expressions -/
abbrev TD := Ev → (Res → Ev → Prop) → Prop
/-- the reading of an expression by its data -/
def canE (K : Fg) (τ : TD) : TE := fun σ H Q => ∃ (Hf : Hp) (ρ : Ev) (P : Res → Ev → Prop), DEnv K H Hf σ ρ ∧ τ ρ P ∧
    (∀ v H' Hf' r ρ', DEnv K H' Hf' σ ρ' → Mv σ ρ ρ' H H' Hf Hf' → ResOk K H H' Hf' v r → P r ρ' → Q v H')
structure DE (X : Cx) (e : Expr) (τ : TD) : Prop where
  pe : PE X e (canE X.K τ)
theorem DE.of {X : Cx} {e : Expr} {τ : TD} {t : TE} (h : PE X e t) (k : ∀ (σ : St) (H Hf : Hp) (ρ : Ev) (P : Res → Ev → Prop) (Q : VK), DEnv X.K H Hf σ ρ → τ ρ P →
    (∀ v H' Hf' r ρ', DEnv X.K H' Hf' σ ρ' → Mv σ ρ ρ' H H' Hf Hf' → ResOk X.K H H' Hf' v r → P r ρ' → Q v H') → t σ H Q) : DE X e τ :=
  ⟨⟨fun pins s σ H Q I ⟨Hf, ρ, P, e, q, kk⟩ => h.run pins s σ H Q I (k σ H Hf ρ P Q e q kk)⟩⟩
theorem DE.ex {X : Cx} {e : Expr} {τ : TD} (h : DE X e τ) : ∃ t, PE X e t ∧ ∀ (σ : St) (H Hf : Hp) (ρ : Ev) (P : Res → Ev → Prop) (Q : VK), DEnv X.K H Hf σ ρ → τ ρ P →
    (∀ v H' Hf' r ρ', DEnv X.K H' Hf' σ ρ' → Mv σ ρ ρ' H H' Hf Hf' → ResOk X.K H H' Hf' v r → P r ρ' → Q v H') → t σ H Q :=
  ⟨_, h.pe, fun _ _ Hf ρ P _ e q k => ⟨Hf, ρ, P, e, q, k⟩⟩
/-- with its result frozen -/
theorem DE.fz {X : Cx} {e : Expr} {τ : TD} (h : DE X e τ) : ∃ t, PE X e t ∧ ∀ (σ : St) (H Hf : Hp) (ρ : Ev) (P : D → Ev → Prop) (Q : VK), DEnv X.K H Hf σ ρ → τ ρ (fun r ρ' => P r.dat ρ') →
    (∀ v H' Hf' d ρ', DEnv X.K H' Hf' σ ρ' → Mv σ ρ ρ' H H' Hf Hf' → Rep X.K Hf' v d → P d ρ' → Q v H') → t σ H Q := by
  obtain ⟨t, ht, hs⟩ := h.ex
  refine ⟨t, ht, fun σ H Hf ρ P Q e q k => hs σ H Hf ρ _ Q e q fun v H' Hf' r ρ' e1 m1 r1 p1 => ?_⟩
  obtain ⟨Hf2, e2, m2, r2⟩ := r1.freeze e e1 m1
  exact k v H' Hf2 r.dat ρ' e2 m2 r2 p1
end DL
/-! The data layer, 2: operators, comparisons, constants, names. -/
namespace DL
open PySem L2
/-! ### data as the library's data (for ==) -/
mutual
def D.py : D → PyData
  | .non => .none
  | .bl b => .bool b
  | .int i => .int i
  | .str x => .str x
  | .tup xs => .tuple (pyL xs)
  | .lst xs => .list (pyL xs)
  | .obj _ _ => .dict []
  | .ty _ => .dict []
  | .raw _ => .dict []
  | .scr _ => .dict []
def pyL : List D → List PyData
  | [] => []
  | d :: ds => d.py :: pyL ds
end
mutual
def D.okP : D → Bool
  | .non => true
  | .bl _ => true
  | .int _ => true
  | .str _ => true
  | .tup xs => okL xs
  | .lst xs => okL xs
  | .obj _ _ => false
  | .ty _ => false
  | .raw _ => false
  | .scr _ => false
def okL : List D → Bool
  | [] => true
  | d :: ds => d.okP && okL ds
end
mutual
theorem Rep.dp {K : Fg} {H : Hp} : ∀ {d : D} {v : V}, d.okP = true → Rep K H v d → Dp K H v d.py
  | _, _, _, .non => .non
  | _, _, _, .bl b => .bl b
  | _, _, _, .int i => .int i
  | _, _, _, .str x => .str x
  | _, _, h, .ty _ => by simp [D.okP] at h
  | _, _, h, .raw _ => by simp [D.okP] at h
  | _, _, h, .scr _ => by simp [D.okP] at h
  | _, _, h, .obj _ _ => by simp [D.okP] at h
  | .tup ds, _, h, .tup s r => by
    rw [D.okP] at h
    exact .tup s (RepL.dp h r)
  | .lst ds, _, h, .lst s r => by
    rw [D.okP] at h
    exact .lst (.inl (.inl s)) (RepL.dp h r)
theorem RepL.dp {K : Fg} {H : Hp} : ∀ {ds : List D} {vs : List V}, okL ds = true → RepL K H vs ds → DpAll K H vs (pyL ds)
  | _, _, _, .nil => .nil
  | _, _, h, .cons a r => by
    rw [okL, Bool.and_eq_true] at h
    exact .cons (Rep.dp h.1 a) (RepL.dp h.2 r)
end
def eqvD (a b : D) : Bool := PyData.eqv a.py b.py
def shapedD (a : D) : Bool := a.okP && SeqAt.shaped a.py
/-- no place to look into -/
def D.flat : D → Bool
  | .non | .bl _ | .int _ | .str _ => true
  | _ => false
theorem Rep.flat {K : Fg} {H : Hp} {v : V} {d : D} (h : Rep K H v d) (f : d.flat = true) : flatV v = true := by
  cases h <;> first | rfl | (simp [D.flat] at f)
theorem Rep.eqV {K : Fg} {H : Hp} {v u : V} {d e : D} (h : Rep K H v d) (k : Rep K H u e) (f : d.flat = true) (g : e.flat = true) : L2.eqV v u = eqvD d e := by
  cases h <;> first | (simp [D.flat] at f; done) | skip
  all_goals cases k <;> first | (simp [D.flat] at g; done) | (simp [L2.eqV, eqvD, D.py, PyData.eqv])
/-! ### two-place operations -/
def OpS (K : Fg) (r : R2) (g : D → D → Option Res) : Prop := ∀ (H Hf : Hp) (x y : V) (a b : D) (c : Res) (Q : VK), (∀ b o, Hf b = some o → H b = some o) → Rep K Hf x a → Rep K Hf y b → g a b = some c →
  (∀ v H' Hf', Ext H H' Hf Hf' → ResOk K H H' Hf' v c → Q v H') → r x y H Q
theorem opR_or {X : Cx} {f : Value → Value → Sem Value} {r r' : R2} (h : OpR X f r) (h' : OpR X f r') : OpR X f (fun x y H Q => r x y H Q ∨ r' x y H Q) := by
  intro pins s σ H x y v u Q I rx ry q
  rcases q with q | q
  · exact h pins s σ H x y v u Q I rx ry q
  · exact h' pins s σ H x y v u Q I rx ry q
theorem ResOk.back {K : Fg} {H H1 H2 Hf2 : Hp} {v : V} {c : Res} (l : ∀ b, H1 b = none → H b = none) (h : ResOk K H1 H2 Hf2 v c) : ResOk K H H2 Hf2 v c := by
  cases c with
  | fz d => exact h
  | fr xs =>
    obtain ⟨a, ys, h1, h2, h3, h4, h5⟩ := h
    exact ⟨a, ys, h1, h2, h3, l _ h4, h5⟩
def tBin (g : D → D → Option Res) (a b : TD) : TD := fun ρ P => a ρ fun x ρ1 => b ρ1 fun y ρ2 => ∃ c, g x.dat y.dat = some c ∧ P c ρ2
section
variable {X : Cx} {a b e : Expr} {τa τb : TD} {pos : Pos} {r : R2} {g : D → D → Option Res}
theorem run2 {ta tb : TE} (hs : OpS X.K r g)
    (sa : ∀ (σ : St) (H Hf : Hp) (ρ : Ev) (P : D → Ev → Prop) (Q : VK), DEnv X.K H Hf σ ρ → τa ρ (fun r ρ' => P r.dat ρ') → (∀ v H' Hf' d ρ', DEnv X.K H' Hf' σ ρ' → Mv σ ρ ρ' H H' Hf Hf' → Rep X.K Hf' v d → P d ρ' → Q v H') → ta σ H Q)
    (sb : ∀ (σ : St) (H Hf : Hp) (ρ : Ev) (P : D → Ev → Prop) (Q : VK), DEnv X.K H Hf σ ρ → τb ρ (fun r ρ' => P r.dat ρ') → (∀ v H' Hf' d ρ', DEnv X.K H' Hf' σ ρ' → Mv σ ρ ρ' H H' Hf Hf' → Rep X.K Hf' v d → P d ρ' → Q v H') → tb σ H Q)
    (σ : St) (H Hf : Hp) (ρ : Ev) (P : Res → Ev → Prop) (Q : VK) (e : DEnv X.K H Hf σ ρ) (q : tBin g τa τb ρ P)
    (k : ∀ v H' Hf' r ρ', DEnv X.K H' Hf' σ ρ' → Mv σ ρ ρ' H H' Hf Hf' → ResOk X.K H H' Hf' v r → P r ρ' → Q v H') : tOp r ta tb σ H Q := by
  refine sa σ H Hf ρ (fun x ρ1 => τb ρ1 fun y ρ2 => ∃ c, g x y.dat = some c ∧ P c ρ2) _ e q fun x H1 Hf1 dx ρ1 e1 m1 r1 q1 => ?_
  refine sb σ H1 Hf1 ρ1 (fun y ρ2 => ∃ c, g dx y = some c ∧ P c ρ2) _ e1 q1 fun y H2 Hf2 dy ρ2 e2 m2 r2 q2 => ?_
  obtain ⟨c, hc, p⟩ := q2
  refine hs H2 Hf2 x y dx dy c Q e2.sub (r1.mono m2.grow) r2 hc fun v H3 Hf3 x3 ok => ?_
  exact k v H3 Hf3 c ρ2 (x3.env e2) ((m1.trans m2).trans x3.mv) (ok.back (m1.trans m2).live) p
theorem de_bin {op : Operator} (ho : OpR X (binaryOp op) r) (hs : OpS X.K r g) (ha : DE X a τa) (hb : DE X b τb) : DE X (.BinOp a op b pos) (tBin g τa τb) := by
  obtain ⟨ta, pa, sa⟩ := ha.fz
  obtain ⟨tb, pb, sb⟩ := hb.fz
  exact DE.of (pe_op ho pa pb) (run2 hs sa sb)
theorem de_cmp {op : CmpOp} (ho : OpR X (compareOp op) r) (hs : OpS X.K r g) (ha : DE X a τa) (hb : DE X b τb) (hm : behindInMarks op b = false) : DE X (.Compare a [op] [b] pos) (tBin g τa τb) := by
  obtain ⟨ta, pa, sa⟩ := ha.fz
  obtain ⟨tb, pb, sb⟩ := hb.fz
  exact DE.of (pe_cmpR ho pa pb hm) (run2 hs sa sb)
end
/-! ### the operators on data -/
def addD : D → D → Option Res
  | .int i, .int j => some (.fz (.int (i + j)))
  | .str a, .str b => if a.length + b.length ≤ 100000 then some (.fz (.str (a ++ b))) else none
  | .tup a, .tup b => if a.length + b.length ≤ 16000 then some (.fz (.tup (a ++ b))) else none
  | .lst a, .lst b => if a.length + b.length ≤ 16000 then some (.fr (a ++ b)) else none
  | _, _ => none
def addR (K : Fg) : R2 := fun x y H Q => (rI0 (fun i j => .int (i + j)) x y H Q ∨ (∃ i j, x = .str i ∧ y = .str j ∧ i.length + j.length ≤ sizeLine ∧ Q (.str (i ++ j)) H)) ∨ (rCatA K x y H Q ∨ rCat x y H Q)
theorem op_addD {X : Cx} : OpR X (binaryOp .Add) (addR X.K) := opR_or (opR_or op_add op_add_str) (opR_or op_catA op_cat)
theorem lim {n m : Nat} (h : n ≤ m) (hm : m ≤ 100000 := by decide) : n ≤ sizeLine := Nat.le_trans h (Nat.le_trans hm (by decide))
theorem opS_add {K : Fg} : OpS K (addR K) addD := by
  intro H Hf x y a b c Q hf ra rb hg k
  cases ra <;> first | (simp [addD] at hg; done) | skip
  all_goals cases rb <;> first | (simp [addD] at hg; done) | skip
  · rename_i i j
    simp only [addD, Option.some.injEq] at hg
    subst hg
    exact .inl (.inl ⟨i, j, rfl, rfl, k _ _ _ (Ext.refl hf) (.int _)⟩)
  · rename_i i j
    simp only [addD] at hg
    split at hg
    · rename_i hz
      simp only [Option.some.injEq] at hg
      subst hg
      exact .inl (.inr ⟨i, j, rfl, rfl, lim hz, k _ _ _ (Ext.refl hf) (.str _)⟩)
    · cases hg
  · rename_i p xs ds hp rp q ys es hq rq
    simp only [addD] at hg
    split at hg
    · rename_i hz
      simp only [Option.some.injEq] at hg
      subst hg
      have l1 := rp.length
      have l2 := rq.length
      refine .inr (.inl ⟨p, q, xs, ys, rfl, rfl, sqT_same hf hp, sqT_same hf hq, by rw [l1, l2]; exact lim hz, fun z => ?_, fun _ z => ?_, fun _ _ n hn => ?_⟩)
      · subst z
        cases rp
        exact k _ _ _ (Ext.refl hf) (.tup hq rq)
      · subst z
        cases rq
        exact k _ _ _ (Ext.refl hf) (.tup hp (by rw [List.append_nil]; exact rp))
      · have x := Ext.add hf (.tup (xs ++ ys)) hn
        exact k _ _ _ x (.tup (.inl (.inl upd_same)) ((rp.append rq).mono x.grow))
    · cases hg
  · rename_i p xs ds hp rp q ys es hq rq
    simp only [addD] at hg
    split at hg
    · rename_i hz
      simp only [Option.some.injEq] at hg
      subst hg
      have l1 := rp.length
      have l2 := rq.length
      refine .inr (.inr ⟨p, q, xs, ys, rfl, rfl, hf _ _ hp, hf _ _ hq, by rw [l1, l2]; exact lim hz, fun n hn => ?_⟩)
      have x := Ext.add' hf (.lst (xs ++ ys)) hn
      have nn : Hf n = none := by
        cases z : Hf n with
        | none => rfl
        | some o => rw [hf _ _ z] at hn; cases hn
      exact k _ _ _ x ⟨n, xs ++ ys, rfl, upd_same, nn, hn, rp.append rq⟩
    · cases hg
/-- ints -/
def intD (C : Int → Int → Bool) (f : Int → Int → D) : D → D → Option Res
  | .int i, .int j => if C i j = true then some (.fz (f i j)) else none
  | _, _ => none
theorem opS_int {K : Fg} {C : Int → Int → Prop} {B : Int → Int → Bool} {f : Int → Int → Int} (h : ∀ i j, B i j = true → C i j) : OpS K (rI C fun i j => .int (f i j)) (intD B fun i j => .int (f i j)) := by
  intro H Hf x y a b c Q hf ra rb hg k
  cases ra <;> first | (simp [intD] at hg; done) | skip
  cases rb <;> first | (simp [intD] at hg; done) | skip
  rename_i i j
  simp only [intD] at hg
  split at hg
  · rename_i hz
    simp only [Option.some.injEq] at hg
    subst hg
    exact ⟨i, j, rfl, rfl, h i j hz, k _ _ _ (Ext.refl hf) (.int _)⟩
  · cases hg
theorem opS_intB {K : Fg} {f : Int → Int → Bool} : OpS K (rI0 fun i j => .bl (f i j)) (intD (fun _ _ => true) fun i j => .bl (f i j)) := by
  intro H Hf x y a b c Q hf ra rb hg k
  cases ra <;> first | (simp [intD] at hg; done) | skip
  cases rb <;> first | (simp [intD] at hg; done) | skip
  rename_i i j
  simp only [intD, if_true, Option.some.injEq] at hg
  subst hg
  exact ⟨i, j, rfl, rfl, k _ _ _ (Ext.refl hf) (.bl _)⟩
theorem opS_intI {K : Fg} {f : Int → Int → Int} : OpS K (rI0 fun i j => .int (f i j)) (intD (fun _ _ => true) fun i j => .int (f i j)) := by
  intro H Hf x y a b c Q hf ra rb hg k
  cases ra <;> first | (simp [intD] at hg; done) | skip
  cases rb <;> first | (simp [intD] at hg; done) | skip
  rename_i i j
  simp only [intD, if_true, Option.some.injEq] at hg
  subst hg
  exact ⟨i, j, rfl, rfl, k _ _ _ (Ext.refl hf) (.int _)⟩
def subD := intD (fun _ _ => true) fun i j => .int (i - j)
def fdivD := intD (fun _ j => decide (0 < j ∧ j < 1073741824)) fun i j => .int (i / j)
def modD := intD (fun _ j => decide (0 < j)) fun i j => .int (i % j)
def powD := intD (fun i j => decide (0 ≤ j ∧ j ≤ 1000000 ∧ i.natAbs < 2 ^ 64)) fun i j => .int (i ^ j.toNat)
def ltD := intD (fun _ _ => true) fun i j => .bl (decide (i < j))
def leD := intD (fun _ _ => true) fun i j => .bl (decide (i ≤ j))
def gtD := intD (fun _ _ => true) fun i j => .bl (decide (j < i))
def geD := intD (fun _ _ => true) fun i j => .bl (decide (j ≤ i))
def mulD : D → D → Option Res
  | .int i, .int j => if decide ((-(2 ^ 64) < i ∧ i < 2 ^ 64) ∨ (-(2 ^ 64) < j ∧ j < 2 ^ 64)) = true then some (.fz (.int (i * j))) else none
  | .tup a, .int k => if decide (a ≠ [] ∧ 0 ≤ k ∧ k ≤ 1000 ∧ a.length ≤ 1000) = true then some (.fz (.tup (List.replicate k.toNat a).flatten)) else none
  | .lst a, .int k => if decide (0 ≤ k ∧ k ≤ 1000 ∧ a.length ≤ 10) = true then some (.fr (List.replicate k.toNat a).flatten) else none
  | _, _ => none
end DL
/-! The data layer, 3: more operators; expressions. -/
namespace DL
open PySem L2
section
variable {K : Fg} {H Hf : Hp}
theorem free_of (hf : ∀ b o, Hf b = some o → H b = some o) {n : Addr} (hn : H n = none) : Hf n = none := by
  cases z : Hf n with
  | none => rfl
  | some o => rw [hf _ _ z] at hn; cases hn
/-- a new list, a new tuple -/
theorem new_lst (hf : ∀ b o, Hf b = some o → H b = some o) {n : Addr} (hn : H n = none) {xs : List V} {ds : List D} (r : RepL K Hf xs ds) : Ext H (upd H n (.lst xs)) Hf Hf ∧ ResOk K H (upd H n (.lst xs)) Hf (.ref n) (.fr ds) :=
  ⟨Ext.add' hf _ hn, n, xs, rfl, upd_same, free_of hf hn, hn, r⟩
theorem new_tup (hf : ∀ b o, Hf b = some o → H b = some o) {n : Addr} (hn : H n = none) {xs : List V} {ds : List D} (r : RepL K Hf xs ds) :
    Ext H (upd H n (.tup xs)) Hf (upd Hf n (.tup xs)) ∧ ResOk K H (upd H n (.tup xs)) (upd Hf n (.tup xs)) (.ref n) (.fz (.tup ds)) :=
  ⟨Ext.add hf _ hn, .tup (.inl (.inl upd_same)) (r.mono (Ext.add hf _ hn).grow)⟩
end
def mulR (K : Fg) : R2 := fun x y H Q => rI CMul (fun i j => .int (i * j)) x y H Q ∨ (rRepA K x y H Q ∨ rRep x y H Q)
theorem op_mulD {X : Cx} : OpR X (binaryOp .Mult) (mulR X.K) := opR_or op_mul (opR_or op_repA op_rep)
theorem RepL.rep {K : Fg} {H : Hp} {vs : List V} {ds : List D} (r : RepL K H vs ds) : ∀ n, RepL K H (List.replicate n vs).flatten (List.replicate n ds).flatten
  | 0 => .nil
  | n + 1 => by
    rw [List.replicate_succ, List.replicate_succ, List.flatten_cons, List.flatten_cons]
    exact r.append (RepL.rep r n)
theorem opS_mul {K : Fg} : OpS K (mulR K) mulD := by
  intro H Hf x y a b c Q hf ra rb hg k
  cases ra <;> first | (simp [mulD] at hg; done) | skip
  all_goals cases rb <;> first | (simp [mulD] at hg; done) | skip
  · rename_i i j
    simp only [mulD] at hg
    split at hg
    · rename_i hz
      simp only [Option.some.injEq] at hg
      subst hg
      have hz' := of_decide_eq_true hz
      exact .inl ⟨i, j, rfl, rfl, hz', k _ _ _ (Ext.refl hf) (.int _)⟩
    · cases hg
  · rename_i p xs ds hp rp j
    simp only [mulD] at hg
    split at hg
    · rename_i hz
      simp only [Option.some.injEq] at hg
      subst hg
      obtain ⟨h1, h2, h3, h4⟩ := of_decide_eq_true hz
      have l1 := rp.length
      refine .inr (.inl ⟨p, j, xs, rfl, rfl, sqT_same hf hp, fun z => ?_, h2, h3, by omega, fun z => ?_, fun _ n hn => ?_⟩)
      · subst z
        cases rp
        exact h1 rfl
      · subst z
        exact k _ _ _ (Ext.refl hf) (.tup hp (by simpa using rp))
      · obtain ⟨x1, x2⟩ := new_tup hf hn (rp.rep j.toNat)
        exact k _ _ _ x1 x2
    · cases hg
  · rename_i p xs ds hp rp j
    simp only [mulD] at hg
    split at hg
    · rename_i hz
      simp only [Option.some.injEq] at hg
      subst hg
      obtain ⟨h2, h3, h4⟩ := of_decide_eq_true hz
      have l1 := rp.length
      refine .inr (.inr ⟨p, j, xs, rfl, rfl, hf _ _ hp, by omega, by omega, ?_, fun n hn => ?_⟩)
      · have : xs.length * j.toNat ≤ 10 * 1000 := Nat.mul_le_mul (by omega) (by omega)
        exact lim this
      · obtain ⟨x1, x2⟩ := new_lst hf hn (rp.rep j.toNat)
        exact k _ _ _ x1 x2
    · cases hg
/-! ### == and its like -/
def scalD : D → D → Bool
  | .non, .non | .non, .int _ | .int _, .non | .non, .bl _ | .bl _, .non | .non, .str _ | .str _, .non | .int _, .int _ | .bl _, .bl _ | .str _, .str _ | .int _, .str _ | .str _, .int _ | .bl _, .str _ | .str _, .bl _ => true
  | _, _ => false
/-- two texts compared (not to be run) -/
@[irreducible] def eqS (a b : Str) : Bool := decide (a = b)
theorem eqS_eq (a b : Str) : eqS a b = decide (a = b) := by unfold eqS; rfl
def eqB : D → D → Bool
  | .str a, .str b => eqS a b
  | .int a, .int b => decide (a = b)
  | a, b => eqvD a b
theorem eqB_eq (a b : D) : eqB a b = eqvD a b := by
  unfold eqB
  split
  · rename_i a b
    rw [eqS_eq]
    show decide (a = b) = (a == b)
    by_cases h : a = b
    · simp [h]
    · rw [decide_eq_false h]
      exact (beq_eq_false_iff_ne.mpr h).symm
  · rename_i a b
    show decide (a = b) = (a == b)
    by_cases h : a = b
    · simp [h]
    · rw [decide_eq_false h]
      exact (beq_eq_false_iff_ne.mpr h).symm
  · rfl
def eqD (a b : D) : Option Res := if (scalD a b || (shapedD a && shapedD b)) = true then some (.fz (.bl (eqB a b))) else none
def neD (a b : D) : Option Res := if (scalD a b || (shapedD a && shapedD b)) = true then some (.fz (.bl (!eqB a b))) else none
def eqR (K : Fg) : R2 := fun x y H Q => rEq x y H Q ∨ rEqD K x y H Q
def neR (K : Fg) : R2 := fun x y H Q => rNe x y H Q ∨ rNeD K x y H Q
theorem op_eqD' {X : Cx} (hu : X.A.units + 64 < cLine) : OpR X (compareOp .Eq) (eqR X.K) := opR_or op_eq (op_eqD hu)
theorem op_neD' {X : Cx} (hu : X.A.units + 64 < cLine) : OpR X (compareOp .NotEq) (neR X.K) := opR_or op_ne (op_neD hu)
theorem scal_eqv {K : Fg} {H : Hp} {x y : V} {a b : D} (ra : Rep K H x a) (rb : Rep K H y b) (h : scalD a b = true) : scal x y = true ∧ decide (x = y) = eqvD a b := by
  cases ra <;> cases rb <;> first | (simp [scalD] at h; done) | skip
  all_goals refine ⟨rfl, ?_⟩
  all_goals first
    | (rw [dec_int]; rfl)
    | (rw [dec_bl]; rfl)
    | (rw [dec_str]; rfl)
    | (simp [eqvD, D.py, PyData.eqv]; done)
theorem opS_eq {K : Fg} : OpS K (eqR K) eqD := by
  intro H Hf x y a b c Q hf ra rb hg k
  unfold eqD at hg
  rw [eqB_eq] at hg
  split at hg
  · rename_i hz
    simp only [Option.some.injEq] at hg
    subst hg
    rcases Bool.or_eq_true_iff.mp hz with h | h
    · obtain ⟨h1, h2⟩ := scal_eqv ra rb h
      refine .inl ⟨h1, ?_⟩
      rw [h2]
      exact k _ _ _ (Ext.refl hf) (.bl _)
    · obtain ⟨h1, h2⟩ := Bool.and_eq_true_iff.mp h
      obtain ⟨o1, s1⟩ := Bool.and_eq_true_iff.mp h1
      obtain ⟨o2, s2⟩ := Bool.and_eq_true_iff.mp h2
      exact .inr ⟨_, _, (ra.mono hf).dp o1, (rb.mono hf).dp o2, s1, s2, k _ _ _ (Ext.refl hf) (.bl _)⟩
  · cases hg
theorem opS_ne {K : Fg} : OpS K (neR K) neD := by
  intro H Hf x y a b c Q hf ra rb hg k
  unfold neD at hg
  rw [eqB_eq] at hg
  split at hg
  · rename_i hz
    simp only [Option.some.injEq] at hg
    subst hg
    rcases Bool.or_eq_true_iff.mp hz with h | h
    · obtain ⟨h1, h2⟩ := scal_eqv ra rb h
      refine .inl ⟨h1, ?_⟩
      rw [h2]
      exact k _ _ _ (Ext.refl hf) (.bl _)
    · obtain ⟨h1, h2⟩ := Bool.and_eq_true_iff.mp h
      obtain ⟨o1, s1⟩ := Bool.and_eq_true_iff.mp h1
      obtain ⟨o2, s2⟩ := Bool.and_eq_true_iff.mp h2
      exact .inr ⟨_, _, (ra.mono hf).dp o1, (rb.mono hf).dp o2, s1, s2, k _ _ _ (Ext.refl hf) (.bl _)⟩
  · cases hg
/-! ### is None -/
def D.isNon : D → Bool
  | .non => true
  | _ => false
def D.noRaw : D → Bool
  | .raw _ => false
  | _ => true
def isD (a b : D) : Option Res := if (b.isNon && a.noRaw) = true then some (.fz (.bl a.isNon)) else none
def isntD (a b : D) : Option Res := if (b.isNon && a.noRaw) = true then some (.fz (.bl (!a.isNon))) else none
theorem Rep.isNon {K : Fg} {H : Hp} {x : V} {a : D} (r : Rep K H x a) (n : a.noRaw = true) : decide (x = .non) = a.isNon := by
  cases r <;> first | (simp [D.noRaw] at n; done) | (simp [D.isNon])
theorem opS_is {K : Fg} : OpS K (fun x y H Q => y = .non ∧ Q (.bl (decide (x = .non))) H) isD := by
  intro H Hf x y a b c Q hf ra rb hg k
  unfold isD at hg
  split at hg
  · rename_i hz
    simp only [Option.some.injEq] at hg
    subst hg
    obtain ⟨h1, h2⟩ := Bool.and_eq_true_iff.mp hz
    cases rb <;> first | (simp [D.isNon] at h1; done) | skip
    refine ⟨rfl, ?_⟩
    rw [ra.isNon h2]
    exact k _ _ _ (Ext.refl hf) (.bl _)
  · cases hg
theorem opS_isnt {K : Fg} : OpS K (fun x y H Q => y = .non ∧ Q (.bl (!decide (x = .non))) H) isntD := by
  intro H Hf x y a b c Q hf ra rb hg k
  unfold isntD at hg
  split at hg
  · rename_i hz
    simp only [Option.some.injEq] at hg
    subst hg
    obtain ⟨h1, h2⟩ := Bool.and_eq_true_iff.mp hz
    cases rb <;> first | (simp [D.isNon] at h1; done) | skip
    refine ⟨rfl, ?_⟩
    rw [ra.isNon h2]
    exact k _ _ _ (Ext.refl hf) (.bl _)
  · cases hg
/-! ### in -/
/-- x in xs: a sign in a text; a flat thing in a list or a tuple of flat things -/
def inB : D → D → Option Bool
  | .str x, .str z => if x.cps.size = 1 then some (decide ((x.cps.getD 0 0) ∈ z.cps.toList)) else none
  | a, .tup bs => if (a.flat && bs.all D.flat) = true then some (bs.any fun b => eqB b a) else none
  | a, .lst bs => if (a.flat && bs.all D.flat) = true then some (bs.any fun b => eqB b a) else none
  | _, _ => none
def inD (a b : D) : Option Res := (inB a b).map fun k => .fz (.bl k)
def notinD (a b : D) : Option Res := (inB a b).map fun k => .fz (.bl (!k))
def inR (K : Fg) (neg : Bool) : R2 := fun x y H Q => (∃ (c : Nat) (z : Str), x = .str ⟨#[c]⟩ ∧ y = .str z ∧ Q (.bl (if neg then !decide (c ∈ z.cps.toList) else decide (c ∈ z.cps.toList))) H) ∨ rIn K neg x y H Q
theorem op_inD {X : Cx} : OpR X (compareOp .In) (inR X.K false) := opR_or op_in_sign op_in_seq
theorem op_notinD {X : Cx} : OpR X (compareOp .NotIn) (inR X.K true) := opR_or op_notIn_sign op_notIn_seq
theorem RepL.flat {K : Fg} {H : Hp} : ∀ {vs : List V} {ds : List D}, RepL K H vs ds → ds.all D.flat = true → vs.all flatV = true
  | _, _, .nil, _ => rfl
  | _, _, .cons h r, f => by
    rw [List.all_cons, Bool.and_eq_true] at f ⊢
    exact ⟨h.flat f.1, r.flat f.2⟩
theorem RepL.inV {K : Fg} {H : Hp} {x : V} {a : D} (hx : Rep K H x a) (fa : a.flat = true) : ∀ {vs : List V} {ds : List D}, RepL K H vs ds → ds.all D.flat = true → L2.inV x vs = ds.any fun b => eqB b a
  | _, _, .nil, _ => rfl
  | _, _, .cons (v := v) (vs := vs) (d := d) (ds := ds) h r, f => by
    rw [List.all_cons, Bool.and_eq_true] at f
    show (L2.eqV v x || L2.inV x vs) = (eqB d a || ds.any fun b => eqB b a)
    rw [h.eqV hx f.1 fa, r.inV hx fa f.2, eqB_eq]
theorem inB_ok {K : Fg} {neg : Bool} {H Hf : Hp} {x y : V} {a b : D} {k : Bool} {Q : VK} (hf : ∀ b o, Hf b = some o → H b = some o) (ra : Rep K Hf x a) (rb : Rep K Hf y b) (hg : inB a b = some k) (q : Q (.bl (if neg then !k else k)) H) : inR K neg x y H Q := by
  cases rb <;> first | (cases a <;> simp [inB] at hg; done) | skip
  · rename_i z
    cases ra <;> first | (simp [inB] at hg; done) | skip
    rename_i w
    simp only [inB] at hg
    split at hg
    · rename_i hz
      simp only [Option.some.injEq] at hg
      subst hg
      obtain ⟨⟨cs⟩⟩ := w
      match cs, hz with
      | [c], _ => exact .inl ⟨c, z, rfl, rfl, q⟩
    · cases hg
  all_goals
    rename_i p xs ds hp rp
    have hg' : (if (a.flat && ds.all D.flat) = true then some (ds.any fun b => eqB b a) else none) = some k := by
      cases a <;> exact hg
    split at hg'
    · rename_i hz
      simp only [Option.some.injEq] at hg'
      subst hg'
      obtain ⟨h1, h2⟩ := Bool.and_eq_true_iff.mp hz
      refine .inr ⟨p, xs, rfl, ?_, ra.flat h1, rp.flat h2, ?_⟩
      · first | exact .inr (sqT_same hf hp) | exact .inl (.inl (.inl (hf _ _ hp)))
      · rw [rp.inV ra h1 h2]
        exact q
    · cases hg'
theorem opS_in {K : Fg} : OpS K (inR K false) inD := by
  intro H Hf x y a b c Q hf ra rb hg k
  unfold inD at hg
  cases e : inB a b with
  | none => rw [e] at hg; cases hg
  | some z =>
    rw [e] at hg
    cases hg
    exact inB_ok hf ra rb e (k _ _ _ (Ext.refl hf) (.bl _))
theorem opS_notin {K : Fg} : OpS K (inR K true) notinD := by
  intro H Hf x y a b c Q hf ra rb hg k
  unfold notinD at hg
  cases e : inB a b with
  | none => rw [e] at hg; cases hg
  | some z =>
    rw [e] at hg
    cases hg
    exact inB_ok hf ra rb e (k _ _ _ (Ext.refl hf) (.bl _))
end DL
/-! The data layer, 4: constants, names, tests, displays, subscripts, calls of built-ins. -/
namespace DL
open PySem L2
section
variable {X : Cx} {pos : Pos}
def tK (d : D) : TD := fun ρ P => P (.fz d) ρ
theorem de_tC {e : Expr} {v : V} {d : D} (h : PE X e (tC v)) (r : ∀ H, Rep X.K H v d) : DE X e (tK d) :=
  DE.of h fun σ H Hf ρ P Q e q k => k v H Hf (.fz d) ρ e (Mv.refl ..) (r _) q
theorem de_int {i : Int} {j : Nat} : DE X (.Constant (.int i) j pos) (tK (.int i)) := de_tC pe_int fun _ => .int i
theorem de_bl {b : Bool} {j : Nat} : DE X (.Constant (.bool b) j pos) (tK (.bl b)) := de_tC pe_bl fun _ => .bl b
theorem de_non {j : Nat} : DE X (.Constant .none j pos) (tK .non) := de_tC pe_non fun _ => .non
theorem de_str {x : Str} {j : Nat} : DE X (.Constant (.str x) j pos) (tK (.str x)) := de_tC pe_str fun _ => .str x
theorem de_glob {x : Str} {v : V} {u : Value} {d : D} (hg : Gl X x) (hm : X.mg x = some u) (r : RelV v u) (rp : ∀ H, Rep X.K H v d) (hd : (x == ("__debug__" : Str)) = false := by decide) : DE X (.Name x pos) (tK d) := de_tC (pe_glob hg hm r hd) rp
theorem de_ty {x : Str} {n : String} (hg : Gl X x) (hm : X.mg x = none) (hv : bootBuiltins x = some (.type n)) (hn : x ≠ "__name__" := by decide) (hd : (x == ("__debug__" : Str)) = false := by decide) : DE X (.Name x pos) (tK (.ty n)) :=
  de_tC (pe_bltn hg hm hv (v := .ty n) rfl hn hd) fun _ => .ty n
/-- a name that holds data -/
def tV (i : Nat) : TD := fun ρ P => ∃ d, ρ[i]? = some (some (.fz d)) ∧ P (.fz d) ρ
theorem de_v (i : Nat) {x : Str} (hN : X.N[i]? = some x := by rfl) (hv : Vis X.env.scope x := by first | exact Or.inl rfl | exact Or.inr (Or.inl rfl) | exact Or.inr (Or.inr rfl)) (hd : (x == ("__debug__" : Str)) = false := by decide) (hcd : (x == ("__classdict__" : Str)) = false := by decide) :
    DE X (.Name x pos) (tV i) := DE.of (pe_var hN hv hd hcd) fun σ H Hf ρ P Q e ⟨d, h, q⟩ k => by
  obtain ⟨v, h1, h2⟩ := e.sl i _ h
  exact ⟨v, h1, k v H Hf (.fz d) ρ e (Mv.refl ..) h2 q⟩
/-- a name that holds a list of one's own: it is frozen -/
def tVF (i : Nat) : TD := fun ρ P => ∃ xs, ρ[i]? = some (some (.ow false xs)) ∧ P (.fz (.lst xs)) (ρ.set i (some (.fz (.lst xs))))
theorem set_get {ρ : Ev} {i j : Nat} {s : Option Sl} : (ρ.set i s)[j]? = if i = j then (if i < ρ.length then some s else none) else ρ[j]? := by
  rw [List.getElem?_set]
theorem lt_of {ρ : Ev} {i : Nat} {s : Option Sl} (h : ρ[i]? = some s) : i < ρ.length := by
  rw [List.getElem?_eq_some_iff] at h
  exact h.1
theorem freeze_slot {K : Fg} {H Hf : Hp} {σ : St} {ρ : Ev} {i : Nat} {xs : List D} (e : DEnv K H Hf σ ρ) (h : ρ[i]? = some (some (.ow false xs))) :
    ∃ a ys, σ[i]? = some (some (.ref a)) ∧ DEnv K H (upd Hf a (.lst ys)) σ (ρ.set i (some (.fz (.lst xs)))) ∧ Mv σ ρ (ρ.set i (some (.fz (.lst xs)))) H H Hf (upd Hf a (.lst ys)) ∧ Rep K (upd Hf a (.lst ys)) (.ref a) (.lst xs) := by
  obtain ⟨a, ys, h1, h2, h3, h4⟩ := e.sl i _ h
  have hlt := lt_of h
  have g : ∀ b o, Hf b = some o → upd Hf a (.lst ys) b = some o := fun b o q => by rw [upd_ne (ne_of_none q h3)]; exact q
  have rp : Rep K (upd Hf a (.lst ys)) (.ref a) (.lst xs) := .lst upd_same (h4.mono g)
  refine ⟨a, ys, h1, ⟨fun b o q => ?_, fun j s q => ?_, fun j k b p us p' zs q1 q2 q3 q4 => ?_, by rw [List.length_set]; exact e.len⟩, ⟨fun _ _ q _ => q, fun _ q => q, g, fun b o q => ?_, fun j p us q => ?_, fun j us q => ?_⟩, rp⟩
  · by_cases hb : b = a
    · subst hb
      rw [upd_same] at q
      rw [h2]
      exact q
    · rw [upd_ne hb] at q
      exact e.sub b o q
  · rw [set_get] at q
    by_cases hj : i = j
    · subst hj
      rw [if_pos rfl, if_pos hlt] at q
      cases q
      exact ⟨.ref a, h1, rp⟩
    · rw [if_neg hj] at q
      have z := e.sl j s q
      cases s with
      | fz d =>
        obtain ⟨v, z1, z2⟩ := z
        exact ⟨v, z1, z2.mono g⟩
      | ow p us =>
        obtain ⟨b, zs, z1, z2, z3, z4⟩ := z
        have hb : b ≠ a := fun w => by
          subst w
          exact hj (e.sep i j b _ _ _ _ h q h1 z1)
        exact ⟨b, zs, z1, z2, by rw [upd_ne hb]; exact z3, z4.mono g⟩
  · rw [set_get] at q1 q2
    by_cases hj : i = j
    · rw [if_pos hj, if_pos hlt] at q1
      cases q1
    by_cases hk : i = k
    · rw [if_pos hk, if_pos hlt] at q2
      cases q2
    rw [if_neg hj] at q1
    rw [if_neg hk] at q2
    exact e.sep j k b _ _ _ _ q1 q2 q3 q4
  · by_cases hb : b = a
    · subst hb
      exact .inr (.inr ⟨i, false, xs, h, h1⟩)
    · rw [upd_ne hb] at q
      exact .inl q
  · rw [set_get] at q
    by_cases hj : i = j
    · rw [if_pos hj, if_pos hlt] at q
      cases q
    · rw [if_neg hj] at q
      exact ⟨us, q⟩
  · by_cases hj : i = j
    · subst hj
      rw [h] at q
      cases q
    · exact ⟨us, by rw [set_get, if_neg hj]; exact q⟩
theorem de_vf (i : Nat) {x : Str} (hN : X.N[i]? = some x := by rfl) (hv : Vis X.env.scope x := by first | exact Or.inl rfl | exact Or.inr (Or.inl rfl) | exact Or.inr (Or.inr rfl)) (hd : (x == ("__debug__" : Str)) = false := by decide) (hcd : (x == ("__classdict__" : Str)) = false := by decide) :
    DE X (.Name x pos) (tVF i) := DE.of (pe_var hN hv hd hcd) fun σ H Hf ρ P Q e ⟨xs, h, q⟩ k => by
  obtain ⟨a, ys, h1, h2, h3, h4⟩ := freeze_slot e h
  exact ⟨.ref a, h1, k _ H _ (.fz (.lst xs)) _ h2 h3 h4 q⟩
end
/-! ### tests -/
abbrev TDT := Ev → (Bool → Ev → Prop) → Prop
def canT (K : Fg) (τ : TDT) : TT := fun σ H Q => ∃ (Hf : Hp) (ρ : Ev) (P : Bool → Ev → Prop), DEnv K H Hf σ ρ ∧ τ ρ P ∧ (∀ b H' Hf' ρ', DEnv K H' Hf' σ ρ' → Mv σ ρ ρ' H H' Hf Hf' → P b ρ' → Q b H')
structure DT (X : Cx) (e : Expr) (τ : TDT) : Prop where
  pt : PT X e (canT X.K τ)
structure DW (X : Cx) (e : Expr) (τ : TDT) : Prop where
  pw : PW X e (canT X.K τ)
section
variable {X : Cx} {pos : Pos} {a b c e : Expr} {rest : List Expr} {τa τb τc : TD} {tA tB : TDT} {op : Operator}
theorem DT.of {τ : TDT} {t : TT} (h : PT X e t) (k : ∀ (σ : St) (H Hf : Hp) (ρ : Ev) (P : Bool → Ev → Prop) (Q : Bool → Hp → Prop), DEnv X.K H Hf σ ρ → τ ρ P → (∀ b H' Hf' ρ', DEnv X.K H' Hf' σ ρ' → Mv σ ρ ρ' H H' Hf Hf' → P b ρ' → Q b H') → t σ H Q) : DT X e τ :=
  ⟨⟨fun pins s σ H Q I ⟨Hf, ρ, P, e, q, kk⟩ => h.run pins s σ H Q I (k σ H Hf ρ P Q e q kk)⟩⟩
theorem DW.of {τ : TDT} {t : TT} (h : PW X e t) (k : ∀ (σ : St) (H Hf : Hp) (ρ : Ev) (P : Bool → Ev → Prop) (Q : Bool → Hp → Prop), DEnv X.K H Hf σ ρ → τ ρ P → (∀ b H' Hf' ρ', DEnv X.K H' Hf' σ ρ' → Mv σ ρ ρ' H H' Hf Hf' → P b ρ' → Q b H') → t σ H Q) : DW X e τ :=
  ⟨⟨fun wh pins s σ H Q I ⟨Hf, ρ, P, e, q, kk⟩ => h.run wh pins s σ H Q I (k σ H Hf ρ P Q e q kk)⟩⟩
theorem DW.dt {τ : TDT} (h : DW X e τ) : DT X e τ := ⟨h.pw.pt⟩
def tT (τ : TD) : TDT := fun ρ P => τ ρ fun r ρ' => ∃ b, r.dat = .bl b ∧ P b ρ'
theorem Rep.bl_inv {K : Fg} {H : Hp} {v : V} {b : Bool} (h : Rep K H v (.bl b)) : v = .bl b := by cases h; rfl
theorem Rep.int_inv {K : Fg} {H : Hp} {v : V} {b : Int} (h : Rep K H v (.int b)) : v = .int b := by cases h; rfl
theorem Rep.str_inv {K : Fg} {H : Hp} {v : V} {b : Str} (h : Rep K H v (.str b)) : v = .str b := by cases h; rfl
theorem dt_val (h : DE X e τa) (he : ∀ whole, isTrue e X.env whole = (do let v ← whole; standAt e.pos; holding [v] (truthy v)) := by intro _; rfl) : DT X e (tT τa) := by
  obtain ⟨t, p, s⟩ := h.fz
  refine DT.of (pt_val p he) fun σ H Hf ρ P Q e q k => s σ H Hf ρ (fun d ρ' => ∃ b, d = .bl b ∧ P b ρ') _ e q fun v H' Hf' d ρ' e1 m1 r1 ⟨b, hb, p1⟩ => ?_
  subst hb
  exact ⟨b, r1.bl_inv, k b H' Hf' ρ' e1 m1 p1⟩
/-- a comparison of two as a test -/
theorem dt_cmp {cop : CmpOp} {r : R2} {g : D → D → Option Res} (ho : OpR X (compareOp cop) r) (hs : OpS X.K r g) (ha : DE X a τa) (hb : DE X b τb) (hm : behindInMarks cop b = false) : DT X (.Compare a [cop] [b] pos) (tT (tBin g τa τb)) := by
  obtain ⟨ta, pa, sa⟩ := ha.fz
  obtain ⟨tb, pb, sb⟩ := hb.fz
  refine DT.of (pt_cmpR ho pa pb hm) fun σ H Hf ρ P Q e q k => ?_
  refine run2 hs sa sb σ H Hf ρ _ _ e q fun v H' Hf' r ρ' e1 m1 r1 ⟨b, hb, p1⟩ => ?_
  obtain ⟨Hf2, e2, m2, r2⟩ := r1.freeze e e1 m1
  rw [hb] at r2
  exact ⟨b, r2.bl_inv, k b H' Hf2 ρ' e2 m2 p1⟩
def tAndT (a b : TDT) : TDT := fun ρ P => a ρ fun c ρ1 => if c = true then b ρ1 P else P false ρ1
def tOrT (a b : TDT) : TDT := fun ρ P => a ρ fun c ρ1 => if c = true then P true ρ1 else b ρ1 P
def tNotT (a : TDT) : TDT := fun ρ P => a ρ fun c ρ1 => P (!c) ρ1
theorem dw_and1 (ha : DT X a tA) : DW X (.BoolOp .And [a] pos) tA := ⟨pw_and1 ha.pt⟩
theorem dw_or1 (ha : DT X a tA) : DW X (.BoolOp .Or [a] pos) tA := ⟨pw_or1 ha.pt⟩
theorem dw_and (ha : DT X a tA) (hb : DW X (.BoolOp .And (b :: rest) pos) tB) : DW X (.BoolOp .And (a :: b :: rest) pos) (tAndT tA tB) := by
  refine DW.of (pw_and ha.pt hb.pw) fun σ H Hf ρ P Q e q k => ⟨Hf, ρ, _, e, q, fun c H' Hf' ρ' e1 m1 p1 => ?_⟩
  cases c with
  | true => exact ⟨Hf', ρ', P, e1, p1, fun b H2 Hf2 ρ2 e2 m2 p2 => k b H2 Hf2 ρ2 e2 (m1.trans m2) p2⟩
  | false => exact k false H' Hf' ρ' e1 m1 p1
theorem dw_or (ha : DT X a tA) (hb : DW X (.BoolOp .Or (b :: rest) pos) tB) : DW X (.BoolOp .Or (a :: b :: rest) pos) (tOrT tA tB) := by
  refine DW.of (pw_or ha.pt hb.pw) fun σ H Hf ρ P Q e q k => ⟨Hf, ρ, _, e, q, fun c H' Hf' ρ' e1 m1 p1 => ?_⟩
  cases c with
  | false => exact ⟨Hf', ρ', P, e1, p1, fun b H2 Hf2 ρ2 e2 m2 p2 => k b H2 Hf2 ρ2 e2 (m1.trans m2) p2⟩
  | true => exact k true H' Hf' ρ' e1 m1 p1
theorem dt_not (ha : DT X a tA) : DT X (.UnaryOp .Not a pos) (tNotT tA) := by
  refine DT.of (pt_not ha.pt) fun σ H Hf ρ P Q e q k => ⟨Hf, ρ, _, e, q, fun c H' Hf' ρ' e1 m1 p1 => k (!c) H' Hf' ρ' e1 m1 p1⟩
/-! ### and, or, not, if as values -/
def tAndE (a b : TD) : TD := fun ρ P => a ρ fun x ρ1 => ∃ c, x.dat = .bl c ∧ if c = true then b ρ1 P else P (.fz (.bl false)) ρ1
def tOrE (a b : TD) : TD := fun ρ P => a ρ fun x ρ1 => ∃ c, x.dat = .bl c ∧ if c = true then P (.fz (.bl true)) ρ1 else b ρ1 P
def tNotE (a : TD) : TD := fun ρ P => a ρ fun x ρ1 => ∃ c, x.dat = .bl c ∧ P (.fz (.bl (!c))) ρ1
def tIfE (c : TDT) (a b : TD) : TD := fun ρ P => c ρ fun k ρ1 => if k = true then a ρ1 P else b ρ1 P
theorem de_one {bop : BoolOp} (h : DE X a τa) : DE X (.BoolOp bop [a] pos) τa := ⟨pe_one h.pe⟩
theorem de_and (ha : DE X a τa) (hb : DE X (.BoolOp .And (b :: rest) pos) τb) : DE X (.BoolOp .And (a :: b :: rest) pos) (tAndE τa τb) := by
  obtain ⟨ta, pa, sa⟩ := ha.fz
  obtain ⟨tb, pb, sb⟩ := hb.ex
  refine DE.of (pe_and pa pb) fun σ H Hf ρ P Q e q k => sa σ H Hf ρ (fun d ρ1 => ∃ c, d = .bl c ∧ if c = true then τb ρ1 P else P (.fz (.bl false)) ρ1) _ e q fun v H1 Hf1 d ρ1 e1 m1 r1 ⟨c, hc, p1⟩ => ?_
  subst hc
  refine ⟨c, r1.bl_inv, ?_⟩
  cases c with
  | true => exact sb σ H1 Hf1 ρ1 P Q e1 p1 fun v H2 Hf2 r ρ2 e2 m2 r2 p2 => k v H2 Hf2 r ρ2 e2 (m1.trans m2) (r2.back m1.live) p2
  | false => exact k _ H1 Hf1 (.fz (.bl false)) ρ1 e1 m1 (.bl false) p1
theorem de_or (ha : DE X a τa) (hb : DE X (.BoolOp .Or (b :: rest) pos) τb) : DE X (.BoolOp .Or (a :: b :: rest) pos) (tOrE τa τb) := by
  obtain ⟨ta, pa, sa⟩ := ha.fz
  obtain ⟨tb, pb, sb⟩ := hb.ex
  refine DE.of (pe_or pa pb) fun σ H Hf ρ P Q e q k => sa σ H Hf ρ (fun d ρ1 => ∃ c, d = .bl c ∧ if c = true then P (.fz (.bl true)) ρ1 else τb ρ1 P) _ e q fun v H1 Hf1 d ρ1 e1 m1 r1 ⟨c, hc, p1⟩ => ?_
  subst hc
  refine ⟨c, r1.bl_inv, ?_⟩
  cases c with
  | false => exact sb σ H1 Hf1 ρ1 P Q e1 p1 fun v H2 Hf2 r ρ2 e2 m2 r2 p2 => k v H2 Hf2 r ρ2 e2 (m1.trans m2) (r2.back m1.live) p2
  | true => exact k _ H1 Hf1 (.fz (.bl true)) ρ1 e1 m1 (.bl true) p1
theorem de_not (ha : DE X a τa) : DE X (.UnaryOp .Not a pos) (tNotE τa) := by
  obtain ⟨ta, pa, sa⟩ := ha.fz
  refine DE.of (pe_not pa) fun σ H Hf ρ P Q e q k => sa σ H Hf ρ (fun d ρ1 => ∃ c, d = .bl c ∧ P (.fz (.bl (!c))) ρ1) _ e q fun v H1 Hf1 d ρ1 e1 m1 r1 ⟨c, hc, p1⟩ => ?_
  subst hc
  exact ⟨c, r1.bl_inv, k _ H1 Hf1 (.fz (.bl (!c))) ρ1 e1 m1 (.bl _) p1⟩
theorem de_if (hc : DT X c tA) (ha : DE X a τa) (hb : DE X b τb) : DE X (.IfExp c a b pos) (tIfE tA τa τb) := by
  refine DE.of (pe_ifExp hc.pt ha.pe hb.pe) fun σ H Hf ρ P Q e q k => ⟨Hf, ρ, _, e, q, fun c H1 Hf1 ρ1 e1 m1 p1 => ?_⟩
  cases c with
  | true => exact ⟨Hf1, ρ1, P, e1, p1, fun v H2 Hf2 r ρ2 e2 m2 r2 p2 => k v H2 Hf2 r ρ2 e2 (m1.trans m2) (r2.back m1.live) p2⟩
  | false => exact ⟨Hf1, ρ1, P, e1, p1, fun v H2 Hf2 r ρ2 e2 m2 r2 p2 => k v H2 Hf2 r ρ2 e2 (m1.trans m2) (r2.back m1.live) p2⟩
/-- a < b < c -/
def tChn (g g' : D → D → Option Res) (a b c : TD) : TD := fun ρ P => a ρ fun x ρ1 => b ρ1 fun y ρ2 => ∃ z k, g x.dat y.dat = some z ∧ z.dat = .bl k ∧ if k = true then c ρ2 (fun w ρ3 => ∃ z', g' y.dat w.dat = some z' ∧ P z' ρ3) else P (.fz (.bl false)) ρ2
theorem run3 {cop cop' : CmpOp} {r r' : R2} {g g' : D → D → Option Res} {ta tb tc : TE} (hs : OpS X.K r g) (hs' : OpS X.K r' g')
    (sa : ∀ (σ : St) (H Hf : Hp) (ρ : Ev) (P : D → Ev → Prop) (Q : VK), DEnv X.K H Hf σ ρ → τa ρ (fun r ρ' => P r.dat ρ') → (∀ v H' Hf' d ρ', DEnv X.K H' Hf' σ ρ' → Mv σ ρ ρ' H H' Hf Hf' → Rep X.K Hf' v d → P d ρ' → Q v H') → ta σ H Q)
    (sb : ∀ (σ : St) (H Hf : Hp) (ρ : Ev) (P : D → Ev → Prop) (Q : VK), DEnv X.K H Hf σ ρ → τb ρ (fun r ρ' => P r.dat ρ') → (∀ v H' Hf' d ρ', DEnv X.K H' Hf' σ ρ' → Mv σ ρ ρ' H H' Hf Hf' → Rep X.K Hf' v d → P d ρ' → Q v H') → tb σ H Q)
    (sc : ∀ (σ : St) (H Hf : Hp) (ρ : Ev) (P : D → Ev → Prop) (Q : VK), DEnv X.K H Hf σ ρ → τc ρ (fun r ρ' => P r.dat ρ') → (∀ v H' Hf' d ρ', DEnv X.K H' Hf' σ ρ' → Mv σ ρ ρ' H H' Hf Hf' → Rep X.K Hf' v d → P d ρ' → Q v H') → tc σ H Q)
    (σ : St) (H Hf : Hp) (ρ : Ev) (P : Res → Ev → Prop) (Q : VK) (e : DEnv X.K H Hf σ ρ) (q : tChn g g' τa τb τc ρ P)
    (k : ∀ v H' Hf' r ρ', DEnv X.K H' Hf' σ ρ' → Mv σ ρ ρ' H H' Hf Hf' → ResOk X.K H H' Hf' v r → P r ρ' → Q v H') : tChain r r' ta tb tc σ H Q := by
  refine sa σ H Hf ρ (fun x ρ1 => τb ρ1 fun y ρ2 => ∃ z k, g x y.dat = some z ∧ z.dat = .bl k ∧ if k = true then τc ρ2 (fun w ρ3 => ∃ z', g' y.dat w.dat = some z' ∧ P z' ρ3) else P (.fz (.bl false)) ρ2) _ e q fun x H1 Hf1 dx ρ1 e1 m1 r1 q1 => ?_
  refine sb σ H1 Hf1 ρ1 (fun y ρ2 => ∃ z k, g dx y = some z ∧ z.dat = .bl k ∧ if k = true then τc ρ2 (fun w ρ3 => ∃ z', g' y w.dat = some z' ∧ P z' ρ3) else P (.fz (.bl false)) ρ2) _ e1 q1 fun y H2 Hf2 dy ρ2 e2 m2 r2 q2 => ?_
  obtain ⟨c, kk, hc, hd, p⟩ := q2
  refine hs H2 Hf2 x y dx dy c _ e2.sub (r1.mono m2.grow) r2 hc fun v H3 Hf3 x3 ok => ?_
  obtain ⟨Hf4, e4, m4, r4⟩ := ok.freeze e2 (x3.env e2) x3.mv
  rw [hd] at r4
  refine ⟨kk, r4.bl_inv, ?_⟩
  have m5 := (m1.trans m2).trans m4
  cases kk with
  | false => exact k _ H3 Hf4 (.fz (.bl false)) ρ2 e4 m5 (.bl false) p
  | true =>
    refine sc σ H3 Hf4 ρ2 (fun w ρ3 => ∃ z', g' dy w = some z' ∧ P z' ρ3) _ e4 p fun w H5 Hf5 dw ρ5 e5 m6 r6 q6 => ?_
    obtain ⟨z', hz, p6⟩ := q6
    refine hs' H5 Hf5 y w dy dw z' Q e5.sub ((r2.mono m4.grow).mono m6.grow) r6 hz fun v H7 Hf7 x7 ok7 => ?_
    exact k v H7 Hf7 z' ρ5 (x7.env e5) ((m5.trans m6).trans x7.mv) (ok7.back (m5.trans m6).live) p6
theorem de_chn {cop cop' : CmpOp} {r r' : R2} {g g' : D → D → Option Res} (ho : OpR X (compareOp cop) r) (hs : OpS X.K r g) (ho' : OpR X (compareOp cop') r') (hs' : OpS X.K r' g') (ha : DE X a τa) (hb : DE X b τb) (hc : DE X c τc)
    (hm : lastMarks [cop, cop'] [b, c] = false := by with_unfolding_all rfl) : DE X (.Compare a [cop, cop'] [b, c] pos) (tChn g g' τa τb τc) := by
  obtain ⟨ta, pa, sa⟩ := ha.fz
  obtain ⟨tb, pb, sb⟩ := hb.fz
  obtain ⟨tc, pc, sc⟩ := hc.fz
  exact DE.of (pe_chain ho ho' pa pb pc hm) (run3 (cop := cop) (cop' := cop') hs hs' sa sb sc)
theorem dt_chn {cop cop' : CmpOp} {r r' : R2} {g g' : D → D → Option Res} (ho : OpR X (compareOp cop) r) (hs : OpS X.K r g) (ho' : OpR X (compareOp cop') r') (hs' : OpS X.K r' g') (ha : DE X a τa) (hb : DE X b τb) (hc : DE X c τc)
    (hm : lastMarks [cop, cop'] [b, c] = false := by with_unfolding_all rfl) : DT X (.Compare a [cop, cop'] [b, c] pos) (tT (tChn g g' τa τb τc)) := by
  obtain ⟨ta, pa, sa⟩ := ha.fz
  obtain ⟨tb, pb, sb⟩ := hb.fz
  obtain ⟨tc, pc, sc⟩ := hc.fz
  refine DT.of (pt_chain ho ho' pa pb pc hm) fun σ H Hf ρ P Q e q k => ?_
  refine run3 (cop := cop) (cop' := cop') hs hs' sa sb sc σ H Hf ρ _ _ e q fun v H' Hf' r ρ' e1 m1 r1 ⟨b, hb, p1⟩ => ?_
  obtain ⟨Hf2, e2, m2, r2⟩ := r1.freeze e e1 m1
  rw [hb] at r2
  exact ⟨b, r2.bl_inv, k b H' Hf2 ρ' e2 m2 p1⟩
end
/-! ### argument lists, displays -/
abbrev TDA := Ev → (List D → Ev → Prop) → Prop
def canA (K : Fg) (n : Nat) (τ : TDA) : TA := fun σ H Q => ∃ (Hf : Hp) (ρ : Ev) (P : List D → Ev → Prop), DEnv K H Hf σ ρ ∧ τ ρ P ∧ (∀ vs H' Hf' ds ρ', DEnv K H' Hf' σ ρ' → Mv σ ρ ρ' H H' Hf Hf' → RepL K Hf' vs ds → ds.length = n → P ds ρ' → Q vs H')
structure DA (X : Cx) (es : List Expr) (τ : TDA) : Prop where
  pa : PA X es (canA X.K es.length τ)
section
variable {X : Cx} {pos : Pos} {e : Expr} {es : List Expr} {τ : TD} {τs : TDA}
theorem DA.of {t : TA} (h : PA X es t) (k : ∀ (σ : St) (H Hf : Hp) (ρ : Ev) (P : List D → Ev → Prop) (Q : List V → Hp → Prop), DEnv X.K H Hf σ ρ → τs ρ P → (∀ vs H' Hf' ds ρ', DEnv X.K H' Hf' σ ρ' → Mv σ ρ ρ' H H' Hf Hf' → RepL X.K Hf' vs ds → ds.length = es.length → P ds ρ' → Q vs H') → t σ H Q) : DA X es τs :=
  ⟨⟨fun pos pins s σ H Q I ⟨Hf, ρ, P, e, q, kk⟩ => h.run pos pins s σ H Q I (k σ H Hf ρ P Q e q kk)⟩⟩
def tANil : TDA := fun ρ P => P [] ρ
def tACons (a : TD) (r : TDA) : TDA := fun ρ P => a ρ fun x ρ1 => r ρ1 fun xs ρ2 => P (x.dat :: xs) ρ2
theorem da_nil : DA X [] tANil := DA.of pa_nil fun σ H Hf ρ P Q e q k => k [] H Hf [] ρ e (Mv.refl ..) .nil rfl q
theorem da_cons (ha : DE X e τ) (hr : DA X es τs) (hs : starEach (e :: es) X.env = (false, eval e X.env) :: starEach es X.env := by rfl) : DA X (e :: es) (tACons τ τs) := by
  obtain ⟨ta, pa, sa⟩ := ha.fz
  refine DA.of (pa_cons pa hr.pa hs) fun σ H Hf ρ P Q e q k => sa σ H Hf ρ (fun d ρ1 => τs ρ1 fun xs ρ2 => P (d :: xs) ρ2) _ e q fun v H1 Hf1 d ρ1 e1 m1 r1 p1 => ?_
  exact ⟨Hf1, ρ1, _, e1, p1, fun vs H2 Hf2 ds ρ2 e2 m2 r2 l2 p2 => k (v :: vs) H2 Hf2 (d :: ds) ρ2 e2 (m1.trans m2) (.cons (r1.mono m2.grow) r2) (by rw [List.length_cons, l2, List.length_cons]) p2⟩
def tTupD (τ : TDA) : TD := fun ρ P => τ ρ fun ds ρ1 => ds.length ≤ 16000 ∧ P (.fz (.tup ds)) ρ1
def tLstD (τ : TDA) : TD := fun ρ P => τ ρ fun ds ρ1 => ds.length ≤ 16000 ∧ P (.fr ds) ρ1
theorem de_tup {x1 : Nat} (h : DA X es τs) : DE X (.Tuple es x1 pos) (tTupD τs) := by
  refine DE.of (pe_tup h.pa) fun σ H Hf ρ P Q e q k => ⟨Hf, ρ, _, e, q, fun vs H1 Hf1 ds ρ1 e1 m1 r1 _ ⟨hz, p1⟩ => ⟨by rw [r1.length]; exact lim hz, fun n hn => ?_⟩⟩
  obtain ⟨x1, x2⟩ := new_tup e1.sub hn r1
  exact k _ _ _ _ ρ1 (x1.env e1) (m1.trans x1.mv) (x2.back m1.live) p1
theorem de_lst (h : DA X es τs) : DE X (.List es pos) (tLstD τs) := by
  refine DE.of (pe_lst h.pa) fun σ H Hf ρ P Q e q k => ⟨Hf, ρ, _, e, q, fun vs H1 Hf1 ds ρ1 e1 m1 r1 _ ⟨hz, p1⟩ => ⟨by rw [r1.length]; exact lim hz, fun n hn => ?_⟩⟩
  obtain ⟨x1, x2⟩ := new_lst e1.sub hn r1
  exact k _ _ _ _ ρ1 (x1.env e1) (m1.trans x1.mv) (x2.back m1.live) p1
end
/-! ### subscripts, slices -/
def ixD : D → D → Option Res
  | .tup xs, .int i => (atI xs i).map .fz
  | .lst xs, .int i => (atI xs i).map .fz
  | .scr ns, .int i => (atI ns i).map fun n => .fz (.int n)
  | .str z, .int i => if z.length ≤ 100000 then (atI z.cps.toList i).map fun c => .fz (.str ⟨#[c]⟩) else none
  | _, _ => none
theorem RepL.atI {K : Fg} {H : Hp} {vs : List V} {ds : List D} {i : Int} {d : D} (r : RepL K H vs ds) (h : L2.atI ds i = some d) : ∃ v, L2.atI vs i = some v ∧ Rep K H v d := by
  unfold L2.atI at h ⊢
  rw [r.length]
  cases e : ixN ds.length i with
  | none => rw [e] at h; cases h
  | some j =>
    rw [e] at h
    exact r.get h
theorem opS_ix {K : Fg} : OpS K (rIx K) ixD := by
  intro H Hf x y a b c Q hf ra rb hg k
  cases rb <;> first | (cases a <;> simp [ixD] at hg; done) | skip
  rename_i i
  cases ra <;> first | (simp [ixD] at hg; done) | skip
  · rename_i z
    simp only [ixD] at hg
    split at hg
    · rename_i hz
      cases e : atI z.cps.toList i with
      | none => rw [e] at hg; cases hg
      | some ch =>
        rw [e] at hg
        cases hg
        exact .inr (.inr ⟨z, i, ch, rfl, rfl, lim hz, e, k _ _ _ (Ext.refl hf) (.str _)⟩)
    · cases hg
  · rename_i p ns hp
    simp only [ixD] at hg
    cases e : atI ns i with
    | none => rw [e] at hg; cases hg
    | some n =>
      rw [e] at hg
      cases hg
      refine .inl ⟨p, _, i, .int n, rfl, rfl, sqL_same hf hp, ?_, k _ _ _ (Ext.refl hf) (.int n)⟩
      unfold atI at e ⊢
      rw [List.length_map]
      cases e2 : ixN ns.length i with
      | none => rw [e2] at e; cases e
      | some j =>
        rw [e2] at e
        show (ns.map V.int)[j]? = _
        rw [List.getElem?_map]
        have e3 : ns[j]? = some n := e
        rw [e3]
        rfl
  · rename_i p xs ds hp rp
    simp only [ixD] at hg
    cases e : atI ds i with
    | none => rw [e] at hg; cases hg
    | some d =>
      rw [e] at hg
      cases hg
      obtain ⟨v, h1, h2⟩ := rp.atI e
      exact .inr (.inl ⟨p, xs, i, v, rfl, rfl, sqT_same hf hp, h1, k _ _ _ (Ext.refl hf) h2⟩)
  · rename_i p xs ds hp rp
    simp only [ixD] at hg
    cases e : atI ds i with
    | none => rw [e] at hg; cases hg
    | some d =>
      rw [e] at hg
      cases hg
      obtain ⟨v, h1, h2⟩ := rp.atI e
      exact .inl ⟨p, xs, i, v, rfl, rfl, .inl (.inl (hf _ _ hp)), h1, k _ _ _ (Ext.refl hf) h2⟩
theorem de_ix {X : Cx} {a b : Expr} {τa τb : TD} {pos : Pos} (ha : DE X a τa) (hb : DE X b τb) (hs : PlainIx b) : DE X (.Subscript a b pos) (tBin ixD τa τb) := by
  obtain ⟨ta, pa, sa⟩ := ha.fz
  obtain ⟨tb, pb, sb⟩ := hb.fz
  exact DE.of (pe_ix ix_seq pa pb hs) (run2 opS_ix sa sb)
end DL
/-! The data layer, 5: slices, built-ins, contracts and calls, lists of one's own. -/
namespace L2
open PySem PySem.Spec PyProof.Rows
/-- list(text) -/
theorem call_list_txt {X : Cx} (hc : X.calm = true) : CallR X (.type "list") (fun xs H Q => ∃ z : Str, xs = [.str z] ∧ z.length ≤ sizeLine ∧ ∀ l, H l = none → Q (.ref l) (upd H l (.lst (z.cps.toList.map fun c => V.str ⟨#[c]⟩)))) := by
  intro pins s σ H xs us Q I r h
  obtain ⟨z, rfl, hz, q⟩ := h
  obtain ⟨u, rfl, t, rfl⟩ := vals1 r
  refine call_list_str (I.ok.hd hc) z t (hn := hz) fun h' tk acc' c' hk hS' hacc => ?_
  have hv : Vals (z.cps.toList.map fun c => V.str ⟨#[c]⟩) acc'.toList := by
    have key : ∀ (cs : List Nat) (as : List Value), as.length = cs.length → (∀ (j : Nat) (v : Value), as[j]? = some v → ∃ c u, cs[j]? = some c ∧ v = .str ⟨#[c]⟩ u) → Vals (cs.map fun c => V.str ⟨#[c]⟩) as := by
      intro cs
      induction cs with
      | nil =>
        intro as hl _
        cases as with
        | nil => exact .nil
        | cons _ _ => simp at hl
      | cons c cs ih =>
        intro as hl hj
        cases as with
        | nil => simp at hl
        | cons a as =>
          obtain ⟨c0, u0, e1, e2⟩ := hj 0 a rfl
          cases e1
          refine .cons ⟨u0, e2⟩ (ih as (by simpa using hl) fun j v hv => ?_)
          exact hj (j + 1) v (by simpa using hv)
    refine key _ _ (by rw [Array.length_toList, Array.length_toList, hacc.1]) fun j v hv => ?_
    obtain ⟨c, u, hc', rfl⟩ := hacc.2 j v (by simpa using hv)
    exact ⟨c, u, by simpa using hc', rfl⟩
  have hl : (z.cps.toList.map fun c => V.str ⟨#[c]⟩).length ≤ sizeLine := by rw [List.length_map, Array.length_toList]; exact hz
  refine ⟨.ref s.heap.objs.size, _, I.laid (t' := tk) (o := .lst (z.cps.toList.map fun c => V.str ⟨#[c]⟩)) hk (Nat.le_refl _) ⟨hl, acc'.toList, c', hv, by simpa using hS'⟩, rfl, q _ (I.hok.fresh (Nat.le_refl _))⟩
end L2
namespace DL
open PySem L2
/-! ### slices -/
abbrev TDO := Ev → (Option Int → Ev → Prop) → Prop
def canO (K : Fg) (τ : TDO) : TO := fun σ H Q => ∃ (Hf : Hp) (ρ : Ev) (P : Option Int → Ev → Prop), DEnv K H Hf σ ρ ∧ τ ρ P ∧ (∀ o H' Hf' ρ', DEnv K H' Hf' σ ρ' → Mv σ ρ ρ' H H' Hf Hf' → P o ρ' → Q o H')
structure DO (X : Cx) (e : Option Expr) (τ : TDO) : Prop where
  po : PO X e (canO X.K τ)
def tONone : TDO := fun ρ P => P none ρ
def tOSome (τ : TD) : TDO := fun ρ P => τ ρ fun r ρ1 => ∃ i, r.dat = .int i ∧ P (some i) ρ1
def cutD (xs : List D) (lo hi : Option Int) : List D := (xs.drop (HT.sIx xs.length 0 lo)).take (HT.sIx xs.length xs.length hi - HT.sIx xs.length 0 lo)
def slD : D → Option Int → Option Int → Option Res
  | .tup xs, lo, hi => some (.fz (.tup (cutD xs lo hi)))
  | .lst xs, lo, hi => some (.fr (cutD xs lo hi))
  | .str z, lo, hi => if z.length ≤ 100000 then some (.fz (.str (cutS z lo hi))) else none
  | _, _, _ => none
def tSlD (a : TD) (l h : TDO) : TD := fun ρ P => a ρ fun x ρ1 => l ρ1 fun lo ρ2 => h ρ2 fun hi ρ3 => ∃ c, slD x.dat lo hi = some c ∧ P c ρ3
def slR (K : Fg) : V → Option Int → Option Int → Hp → VK → Prop := fun x lo hi H Q => rSlA K x lo hi H Q ∨ (rSlL K x lo hi H Q ∨ rSlS x lo hi H Q)
theorem RepL.cut {K : Fg} {H : Hp} {vs : List V} {ds : List D} (r : RepL K H vs ds) (lo hi : Option Int) : RepL K H (cutV vs lo hi) (cutD ds lo hi) := by
  unfold cutV cutD
  rw [r.length]
  exact (r.drop _).take _
theorem slS {K : Fg} {H Hf : Hp} {x : V} {a : D} {lo hi : Option Int} {c : Res} {Q : VK} (hf : ∀ b o, Hf b = some o → H b = some o) (ra : Rep K Hf x a) (hg : slD a lo hi = some c)
    (k : ∀ v H' Hf', Ext H H' Hf Hf' → ResOk K H H' Hf' v c → Q v H') : slR K x lo hi H Q := by
  cases ra <;> first | (simp [slD] at hg; done) | skip
  · rename_i z
    simp only [slD] at hg
    split at hg
    · rename_i hz
      cases hg
      exact .inr (.inr ⟨z, rfl, lim hz, k _ _ _ (Ext.refl hf) (.str _)⟩)
    · cases hg
  · rename_i p xs ds hp rp
    simp only [slD] at hg
    cases hg
    refine .inl ⟨p, xs, rfl, sqT_same hf hp, fun z => ?_, fun _ n hn => ?_⟩
    · refine k _ _ _ (Ext.refl hf) (.tup hp ?_)
      have e : cutD ds lo hi = ds := by
        unfold cutD
        rw [← rp.length, z.1, z.2, List.drop_zero, Nat.sub_zero, rp.length]
        exact List.take_length
      rw [e]
      exact rp
    · obtain ⟨x1, x2⟩ := new_tup hf hn (rp.cut lo hi)
      exact k _ _ _ x1 x2
  · rename_i p xs ds hp rp
    simp only [slD] at hg
    cases hg
    refine .inr (.inl ⟨p, xs, rfl, .inl (.inl (hf _ _ hp)), fun n hn => ?_⟩)
    obtain ⟨x1, x2⟩ := new_lst hf hn (rp.cut lo hi)
    exact k _ _ _ x1 x2
section
variable {X : Cx} {pos p2 : Pos} {a e : Expr} {es : List Expr} {τa τ : TD} {τs : TDA}
theorem do_none : DO X none tONone := ⟨⟨fun pins s σ H Q I ⟨Hf, ρ, P, e, q, k⟩ => po_none.run pins s σ H Q I (k none H Hf ρ e (Mv.refl ..) q)⟩⟩
theorem do_some (h : DE X e τ) : DO X (some e) (tOSome τ) := by
  obtain ⟨t, p, sa⟩ := h.fz
  refine ⟨⟨fun pins s σ H Q I ⟨Hf, ρ, P, e, q, k⟩ => (po_some p).run pins s σ H Q I (sa σ H Hf ρ (fun d ρ1 => ∃ i, d = .int i ∧ P (some i) ρ1) _ e q fun v H1 Hf1 d ρ1 e1 m1 r1 ⟨i, hi, p1⟩ => ?_)⟩⟩
  subst hi
  exact ⟨i, r1.int_inv, k _ H1 Hf1 ρ1 e1 m1 p1⟩
theorem de_sl {lo hi : Option Expr} {τl τh : TDO} (ha : DE X a τa) (hl : DO X lo τl) (hh : DO X hi τh) : DE X (.Subscript a (.Slice lo hi none p2) pos) (tSlD τa τl τh) := by
  obtain ⟨ta, pa, sa⟩ := ha.fz
  refine DE.of (pe_slice (SlR.or sl_tupA (SlR.or sl_list sl_str)) pa hl.po hh.po) fun σ H Hf ρ P Q e q k => ?_
  refine sa σ H Hf ρ (fun d ρ1 => τl ρ1 fun lo ρ2 => τh ρ2 fun hi ρ3 => ∃ c, slD d lo hi = some c ∧ P c ρ3) _ e q fun v H1 Hf1 d ρ1 e1 m1 r1 p1 => ?_
  refine ⟨Hf1, ρ1, _, e1, p1, fun lo H2 Hf2 ρ2 e2 m2 p2 => ⟨Hf2, ρ2, _, e2, p2, fun hi H3 Hf3 ρ3 e3 m3 p3 => ?_⟩⟩
  obtain ⟨c, hc, p4⟩ := p3
  have m := (m1.trans m2).trans m3
  exact slS (Q := Q) e3.sub ((r1.mono m2.grow).mono m3.grow) hc fun v H4 Hf4 x4 ok => k v H4 Hf4 c ρ3 (x4.env e3) (m.trans x4.mv) (ok.back m.live) p4
/-! ### built-ins called -/
def CallS (K : Fg) (r : List V → Hp → VK → Prop) (g : List D → Option Res) : Prop := ∀ (H Hf : Hp) (xs : List V) (ds : List D) (c : Res) (Q : VK), (∀ b o, Hf b = some o → H b = some o) → RepL K Hf xs ds → g ds = some c →
  (∀ v H' Hf', Ext H H' Hf Hf' → ResOk K H H' Hf' v c → Q v H') → r xs H Q
def tCallG (g : List D → Option Res) (τ : TDA) : TD := fun ρ P => τ ρ fun ds ρ1 => ∃ c, g ds = some c ∧ P c ρ1
theorem runC {n : Nat} {r : List V → Hp → VK → Prop} {g : List D → Option Res} (hs : CallS X.K r g) (σ : St) (H Hf : Hp) (ρ : Ev) (P : Res → Ev → Prop) (Q : VK) (e : DEnv X.K H Hf σ ρ) (q : tCallG g τs ρ P)
    (k : ∀ v H' Hf' r ρ', DEnv X.K H' Hf' σ ρ' → Mv σ ρ ρ' H H' Hf Hf' → ResOk X.K H H' Hf' v r → P r ρ' → Q v H') : tCB r (canA X.K n τs) σ H Q := by
  refine ⟨Hf, ρ, _, e, q, fun vs H1 Hf1 ds ρ1 e1 m1 r1 _ ⟨c, hc, p1⟩ => ?_⟩
  exact hs H1 Hf1 vs ds c Q e1.sub r1 hc fun v H2 Hf2 x2 ok => k v H2 Hf2 c ρ1 (x2.env e1) (m1.trans x2.mv) (ok.back m1.live) p1
theorem de_callB {x : Str} {id : String} {p : Pos} {r : List V → Hp → VK → Prop} {g : List D → Option Res} (hc : CallR X (.builtin id) r) (hs : CallS X.K r g) (hg : Gl X x) (hm : X.mg x = none) (hv : bootBuiltins x = some (.builtin id)) (ha : DA X (e :: es) τs)
    (hn : x ≠ "__name__" := by decide) (hdb : (x == ("__debug__" : Str)) = false := by decide) (he : starEach (e :: es) X.env = (false, eval e X.env) :: starEach es X.env := by rfl) (hpl : (backTo pos (starEach es X.env)).any (·.1) = false := by rfl) :
    DE X (.Call (.Name x p) (e :: es) [] pos) (tCallG g τs) := DE.of (pe_callB hc hg hm hv ha.pa hn hdb he hpl) (runC hs)
theorem de_callTy {x : Str} {T : String} {p : Pos} {r : List V → Hp → VK → Prop} {g : List D → Option Res} (hc : CallR X (.type T) r) (hs : CallS X.K r g) (hg : Gl X x) (hm : X.mg x = none) (hv : bootBuiltins x = some (.type T)) (ha : DA X (e :: es) τs)
    (hn : x ≠ "__name__" := by decide) (hdb : (x == ("__debug__" : Str)) = false := by decide) (he : starEach (e :: es) X.env = (false, eval e X.env) :: starEach es X.env := by rfl) (hpl : (backTo pos (starEach es X.env)).any (·.1) = false := by rfl) :
    DE X (.Call (.Name x p) (e :: es) [] pos) (tCallG g τs) := DE.of (pe_callTy hc hg hm hv ha.pa hn hdb he hpl) (runC hs)
theorem callR_or {f : Value} {r r' : List V → Hp → VK → Prop} (h : CallR X f r) (h' : CallR X f r') : CallR X f (fun xs H Q => r xs H Q ∨ r' xs H Q) := by
  intro pins s σ H xs us Q I r q
  rcases q with q | q
  · exact h pins s σ H xs us Q I r q
  · exact h' pins s σ H xs us Q I r q
end
/-- len -/
def lenD : List D → Option Res
  | [.str z] => if z.length ≤ 100000 then some (.fz (.int z.length)) else none
  | [.tup xs] => some (.fz (.int xs.length))
  | [.lst xs] => some (.fz (.int xs.length))
  | [.scr ns] => some (.fz (.int ns.length))
  | _ => none
theorem callS_len {K : Fg} : CallS K (fun xs H Q => ∃ x n, xs = [x] ∧ LenV K x H n ∧ Q (.int n) H) lenD := by
  intro H Hf xs ds c Q hf r hg k
  cases r with
  | nil => simp [lenD] at hg
  | cons ra rs =>
    cases rs with
    | cons _ _ => cases ra <;> simp [lenD] at hg
    | nil =>
      cases ra <;> first | (simp [lenD] at hg; done) | skip
      · rename_i z
        simp only [lenD] at hg
        split at hg
        · rename_i hz
          cases hg
          exact ⟨_, z.length, rfl, ⟨lim hz, rfl⟩, k _ _ _ (Ext.refl hf) (.int _)⟩
        · cases hg
      · rename_i p ns hp
        simp only [lenD] at hg
        cases hg
        exact ⟨_, ns.length, rfl, .inl ⟨_, sqL_same hf hp, (List.length_map _).symm⟩, k _ _ _ (Ext.refl hf) (.int _)⟩
      · rename_i p xs ds hp rp
        simp only [lenD] at hg
        cases hg
        exact ⟨_, ds.length, rfl, .inr ⟨xs, sqT_same hf hp, rp.length.symm⟩, k _ _ _ (Ext.refl hf) (.int _)⟩
      · rename_i p xs ds hp rp
        simp only [lenD] at hg
        cases hg
        exact ⟨_, ds.length, rfl, .inl ⟨xs, .inl (.inl (hf _ _ hp)), rp.length.symm⟩, k _ _ _ (Ext.refl hf) (.int _)⟩
/-- isinstance with a built-in type -/
def D.tyN : D → Option String
  | .non => some "NoneType"
  | .bl _ => some "bool"
  | .int _ => some "int"
  | .str _ => some "str"
  | .tup _ => some "tuple"
  | .lst _ => some "list"
  | _ => none
def isiT : String → String → Option Bool
  | "NoneType", "int" => some false | "NoneType", "bool" => some false | "NoneType", "str" => some false | "NoneType", "tuple" => some false | "NoneType", "list" => some false
  | "bool", "int" => some true | "bool", "bool" => some true | "bool", "str" => some false | "bool", "tuple" => some false | "bool", "list" => some false
  | "int", "int" => some true | "int", "bool" => some false | "int", "str" => some false | "int", "tuple" => some false | "int", "list" => some false
  | "str", "int" => some false | "str", "bool" => some false | "str", "str" => some true | "str", "tuple" => some false | "str", "list" => some false
  | "tuple", "int" => some false | "tuple", "bool" => some false | "tuple", "str" => some false | "tuple", "tuple" => some true | "tuple", "list" => some false
  | "list", "int" => some false | "list", "bool" => some false | "list", "str" => some false | "list", "tuple" => some false | "list", "list" => some true
  | _, _ => none
def isTyD : D → String → Option Bool
  | .non, "int" => some false | .non, "bool" => some false | .non, "str" => some false | .non, "tuple" => some false | .non, "list" => some false
  | .bl _, "int" => some true | .bl _, "bool" => some true | .bl _, "str" => some false | .bl _, "tuple" => some false | .bl _, "list" => some false
  | .int _, "int" => some true | .int _, "bool" => some false | .int _, "str" => some false | .int _, "tuple" => some false | .int _, "list" => some false
  | .str _, "int" => some false | .str _, "bool" => some false | .str _, "str" => some true | .str _, "tuple" => some false | .str _, "list" => some false
  | .tup _, "int" => some false | .tup _, "bool" => some false | .tup _, "str" => some false | .tup _, "tuple" => some true | .tup _, "list" => some false
  | .lst _, "int" => some false | .lst _, "bool" => some false | .lst _, "str" => some false | .lst _, "tuple" => some false | .lst _, "list" => some true
  | _, _ => none
def isiD : List D → Option Res
  | [d, .ty T] => (isTyD d T).map fun b => .fz (.bl b)
  | _ => none
theorem sqT_ty {K : Fg} {H : Hp} {a : Addr} {xs : List V} (h : SqT K H a xs) : TyX K H (.ref a) (.type "tuple") := by
  rcases h with (h | ⟨o, h⟩) | ⟨o, its, n, h1, h2, _⟩
  · exact .base (.tup h)
  · exact .fTuple h
  · exact .kTuple h1 h2
theorem kitB_all : ∀ T ∈ ["int", "bool", "str", "tuple", "list"], ∀ t ∈ ["NoneType", "bool", "int", "str", "tuple", "list"], kitB t T = isiT t T := by decide +kernel
theorem isi_one {K : Fg} {H : Hp} {x : V} {d : D} {T : String} {b : Bool} (r : Rep K H x d) (h : isTyD d T = some b) : ∃ t, TyX K H x (.type t) ∧ kitB t T = some b := by
  have hT : T ∈ ["int", "bool", "str", "tuple", "list"] := by
    unfold isTyD at h
    split at h <;> first | (simp; done) | (cases h; done)
  have key : ∀ (t : String) (b' : Bool), t ∈ ["NoneType", "bool", "int", "str", "tuple", "list"] → isiT t T = some b' → kitB t T = some b' := fun t b' ht h' => (kitB_all T hT t ht).trans h'
  simp only [List.mem_cons, List.mem_nil_iff, or_false] at hT
  cases r
  · refine ⟨"NoneType", .base .non, key _ _ (by simp) ?_⟩
    rcases hT with rfl | rfl | rfl | rfl | rfl <;> (simp only [isTyD] at h; cases h; rfl)
  · refine ⟨"bool", .base (.bl _), key _ _ (by simp) ?_⟩
    rcases hT with rfl | rfl | rfl | rfl | rfl <;> (simp only [isTyD] at h; cases h; rfl)
  · refine ⟨"int", .base (.int _), key _ _ (by simp) ?_⟩
    rcases hT with rfl | rfl | rfl | rfl | rfl <;> (simp only [isTyD] at h; cases h; rfl)
  · refine ⟨"str", .base (.str _), key _ _ (by simp) ?_⟩
    rcases hT with rfl | rfl | rfl | rfl | rfl <;> (simp only [isTyD] at h; cases h; rfl)
  · rcases hT with rfl | rfl | rfl | rfl | rfl <;> (simp [isTyD] at h)
  · rcases hT with rfl | rfl | rfl | rfl | rfl <;> (simp [isTyD] at h)
  · rcases hT with rfl | rfl | rfl | rfl | rfl <;> (simp [isTyD] at h)
  · rename_i hp rp
    refine ⟨"tuple", sqT_ty hp, key _ _ (by simp) ?_⟩
    rcases hT with rfl | rfl | rfl | rfl | rfl <;> (simp only [isTyD] at h; cases h; rfl)
  · rename_i hp rp
    refine ⟨"list", .base (.lst hp), key _ _ (by simp) ?_⟩
    rcases hT with rfl | rfl | rfl | rfl | rfl <;> (simp only [isTyD] at h; cases h; rfl)
  · rcases hT with rfl | rfl | rfl | rfl | rfl <;> (simp [isTyD] at h)
theorem callS_isi {K : Fg} : CallS K (rIsi K) isiD := by
  intro H Hf xs ds c Q hf r hg k
  match ds, hg with
  | [d, .ty T], hg =>
    cases r with
    | cons ra rs =>
      cases rs with
      | cons rb rs =>
        cases rs
        cases rb
        simp only [isiD] at hg
        cases e : isTyD d T with
        | none => rw [e] at hg; cases hg
        | some b =>
          rw [e] at hg
          cases hg
          obtain ⟨t, h1, h2⟩ := isi_one (ra.mono hf) e
          exact ⟨_, _, _, _, b, rfl, .ty T, h1, kit_ty h2, k _ _ _ (Ext.refl hf) (.bl _)⟩
/-- max of two ints -/
def max2D : List D → Option Res
  | [.int i, .int j] => some (.fz (.int (if j > i then j else i)))
  | _ => none
theorem callS_max2 {K : Fg} : CallS K (fun xs H Q => ∃ i j, xs = [.int i, .int j] ∧ Q (.int (if j > i then j else i)) H) max2D := by
  intro H Hf xs ds c Q hf r hg k
  match ds, hg with
  | [.int i, .int j], hg =>
    cases r with
    | cons ra rs =>
      cases rs with
      | cons rb rs =>
        cases rs
        cases ra
        cases rb
        cases hg
        exact ⟨i, j, rfl, k _ _ _ (Ext.refl hf) (.int _)⟩
def min2D : List D → Option Res
  | [.int i, .int j] => some (.fz (.int (if j < i then j else i)))
  | _ => none
/-- a list of ints; of bools; of texts -/
def intsOf : List D → Option (List Int)
  | [] => some []
  | .int i :: r => (intsOf r).map (i :: ·)
  | _ => none
def blsOf : List D → Option (List Bool)
  | [] => some []
  | .bl i :: r => (blsOf r).map (i :: ·)
  | _ => none
def strsOf : List D → Option (List Str)
  | [] => some []
  | .str i :: r => (strsOf r).map (i :: ·)
  | _ => none
theorem RepL.ints {K : Fg} {H : Hp} : ∀ {vs : List V} {ds : List D} {ns : List Int}, RepL K H vs ds → intsOf ds = some ns → vs = ns.map V.int
  | _, _, ns, .nil, h => by
    simp only [intsOf, Option.some.injEq] at h
    subst h
    rfl
  | _, _, ns, .cons (d := d) (ds := ds) a r, h => by
    cases d <;> first | (simp [intsOf] at h; done) | skip
    simp only [intsOf] at h
    cases e : intsOf ds with
    | none => rw [e] at h; cases h
    | some ms =>
      rw [e] at h
      cases h
      cases a
      rw [r.ints e]
      rfl
theorem RepL.bls {K : Fg} {H : Hp} : ∀ {vs : List V} {ds : List D} {ns : List Bool}, RepL K H vs ds → blsOf ds = some ns → vs = ns.map V.bl
  | _, _, ns, .nil, h => by
    simp only [blsOf, Option.some.injEq] at h
    subst h
    rfl
  | _, _, ns, .cons (d := d) (ds := ds) a r, h => by
    cases d <;> first | (simp [blsOf] at h; done) | skip
    simp only [blsOf] at h
    cases e : blsOf ds with
    | none => rw [e] at h; cases h
    | some ms =>
      rw [e] at h
      cases h
      cases a
      rw [r.bls e]
      rfl
theorem RepL.strs {K : Fg} {H : Hp} : ∀ {vs : List V} {ds : List D} {ns : List Str}, RepL K H vs ds → strsOf ds = some ns → vs = ns.map V.str
  | _, _, ns, .nil, h => by
    simp only [strsOf, Option.some.injEq] at h
    subst h
    rfl
  | _, _, ns, .cons (d := d) (ds := ds) a r, h => by
    cases d <;> first | (simp [strsOf] at h; done) | skip
    simp only [strsOf] at h
    cases e : strsOf ds with
    | none => rw [e] at h; cases h
    | some ms =>
      rw [e] at h
      cases h
      cases a
      rw [r.strs e]
      rfl
def sumD : List D → Option Res
  | [.lst ds] => (intsOf ds).map fun ns => .fz (.int ns.sum)
  | _ => none
def allD : List D → Option Res
  | [.lst ds] => (blsOf ds).map fun ns => .fz (.bl (ns.all id))
  | _ => none
def anyD : List D → Option Res
  | [.lst ds] => (blsOf ds).map fun ns => .fz (.bl (ns.any id))
  | _ => none
theorem callS_sum {K : Fg} : CallS K (rSum K) sumD := by
  intro H Hf xs ds c Q hf r hg k
  match ds, hg with
  | [.lst es], hg =>
    cases r with
    | cons ra rs =>
      cases rs
      cases ra with
      | lst hp rp =>
        simp only [sumD] at hg
        cases e : intsOf es with
        | none => rw [e] at hg; cases hg
        | some ns =>
          rw [e] at hg
          cases hg
          have z := rp.ints e
          subst z
          exact ⟨_, ns, rfl, .inl (.inl (hf _ _ hp)), k _ _ _ (Ext.refl hf) (.int _)⟩
theorem callS_all {K : Fg} : CallS K (rAll K) allD := by
  intro H Hf xs ds c Q hf r hg k
  match ds, hg with
  | [.lst es], hg =>
    cases r with
    | cons ra rs =>
      cases rs
      cases ra with
      | lst hp rp =>
        simp only [allD] at hg
        cases e : blsOf es with
        | none => rw [e] at hg; cases hg
        | some ns =>
          rw [e] at hg
          cases hg
          have z := rp.bls e
          subst z
          exact ⟨_, ns, rfl, .inl (.inl (hf _ _ hp)), k _ _ _ (Ext.refl hf) (.bl _)⟩
theorem callS_any {K : Fg} : CallS K (rAny K) anyD := by
  intro H Hf xs ds c Q hf r hg k
  match ds, hg with
  | [.lst es], hg =>
    cases r with
    | cons ra rs =>
      cases rs
      cases ra with
      | lst hp rp =>
        simp only [anyD] at hg
        cases e : blsOf es with
        | none => rw [e] at hg; cases hg
        | some ns =>
          rw [e] at hg
          cases hg
          have z := rp.bls e
          subst z
          exact ⟨_, ns, rfl, .inl (.inl (hf _ _ hp)), k _ _ _ (Ext.refl hf) (.bl _)⟩
/-- list(x), tuple(x) -/
def signsD (z : Str) : List D := z.cps.toList.map fun c => .str ⟨#[c]⟩
def listD : List D → Option Res
  | [.lst ds] => some (.fr ds)
  | [.tup ds] => some (.fr ds)
  | [.str z] => if z.length ≤ 100000 then some (.fr (signsD z)) else none
  | _ => none
def tupleD : List D → Option Res
  | [.lst ds] => some (.fz (.tup ds))
  | [.tup ds] => some (.fz (.tup ds))
  | _ => none
theorem repL_signs {K : Fg} {H : Hp} : ∀ cs : List Nat, RepL K H (cs.map fun c => V.str ⟨#[c]⟩) (cs.map fun c => D.str ⟨#[c]⟩)
  | [] => .nil
  | c :: cs => .cons (.str _) (repL_signs cs)
def listR (K : Fg) : List V → Hp → VK → Prop := fun xs H Q => (∃ p ys, xs = [V.ref p] ∧ (SqL K H p ys ∨ SqT K H p ys) ∧ ∀ l, H l = none → Q (.ref l) (upd H l (.lst ys))) ∨
  (∃ z : Str, xs = [V.str z] ∧ z.length ≤ sizeLine ∧ ∀ l, H l = none → Q (.ref l) (upd H l (.lst (z.cps.toList.map fun c => V.str ⟨#[c]⟩))))
theorem callR_list {X : Cx} (hc : X.calm = true) : CallR X (.type "list") (listR X.K) := callR_or call_list_of (call_list_txt hc)
theorem callS_list {K : Fg} : CallS K (listR K) listD := by
  intro H Hf xs ds c Q hf r hg k
  match ds, hg with
  | [.lst es], hg =>
    cases r with
    | cons ra rs =>
      cases rs
      cases ra with
      | lst hp rp =>
        cases hg
        refine .inl ⟨_, _, rfl, .inl (.inl (.inl (hf _ _ hp))), fun n hn => ?_⟩
        obtain ⟨x1, x2⟩ := new_lst hf hn rp
        exact k _ _ _ x1 x2
  | [.tup es], hg =>
    cases r with
    | cons ra rs =>
      cases rs
      cases ra with
      | tup hp rp =>
        cases hg
        refine .inl ⟨_, _, rfl, .inr (sqT_same hf hp), fun n hn => ?_⟩
        obtain ⟨x1, x2⟩ := new_lst hf hn rp
        exact k _ _ _ x1 x2
  | [.str z], hg =>
    cases r with
    | cons ra rs =>
      cases rs
      cases ra
      simp only [listD] at hg
      split at hg
      · rename_i hz
        cases hg
        refine .inr ⟨z, rfl, lim hz, fun n hn => ?_⟩
        obtain ⟨x1, x2⟩ := new_lst (K := K) hf hn (repL_signs z.cps.toList)
        exact k _ _ _ x1 x2
      · cases hg
theorem callS_tuple {K : Fg} : CallS K (fun xs H Q => ∃ p ys, xs = [.ref p] ∧ ((SqL K H p ys ∧ ∀ l, H l = none → Q (.ref l) (upd H l (.tup ys))) ∨ (SqT K H p ys ∧ Q (.ref p) H))) tupleD := by
  intro H Hf xs ds c Q hf r hg k
  match ds, hg with
  | [.lst es], hg =>
    cases r with
    | cons ra rs =>
      cases rs
      cases ra with
      | lst hp rp =>
        cases hg
        refine ⟨_, _, rfl, .inl ⟨.inl (.inl (hf _ _ hp)), fun n hn => ?_⟩⟩
        obtain ⟨x1, x2⟩ := new_tup hf hn rp
        exact k _ _ _ x1 x2
  | [.tup es], hg =>
    cases r with
    | cons ra rs =>
      cases rs
      cases ra with
      | tup hp rp =>
        cases hg
        exact ⟨_, _, rfl, .inr ⟨sqT_same hf hp, k _ _ _ (Ext.refl hf) (.tup hp rp)⟩⟩
/-- int(x) of an int, of a bool -/
def intOfD : List D → Option Res
  | [.int i] => some (.fz (.int i))
  | [.bl b] => some (.fz (.int (if b then 1 else 0)))
  | _ => none
theorem callS_int {K : Fg} : CallS K (fun xs H Q => (∃ i, xs = [.int i] ∧ Q (.int i) H) ∨ ∃ k, xs = [.bl k] ∧ Q (.int (if k then 1 else 0)) H) intOfD := by
  intro H Hf xs ds c Q hf r hg k
  match ds, hg with
  | [.int i], hg =>
    cases r with
    | cons ra rs =>
      cases rs
      cases ra
      cases hg
      exact .inl ⟨i, rfl, k _ _ _ (Ext.refl hf) (.int _)⟩
  | [.bl b], hg =>
    cases r with
    | cons ra rs =>
      cases rs
      cases ra
      cases hg
      exact .inr ⟨b, rfl, k _ _ _ (Ext.refl hf) (.int _)⟩
/-- sep.join(xs) -/
def joinD : D → D → Option Res
  | .str s, .lst ds => match strsOf ds with
    | some ys => if (ys.map (·.length)).sum + ys.length * s.length ≤ 100000 then some (.fz (.str (Txt.join s ys))) else none
    | none => none
  | .str s, .tup ds => match strsOf ds with
    | some ys => if (ys.map (·.length)).sum + ys.length * s.length ≤ 100000 then some (.fz (.str (Txt.join s ys))) else none
    | none => none
  | _, _ => none
theorem de_join {X : Cx} {o e : Expr} {τo τe : TD} {apos pos : Pos} (ho : DE X o τo) (he : DE X e τe) (hs : starEach [e] X.env = [(false, eval e X.env)] := by rfl) (hbase : attributeBase o "join" X.env (eval o X.env) = eval o X.env := by rfl) (hline : (apos.endLine == pos.line) = true := by rfl) :
    DE X (.Call (.Attribute o "join" apos) [e] [] pos) (fun ρ P => τo ρ fun x ρ1 => (∃ z, x.dat = .str z) ∧ τe ρ1 fun y ρ2 => ∃ c, joinD x.dat y.dat = some c ∧ P c ρ2) := by
  obtain ⟨to, po, so⟩ := ho.fz
  obtain ⟨te, pe, se⟩ := he.fz
  refine DE.of (pe_join po pe hs hbase hline) fun σ H Hf ρ P Q e q k => ?_
  refine so σ H Hf ρ (fun x ρ1 => (∃ z, x = .str z) ∧ τe ρ1 fun y ρ2 => ∃ c, joinD x y.dat = some c ∧ P c ρ2) _ e q fun x H1 Hf1 dx ρ1 e1 m1 r1 q1 => ?_
  obtain ⟨⟨z, rfl⟩, q1⟩ := q1
  cases r1
  refine ⟨⟨_, rfl⟩, ?_⟩
  refine se σ H1 Hf1 ρ1 (fun y ρ2 => ∃ c, joinD (.str z) y = some c ∧ P c ρ2) _ e1 q1 fun y H2 Hf2 dy ρ2 e2 m2 r2 q2 => ?_
  obtain ⟨c, hc, p⟩ := q2
  have fin : ∀ ys : List Str, (if (ys.map (·.length)).sum + ys.length * z.length ≤ 100000 then some (Res.fz (.str (Txt.join z ys))) else none) = some c → (ys.map (·.length)).sum + ys.length * z.length ≤ 16777216 ∧ Q (.str (Txt.join z ys)) H2 := by
    intro ys h
    split at h
    · rename_i hz
      cases h
      exact ⟨Nat.le_trans hz (by decide), k _ H2 Hf2 (.fz (.str (Txt.join z ys))) ρ2 e2 (m1.trans m2) (Rep.str _) p⟩
    · cases h
  cases r2 <;> first | (simp [joinD] at hc; done) | skip
  · rename_i p xs ds hp rp
    simp only [joinD] at hc
    cases e : strsOf ds with
    | none => rw [e] at hc; cases hc
    | some ys =>
      rw [e] at hc
      have zz := rp.strs e
      subst zz
      exact ⟨z, p, ys, rfl, rfl, .inr (sqT_same e2.sub hp), fin ys hc⟩
  · rename_i p xs ds hp rp
    simp only [joinD] at hc
    cases e : strsOf ds with
    | none => rw [e] at hc; cases hc
    | some ys =>
      rw [e] at hc
      have zz := rp.strs e
      subst zz
      exact ⟨z, p, ys, rfl, rfl, .inl (.inl (.inl (e2.sub _ _ hp))), fin ys hc⟩
end DL
/-! The data layer, 6: contracts, calls, lists of one's own, statements, defs. -/
namespace DL
open PySem L2
/-! ### what a def promises, by data -/
abbrev FS0 := List D → (Res → Prop) → Prop
abbrev FS1 := List D → List D → (Res → List D → Prop) → Prop
def sp0 (K : Fg) (n : Nat) (f : FS0) : Sp := fun vs H Q _ => ∃ (Hf : Hp) (ds : List D) (P : Res → Prop), (∀ b o, Hf b = some o → H b = some o) ∧ RepL K Hf vs ds ∧ ds.length = n ∧ f ds P ∧
  ∀ v H' Hf' r, Ext H H' Hf Hf' → ResOk K H H' Hf' v r → P r → Q v H'
/-- the first parameter is a list that is changed -/
structure ExtB (a : Addr) (H H' Hf Hf' : Hp) : Prop where
  same : ∀ b o, H b = some o → b ≠ a → H' b = some o
  live : ∀ b, H' b = none → H b = none
  sub : ∀ b o, Hf' b = some o → H' b = some o
  grow : ∀ b o, Hf b = some o → Hf' b = some o
  new : ∀ b o, Hf' b = some o → Hf b = some o ∨ H b = none
def sp1 (K : Fg) (n : Nat) (f : FS1) : Sp := fun vs H Q _ => ∃ (Hf : Hp) (a : Addr) (us ys : List V) (xs ds : List D) (P : Res → List D → Prop), vs = .ref a :: us ∧ (∀ b o, Hf b = some o → H b = some o) ∧ H a = some (.lst ys) ∧ Hf a = none ∧ RepL K Hf ys xs ∧
  RepL K Hf us ds ∧ ds.length + 1 = n ∧ f xs ds P ∧ ∀ v H' Hf' r ys' xs', ExtB a H H' Hf Hf' → H' a = some (.lst ys') → Hf' a = none → RepL K Hf' ys' xs' → ResOk K H H' Hf' v r → P r xs' → Q v H'
section
variable {X : Cx} {pos p : Pos} {e : Expr} {es : List Expr} {τ : TD} {τs : TDA} {x : Str} {f : Addr} {fd : FuncData} {ps : List Str} {k n : Nat}
def tCall0 (g : FS0) (τ : TDA) : TD := fun ρ P => τ ρ fun ds ρ1 => g ds fun r => P r ρ1
theorem de_call0 {g : FS0} (F : FnOk X.prog X.w X.K X.mg X.base CX0 k f fd ps (sp0 X.K n g)) (hr : Room k X.A) (hg : Gl X x) (hm : X.mg x = some (.ref f)) (hk : PySem.W.keepIn X.K (.ref f) = true) (hb : Binds X.K fd ps [])
    (ha : DA X (e :: es) τs) (hl : (e :: es).length = n := by rfl) (hdb : (x == ("__debug__" : Str)) = false := by decide) (he : starEach (e :: es) X.env = (false, eval e X.env) :: starEach es X.env := by rfl) (hpl : (backTo pos (starEach es X.env)).any (·.1) = false := by rfl) :
    DE X (.Call (.Name x p) (e :: es) [] pos) (tCall0 g τs) := by
  refine DE.of (pe_call F hr hg hm hk hb .nil pass0 ha.pa hdb he hpl) fun σ H Hf ρ P Q e q k => ⟨Hf, ρ, _, e, q, fun vs H1 Hf1 ds ρ1 e1 m1 r1 hds p1 => ?_⟩
  show sp0 X.K n g (vs ++ []) H1 Q _
  rw [List.append_nil]
  exact ⟨Hf1, ds, _, e1.sub, r1, hds.trans hl, p1, fun v H2 Hf2 r x2 ok p2 => k v H2 Hf2 r ρ1 (x2.env e1) (m1.trans x2.mv) (ok.back m1.live) p2⟩
end
/-! ### lists of one's own -/
theorem own_upd {K : Fg} {H Hf : Hp} {σ : St} {ρ : Ev} {i : Nat} {p : Bool} {xs xs' : List D} {a : Addr} {ys' : List V} (e : DEnv K H Hf σ ρ) (h : ρ[i]? = some (some (.ow p xs))) (ha : σ[i]? = some (some (.ref a))) (r : RepL K Hf ys' xs') :
    DEnv K (upd H a (.lst ys')) Hf σ (ρ.set i (some (.ow p xs'))) ∧ Mv σ ρ (ρ.set i (some (.ow p xs'))) H (upd H a (.lst ys')) Hf Hf := by
  obtain ⟨b, ys, h1, h2, h3, h4⟩ := e.sl i _ h
  rw [ha] at h1
  cases h1
  have hlt := lt_of h
  refine ⟨⟨fun b o q => ?_, fun j s q => ?_, fun j k b pj us pk zs q1 q2 q3 q4 => ?_, by rw [List.length_set]; exact e.len⟩, ⟨fun b o q hn => ?_, fun b q => ?_, fun _ _ q => q, fun b o q => .inl q, fun j p' us q => ?_, fun j us q => ?_⟩⟩
  · rw [upd_ne (ne_of_none q h3)]
    exact e.sub b o q
  · rw [set_get] at q
    by_cases hj : i = j
    · subst hj
      rw [if_pos rfl, if_pos hlt] at q
      cases q
      exact ⟨a, ys', ha, upd_same, h3, r⟩
    · rw [if_neg hj] at q
      have z := e.sl j s q
      cases s with
      | fz d => exact z
      | ow pp us =>
        obtain ⟨b, zs, z1, z2, z3, z4⟩ := z
        have hb : b ≠ a := fun w => by
          subst w
          exact hj (e.sep i j b _ _ _ _ h q ha z1)
        exact ⟨b, zs, z1, by rw [upd_ne hb]; exact z2, z3, z4⟩
  · have back : ∀ {m : Nat} {pp : Bool} {vs : List D}, (ρ.set i (some (.ow p xs')))[m]? = some (some (.ow pp vs)) → ∃ p2 vs2, ρ[m]? = some (some (.ow p2 vs2)) := by
      intro m pp vs q
      rw [set_get] at q
      by_cases hm : i = m
      · subst hm
        exact ⟨_, _, h⟩
      · rw [if_neg hm] at q
        exact ⟨_, _, q⟩
    obtain ⟨_, _, w1⟩ := back q1
    obtain ⟨_, _, w2⟩ := back q2
    exact e.sep j k b _ _ _ _ w1 w2 q3 q4
  · rw [upd_ne (fun z => hn ⟨i, p, xs, h, by rw [z]; exact ha⟩)]
    exact q
  · by_cases hb : b = a
    · subst hb
      rw [upd_same] at q
      cases q
    · rw [upd_ne hb] at q
      exact q
  · rw [set_get] at q
    by_cases hj : i = j
    · subst hj
      rw [if_pos rfl, if_pos hlt] at q
      cases q
      exact ⟨xs, h⟩
    · rw [if_neg hj] at q
      exact ⟨us, q⟩
  · by_cases hj : i = j
    · subst hj
      rw [h] at q
      cases q
      exact ⟨xs', by rw [set_get, if_pos rfl, if_pos hlt]⟩
    · exact ⟨us, by rw [set_get, if_neg hj]; exact q⟩
section
variable {X : Cx} {pos p apos : Pos} {b e : Expr} {es : List Expr} {τ τb : TD} {τs : TDA} {x : Str}
/-- x[e] -/
def tIxO (i : Nat) (τb : TD) : TD := fun ρ P => (∃ p xs, ρ[i]? = some (some (.ow p xs))) ∧ τb ρ fun y ρ1 => ∃ p xs k d, ρ1[i]? = some (some (.ow p xs)) ∧ y.dat = .int k ∧ atI xs k = some d ∧ P (.fz d) ρ1
theorem de_ixO (i : Nat) (hb : DE X b τb) (hs : PlainIx b) (hN : X.N[i]? = some x := by rfl) (hv : Vis X.env.scope x := by first | exact Or.inl rfl | exact Or.inr (Or.inl rfl) | exact Or.inr (Or.inr rfl)) (hd : (x == ("__debug__" : Str)) = false := by decide) (hcd : (x == ("__classdict__" : Str)) = false := by decide) :
    DE X (.Subscript (.Name x p) b pos) (tIxO i τb) := by
  obtain ⟨tb, pb, sb⟩ := hb.fz
  refine DE.of (pe_ix ix_seq (pe_var hN hv hd hcd) pb hs) fun σ H Hf ρ P Q e ⟨⟨p0, xs0, h0⟩, q⟩ k => ?_
  obtain ⟨a, ys, h1, _⟩ := e.sl i _ h0
  refine ⟨.ref a, h1, sb σ H Hf ρ (fun y ρ1 => ∃ p xs k d, ρ1[i]? = some (some (.ow p xs)) ∧ y = .int k ∧ atI xs k = some d ∧ P (.fz d) ρ1) _ e q fun y H1 Hf1 dy ρ1 e1 m1 r1 ⟨p1, xs, kk, d, g1, g2, g3, g4⟩ => ?_⟩
  subst g2
  obtain ⟨a', ys1, z1, z2, z3, z4⟩ := e1.sl i _ g1
  rw [h1] at z1
  cases z1
  obtain ⟨v, w1, w2⟩ := z4.atI g3
  cases r1
  exact .inl ⟨a, ys1, kk, v, rfl, rfl, .inl (.inl z2), w1, k v H1 Hf1 (.fz d) ρ1 e1 m1 w2 g4⟩
/-- len(x) -/
def tLenO (i : Nat) : TD := fun ρ P => ∃ p xs, ρ[i]? = some (some (.ow p xs)) ∧ P (.fz (.int (List.length xs : Int))) ρ
theorem de_lenO (i : Nat) (hg : Gl X "len") (hm : X.mg "len" = none) (hN : X.N[i]? = some x := by rfl) (hv : Vis X.env.scope x := by first | exact Or.inl rfl | exact Or.inr (Or.inl rfl) | exact Or.inr (Or.inr rfl)) (hd : (x == ("__debug__" : Str)) = false := by decide) (hcd : (x == ("__classdict__" : Str)) = false := by decide) :
    DE X (.Call (.Name "len" p) [.Name x apos] [] pos) (tLenO i) := by
  refine DE.of (pe_callB call_len hg hm PySem.boot_len (pa_cons (pe_var hN hv hd hcd) pa_nil)) fun σ H Hf ρ P Q e ⟨p0, xs, h0, q⟩ k => ?_
  obtain ⟨a, ys, h1, h2, h3, h4⟩ := e.sl i _ h0
  refine ⟨.ref a, h1, .ref a, xs.length, rfl, .inl ⟨ys, .inl (.inl h2), h4.length.symm⟩, ?_⟩
  exact k _ H Hf (.fz (.int xs.length)) ρ e (Mv.refl ..) (Rep.int _) q
/-- x.pop(e) -/
def tPopO (i : Nat) (τ : TDA) : TD := fun ρ P => (∃ p xs, ρ[i]? = some (some (.ow p xs))) ∧ τ ρ fun ds ρ1 => ∃ p xs k j d, ρ1[i]? = some (some (.ow p xs)) ∧ ds = [.int k] ∧ (-(2 ^ 63) ≤ k ∧ k < 2 ^ 63) ∧ seqIndex? k xs.length = some j ∧ xs[j]? = some d ∧ P (.fz d) (ρ1.set i (some (.ow p (xs.eraseIdx j))))
theorem de_popO (i : Nat) (ha : DA X [e] τs) (hN : X.N[i]? = some x := by rfl) (hv : Vis X.env.scope x := by first | exact Or.inl rfl | exact Or.inr (Or.inl rfl) | exact Or.inr (Or.inr rfl)) (hd : (x == ("__debug__" : Str)) = false := by decide) (hcd : (x == ("__classdict__" : Str)) = false := by decide)
    (he : starEach [e] X.env = (false, eval e X.env) :: starEach [] X.env := by rfl) (hbase : attributeBase (.Name x p) "pop" X.env (eval (.Name x p) X.env) = eval (.Name x p) X.env := by rfl) (hfew : ((backTo pos (starEach [e] X.env)).all (fun x => !x.1) && (backToKw pos (keywordEach [] X.env)).all (fun x => x.1.isSome) && decide ([e].length + ([] : List Keyword).length + (if ([] : List Keyword).isEmpty then 0 else 1) < 30)) = true := by rfl) (hline : (apos.endLine == pos.line) = true := by rfl) :
    DE X (.Call (.Attribute (.Name x p) "pop" apos) [e] [] pos) (tPopO i τs) := by
  refine DE.of (pe_bm PySem.F.plainAttrs_list PySem.F.slot_list_pop PySem.F.type_list_pop mt_popAt (pe_var hN hv hd hcd) ha.pa hbase hfew hline he rfl) fun σ H Hf ρ P Q e ⟨⟨p0, xs0, h0⟩, q⟩ k => ?_
  obtain ⟨a, ys, h1, h2, h3, h4⟩ := e.sl i _ h0
  refine ⟨.ref a, h1, .inl ⟨rfl, ys, .inl (.inl h2)⟩, ⟨Hf, ρ, _, e, q, fun vs H1 Hf1 ds ρ1 e1 m1 r1 _ ⟨p1, xs, kk, j, d, g1, g2, g3, g4, g5, g6⟩ => ?_⟩⟩
  subst g2
  cases r1 with
  | cons ra rr =>
    cases rr
    cases ra
    obtain ⟨a', ys1, z1, z2, z3, z4⟩ := e1.sl i _ g1
    rw [h1] at z1
    cases z1
    obtain ⟨v, w1, w2⟩ := z4.get g5
    obtain ⟨e2, m2⟩ := own_upd e1 g1 h1 (z4.eraseIdx j)
    refine ⟨a, ys1, kk, j, v, rfl, rfl, z2, g3.1, g3.2, by rw [z4.length]; exact g4, w1, ?_⟩
    exact k v _ Hf1 (.fz d) _ e2 (m1.trans m2) w2 g6
/-- x.append(e) -/
def tAppO (i : Nat) (τ : TDA) : TD := fun ρ P => (∃ p xs, ρ[i]? = some (some (.ow p xs))) ∧ τ ρ fun ds ρ1 => ∃ p xs d, ρ1[i]? = some (some (.ow p xs)) ∧ ds = [d] ∧ List.length xs < 16000 ∧ P (.fz .non) (ρ1.set i (some (.ow p (xs ++ [d]))))
theorem de_appO (i : Nat) (ha : DA X [e] τs) (hN : X.N[i]? = some x := by rfl) (hv : Vis X.env.scope x := by first | exact Or.inl rfl | exact Or.inr (Or.inl rfl) | exact Or.inr (Or.inr rfl)) (hd : (x == ("__debug__" : Str)) = false := by decide) (hcd : (x == ("__classdict__" : Str)) = false := by decide)
    (he : starEach [e] X.env = (false, eval e X.env) :: starEach [] X.env := by rfl) (hbase : attributeBase (.Name x p) "append" X.env (eval (.Name x p) X.env) = eval (.Name x p) X.env := by rfl) (hfew : ((backTo pos (starEach [e] X.env)).all (fun x => !x.1) && (backToKw pos (keywordEach [] X.env)).all (fun x => x.1.isSome) && decide ([e].length + ([] : List Keyword).length + (if ([] : List Keyword).isEmpty then 0 else 1) < 30)) = true := by rfl) (hline : (apos.endLine == pos.line) = true := by rfl) :
    DE X (.Call (.Attribute (.Name x p) "append" apos) [e] [] pos) (tAppO i τs) := by
  refine DE.of (pe_bm PySem.F.plainAttrs_list PySem.F.slot_list_append PySem.F.type_list_append mt_append (pe_var hN hv hd hcd) ha.pa hbase hfew hline he rfl) fun σ H Hf ρ P Q e ⟨⟨p0, xs0, h0⟩, q⟩ k => ?_
  obtain ⟨a, ys, h1, h2, h3, h4⟩ := e.sl i _ h0
  refine ⟨.ref a, h1, .inl ⟨rfl, ys, .inl (.inl h2)⟩, ⟨Hf, ρ, _, e, q, fun vs H1 Hf1 ds ρ1 e1 m1 r1 _ ⟨p1, xs, d, g1, g2, g3, g6⟩ => ?_⟩⟩
  subst g2
  cases r1 with
  | cons ra rr =>
    cases rr
    obtain ⟨a', ys1, z1, z2, z3, z4⟩ := e1.sl i _ g1
    rw [h1] at z1
    cases z1
    obtain ⟨e2, m2⟩ := own_upd e1 g1 h1 (z4.append (.cons ra .nil))
    have hz : ys1.length < sizeLine := by rw [z4.length]; exact Nat.lt_of_lt_of_le g3 (by decide)
    refine ⟨a, ys1, _, rfl, rfl, z2, hz, ?_⟩
    exact k .non _ Hf1 (.fz .non) _ e2 (m1.trans m2) Rep.non g6
end
end DL
/-! The data layer, 7: targets, statements, defs. -/
namespace DL
open PySem L2
/-! ### targets -/
abbrev TDG := D → Ev → (Ev → Prop) → Prop
abbrev TDGs := List D → Ev → (Ev → Prop) → Prop
def pinB (ρ : Ev) (i : Nat) : Bool := match ρ[i]? with
  | some (some (.ow true _)) => true
  | _ => false
/-- slots are set to data that stay, the others are as they were -/
structure SetTo (is : List Nat) (σ σ' : St) (ρ ρ' : Ev) : Prop where
  each : ∀ i : Nat, (σ'[i]? = σ[i]? ∧ ρ'[i]? = ρ[i]?) ∨ ((∃ d, ρ'[i]? = some (some (.fz d))) ∧ pinB ρ i = false ∧ i ∈ is)
  len : σ'.length = σ.length
theorem SetTo.refl (is : List Nat) (σ : St) (ρ : Ev) : SetTo is σ σ ρ ρ := ⟨fun _ => .inl ⟨rfl, rfl⟩, rfl⟩
theorem SetTo.trans {is js : List Nat} {σ σ1 σ2 : St} {ρ ρ1 ρ2 : Ev} (a : SetTo is σ σ1 ρ ρ1) (b : SetTo js σ1 σ2 ρ1 ρ2) : SetTo (is ++ js) σ σ2 ρ ρ2 := ⟨fun i => by
  rcases b.each i with ⟨h1, h2⟩ | ⟨h1, h2, h2'⟩
  · rcases a.each i with ⟨h3, h4⟩ | ⟨⟨d, h3⟩, h4, h5⟩
    · exact .inl ⟨h1.trans h3, h2.trans h4⟩
    · exact .inr ⟨⟨d, h2.trans h3⟩, h4, List.mem_append_left _ h5⟩
  · rcases a.each i with ⟨h3, h4⟩ | ⟨h3, h4, h5⟩
    · exact .inr ⟨h1, by unfold pinB at h2 ⊢; rw [h4] at h2; exact h2, List.mem_append_right _ h2'⟩
    · exact .inr ⟨h1, h4, List.mem_append_left _ h5⟩, b.len.trans a.len⟩
def canG (K : Fg) (is : List Nat) (γ : TDG) : TG := fun v σ H Q => ∃ (Hf : Hp) (ρ : Ev) (d : D) (P : Ev → Prop), DEnv K H Hf σ ρ ∧ Rep K Hf v d ∧ γ d ρ P ∧ ∀ σ' H' Hf' ρ', DEnv K H' Hf' σ' ρ' → Ext H H' Hf Hf' → SetTo is σ σ' ρ ρ' → P ρ' → Q σ' H'
def canGs (K : Fg) (is : List Nat) (γ : TDGs) : TGs := fun vs σ H Q => ∃ (Hf : Hp) (ρ : Ev) (ds : List D) (P : Ev → Prop), DEnv K H Hf σ ρ ∧ RepL K Hf vs ds ∧ γ ds ρ P ∧ ∀ σ' H' Hf' ρ', DEnv K H' Hf' σ' ρ' → Ext H H' Hf Hf' → SetTo is σ σ' ρ ρ' → P ρ' → Q σ' H'
structure DG (X : Cx) (tg : Expr) (is : List Nat) (γ : TDG) : Prop where
  pg : PG X tg (canG X.K is γ)
structure DGs (X : Cx) (tgs : List Expr) (is : List Nat) (γ : TDGs) : Prop where
  pgs : PGs X tgs (canGs X.K is γ)
/-- a slot is set -/
theorem set_slot {K : Fg} {H Hf : Hp} {σ : St} {ρ : Ev} {i : Nat} {v : V} {d : D} (e : DEnv K H Hf σ ρ) (r : Rep K Hf v d) : DEnv K H Hf (σ.set i (some v)) (ρ.set i (some (.fz d))) where
  sub := e.sub
  sl := fun j s h => by
    rw [set_get] at h
    by_cases hj : i = j
    · subst hj
      rw [if_pos rfl] at h
      split at h
      · rename_i hlt
        cases h
        exact ⟨v, by rw [List.getElem?_set, if_pos rfl, if_pos (by rw [e.len]; exact hlt)], r⟩
      · cases h
    · rw [if_neg hj] at h
      have z := e.sl j s h
      have es : (σ.set i (some v))[j]? = σ[j]? := by rw [List.getElem?_set, if_neg hj]
      cases s with
      | fz d => rw [es]; exact z
      | ow p us => rw [es]; exact z
  sep := fun j k a p xs q ys h1 h2 h3 h4 => by
    rw [set_get] at h1 h2
    by_cases hj : i = j
    · rw [if_pos hj] at h1
      split at h1 <;> cases h1
    by_cases hk : i = k
    · rw [if_pos hk] at h2
      split at h2 <;> cases h2
    rw [if_neg hj] at h1
    rw [if_neg hk] at h2
    rw [List.getElem?_set, if_neg hj] at h3
    rw [List.getElem?_set, if_neg hk] at h4
    exact e.sep j k a p xs q ys h1 h2 h3 h4
  len := by rw [List.length_set, List.length_set]; exact e.len
theorem setTo_slot {σ : St} {ρ : Ev} {i : Nat} {v : V} {d : D} (hl : σ.length = ρ.length) (hp : pinB ρ i = false) : SetTo [i] σ (σ.set i (some v)) ρ (ρ.set i (some (.fz d))) := ⟨fun j => by
  by_cases hj : i = j
  · subst hj
    by_cases hlt : i < ρ.length
    · exact .inr ⟨⟨d, by rw [set_get, if_pos rfl, if_pos hlt]⟩, hp, List.mem_singleton.mpr rfl⟩
    · exact .inl ⟨by rw [List.set_eq_of_length_le (by omega)], by rw [List.set_eq_of_length_le (by omega)]⟩
  · exact .inl ⟨by rw [List.getElem?_set, if_neg hj], by rw [set_get, if_neg hj]⟩, by rw [List.length_set]⟩
section
variable {X : Cx} {pos : Pos} {e : Expr} {es : List Expr} {γ : TDG} {γs : TDGs} {is js : List Nat}
def gN (i : Nat) : TDG := fun d ρ P => pinB ρ i = false ∧ P (ρ.set i (some (.fz d)))
theorem DG.of {t : TG} (h : PG X e t) (k : ∀ (v : V) (σ : St) (H Hf : Hp) (ρ : Ev) (d : D) (P : Ev → Prop) (Q : St → Hp → Prop), DEnv X.K H Hf σ ρ → Rep X.K Hf v d → γ d ρ P → (∀ σ' H' Hf' ρ', DEnv X.K H' Hf' σ' ρ' → Ext H H' Hf Hf' → SetTo is σ σ' ρ ρ' → P ρ' → Q σ' H') → t v σ H Q) : DG X e is γ :=
  ⟨⟨fun pins s σ H v u Q I r ⟨Hf, ρ, d, P, e1, r1, q, kk⟩ => h.run pins s σ H v u Q I r (k v σ H Hf ρ d P Q e1 r1 q kk)⟩⟩
theorem DGs.of {t : TGs} (h : PGs X es t) (k : ∀ (vs : List V) (σ : St) (H Hf : Hp) (ρ : Ev) (ds : List D) (P : Ev → Prop) (Q : St → Hp → Prop), DEnv X.K H Hf σ ρ → RepL X.K Hf vs ds → γs ds ρ P → (∀ σ' H' Hf' ρ', DEnv X.K H' Hf' σ' ρ' → Ext H H' Hf Hf' → SetTo is σ σ' ρ ρ' → P ρ' → Q σ' H') → t vs σ H Q) : DGs X es is γs :=
  ⟨⟨fun pins s σ H v u Q I r ⟨Hf, ρ, d, P, e1, r1, q, kk⟩ => h.run pins s σ H v u Q I r (k v σ H Hf ρ d P Q e1 r1 q kk)⟩⟩
theorem dg_n {x : Str} (i : Nat) (hN : X.N.Nodup) (hi : X.N[i]? = some x) (hx : Loc X.env.scope x) (hf : X.fn x = true ∨ X.env.scope.names.lookup x = some .local := by first | exact .inl rfl | exact .inr rfl | assumption) : DG X (.Name x pos) [i] (gN i) :=
  DG.of (pg_name hN hi hx hf) fun v σ H Hf ρ d P Q e r ⟨h1, h2⟩ k => k _ H Hf _ (set_slot e r) (Ext.refl e.sub) (setTo_slot e.len h1) h2
def gNilD : TDGs := fun ds ρ P => ds = [] ∧ P ρ
def gConsD (a : TDG) (r : TDGs) : TDGs := fun ds ρ P => ∃ d es, ds = d :: es ∧ a d ρ fun ρ1 => r es ρ1 P
theorem dgs_nil : DGs X [] [] gNilD := DGs.of pgs_nil fun vs σ H Hf ρ ds P Q e r ⟨h1, h2⟩ k => by
  subst h1
  cases r
  exact ⟨rfl, k σ H Hf ρ e (Ext.refl e.sub) (SetTo.refl ..) h2⟩
theorem dgs_cons (h1 : DG X e is γ) (h2 : DGs X es js γs) (hs : (assignEach (e :: es) X.env).map (·.2) = assign e X.env :: (assignEach es X.env).map (·.2) := by rfl) : DGs X (e :: es) (is ++ js) (gConsD γ γs) :=
  DGs.of (pgs_cons h1.pg h2.pgs hs) fun vs σ H Hf ρ ds P Q e r ⟨d, es, hd, q⟩ k => by
  subst hd
  cases r with
  | cons ra rr =>
    refine ⟨_, _, rfl, Hf, ρ, d, _, e, ra, q, fun σ1 H1 Hf1 ρ1 e1 x1 s1 p1 => ⟨Hf1, ρ1, es, P, e1, rr.mono x1.grow, p1, fun σ2 H2 Hf2 ρ2 e2 x2 s2 p2 => k σ2 H2 Hf2 ρ2 e2 (x1.trans x2) (s1.trans s2) p2⟩⟩
/-- (a, b, ..) = a tuple; a list -/
def gTupD (n : Nat) (γ : TDGs) : TDG := fun d ρ P => ∃ ds, d = .tup ds ∧ ds.length = n ∧ γ ds ρ P
def gUnlD (n : Nat) (γ : TDGs) : TDG := fun d ρ P => ∃ ds, d = .lst ds ∧ ds.length = n ∧ γ ds ρ P
theorem dg_tup {k n : Nat} (hc : X.calm = true) (h : DGs X es is γs) (hn : (assignEach es X.env).length = n := by rfl) (hst : (assignEach es X.env).findIdx? (·.1) = none := by rfl) : DG X (.Tuple es k pos) is (gTupD n γs) :=
  DG.of (pg_tup hc h.pgs hn hst) fun v σ H Hf ρ d P Q e r ⟨ds, hd, hl, q⟩ k => by
    subst hd
    cases r with
    | tup hp rp => exact ⟨_, _, rfl, sqT_same e.sub hp, rp.length.trans hl, Hf, ρ, ds, P, e, rp, q, k⟩
theorem dg_unl {k n : Nat} (hc : X.calm = true) (h : DGs X es is γs) (hn : (assignEach es X.env).length = n := by rfl) (hst : (assignEach es X.env).findIdx? (·.1) = none := by rfl) : DG X (.Tuple es k pos) is (gUnlD n γs) :=
  DG.of (pg_unl hc h.pgs hn hst) fun v σ H Hf ρ d P Q e r ⟨ds, hd, hl, q⟩ k => by
    subst hd
    cases r with
    | lst hp rp => exact ⟨_, _, rfl, .inl (.inl (e.sub _ _ hp)), rp.length.trans hl, Hf, ρ, ds, P, e, rp, q, k⟩
/-- (a, .., *r) = a tuple or a list -/
def gStarD (n : Nat) (γ : TDGs) : TDG := fun d ρ P => ∃ ds es, (d = .tup (ds ++ es) ∨ d = .lst (ds ++ es)) ∧ ds.length = n ∧ (ds ++ es).length ≤ 16000 ∧ γ (ds ++ [.lst es]) ρ P
theorem dgs_star {p : Pos} (h1 : DG X e is γ) : DGs X [.Starred e p] is (gConsD γ gNilD) :=
  DGs.of (pgs_star h1.pg) fun vs σ H Hf ρ ds P Q e r ⟨d, es, hd, q⟩ k => by
    subst hd
    cases r with
    | cons ra rr =>
      refine ⟨_, _, rfl, Hf, ρ, d, _, e, ra, q, fun σ1 H1 Hf1 ρ1 e1 x1 s1 ⟨p0, p1⟩ => ?_⟩
      subst p0
      cases rr
      exact ⟨rfl, k σ1 H1 Hf1 ρ1 e1 x1 s1 p1⟩
theorem dg_star {k i : Nat} (hc : X.calm = true) (h : DGs X es is γs) (hn : (assignEach es X.env).length = i + 1 := by rfl) (hst : (assignEach es X.env).findIdx? (·.1) = some i := by rfl) : DG X (.Tuple es k pos) is (gStarD i γs) :=
  DG.of (pg_star hc h.pgs hn hst) fun v σ H Hf ρ d P Q e r ⟨ds, es, hd, hl, hz, q⟩ k => by
    have fin : ∀ {a : Addr} {vs : List V}, v = .ref a → (SqT X.K H a vs ∨ SqL X.K H a vs) → RepL X.K Hf vs (ds ++ es) → gStar X.K i (canGs X.K is γs) v σ H Q := by
      intro a vs hv hs rp
      obtain ⟨us, ws, e1, r1, r2⟩ := rp.split
      subst e1
      refine ⟨a, us, ws, hv, hs, r1.length.trans hl, by rw [rp.length]; exact hz, fun n hn => ?_⟩
      have x1 := Ext.add e.sub (.lst ws) hn
      refine ⟨upd Hf n (.lst ws), ρ, ds ++ [.lst es], P, x1.env e, (r1.mono x1.grow).append (.cons (.lst upd_same (r2.mono x1.grow)) .nil), q, fun σ2 H2 Hf2 ρ2 e2 x2 s2 p2 => k σ2 H2 Hf2 ρ2 e2 (x1.trans x2) s2 p2⟩
    rcases hd with hd | hd
    · subst hd
      cases r with
      | tup hp rp => exact fin rfl (.inl (sqT_same e.sub hp)) rp
    · subst hd
      cases r with
      | lst hp rp => exact fin rfl (.inr (.inl (.inl (e.sub _ _ hp)))) rp
end
/-! ### statements -/
structure DEnds where
  nx : Ev → Prop
  rt : Res → Ev → Prop
  bk : Ev → Prop := fun _ => False
  ct : Ev → Prop := fun _ => False
abbrev TDS := DEnds → Ev → Prop
/-- where a def began: the heap, what was frozen, the lists that it may change (slot, address) -/
structure Bs where
  H0 : Hp
  Hf0 : Hp
  S : List (Nat × Addr)
structure SEnv (K : Fg) (B : Bs) (H Hf : Hp) (σ : St) (ρ : Ev) : Prop where
  env : DEnv K H Hf σ ρ
  keep : ∀ b o, B.H0 b = some o → (∀ p ∈ B.S, p.2 ≠ b) → H b = some o
  grow : ∀ b o, B.Hf0 b = some o → Hf b = some o
  live : ∀ b, H b = none → B.H0 b = none
  new : ∀ b o, Hf b = some o → B.Hf0 b = some o ∨ B.H0 b = none
  own : ∀ (i : Nat) (a : Addr) (xs : List D), ρ[i]? = some (some (.ow false xs)) → σ[i]? = some (some (.ref a)) → B.H0 a = none
  pin : ∀ (i : Nat) (a : Addr) (xs : List D), ρ[i]? = some (some (.ow true xs)) → σ[i]? = some (some (.ref a)) → (i, a) ∈ B.S
  pins : ∀ p ∈ B.S, σ[p.1]? = some (some (.ref p.2)) ∧ ∃ xs, ρ[p.1]? = some (some (.ow true xs))
section
variable {K : Fg} {B : Bs} {H H1 Hf Hf1 : Hp} {σ σ1 : St} {ρ ρ1 : Ev}
theorem SEnv.mv (s : SEnv K B H Hf σ ρ) (e1 : DEnv K H1 Hf1 σ ρ1) (m : Mv σ ρ ρ1 H H1 Hf Hf1) : SEnv K B H1 Hf1 σ ρ1 where
  env := e1
  keep := fun b o h hn => m.keep b o (s.keep b o h hn) fun ⟨i, p, xs, h1, h2⟩ => by
    cases p with
    | false =>
      have z := s.own i b xs h1 h2
      rw [h] at z
      cases z
    | true => exact hn _ (s.pin i b xs h1 h2) rfl
  grow := fun b o h => m.grow b o (s.grow b o h)
  live := fun b h => s.live b (m.live b h)
  new := fun b o h => by
    rcases m.new b o h with h1 | h1 | ⟨i, p, xs, h1, h2⟩
    · exact s.new b o h1
    · exact .inr (s.live b h1)
    · cases p with
      | false => exact .inr (s.own i b xs h1 h2)
      | true =>
        obtain ⟨ys, h3⟩ := m.pin i xs h1
        obtain ⟨a, zs, z1, _, z3, _⟩ := e1.sl i _ h3
        rw [h2] at z1
        cases z1
        rw [z3] at h
        cases h
  own := fun i a xs h1 h2 => by
    obtain ⟨ys, h3⟩ := m.own i false xs h1
    exact s.own i a ys h3 h2
  pin := fun i a xs h1 h2 => by
    obtain ⟨ys, h3⟩ := m.own i true xs h1
    exact s.pin i a ys h3 h2
  pins := fun p hp => by
    obtain ⟨h1, xs, h2⟩ := s.pins p hp
    exact ⟨h1, m.pin p.1 xs h2⟩
theorem SEnv.setTo (s : SEnv K B H Hf σ ρ) (e1 : DEnv K H1 Hf1 σ1 ρ1) (x : Ext H H1 Hf Hf1) {is : List Nat} (t : SetTo is σ σ1 ρ ρ1) : SEnv K B H1 Hf1 σ1 ρ1 where
  env := e1
  keep := fun b o h hn => x.same b o (s.keep b o h hn)
  grow := fun b o h => x.grow b o (s.grow b o h)
  live := fun b h => s.live b (x.live b h)
  new := fun b o h => by
    rcases x.new b o h with h1 | h1
    · exact s.new b o h1
    · exact .inr (s.live b h1)
  own := fun i a xs h1 h2 => by
    rcases t.each i with ⟨t1, t2⟩ | ⟨⟨d, t1⟩, _⟩
    · rw [t1] at h2
      rw [t2] at h1
      exact s.own i a xs h1 h2
    · rw [t1] at h1
      cases h1
  pin := fun i a xs h1 h2 => by
    rcases t.each i with ⟨t1, t2⟩ | ⟨⟨d, t1⟩, _⟩
    · rw [t1] at h2
      rw [t2] at h1
      exact s.pin i a xs h1 h2
    · rw [t1] at h1
      cases h1
  pins := fun p hp => by
    obtain ⟨h1, xs, h2⟩ := s.pins p hp
    rcases t.each p.1 with ⟨t1, t2⟩ | ⟨_, t2, _⟩
    · rw [t1, t2]
      exact ⟨h1, xs, h2⟩
    · unfold pinB at t2
      rw [h2] at t2
      cases t2
theorem ResOk.base {v : V} {r : Res} {H0 H2 Hf2 : Hp} (s : SEnv K B H Hf σ ρ) (h : ResOk K H H2 Hf2 v r) : ResOk K B.H0 H2 Hf2 v r := h.back s.live
end
structure Links (K : Fg) (B : Bs) (PD : DEnds) (D : Ends) : Prop where
  nx : ∀ σ H Hf ρ, SEnv K B H Hf σ ρ → PD.nx ρ → D.nx σ H
  rt : ∀ v σ H Hf ρ r, SEnv K B H Hf σ ρ → ResOk K B.H0 H Hf v r → PD.rt r ρ → D.rt v H
  bk : ∀ σ H Hf ρ, SEnv K B H Hf σ ρ → PD.bk ρ → D.bk σ H
  ct : ∀ σ H Hf ρ, SEnv K B H Hf σ ρ → PD.ct ρ → D.ct σ H
def canS (K : Fg) (τ : TDS) : TS := fun D σ H => ∃ (B : Bs) (Hf : Hp) (ρ : Ev) (PD : DEnds), SEnv K B H Hf σ ρ ∧ τ PD ρ ∧ Links K B PD D
structure DS (X : Cx) (st : Stmt) (τ : TDS) : Prop where
  ps : PS X st (canS X.K τ)
structure DSs (X : Cx) (sts : List Stmt) (τ : TDS) : Prop where
  pss : PSs X sts (canS X.K τ)
section
variable {X : Cx} {pos pos' : Pos} {st : Stmt} {rest sts sts2 : List Stmt} {e c tg : Expr} {τ τ1 : TDS} {τe : TD} {τc : TDT} {γ : TDG} {x : Str}
theorem DS.of {t : TS} (h : PS X st t) (k : ∀ (D : Ends) (σ : St) (H Hf : Hp) (B : Bs) (ρ : Ev) (PD : DEnds), SEnv X.K B H Hf σ ρ → τ PD ρ → Links X.K B PD D → t D σ H) : DS X st τ :=
  ⟨⟨fun pins s σ H D I ⟨B, Hf, ρ, PD, e, q, l⟩ => h.run pins s σ H D I (k D σ H Hf B ρ PD e q l)⟩⟩
def tNextD : TDS := fun PD ρ => PD.nx ρ
def tSeqD (t u : TDS) : TDS := fun PD ρ => t { PD with nx := u PD } ρ
theorem dss_nil : DSs X [] tNextD := ⟨⟨fun pins s σ H D I ⟨B, Hf, ρ, PD, e, q, l⟩ => pss_nil.run pins s σ H D I (l.nx σ H Hf ρ e q)⟩⟩
theorem dss_one (h : DS X st τ) : DSs X [st] τ := ⟨pss_one h.ps⟩
theorem dss_cons (h : DS X st τ) (h2 : DSs X rest τ1) : DSs X (st :: rest) (tSeqD τ τ1) :=
  ⟨⟨fun pins s σ H D I ⟨B, Hf, ρ, PD, e, q, l⟩ => (pss_cons h.ps h2.pss).run pins s σ H D I ⟨B, Hf, ρ, { PD with nx := τ1 PD }, e, q, ⟨fun σ1 H1 Hf1 ρ1 e1 q1 => ⟨B, Hf1, ρ1, PD, e1, q1, l⟩, l.rt, l.bk, l.ct⟩⟩⟩⟩
/-- an expression within a statement -/
theorem DE.inS {t : TE} (h : PE X e t) (hc : ∀ σ H Q, canE X.K τe σ H Q → t σ H Q) {B : Bs} {σ : St} {H Hf : Hp} {ρ : Ev} {P : Res → Ev → Prop} {Q : VK} (s : SEnv X.K B H Hf σ ρ) (q : τe ρ P)
    (k : ∀ v H' Hf' r ρ', SEnv X.K B H' Hf' σ ρ' → ResOk X.K B.H0 H' Hf' v r → P r ρ' → Q v H') : t σ H Q :=
  hc σ H Q ⟨Hf, ρ, P, s.env, q, fun v H' Hf' r ρ' e1 m1 r1 p1 => k v H' Hf' r ρ' (s.mv e1 m1) (r1.back s.live) p1⟩
/-- its result frozen -/
theorem inS_fz (B : Bs) {σ : St} {H Hf : Hp} {ρ : Ev} {P : D → Ev → Prop} {Q : VK} (s : SEnv X.K B H Hf σ ρ) (q : τe ρ (fun r ρ' => P r.dat ρ'))
    (k : ∀ v H' Hf' d ρ', SEnv X.K B H' Hf' σ ρ' → Rep X.K Hf' v d → P d ρ' → Q v H') : canE X.K τe σ H Q :=
  ⟨Hf, ρ, _, s.env, q, fun v H' Hf' r ρ' e1 m1 r1 p1 => by
    obtain ⟨Hf2, e2, m2, r2⟩ := r1.freeze s.env e1 m1
    exact k v H' Hf2 r.dat ρ' (s.mv e2 m2) r2 p1⟩
def tSetD (i : Nat) (τe : TD) : TDS := fun PD ρ => τe ρ fun r ρ1 => pinB ρ1 i = false ∧ PD.nx (ρ1.set i (some (.fz r.dat)))
theorem ds_set (i : Nat) (hN : X.N.Nodup) (hi : X.N[i]? = some x) (hx : Loc X.env.scope x) (he : DE X e τe) (hs : swapsWith e (some (.Name x pos')) pos.line X.env = pure false := by rfl) (hf : X.fn x = true ∨ X.env.scope.names.lookup x = some .local := by first | exact .inl rfl | exact .inr rfl | assumption) :
    DS X (.Assign [.Name x pos'] e pos) (tSetD i τe) :=
  DS.of (ps_set hN hi hx he.pe hs hf) fun D σ H Hf B ρ PD s q l => inS_fz B s (P := fun d ρ1 => pinB ρ1 i = false ∧ PD.nx (ρ1.set i (some (.fz d)))) q fun v H1 Hf1 d ρ1 s1 r1 ⟨p1, p2⟩ =>
    l.nx _ H1 Hf1 _ (s1.setTo (set_slot s1.env r1) (Ext.refl s1.env.sub) (setTo_slot s1.env.len p1)) p2
/-- x = e, a new list of one's own -/
def tSetO (i : Nat) (τe : TD) : TDS := fun PD ρ => τe ρ fun r ρ1 => ∃ xs, r = .fr xs ∧ pinB ρ1 i = false ∧ PD.nx (ρ1.set i (some (.ow false xs)))
theorem SEnv.setOwn {K : Fg} {B : Bs} {H Hf : Hp} {σ : St} {ρ : Ev} {i : Nat} {a : Addr} {ys : List V} {xs : List D} (s : SEnv K B H Hf σ ρ) (hp : pinB ρ i = false) (h0 : B.H0 a = none) (h1 : H a = some (.lst ys)) (h2 : Hf a = none) (h3 : RepL K Hf ys xs) (hn : ¬ Own σ ρ a) :
    SEnv K B H Hf (σ.set i (some (.ref a))) (ρ.set i (some (.ow false xs))) where
  env := {
    sub := s.env.sub
    sl := fun j t h => by
      rw [set_get] at h
      by_cases hj : i = j
      · subst hj
        rw [if_pos rfl] at h
        split at h
        · rename_i hlt
          cases h
          exact ⟨a, ys, by rw [List.getElem?_set, if_pos rfl, if_pos (by rw [s.env.len]; exact hlt)], h1, h2, h3⟩
        · cases h
      · rw [if_neg hj] at h
        have z := s.env.sl j t h
        have es : (σ.set i (some (.ref a)))[j]? = σ[j]? := by rw [List.getElem?_set, if_neg hj]
        cases t with
        | fz d => rw [es]; exact z
        | ow p us => rw [es]; exact z
    sep := fun j k b p us q zs q1 q2 q3 q4 => by
      have key : ∀ {m m' : Nat} {pp : Bool} {vs : List D} {pp' : Bool} {vs' : List D}, i = m → ¬ i = m' → (σ.set i (some (.ref a)))[m]? = some (some (.ref b)) → (ρ.set i (some (.ow false xs)))[m']? = some (some (.ow pp' vs')) → (σ.set i (some (.ref a)))[m']? = some (some (.ref b)) → False := by
        intro m m' pp vs pp' vs' hm hm' w1 w2 w3
        subst hm
        rw [set_get, if_neg hm'] at w2
        rw [List.getElem?_set, if_neg hm'] at w3
        rw [List.getElem?_set, if_pos rfl] at w1
        split at w1
        · cases w1
          exact hn ⟨m', _, _, w2, w3⟩
        · cases w1
      by_cases hj : i = j
      · by_cases hk : i = k
        · exact hj.symm.trans hk
        · exact (key (pp := p) (vs := us) hj hk q3 q2 q4).elim
      · by_cases hk : i = k
        · exact (key (pp := p) (vs := us) hk hj q4 q1 q3).elim
        · rw [set_get, if_neg hj] at q1
          rw [set_get, if_neg hk] at q2
          rw [List.getElem?_set, if_neg hj] at q3
          rw [List.getElem?_set, if_neg hk] at q4
          exact s.env.sep j k b p us q zs q1 q2 q3 q4
    len := by rw [List.length_set, List.length_set]; exact s.env.len }
  keep := s.keep
  grow := s.grow
  live := s.live
  new := s.new
  own := fun j b us q1 q2 => by
    by_cases hj : i = j
    · subst hj
      rw [List.getElem?_set, if_pos rfl] at q2
      split at q2
      · cases q2
        exact h0
      · cases q2
    · rw [set_get, if_neg hj] at q1
      rw [List.getElem?_set, if_neg hj] at q2
      exact s.own j b us q1 q2
  pin := fun j b us q1 q2 => by
    by_cases hj : i = j
    · subst hj
      rw [set_get, if_pos rfl] at q1
      split at q1 <;> cases q1
    · rw [set_get, if_neg hj] at q1
      rw [List.getElem?_set, if_neg hj] at q2
      exact s.pin j b us q1 q2
  pins := fun p hp' => by
    obtain ⟨w1, us, w2⟩ := s.pins p hp'
    have hj : ¬ i = p.1 := fun z => by
      unfold pinB at hp
      rw [z, w2] at hp
      cases hp
    exact ⟨by rw [List.getElem?_set, if_neg hj]; exact w1, us, by rw [set_get, if_neg hj]; exact w2⟩
theorem own_fresh {K : Fg} {B : Bs} {H H1 Hf Hf1 : Hp} {σ : St} {ρ ρ1 : Ev} {a : Addr} (s : SEnv K B H Hf σ ρ) (m : Mv σ ρ ρ1 H H1 Hf Hf1) (h : H a = none) : ¬ Own σ ρ1 a := fun z => not_own s.env h (m.ow z)
theorem setO_reading {t : TE} (i : Nat) {D : Ends} {σ : St} {H Hf : Hp} {B : Bs} {ρ : Ev} {PD : DEnds} (s : SEnv X.K B H Hf σ ρ) (q : tSetO i τe PD ρ) (l : Links X.K B PD D) : tAsg (canE X.K τe) (gName i) D σ H := by
  refine ⟨Hf, ρ, _, s.env, q, fun v H1 Hf1 r ρ1 e1 m1 r1 ⟨xs, hr, p1, p2⟩ => ?_⟩
  subst hr
  obtain ⟨a, ys, rfl, h1, h2, h3, h4⟩ := r1
  have s1 := s.mv e1 m1
  exact l.nx _ H1 Hf1 _ (s1.setOwn p1 (s.live a h3) h1 h2 h4 (own_fresh s m1 h3)) p2
theorem ds_setO (i : Nat) (hN : X.N.Nodup) (hi : X.N[i]? = some x) (hx : Loc X.env.scope x) (he : DE X e τe) (hs : swapsWith e (some (.Name x pos')) pos.line X.env = pure false := by rfl) (hf : X.fn x = true ∨ X.env.scope.names.lookup x = some .local := by first | exact .inl rfl | exact .inr rfl | assumption) :
    DS X (.Assign [.Name x pos'] e pos) (tSetO i τe) :=
  DS.of (ps_set hN hi hx he.pe hs hf) fun D σ H Hf B ρ PD s q l => setO_reading (t := canE X.K τe) i s q l
/-- target = e -/
def tAsgD (τe : TD) (γ : TDG) : TDS := fun PD ρ => τe ρ fun r ρ1 => γ r.dat ρ1 PD.nx
theorem ds_asg (he : DE X e τe) {is : List Nat} (hg : DG X tg is γ) (hs : swapsWithSole [tg] e pos.line X.env = pure false := by rfl) (hw : swappedStores [tg] e X.env = pure none := by rfl) (h1 : (assignEach [tg] X.env).map (·.2) = [assign tg X.env] := by rfl) : DS X (.Assign [tg] e pos) (tAsgD τe γ) :=
  DS.of (ps_asg he.pe hg.pg hs hw h1) fun D σ H Hf B ρ PD s q l => inS_fz B s (P := fun d ρ1 => γ d ρ1 PD.nx) q fun v H1 Hf1 d ρ1 s1 r1 p1 =>
    ⟨Hf1, ρ1, d, PD.nx, s1.env, r1, p1, fun σ2 H2 Hf2 ρ2 e2 x2 t2 p2 => l.nx σ2 H2 Hf2 ρ2 (s1.setTo e2 x2 t2) p2⟩
/-- if -/
def tIfD (c : TDT) (t u : TDS) : TDS := fun PD ρ => c ρ fun b ρ1 => if b = true then t PD ρ1 else u PD ρ1
theorem ds_if (hc : DT X c τc) (ha : DSs X sts τ) (hb : DSs X sts2 τ1) : DS X (.If c sts sts2 pos) (tIfD τc τ τ1) :=
  DS.of (ps_if hc.pt ha.pss hb.pss) fun D σ H Hf B ρ PD s q l => ⟨Hf, ρ, _, s.env, q, fun b H1 Hf1 ρ1 e1 m1 p1 => by
    cases b with
    | true => exact ⟨B, Hf1, ρ1, PD, s.mv e1 m1, p1, l⟩
    | false => exact ⟨B, Hf1, ρ1, PD, s.mv e1 m1, p1, l⟩⟩
/-- return e -/
def tRetD (τe : TD) : TDS := fun PD ρ => τe ρ PD.rt
theorem ds_ret (he : DE X e τe) : DS X (.Return (some e) pos) (tRetD τe) :=
  DS.of (ps_ret he.pe) fun D σ H Hf B ρ PD s q l => ⟨Hf, ρ, _, s.env, q, fun v H1 Hf1 r ρ1 e1 m1 r1 p1 => l.rt v σ H1 Hf1 ρ1 r (s.mv e1 m1) (r1.back s.live) p1⟩
/-- return x, a list of one's own -/
def tRetO (i : Nat) : TDS := fun PD ρ => ∃ xs, ρ[i]? = some (some (.ow false xs)) ∧ PD.rt (.fr xs) (ρ.set i none)
theorem DEnv.drop {K : Fg} {H Hf : Hp} {σ : St} {ρ : Ev} (i : Nat) (e : DEnv K H Hf σ ρ) : DEnv K H Hf σ (ρ.set i none) where
  sub := e.sub
  sl := fun j s h => by
    rw [set_get] at h
    by_cases hj : i = j
    · rw [if_pos hj] at h
      split at h <;> cases h
    · rw [if_neg hj] at h
      exact e.sl j s h
  sep := fun j k a p xs q ys h1 h2 h3 h4 => by
    rw [set_get] at h1 h2
    by_cases hj : i = j
    · rw [if_pos hj] at h1
      split at h1 <;> cases h1
    by_cases hk : i = k
    · rw [if_pos hk] at h2
      split at h2 <;> cases h2
    rw [if_neg hj] at h1
    rw [if_neg hk] at h2
    exact e.sep j k a p xs q ys h1 h2 h3 h4
  len := by rw [List.length_set]; exact e.len
theorem ds_retO (i : Nat) {p : Pos} (hN : X.N[i]? = some x := by rfl) (hv : Vis X.env.scope x := by first | exact Or.inl rfl | exact Or.inr (Or.inl rfl) | exact Or.inr (Or.inr rfl)) (hd : (x == ("__debug__" : Str)) = false := by decide) (hcd : (x == ("__classdict__" : Str)) = false := by decide) :
    DS X (.Return (some (.Name x p)) pos) (tRetO i) :=
  DS.of (ps_ret (pe_var hN hv hd hcd)) fun D σ H Hf B ρ PD s ⟨xs, h, q⟩ l => by
    obtain ⟨a, ys, h1, h2, h3, h4⟩ := s.env.sl i _ h
    have m : Mv σ ρ (ρ.set i none) H H Hf Hf := ⟨fun _ _ q _ => q, fun _ q => q, fun _ _ q => q, fun _ _ q => .inl q, fun j p us q => by
      rw [set_get] at q
      by_cases hj : i = j
      · rw [if_pos hj] at q
        split at q <;> cases q
      · rw [if_neg hj] at q
        exact ⟨us, q⟩, fun j us q => by
      by_cases hj : i = j
      · subst hj
        rw [h] at q
        cases q
      · exact ⟨us, by rw [set_get, if_neg hj]; exact q⟩⟩
    exact ⟨.ref a, h1, l.rt _ σ H Hf _ (.fr xs) (s.mv (s.env.drop i) m) ⟨a, ys, rfl, h2, h3, s.own i a xs h h1, h4⟩ q⟩
/-- e; its value is dropped -/
def tDropD (τe : TD) : TDS := fun PD ρ => τe ρ fun _ ρ1 => PD.nx ρ1
theorem ds_expr (he : DE X e τe) (hs : swapsWith e none pos.line X.env = pure false := by rfl) : DS X (.Expr e pos) (tDropD τe) :=
  DS.of (ps_expr he.pe hs) fun D σ H Hf B ρ PD s q l => ⟨Hf, ρ, _, s.env, q, fun v H1 Hf1 r ρ1 e1 m1 r1 p1 => l.nx σ H1 Hf1 ρ1 (s.mv e1 m1) p1⟩
/-- x[k] = e, x a list of one's own -/
def tSubO (i : Nat) (τe τk : TD) : TDS := fun PD ρ => τe ρ fun r ρ1 => (∃ p xs, ρ1[i]? = some (some (.ow p xs))) ∧ τk ρ1 fun y ρ2 => ∃ p xs k j, ρ2[i]? = some (some (.ow p xs)) ∧ y.dat = .int k ∧ ixN (List.length xs) k = some j ∧ PD.nx (ρ2.set i (some (.ow p (xs.set j r.dat))))
theorem ds_subO (i : Nat) {k : Expr} {τk : TD} {p p2 : Pos} (he : DE X e τe) (hk : DE X k τk) (hN : X.N[i]? = some x := by rfl) (hv : Vis X.env.scope x := by first | exact Or.inl rfl | exact Or.inr (Or.inl rfl) | exact Or.inr (Or.inr rfl)) (hd : (x == ("__debug__" : Str)) = false := by decide) (hcd : (x == ("__classdict__" : Str)) = false := by decide)
    (ha : ∀ v, assign (.Subscript (.Name x p) k p2) X.env v = (do
      let ov ← holding [v] (eval (.Name x p) X.env)
      let iv ← holding [v, ov] (eval k X.env)
      standAt p2
      holding [v, ov, iv] (setItem ov iv v)
      release [v, ov, iv] []) := by intro _; rfl)
    (hs : swapsWithSole [.Subscript (.Name x p) k p2] e pos.line X.env = pure false := by rfl) (hw : swappedStores [.Subscript (.Name x p) k p2] e X.env = pure none := by rfl) :
    DS X (.Assign [.Subscript (.Name x p) k p2] e pos) (tSubO i τe τk) := by
  refine DS.of (ps_asg he.pe (pg_sub (pe_var hN hv hd hcd) hk.pe set_list ha) hs hw) fun D σ H Hf B ρ PD s q l => ?_
  refine inS_fz B s (P := fun d ρ1 => (∃ p xs, ρ1[i]? = some (some (.ow p xs))) ∧ τk ρ1 fun y ρ2 => ∃ p xs k j, ρ2[i]? = some (some (.ow p xs)) ∧ y.dat = .int k ∧ ixN (List.length xs) k = some j ∧ PD.nx (ρ2.set i (some (.ow p (xs.set j d))))) q fun v H1 Hf1 d ρ1 s1 r1 ⟨⟨p0, xs0, h0⟩, q1⟩ => ?_
  obtain ⟨a, ys, h1, h2, h3, h4⟩ := s1.env.sl i _ h0
  refine ⟨.ref a, h1, ⟨Hf1, ρ1, _, s1.env, q1, fun y H2 Hf2 ry ρ2 e2 m2 r2 ⟨p3, xs, kk, j, g1, g2, g3, g4⟩ => ?_⟩⟩
  obtain ⟨Hf3, e3, m3, r3⟩ := r2.freeze s1.env e2 m2
  rw [g2] at r3
  obtain ⟨a', ys1, z1, z2, z3, z4⟩ := e3.sl i _ g1
  rw [h1] at z1
  cases z1
  obtain ⟨e4, m4⟩ := own_upd e3 g1 h1 (z4.set (r1.mono m3.grow) j)
  have s3 := s1.mv e3 m3
  refine ⟨a, ys1, kk, j, rfl, r3.int_inv, z2, by rw [z4.length]; exact g3, ?_⟩
  exact l.nx σ _ _ _ (s3.mv e4 m4) g4
/-- x, y = a, b -/
def tParD (i j : Nat) (τ : TDA) : TDS := fun PD ρ => τ ρ fun ds ρ1 => ∃ d d', ds = [d, d'] ∧ pinB ρ1 i = false ∧ pinB ρ1 j = false ∧ PD.nx ((ρ1.set i (some (.fz d))).set j (some (.fz d')))
theorem ds_par {i j : Nat} {x y : Str} {a b : Expr} {τs : TDA} {px py pt : Pos} {kt k2 : Nat} {pt2 : Pos} (hc : X.calm = true) (hN : X.N.Nodup) (hi : X.N[i]? = some x) (hj : X.N[j]? = some y) (hij : i ≠ j)
    (hx : X.env.scope.names.lookup x = some .local) (hy : X.env.scope.names.lookup y = some .local) (ha : DA X [a, b] τs)
    (hw : swappedStores [.Tuple [.Name x px, .Name y py] kt pt] (.Tuple [a, b] k2 pt2) X.env = pure (some [x, y]))
    (hs : swapsWithSole [.Tuple [.Name x px, .Name y py] kt pt] (.Tuple [a, b] k2 pt2) pos.line X.env = pure false := by rfl) :
    DS X (.Assign [.Tuple [.Name x px, .Name y py] kt pt] (.Tuple [a, b] k2 pt2) pos) (tParD i j τs) :=
  DS.of (ps_par hc hN hi hj hij hx hy ha.pa hw hs) fun D σ H Hf B ρ PD s q l => ⟨Hf, ρ, _, s.env, q, fun vs H1 Hf1 ds ρ1 e1 m1 r1 _ ⟨d, d', hd, p1, p2, p3⟩ => by
    subst hd
    cases r1 with
    | cons ra rr =>
      cases rr with
      | cons rb rr =>
        cases rr
        have s1 := s.mv e1 m1
        have s2 := s1.setTo (set_slot (i := i) s1.env ra) (Ext.refl s1.env.sub) (setTo_slot s1.env.len p1)
        have p2' : pinB (ρ1.set i (some (.fz d))) j = false := by
          unfold pinB at p2 ⊢
          rw [set_get, if_neg hij]
          exact p2
        have s3 := s2.setTo (set_slot (i := j) s2.env rb) (Ext.refl s2.env.sub) (setTo_slot s2.env.len p2')
        exact ⟨_, _, rfl, l.nx _ H1 Hf1 _ s3 p3⟩⟩
end
/-! ### defs -/
def startD (n : Nat) (ds : List D) : Ev := ds.map (fun d => some (.fz d)) ++ List.replicate (n - ds.length) none
def startD1 (n : Nat) (xs ds : List D) : Ev := some (.ow true xs) :: (ds.map (fun d => some (.fz d)) ++ List.replicate (n - (ds.length + 1)) none)
theorem start_len (N : List Str) (vs : List V) (h : vs.length ≤ N.length) : (L2.start N vs).length = N.length := by
  unfold L2.start
  rw [List.length_append, List.length_map, List.length_replicate]
  omega
theorem startD_get {n : Nat} {ds : List D} {i : Nat} {s : Sl} (h : (startD n ds)[i]? = some (some s)) : ∃ d, ds[i]? = some d ∧ s = .fz d := by
  unfold startD at h
  by_cases hi : i < ds.length
  · rw [List.getElem?_append_left (by rw [List.length_map]; exact hi), List.getElem?_map] at h
    cases e : ds[i]? with
    | none => rw [e] at h; cases h
    | some d =>
      rw [e] at h
      cases h
      exact ⟨d, rfl, rfl⟩
  · rw [List.getElem?_append_right (by rw [List.length_map]; omega)] at h
    rw [List.getElem?_replicate] at h
    split at h <;> cases h
theorem start_get {N : List Str} {vs : List V} {i : Nat} {v : V} (h : vs[i]? = some v) : (L2.start N vs)[i]? = some (some v) := by
  unfold L2.start
  have hi : i < vs.length := (List.getElem?_eq_some_iff.mp h).1
  rw [List.getElem?_append_left (by rw [List.length_map]; exact hi), List.getElem?_map, h]
  rfl
section
variable {P : Program} {w : World} {K : Fg} {mg : Str → Option Value} {base : Heap} {x qual : Str} {st : Stmt} {f : Addr} {fd : FuncData} {N ps : List Str} {k : Nat}
/-- THE RULE for a def without a list that it changes -/
theorem okD0 {g : FS0} {τ : TDS} (F : Fun K x qual st f fd) (S : FnScope N ps (defScope st)) (hps : ps.length ≤ N.length)
    (hb : ∀ (cdv : Value) (A : Around) (outer : List Env) (s : Shared) (H : Hp) (E : XK), Room k (A.deeper (PyProof.Rows.envOfC qual (defScope st) s.heap.objs.size f cdv)) → DSs (cxOf CX0 P w K mg base N qual (defScope st) f cdv A outer s H E).nox (defBody st) τ)
    (hq : ∀ ds Q, ds.length = ps.length → g ds Q → τ { nx := fun _ => Q (.fz .non), rt := fun r _ => Q r } (startD N.length ds)) : FnOk P w K mg base CX0 (k + 1) f fd ps (sp0 K ps.length g) := by
  refine F.ok S (fun vs H Q E h => ?_) (fun cdv A outer s H vs Q E hr h => ?_)
  · obtain ⟨Hf, ds, P, _, r, hl, _⟩ := h
    exact r.length.trans hl
  obtain ⟨Hf, ds, PQ, hf, r, hl, hg, kk⟩ := h
  have hvl := r.length
  refine ⟨_, (hb cdv A outer s H E hr).pss, ⟨⟨H, Hf, []⟩, Hf, startD N.length ds, _, ?_, hq ds PQ hl hg, ?_⟩⟩
  · refine ⟨⟨hf, fun i t h => ?_, fun i j a p us q zs h1 => ?_, ?_⟩, fun b o h _ => h, fun b o h => h, fun b h => h, fun b o h => .inl h, fun i a us h => ?_, fun i a us h => ?_, fun p hp => nomatch hp⟩
    · obtain ⟨d, h1, rfl⟩ := startD_get h
      obtain ⟨v, h2, h3⟩ := r.get h1
      exact ⟨v, start_get h2, h3⟩
    · obtain ⟨d, _, h2⟩ := startD_get h1
      cases h2
    · rw [start_len N vs (by omega)]
      unfold startD
      rw [List.length_append, List.length_map, List.length_replicate]
      omega
    · obtain ⟨d, _, h2⟩ := startD_get h
      cases h2
    · obtain ⟨d, _, h2⟩ := startD_get h
      cases h2
  · refine ⟨fun σ H1 Hf1 ρ e q => ?_, fun v σ H1 Hf1 ρ r1 e ok q => ?_, fun _ _ _ _ _ z => z.elim, fun _ _ _ _ _ z => z.elim⟩
    · exact kk .non H1 Hf1 (.fz .non) ⟨fun b o h => e.keep b o h (fun _ z => nomatch z), e.env.sub, e.grow, e.new⟩ Rep.non q
    · exact kk v H1 Hf1 r1 ⟨fun b o h => e.keep b o h (fun _ z => nomatch z), e.env.sub, e.grow, e.new⟩ ok q
/-- THE RULE for a def that changes its first argument, a list -/
theorem okD1 {g : FS1} {τ : TDS} (F : Fun K x qual st f fd) (S : FnScope N ps (defScope st)) (hps : ps.length ≤ N.length)
    (hb : ∀ (cdv : Value) (A : Around) (outer : List Env) (s : Shared) (H : Hp) (E : XK), Room k (A.deeper (PyProof.Rows.envOfC qual (defScope st) s.heap.objs.size f cdv)) → DSs (cxOf CX0 P w K mg base N qual (defScope st) f cdv A outer s H E).nox (defBody st) τ)
    (hq : ∀ xs ds Q, ds.length + 1 = ps.length → g xs ds Q → τ { nx := fun ρ => ∃ xs', ρ[0]? = some (some (.ow true xs')) ∧ Q (.fz .non) xs', rt := fun r ρ => ∃ xs', ρ[0]? = some (some (.ow true xs')) ∧ Q r xs' } (startD1 N.length xs ds)) : FnOk P w K mg base CX0 (k + 1) f fd ps (sp1 K ps.length g) := by
  refine F.ok S (fun vs H Q E h => ?_) (fun cdv A outer s H vs Q E hr h => ?_)
  · obtain ⟨Hf, a, us, ys, xs, ds, P, rfl, _, _, _, _, r, hl, _⟩ := h
    rw [List.length_cons, r.length]
    exact hl
  obtain ⟨Hf, a, us, ys, xs, ds, PQ, rfl, hf, ha, hfa, rx, r, hl, hg, kk⟩ := h
  have hvl := r.length
  have e0 : startD1 N.length xs ds = some (.ow true xs) :: startD (N.length - 1) ds := by
    unfold startD1 startD
    rw [show N.length - (ds.length + 1) = N.length - 1 - ds.length by omega]
  have es : L2.start N (.ref a :: us) = some (.ref a) :: (us.map some ++ List.replicate (N.length - (us.length + 1)) none) := rfl
  have gs : ∀ (i : Nat) (s : Sl), (startD1 N.length xs ds)[i + 1]? = some (some s) → ∃ d v, s = .fz d ∧ (L2.start N (.ref a :: us))[i + 1]? = some (some v) ∧ Rep K Hf v d := by
    intro i s h
    rw [e0, List.getElem?_cons_succ] at h
    obtain ⟨d, h1, rfl⟩ := startD_get h
    obtain ⟨v, h2, h3⟩ := r.get h1
    exact ⟨d, v, rfl, start_get (by rw [List.getElem?_cons_succ]; exact h2), h3⟩
  refine ⟨_, (hb cdv A outer s H E hr).pss, ⟨⟨H, Hf, [(0, a)]⟩, Hf, startD1 N.length xs ds, _, ?_, hq xs ds PQ hl hg, ?_⟩⟩
  · refine ⟨⟨hf, fun i t h => ?_, fun i j b p us' q zs h1 h2 h3 h4 => ?_, ?_⟩, fun b o h _ => h, fun b o h => h, fun b h => h, fun b o h => .inl h, fun i b us' h h2 => ?_, fun i b us' h h2 => ?_, fun p hp => ?_⟩
    · cases i with
      | zero =>
        cases h
        exact ⟨a, ys, rfl, ha, hfa, rx⟩
      | succ i =>
        obtain ⟨d, v, rfl, h1, h2⟩ := gs i t h
        exact ⟨v, h1, h2⟩
    · cases i with
      | zero =>
        cases j with
        | zero => rfl
        | succ j =>
          obtain ⟨d, v, z, _⟩ := gs j _ h2
          cases z
      | succ i =>
        obtain ⟨d, v, z, _⟩ := gs i _ h1
        cases z
    · rw [start_len N _ (by rw [List.length_cons]; omega), e0, List.length_cons]
      unfold startD
      rw [List.length_append, List.length_map, List.length_replicate]
      omega
    · cases i with
      | zero => cases h
      | succ i =>
        obtain ⟨d, v, z, _⟩ := gs i _ h
        cases z
    · cases i with
      | zero =>
        cases h2
        exact List.mem_cons_self ..
      | succ i =>
        obtain ⟨d, v, z, _⟩ := gs i _ h
        cases z
    · rw [List.mem_singleton.mp hp]
      exact ⟨rfl, xs, rfl⟩
  · have fin : ∀ v σ H1 Hf1 ρ r1, SEnv K ⟨H, Hf, [(0, a)]⟩ H1 Hf1 σ ρ → ResOk K H H1 Hf1 v r1 → (∃ xs', ρ[0]? = some (some (.ow true xs')) ∧ PQ r1 xs') → Q v H1 := by
      intro v σ H1 Hf1 ρ r1 e ok ⟨xs', h1, q⟩
      obtain ⟨w1, _⟩ := e.pins (0, a) (List.mem_cons_self ..)
      obtain ⟨b, ys', z1, z2, z3, z4⟩ := e.env.sl 0 _ h1
      have w1' : σ[0]? = some (some (.ref a)) := w1
      rw [w1'] at z1
      cases z1
      exact kk v H1 Hf1 r1 ys' xs' ⟨fun b o h hb => e.keep b o h (fun p hp => by rw [List.mem_singleton.mp hp]; exact fun z => hb z.symm), e.live, e.env.sub, e.grow, e.new⟩ z2 z3 z4 ok q
    exact ⟨fun σ H1 Hf1 ρ e q => fin .non σ H1 Hf1 ρ (.fz .non) e Rep.non q, fun v σ H1 Hf1 ρ r1 e ok q => fin v σ H1 Hf1 ρ r1 e ok q, fun _ _ _ _ _ z => z.elim, fun _ _ _ _ _ z => z.elim⟩
end
end DL
/-! The data layer, 8: what is walked; for; comprehensions; calls that change their first argument. -/
namespace L2
open PySem PySem.Spec PyProof.Rows
/-- a list, a tuple or a text that is walked -/
def iSeq (K : PySem.W.Frag) (te : TE) : TI := fun σ H R => te σ H fun x H1 => (∃ a, x = .ref a ∧ (∃ xs, SqL K H1 a xs) ∧ R (Itl K a) H1) ∨ (∃ a, x = .ref a ∧ (∃ xs, SqT K H1 a xs) ∧ R (Itt K a) H1) ∨ (∃ z, x = .str z ∧ R (Its z) H1)
theorem pi_seq {X : Cx} {tg l : Expr} {tl : TE} (hl : PE X l tl) : PI X tg l (iSeq X.K tl) := by
  refine ⟨fun pins s σ H R I h => ?_⟩
  refine thn (hl.run pins s σ H _ I h) fun v s1 ⟨x, H1, I1, r1, q1⟩ => ?_
  rcases q1 with ⟨a, e, ⟨xs, hq⟩, q⟩ | ⟨a, e, ⟨xs, hq⟩, q⟩ | ⟨z, e, q⟩
  · subst e
    cases r1
    obtain ⟨its, rv, p, hz⟩ := I1.list hq
    refine wpAny_pyIter_list p.isList ?_
    refine ⟨s1.heap.objs.size, [s1.heap.objs.size], _, _, H1, rfl, I1.kept (t' := s1.toks) fun b o e => Heap.get?_push_of_some _ e, turn_list a _, ⟨_, Heap.get?_push_size _ rfl, rfl, rfl⟩, fun b hb => ?_, q⟩
    have e : b = s1.heap.objs.size := by simpa using hb
    subst e
    exact I1.fpOk (Nat.le_refl _) (I1.hok.fresh (Nat.le_refl _))
  · subst e
    cases r1
    obtain ⟨its, rv, p, hz⟩ := I1.tuple hq
    refine wpAny_pyIter_tuple (show s1.heap.IsTuple a its.toArray from p) ?_
    refine ⟨s1.heap.objs.size, [s1.heap.objs.size], _, _, H1, rfl, I1.kept (t' := s1.toks) fun b o e => Heap.get?_push_of_some _ e, turn_tuple a _, ⟨_, Heap.get?_push_size _ rfl, rfl, rfl⟩, fun b hb => ?_, q⟩
    have e : b = s1.heap.objs.size := by simpa using hb
    subst e
    exact I1.fpOk (Nat.le_refl _) (I1.hok.fresh (Nat.le_refl _))
  · subst e
    obtain ⟨t, rfl⟩ := r1
    cases ha : z.cps.all (· < 128)
    · exact wpAny_pyIter_wide ha (pi_one (tk := s1.toks) I1 _ (turn_str _ z t "str_iterator" (.inr rfl)) ⟨_, Heap.get?_push_size _ rfl, rfl, rfl⟩ q)
    · exact wpAny_pyIter_ascii ha (pi_one (tk := s1.toks) I1 _ (turn_str _ z t "str_ascii_iterator" (.inl rfl)) ⟨_, Heap.get?_push_size _ rfl, rfl, rfl⟩ q)
end L2
namespace DL
open PySem L2
/-! ### what is walked -/
structure DIt (K : Fg) (J : It) (Hf : Hp) (ds : List D) : Prop where
  item : ∀ (i : Nat) (d : D) (H' Hf' : Hp), (∀ b o, Hf' b = some o → H' b = some o) → (∀ b o, Hf b = some o → Hf' b = some o) → ds[i]? = some d → J.go i H' ∧ ∀ x H'', J.yld i H' x H'' → ∃ Hf'', Ext H' H'' Hf' Hf'' ∧ Rep K Hf'' x d
  stop : ∀ (i : Nat) (H' Hf' : Hp), (∀ b o, Hf' b = some o → H' b = some o) → (∀ b o, Hf b = some o → Hf' b = some o) → ds.length ≤ i → J.stop i H'
abbrev TDI := Ev → (List D → Ev → Prop) → Prop
def canI (K : Fg) (τ : TDI) : TI := fun σ H R => ∃ (Hf : Hp) (ρ : Ev) (P : List D → Ev → Prop), DEnv K H Hf σ ρ ∧ τ ρ P ∧ ∀ J H' Hf' ds ρ', DEnv K H' Hf' σ ρ' → Mv σ ρ ρ' H H' Hf Hf' → DIt K J Hf' ds → P ds ρ' → R J H'
structure DI (X : Cx) (tg iter : Expr) (τ : TDI) : Prop where
  pi : PI X tg iter (canI X.K τ)
/-- the items of what is walked -/
def itemsD : D → Option (List D)
  | .lst ds => some ds
  | .tup ds => some ds
  | .str z => some (signsD z)
  | .scr ns => some (ns.map .int)
  | _ => none
section
variable {X : Cx} {tg e : Expr} {τe : TD} {τs : TDA} {p pos : Pos}
theorem DI.of {iter : Expr} {τ : TDI} {t : TI} (h : PI X tg iter t) (k : ∀ (σ : St) (H Hf : Hp) (ρ : Ev) (P : List D → Ev → Prop) (R : It → Hp → Prop), DEnv X.K H Hf σ ρ → τ ρ P → (∀ J H' Hf' ds ρ', DEnv X.K H' Hf' σ ρ' → Mv σ ρ ρ' H H' Hf Hf' → DIt X.K J Hf' ds → P ds ρ' → R J H') → t σ H R) : DI X tg iter τ :=
  ⟨⟨fun pins s σ H R I ⟨Hf, ρ, P, e, q, kk⟩ => h.run pins s σ H R I (k σ H Hf ρ P R e q kk)⟩⟩
def tSeqI (τe : TD) : TDI := fun ρ P => τe ρ fun r ρ1 => ∃ ds, itemsD r.dat = some ds ∧ P ds ρ1
theorem itl_it {K : Fg} {Hf : Hp} {a : Addr} {vs : List V} {ds : List D} (hs : SqL K Hf a vs) (r : RepL K Hf vs ds) : DIt K (Itl K a) Hf ds where
  item := fun i d H' Hf' sub grow hd => by
    obtain ⟨v, h1, h2⟩ := r.get hd
    have q : SqL K H' a vs := sqL_same (fun b o h => sub b o (grow b o h)) hs
    refine ⟨⟨vs, v, q, h1⟩, fun x H'' y => ?_⟩
    obtain ⟨rfl, y⟩ := y
    have e := y vs q
    rw [h1] at e
    cases e
    exact ⟨Hf', Ext.refl sub, h2.mono grow⟩
  stop := fun i H' Hf' sub grow hl => ⟨vs, sqL_same (fun b o h => sub b o (grow b o h)) hs, by rw [r.length]; exact hl⟩
theorem itt_it {K : Fg} {Hf : Hp} {a : Addr} {vs : List V} {ds : List D} (hs : SqT K Hf a vs) (r : RepL K Hf vs ds) : DIt K (Itt K a) Hf ds where
  item := fun i d H' Hf' sub grow hd => by
    obtain ⟨v, h1, h2⟩ := r.get hd
    have q : SqT K H' a vs := sqT_same (fun b o h => sub b o (grow b o h)) hs
    refine ⟨⟨vs, v, q, h1⟩, fun x H'' y => ?_⟩
    obtain ⟨rfl, y⟩ := y
    have e := y vs q
    rw [h1] at e
    cases e
    exact ⟨Hf', Ext.refl sub, h2.mono grow⟩
  stop := fun i H' Hf' sub grow hl => ⟨vs, sqT_same (fun b o h => sub b o (grow b o h)) hs, by rw [r.length]; exact hl⟩
theorem its_it {K : Fg} {Hf : Hp} {z : Str} : DIt K (Its z) Hf (signsD z) where
  item := fun i d H' Hf' sub grow hd => by
    unfold signsD at hd
    rw [List.getElem?_map] at hd
    cases e : z.cps.toList[i]? with
    | none => rw [e] at hd; cases hd
    | some c =>
      rw [e] at hd
      cases hd
      have hlt : i < z.cps.toList.length := (List.getElem?_eq_some_iff.mp e).1
      rw [Array.length_toList] at hlt
      refine ⟨hlt, fun x H'' y => ?_⟩
      obtain ⟨rfl, c', h1, rfl⟩ := y
      rw [Array.getElem?_toList, h1] at e
      cases e
      exact ⟨Hf', Ext.refl sub, .str _⟩
  stop := fun i H' Hf' sub grow hl => by
    unfold signsD at hl
    rw [List.length_map, Array.length_toList] at hl
    exact hl
theorem repL_ints {K : Fg} {H : Hp} : ∀ ns : List Int, RepL K H (ns.map V.int) (ns.map D.int)
  | [] => .nil
  | n :: ns => .cons (.int n) (repL_ints ns)
/-- over a list, a tuple, a text -/
theorem di_seq (he : DE X e τe) : DI X tg e (tSeqI τe) := by
  obtain ⟨t, pe, se⟩ := he.fz
  refine DI.of (pi_seq pe) fun σ H Hf ρ P R e q k => se σ H Hf ρ (fun d ρ1 => ∃ ds, itemsD d = some ds ∧ P ds ρ1) _ e q fun v H1 Hf1 d ρ1 e1 m1 r1 zz => ?_
  obtain ⟨ds, hd, p1⟩ := zz
  cases r1 <;> first | (simp [itemsD] at hd; done) | skip
  · rename_i z
    simp only [itemsD, Option.some.injEq] at hd
    subst hd
    exact .inr (.inr ⟨z, rfl, k _ H1 Hf1 _ ρ1 e1 m1 its_it p1⟩)
  · rename_i a ns hp
    simp only [itemsD, Option.some.injEq] at hd
    subst hd
    exact .inl ⟨a, rfl, ⟨_, sqL_same e1.sub hp⟩, k _ H1 Hf1 _ ρ1 e1 m1 (itl_it hp (repL_ints ns)) p1⟩
  · rename_i a vs es hp rp
    simp only [itemsD, Option.some.injEq] at hd
    subst hd
    exact .inr (.inl ⟨a, rfl, ⟨_, sqT_same e1.sub hp⟩, k _ H1 Hf1 _ ρ1 e1 m1 (itt_it hp rp) p1⟩)
  · rename_i a vs es hp rp
    simp only [itemsD, Option.some.injEq] at hd
    subst hd
    exact .inl ⟨a, rfl, ⟨_, .inl (.inl (e1.sub _ _ hp))⟩, k _ H1 Hf1 _ ρ1 e1 m1 (itl_it (.inl (.inl hp)) rp) p1⟩
/-- range -/
def rangeD (lo : Int) (n : Nat) : List D := (List.range n).map fun (i : Nat) => D.int (lo + i)
theorem itr_it {K : Fg} {Hf : Hp} {lo : Int} {n : Nat} : DIt K (Itr lo n) Hf (rangeD lo n) where
  item := fun i d H' Hf' sub grow hd => by
    unfold rangeD at hd
    rw [List.getElem?_map] at hd
    by_cases hi : i < n
    · rw [List.getElem?_range hi] at hd
      cases hd
      refine ⟨hi, fun x H'' y => ?_⟩
      obtain ⟨rfl, rfl⟩ := y
      exact ⟨Hf', Ext.refl sub, .int _⟩
    · rw [List.getElem?_eq_none (by rw [List.length_range]; omega)] at hd
      cases hd
  stop := fun i H' Hf' sub grow hl => by
    unfold rangeD at hl
    rw [List.length_map, List.length_range] at hl
    exact hl
def tRng1 (τ : TDA) : TDI := fun ρ P => τ ρ fun ds ρ1 => ∃ j : Int, ds = [.int j] ∧ (-(2 ^ 62) ≤ j ∧ j < 2 ^ 62) ∧ P (rangeD 0 j.toNat) ρ1
def tRng2 (τ : TDA) : TDI := fun ρ P => τ ρ fun ds ρ1 => ∃ i j : Int, ds = [.int i, .int j] ∧ (-(2 ^ 62) ≤ i ∧ i < 2 ^ 62 ∧ -(2 ^ 62) ≤ j ∧ j < 2 ^ 62) ∧ P (rangeD i (j - i).toNat) ρ1
theorem di_range1 {a : Expr} (hg : Gl X "range") (hm : X.mg "range" = none) (ha : DA X [a] τs) (hs : starEach [a] X.env = [(false, eval a X.env)] := by rfl) : DI X tg (.Call (.Name "range" p) [a] [] pos) (tRng1 τs) :=
  DI.of (pi_range1 hg hm ha.pa hs) fun σ H Hf ρ P R e q k => ⟨Hf, ρ, _, e, q, fun vs H1 Hf1 ds ρ1 e1 m1 r1 _ ⟨j, hd, hj, p1⟩ => by
    subst hd
    cases r1 with
    | cons ra rr =>
      cases rr
      cases ra
      exact ⟨j, rfl, hj.1, hj.2, k _ H1 Hf1 _ ρ1 e1 m1 itr_it p1⟩⟩
theorem di_range2 {a b : Expr} (hg : Gl X "range") (hm : X.mg "range" = none) (ha : DA X [a, b] τs) (hs : starEach [a, b] X.env = [(false, eval a X.env), (false, eval b X.env)] := by rfl) (hs2 : starEach [b] X.env = [(false, eval b X.env)] := by rfl) : DI X tg (.Call (.Name "range" p) [a, b] [] pos) (tRng2 τs) :=
  DI.of (pi_range2 hg hm ha.pa hs hs2) fun σ H Hf ρ P R e q k => ⟨Hf, ρ, _, e, q, fun vs H1 Hf1 ds ρ1 e1 m1 r1 _ ⟨i, j, hd, hj, p1⟩ => by
    subst hd
    cases r1 with
    | cons ra rr =>
      cases rr with
      | cons rb rr =>
        cases rr
        cases ra
        cases rb
        exact ⟨i, j, rfl, hj, k _ H1 Hf1 _ ρ1 e1 m1 itr_it p1⟩⟩
end
/-! ### for -/
def loopD (γ : TDG) (τb : TDS) (PD : DEnds) : List D → Ev → Prop
  | [], ρ => PD.nx ρ
  | d :: ds, ρ => γ d ρ fun ρ1 => τb { PD with nx := loopD γ τb PD ds, ct := loopD γ τb PD ds, bk := PD.nx } ρ1
def tForD (τi : TDI) (γ : TDG) (τb : TDS) : TDS := fun PD ρ => τi ρ fun ds ρ1 => loopD γ τb PD ds ρ1
theorem SEnv.re {K : Fg} {B : Bs} {H Hf : Hp} {σ : St} {ρ : Ev} (s : SEnv K B H Hf σ ρ) : SEnv K { B with Hf0 := Hf } H Hf σ ρ := ⟨s.env, s.keep, fun _ _ h => h, s.live, fun _ _ h => .inl h, s.own, s.pin, s.pins⟩
theorem SEnv.un {K : Fg} {B : Bs} {H H1 Hf Hf1 : Hp} {σ σ1 : St} {ρ ρ1 : Ev} (s : SEnv K B H Hf σ ρ) (s1 : SEnv K { B with Hf0 := Hf } H1 Hf1 σ1 ρ1) : SEnv K B H1 Hf1 σ1 ρ1 := ⟨s1.env, s1.keep, fun b o h => s1.grow b o (s.grow b o h), s1.live, fun b o h => by
  rcases s1.new b o h with h | h
  · exact s.new b o h
  · exact .inr h, s1.own, s1.pin, s1.pins⟩
theorem ds_for {X : Cx} {tg iter : Expr} {body : List Stmt} {is : List Nat} {τi : TDI} {γ : TDG} {τb : TDS} {pos : Pos} (hp : PassesOwn (model X.prog X.w) X.A X.env X.xe) (hc : X.calm = true) (hi : DI X tg iter τi) (hg : DG X tg is γ) (hb : DSs X body τb)
    (hs : ∀ x, foldedSetIterable iter X.env x = pure x := by intro _; rfl) : DS X (.For tg iter body [] pos) (tForD τi γ τb) := by
  refine DS.of (ps_for hp hc hi.pi hg.pg hb.pss hs) fun D σ H Hf B ρ PD s q l => ⟨Hf, ρ, _, s.env, q, fun J H1 Hf1 ds ρ1 e1 m1 it p1 => ?_⟩
  have s1 := s.mv e1 m1
  refine ⟨fun i m σ' H' => ∃ Hf' ρ', SEnv X.K { B with Hf0 := Hf1 } H' Hf' σ' ρ' ∧ loopD γ τb PD (ds.drop i) ρ' ∧ m = ds.length - i ∧ i ≤ ds.length, ⟨ds.length, Hf1, ρ1, s1.re, by rw [List.drop_zero]; exact p1, by omega, Nat.zero_le _⟩, ?_⟩
  rintro i m σ2 H2 ⟨Hf2, ρ2, s2, q2, hm, hil⟩
  by_cases hlt : i < ds.length
  · have hd : ds[i]? = some ds[i] := List.getElem?_eq_getElem hlt
    obtain ⟨go, yl⟩ := it.item i ds[i] H2 Hf2 s2.env.sub s2.grow hd
    rw [List.drop_eq_getElem_cons hlt] at q2
    refine .inr ⟨go, fun σ' H' => ∃ Hf' ρ', SEnv X.K { B with Hf0 := Hf1 } H' Hf' σ' ρ' ∧ loopD γ τb PD (ds.drop (i + 1)) ρ', fun σ' H' ⟨Hf', ρ', a1, a2⟩ => ⟨ds.length - (i + 1), by omega, Hf', ρ', a1, a2, rfl, hlt⟩, fun x H3 y => ?_⟩
    obtain ⟨Hf3, x3, r3⟩ := yl x H3 y
    have e3 := x3.env s2.env
    refine ⟨Hf3, ρ2, ds[i], _, e3, r3, q2, fun σ4 H4 Hf4 ρ4 e4 x4 t4 p4 => ?_⟩
    have s4 : SEnv X.K { B with Hf0 := Hf1 } H4 Hf4 σ4 ρ4 := s2.setTo e4 (x3.trans x4) t4
    refine ⟨{ B with Hf0 := Hf1 }, Hf4, ρ4, _, s4, p4, ⟨fun σ5 H5 Hf5 ρ5 e5 q5 => ⟨Hf5, ρ5, e5, q5⟩, fun v σ5 H5 Hf5 ρ5 r e5 ok q5 => l.rt v σ5 H5 Hf5 ρ5 r (s1.un e5) ok q5, fun σ5 H5 Hf5 ρ5 e5 q5 => l.nx σ5 H5 Hf5 ρ5 (s1.un e5) q5, fun σ5 H5 Hf5 ρ5 e5 q5 => ⟨Hf5, ρ5, e5, q5⟩⟩⟩
  · have e : i = ds.length := by omega
    subst e
    rw [List.drop_length] at q2
    exact .inl ⟨it.stop _ H2 Hf2 s2.env.sub s2.grow (Nat.le_refl _), l.nx σ2 H2 Hf2 ρ2 (s1.un s2) q2⟩
end DL
/-! The data layer, 9: comprehensions; calls that change their first argument. -/
namespace DL
open PySem L2
def wipeD (ρ : Ev) : List Nat → Ev
  | [] => ρ
  | v :: vs => (wipeD ρ vs).set v none
theorem wipeD_len (ρ : Ev) : ∀ vs, (wipeD ρ vs).length = ρ.length
  | [] => rfl
  | v :: vs => by unfold wipeD; rw [List.length_set, wipeD_len ρ vs]
theorem wipeD_out (ρ : Ev) {i : Nat} : ∀ {vs : List Nat}, i ∉ vs → (wipeD ρ vs)[i]? = ρ[i]?
  | [], _ => rfl
  | v :: vs, h => by
    unfold wipeD
    rw [set_get, if_neg (fun z => h (by rw [z]; exact List.mem_cons_self ..)), wipeD_out ρ (fun z => h (List.mem_cons_of_mem _ z))]
theorem wipeD_in (ρ : Ev) {i : Nat} {s : Sl} : ∀ {vs : List Nat}, i ∈ vs → (wipeD ρ vs)[i]? = some (some s) → False
  | v :: vs, h, q => by
    unfold wipeD at q
    rw [set_get] at q
    by_cases hv : v = i
    · rw [if_pos hv] at q
      split at q <;> cases q
    · rw [if_neg hv] at q
      rcases List.mem_cons.mp h with e | e
      · exact hv e.symm
      · exact wipeD_in ρ e q
theorem wipe_out (σ : St) {i : Nat} : ∀ {vs : List Nat}, i ∉ vs → (wipe σ vs)[i]? = σ[i]?
  | [], _ => rfl
  | v :: vs, h => by
    unfold wipe
    rw [List.getElem?_set, if_neg (fun z => h (by rw [z]; exact List.mem_cons_self ..)), wipe_out σ (fun z => h (List.mem_cons_of_mem _ z))]
theorem wipe_eq {σ σ2 : St} (hl : σ2.length = σ.length) : ∀ {vs : List Nat}, (∀ i, i ∉ vs → σ2[i]? = σ[i]?) → wipe σ2 vs = wipe σ vs := fun {vs} h => by
  apply List.ext_getElem?
  intro i
  by_cases hi : i ∈ vs
  · have key : ∀ (σ : St) (vs : List Nat), i ∈ vs → (wipe σ vs)[i]? = if i < σ.length then some none else none := by
      intro σ vs
      induction vs with
      | nil => intro h; cases h
      | cons v vs ih =>
        intro h
        unfold wipe
        rw [List.getElem?_set, wipe_length]
        by_cases hv : v = i
        · rw [if_pos hv, hv]
        · rw [if_neg hv]
          rcases List.mem_cons.mp h with e | e
          · exact absurd e.symm hv
          · exact ih e
    rw [key σ2 vs hi, key σ vs hi, hl]
  · rw [wipe_out _ hi, wipe_out _ hi]
    exact h i hi
/-- the slots of a block as they were ahead of it -/
def resto (ρ1 ρ2 : Ev) : List Nat → Ev
  | [] => ρ2
  | v :: vs => (resto ρ1 ρ2 vs).set v (ρ1.getD v none)
theorem resto_len (ρ1 ρ2 : Ev) : ∀ vs, (resto ρ1 ρ2 vs).length = ρ2.length
  | [] => rfl
  | v :: vs => by unfold resto; rw [List.length_set, resto_len ρ1 ρ2 vs]
theorem resto_out (ρ1 ρ2 : Ev) {i : Nat} : ∀ {vs : List Nat}, i ∉ vs → (resto ρ1 ρ2 vs)[i]? = ρ2[i]?
  | [], _ => rfl
  | v :: vs, h => by
    unfold resto
    rw [set_get, if_neg (fun z => h (by rw [z]; exact List.mem_cons_self ..)), resto_out ρ1 ρ2 (fun z => h (List.mem_cons_of_mem _ z))]
theorem resto_in (ρ1 ρ2 : Ev) {i : Nat} {s : Sl} (hl : ρ1.length = ρ2.length) : ∀ {vs : List Nat}, i ∈ vs → (resto ρ1 ρ2 vs)[i]? = some (some s) → ρ1[i]? = some (some s)
  | v :: vs, h, q => by
    unfold resto at q
    rw [set_get] at q
    by_cases hv : v = i
    · subst hv
      rw [if_pos rfl, resto_len] at q
      split at q
      · rename_i hlt
        rw [List.getElem?_eq_getElem (by omega)]
        rw [List.getD_eq_getElem?_getD, List.getElem?_eq_getElem (by omega)] at q
        simpa using q
      · cases q
    · rw [if_neg hv] at q
      rcases List.mem_cons.mp h with e | e
      · exact absurd e.symm hv
      · exact resto_in ρ1 ρ2 hl e q
def notOw (ρ : Ev) (i : Nat) : Bool := match ρ[i]? with
  | some (some (.ow _ _)) => false
  | _ => true
theorem notOw_no {ρ : Ev} {i : Nat} {p : Bool} {xs : List D} (h : notOw ρ i = true) : ρ[i]? ≠ some (some (.ow p xs)) := fun z => by
  unfold notOw at h
  rw [z] at h
  cases h
/-- a comprehension's turns -/
def lcD (vs : List Nat) (γ : TDG) (τt : TDT) (τe : TD) : List D → Ev → List D → (List D → Ev → Prop) → Prop
  | [], ρ, acc, P => P acc ρ
  | d :: ds, ρ, acc, P => γ d ρ fun ρ1 => τt ρ1 fun b ρ2 => if b = true then τe ρ2 fun r ρ3 => acc.length < 16000 ∧ lcD vs γ τt τe ds (wipeD ρ3 vs) (acc ++ [r.dat]) P else lcD vs γ τt τe ds (wipeD ρ2 vs) acc P
def tLcD (τi : TDI) (γ : TDG) (τt : TDT) (τe : TD) (vs : List Nat) : TD := fun ρ P => τi ρ fun ds ρ1 => vs.all (notOw ρ1) = true ∧ lcD vs γ τt τe ds (wipeD ρ1 vs) [] fun acc ρ2 => P (.fr acc) (resto ρ1 ρ2 vs)
/-- a movement by the owned addresses alone -/
structure MvO (O : Addr → Prop) (H H' Hf Hf' : Hp) : Prop where
  keep : ∀ b o, H b = some o → ¬ O b → H' b = some o
  live : ∀ b, H' b = none → H b = none
  grow : ∀ b o, Hf b = some o → Hf' b = some o
  new : ∀ b o, Hf' b = some o → Hf b = some o ∨ H b = none ∨ O b
theorem MvO.refl (O : Addr → Prop) (H Hf : Hp) : MvO O H H Hf Hf := ⟨fun _ _ h _ => h, fun _ h => h, fun _ _ h => h, fun _ _ h => .inl h⟩
theorem MvO.trans {O : Addr → Prop} {H H1 H2 Hf Hf1 Hf2 : Hp} (m : MvO O H H1 Hf Hf1) (n : MvO O H1 H2 Hf1 Hf2) : MvO O H H2 Hf Hf2 :=
  ⟨fun b o h ho => n.keep b o (m.keep b o h ho) ho, fun b h => m.live b (n.live b h), fun b o h => n.grow b o (m.grow b o h), fun b o h => by
    rcases n.new b o h with h | h | h
    · exact m.new b o h
    · exact .inr (.inl (m.live b h))
    · exact .inr (.inr h)⟩
theorem Ext.mvO {O : Addr → Prop} {H H1 Hf Hf1 : Hp} (x : Ext H H1 Hf Hf1) : MvO O H H1 Hf Hf1 := ⟨fun b o h _ => x.same b o h, x.live, x.grow, fun b o h => (x.new b o h).imp id .inl⟩
theorem Mv.mvO {O : Addr → Prop} {σ : St} {ρ ρ1 : Ev} {H H1 Hf Hf1 : Hp} (m : Mv σ ρ ρ1 H H1 Hf Hf1) (h : ∀ a, Own σ ρ a → O a) : MvO O H H1 Hf Hf1 :=
  ⟨fun b o q hn => m.keep b o q fun z => hn (h b z), m.live, m.grow, fun b o q => (m.new b o q).imp id fun z => z.imp id (h b)⟩
/-- owned slots: none comes, a pinned one stays -/
structure Ix (a b : Ev) : Prop where
  own : ∀ (i : Nat) (p : Bool) (xs : List D), b[i]? = some (some (.ow p xs)) → ∃ ys, a[i]? = some (some (.ow p ys))
  pin : ∀ (i : Nat) (xs : List D), a[i]? = some (some (.ow true xs)) → ∃ ys, b[i]? = some (some (.ow true ys))
theorem Ix.refl (a : Ev) : Ix a a := ⟨fun _ _ xs h => ⟨xs, h⟩, fun _ xs h => ⟨xs, h⟩⟩
theorem Ix.trans {a b c : Ev} (x : Ix a b) (y : Ix b c) : Ix a c := ⟨fun i p xs h => let ⟨ys, h1⟩ := y.own i p xs h; x.own i p ys h1, fun i xs h => let ⟨ys, h1⟩ := x.pin i xs h; y.pin i ys h1⟩
theorem Mv.ix {σ : St} {ρ ρ1 : Ev} {H H1 Hf Hf1 : Hp} (m : Mv σ ρ ρ1 H H1 Hf Hf1) : Ix ρ ρ1 := ⟨m.own, m.pin⟩
theorem SetTo.ix {is : List Nat} {σ σ1 : St} {ρ ρ1 : Ev} (t : SetTo is σ σ1 ρ ρ1) : Ix ρ ρ1 where
  own := fun i p xs h => by
    rcases t.each i with ⟨_, h2⟩ | ⟨⟨d, h2⟩, _⟩
    · exact ⟨xs, by rw [← h2]; exact h⟩
    · rw [h2] at h
      cases h
  pin := fun i xs h => by
    rcases t.each i with ⟨_, h2⟩ | ⟨_, h2, _⟩
    · exact ⟨xs, by rw [h2]; exact h⟩
    · unfold pinB at h2
      rw [h] at h2
      cases h2
/-- an object of no slot changes -/
theorem DEnv.updFree {K : Fg} {H Hf : Hp} {σ : St} {ρ : Ev} {a : Addr} {o : HO} (e : DEnv K H Hf σ ρ) (hf : Hf a = none) (hn : ¬ Own σ ρ a) : DEnv K (upd H a o) Hf σ ρ where
  sub := fun b u h => by rw [upd_ne (ne_of_none h hf)]; exact e.sub b u h
  sl := fun i s h => by
    have z := e.sl i s h
    cases s with
    | fz d => exact z
    | ow p xs =>
      obtain ⟨b, ys, z1, z2, z3, z4⟩ := z
      exact ⟨b, ys, z1, by rw [upd_ne (fun w => hn ⟨i, p, xs, h, by rw [← w]; exact z1⟩)]; exact z2, z3, z4⟩
  sep := e.sep
  len := e.len
/-- the slots of a block are forgotten -/
theorem DEnv.wipe {K : Fg} {H Hf : Hp} {σ σ' : St} {ρ : Ev} (vs : List Nat) (e : DEnv K H Hf σ ρ) (hs : ∀ i, i ∉ vs → σ'[i]? = σ[i]?) (hl : σ'.length = σ.length) : DEnv K H Hf σ' (wipeD ρ vs) where
  sub := e.sub
  sl := fun i s h => by
    have hi : i ∉ vs := fun z => wipeD_in ρ z h
    rw [wipeD_out ρ hi] at h
    rw [hs i hi]
    exact e.sl i s h
  sep := fun i j a p xs q ys h1 h2 h3 h4 => by
    have hi : i ∉ vs := fun z => wipeD_in ρ z h1
    have hj : j ∉ vs := fun z => wipeD_in ρ z h2
    rw [wipeD_out ρ hi] at h1
    rw [wipeD_out ρ hj] at h2
    rw [hs i hi] at h3
    rw [hs j hj] at h4
    exact e.sep i j a p xs q ys h1 h2 h3 h4
  len := by rw [wipeD_len, hl]; exact e.len
theorem ix_wipe {ρ : Ev} {vs : List Nat} (h : ∀ v ∈ vs, ∀ p xs, ρ[v]? ≠ some (some (.ow p xs))) : Ix ρ (wipeD ρ vs) := ⟨fun i p xs q => by
  have hi : i ∉ vs := fun z => wipeD_in ρ z q
  rw [wipeD_out ρ hi] at q
  exact ⟨xs, q⟩, fun i xs q => by
  have hi : i ∉ vs := fun z => h i z true xs q
  exact ⟨xs, by rw [wipeD_out ρ hi]; exact q⟩⟩
section
variable {X : Cx} {pos : Pos}
structure DTs (X : Cx) (ifs : List Expr) (τ : TDT) : Prop where
  pts : PTs X ifs (canT X.K τ)
def tYesD : TDT := fun ρ P => P true ρ
theorem dts_nil : DTs X [] tYesD := ⟨⟨fun pins s σ H Q I ⟨Hf, ρ, P, e, q, k⟩ => pts_nil.run pins s σ H Q I (k true H Hf ρ e (Mv.refl ..) q)⟩⟩
theorem dts_one {c : Expr} {τ : TDT} (h : DT X c τ) : DTs X [c] τ := ⟨pts_one h.pt⟩
theorem lc_reading {K : Fg} {is : List Nat} {τi : TDI} {γ : TDG} {τt : TDT} {τe : TD} {vs : List Nat} (hv : ∀ i ∈ is, i ∈ vs) {σ : St} {H Hf : Hp} {ρ : Ev} {P : Res → Ev → Prop} {Q : VK} (e : DEnv K H Hf σ ρ) (q : tLcD τi γ τt τe vs ρ P)
    (k : ∀ v H' Hf' r ρ', DEnv K H' Hf' σ ρ' → Mv σ ρ ρ' H H' Hf Hf' → ResOk K H H' Hf' v r → P r ρ' → Q v H') : tLc (canI K τi) (canG K is γ) (canT K τt) (canE K τe) vs σ H Q := by
  refine ⟨Hf, ρ, _, e, q, fun J H1 Hf1 ds ρ1 e1 m1 it ⟨hno, p1⟩ n hn => ?_⟩
  have hno' : ∀ v ∈ vs, ∀ p xs, ρ1[v]? ≠ some (some (.ow p xs)) := fun v hv' p xs => notOw_no (List.all_eq_true.mp hno v hv')
  have nfree : Hf1 n = none := free_of e1.sub hn
  have nown : ¬ Own σ ρ1 n := not_own e1 hn
  let O : Addr → Prop := Own σ ρ1
  let σw := wipe σ vs
  have hσw : ∀ i, i ∉ vs → σw[i]? = σ[i]? := fun i hi => wipe_out σ hi
  have hlw : σw.length = σ.length := wipe_length σ vs
  have x0 : Ext H1 (upd H1 n (.lst [])) Hf1 Hf1 := Ext.add' e1.sub _ hn
  -- owned in a wiped environment
  have ownO : ∀ {ρ' : Ev} {σ' : St}, Ix (wipeD ρ1 vs) ρ' → (∀ i, i ∉ vs → σ'[i]? = σ[i]?) → ∀ a, Own σ' ρ' a → O a := by
    intro ρ' σ' ix hs a ⟨i, p, xs, h1, h2⟩
    obtain ⟨ys, h3⟩ := ix.own i p xs h1
    have hi : i ∉ vs := fun z => wipeD_in ρ1 z h3
    rw [wipeD_out ρ1 hi] at h3
    exact ⟨i, p, ys, h3, by rw [← hs i hi]; exact h2⟩
  refine ⟨fun i m H' => ∃ Hf' ρ' accV acc, DEnv K H' Hf' σw ρ' ∧ Ix (wipeD ρ1 vs) ρ' ∧ MvO O H1 H' Hf1 Hf' ∧ H' n = some (.lst accV) ∧ Hf' n = none ∧ RepL K Hf' accV acc ∧ lcD vs γ τt τe (ds.drop i) ρ' acc (fun acc ρ2 => P (.fr acc) (resto ρ1 ρ2 vs)) ∧ m = ds.length - i ∧ i ≤ ds.length,
    ⟨ds.length, Hf1, wipeD ρ1 vs, [], [], (x0.env e1).wipe vs hσw hlw, Ix.refl _, x0.mvO, upd_same, nfree, .nil, by rw [List.drop_zero]; exact p1, by omega, Nat.zero_le _⟩, ?_⟩
  rintro i m H2 ⟨Hf2, ρ2, accV, acc, e2, ix2, mv2, hD, fD, rD, q2, hm, hil⟩
  have On : ¬ O n := nown
  by_cases hlt : i < ds.length
  · have hd : ds[i]? = some ds[i] := List.getElem?_eq_getElem hlt
    obtain ⟨go, yl⟩ := it.item i ds[i] H2 Hf2 e2.sub mv2.grow hd
    rw [List.drop_eq_getElem_cons hlt] at q2
    let Nx : Hp → Prop := fun H' => ∃ Hf' ρ' accV acc, DEnv K H' Hf' σw ρ' ∧ Ix (wipeD ρ1 vs) ρ' ∧ MvO O H1 H' Hf1 Hf' ∧ H' n = some (.lst accV) ∧ Hf' n = none ∧ RepL K Hf' accV acc ∧ lcD vs γ τt τe (ds.drop (i + 1)) ρ' acc (fun acc ρ2 => P (.fr acc) (resto ρ1 ρ2 vs))
    refine .inr ⟨go, Nx, fun H' ⟨a1, a2, a3, a4, b1, b2, b3, b4, b5, b6, b7⟩ => ⟨ds.length - (i + 1), by omega, a1, a2, a3, a4, b1, b2, b3, b4, b5, b6, b7, rfl, hlt⟩, fun x H3 y => ?_⟩
    obtain ⟨Hf3, x3, r3⟩ := yl x H3 y
    have e3 := x3.env e2
    refine ⟨Hf3, ρ2, ds[i], _, e3, r3, q2, fun σ4 H4 Hf4 ρ4 e4 x4 t4 p4 => ?_⟩
    have hs4 : ∀ j, j ∉ vs → σ4[j]? = σw[j]? := fun j hj => by
      rcases t4.each j with ⟨t, _⟩ | ⟨_, _, t⟩
      · exact t
      · exact absurd (hv j t) hj
    have hs4' : ∀ j, j ∉ vs → σ4[j]? = σ[j]? := fun j hj => (hs4 j hj).trans (hσw j hj)
    have hl4 : σ4.length = σw.length := t4.len
    refine ⟨wipe_eq (hl4.trans hlw) hs4', ?_⟩
    have ix4 : Ix (wipeD ρ1 vs) ρ4 := ix2.trans t4.ix
    have x34 := x3.trans x4
    have mv4 : MvO O H1 H4 Hf1 Hf4 := mv2.trans x34.mvO
    have keepD : ∀ {H5 Hf5 : Hp}, MvO O H4 H5 Hf4 Hf5 → H5 n = some (.lst accV) ∧ Hf5 n = none := fun {H5 Hf5} mm => by
      have d4 : H4 n = some (.lst accV) := x34.same n _ hD
      refine ⟨mm.keep n _ d4 On, ?_⟩
      cases z : Hf5 n with
      | none => rfl
      | some o =>
        rcases mm.new n o z with z | z | z
        · rcases x34.new n o z with z | z
          · rw [fD] at z; cases z
          · rw [hD] at z; cases z
        · rw [d4] at z; cases z
        · exact absurd z On
    have back : ∀ {ρ' : Ev}, Ix (wipeD ρ1 vs) ρ' → ∀ v ∈ vs, ∀ p xs, ρ'[v]? ≠ some (some (.ow p xs)) := fun {ρ'} ix v hv' p xs z => by
      obtain ⟨ys, h⟩ := ix.own v p xs z
      exact wipeD_in ρ1 hv' h
    refine ⟨Hf4, ρ4, _, e4, p4, fun b H5 Hf5 ρ5 e5 m5 p5 => ?_⟩
    have ix5 := ix4.trans m5.ix
    have mm5 : MvO O H4 H5 Hf4 Hf5 := m5.mvO (ownO ix4 hs4')
    cases b with
    | false =>
      have p5' : lcD vs γ τt τe (ds.drop (i + 1)) (wipeD ρ5 vs) acc (fun acc ρ2 => P (.fr acc) (resto ρ1 ρ2 vs)) := p5
      obtain ⟨d5, f5⟩ := keepD mm5
      exact ⟨Hf5, wipeD ρ5 vs, accV, acc, e5.wipe vs (fun j hj => (hs4 j hj).symm) hl4.symm, ix5.trans (ix_wipe (back ix5)), mv4.trans mm5, d5, f5, rD.mono fun b o h => mm5.grow b o (x34.grow b o h), p5'⟩
    | true =>
      refine ⟨Hf5, ρ5, _, e5, p5, fun y H6 Hf6 r ρ6 e6 m6 r6 ⟨hz, p6⟩ => ?_⟩
      obtain ⟨Hf7, e7, m7, r7⟩ := r6.freeze e5 e6 m6
      have ix7 := ix5.trans m7.ix
      have mm7 : MvO O H4 H6 Hf4 Hf7 := mm5.trans (m7.mvO (ownO ix5 hs4'))
      obtain ⟨d7, f7⟩ := keepD mm7
      have rD7 : RepL K Hf7 accV acc := rD.mono fun b o h => mm7.grow b o (x34.grow b o h)
      have nown7 : ¬ Own σ4 ρ6 n := fun z => On (ownO ix7 hs4' n z)
      refine ⟨accV, d7, by rw [rD7.length]; exact Nat.lt_of_lt_of_le hz (by decide), ?_⟩
      have mm8 : MvO O H1 H6 Hf1 Hf7 := mv4.trans mm7
      refine ⟨Hf7, wipeD ρ6 vs, accV ++ [y], acc ++ [r.dat], (e7.updFree f7 nown7).wipe vs (fun j hj => (hs4 j hj).symm) hl4.symm, ix7.trans (ix_wipe (back ix7)), ⟨fun b o h hb => ?_, fun b h => ?_, mm8.grow, mm8.new⟩, upd_same, f7, rD7.append (.cons r7 .nil), p6⟩
      · rw [upd_ne (ne_of_none h hn)]
        exact mm8.keep b o h hb
      · by_cases hb : b = n
        · subst hb
          exact hn
        · rw [upd_ne hb] at h
          exact mm8.live b h
  · have ei : i = ds.length := by omega
    subst ei
    rw [List.drop_length] at q2
    refine .inl ⟨it.stop _ H2 Hf2 e2.sub mv2.grow (Nat.le_refl _), ?_⟩
    have hl12 : ρ1.length = ρ2.length := by rw [← e1.len, ← e2.len, hlw]
    have eo : DEnv K H2 Hf2 σ (resto ρ1 ρ2 vs) := {
      sub := e2.sub
      sl := fun j s h => by
        by_cases hj : j ∈ vs
        · have h1 := resto_in ρ1 ρ2 hl12 hj h
          cases s with
          | fz d =>
            obtain ⟨v, z1, z2⟩ := e1.sl j _ h1
            exact ⟨v, z1, z2.mono mv2.grow⟩
          | ow p xs => exact absurd h1 (hno' j hj p xs)
        · rw [resto_out ρ1 ρ2 hj] at h
          rw [← hσw j hj]
          exact e2.sl j s h
      sep := fun j k a p xs q ys h1 h2 h3 h4 => by
        have hj : j ∉ vs := fun z => hno' j z p xs (resto_in ρ1 ρ2 hl12 z h1)
        have hk : k ∉ vs := fun z => hno' k z q ys (resto_in ρ1 ρ2 hl12 z h2)
        rw [resto_out ρ1 ρ2 hj] at h1
        rw [resto_out ρ1 ρ2 hk] at h2
        rw [← hσw j hj] at h3
        rw [← hσw k hk] at h4
        exact e2.sep j k a p xs q ys h1 h2 h3 h4
      len := by rw [resto_len, ← e2.len, hlw] }
    have mo : Mv σ ρ1 (resto ρ1 ρ2 vs) H1 H2 Hf1 Hf2 := {
      keep := mv2.keep
      live := mv2.live
      grow := mv2.grow
      new := mv2.new
      own := fun j p xs h => by
        have hj : j ∉ vs := fun z => hno' j z p xs (resto_in ρ1 ρ2 hl12 z h)
        rw [resto_out ρ1 ρ2 hj] at h
        obtain ⟨ys, h1⟩ := ix2.own j p xs h
        rw [wipeD_out ρ1 hj] at h1
        exact ⟨ys, h1⟩
      pin := fun j xs h => by
        have hj : j ∉ vs := fun z => hno' j z true xs h
        obtain ⟨ys, h1⟩ := ix2.pin j xs (by rw [wipeD_out ρ1 hj]; exact h)
        exact ⟨ys, by rw [resto_out ρ1 ρ2 hj]; exact h1⟩ }
    exact k _ H2 Hf2 (.fr acc) _ eo (m1.trans mo) ⟨n, accV, rfl, hD, fD, m1.live n hn, rD⟩ q2
/-- [e for x in xs if c] -/
theorem de_lc {elt tg iter : Expr} {ifs : List Expr} {scope : Scope} {own : List (Str × Nat)} {is : List Nat} {τi : TDI} {γ : TDG} {τt : TDT} {τe : TD} (hc : X.calm = true) (hN : X.N.Nodup) (hi : DI X tg iter τi) (ok : BlkOk X.N X.env.scope scope own)
    (hg : ∀ (s : Shared) (H : Hp) (C : Addr) (cl : List (Str × Addr)) (fp : List Addr), DG (X.blk s H scope (compEnvC scope cl C X.env) fp) tg is γ) (ht : ∀ (s : Shared) (H : Hp) (C : Addr) (cl : List (Str × Addr)) (fp : List Addr), DTs (X.blk s H scope (compEnvC scope cl C X.env) fp) ifs τt)
    (he : ∀ (s : Shared) (H : Hp) (C : Addr) (cl : List (Str × Addr)) (fp : List Addr), DE (X.blk s H scope (compEnvC scope cl C X.env) fp) elt τe) (hv : ∀ i ∈ is, i ∈ own.map (·.2) := by decide) (hs : ∀ x, foldedSetIterable iter X.env x = pure x := by intro _; rfl) :
    DE X (.ListComp elt [⟨tg, iter, ifs, 0⟩] scope pos) (tLcD τi γ τt τe (own.map (·.2))) :=
  DE.of (pe_lc hc hN hi.pi ok (fun s H C cl fp => (hg s H C cl fp).pg) (fun s H C cl fp => (ht s H C cl fp).pts) (fun s H C cl fp => (he s H C cl fp).pe) hs) fun σ H Hf ρ P Q e q k => lc_reading hv e q k
/-- y = [e for x in xs if c], frozen -/
theorem ds_setLc {i : Nat} {y : Str} {py : Pos} {elt tg iter : Expr} {ifs : List Expr} {scope : Scope} {own : List (Str × Nat)} {is : List Nat} {spos : Pos} {τi : TDI} {γ : TDG} {τt : TDT} {τe : TD} (hc : X.calm = true) (hN : X.N.Nodup) (hy : X.N[i]? = some y) (hyl : X.env.scope.names.lookup y = some .local)
    (hsw : swapsWith (.ListComp elt [⟨tg, iter, ifs, 0⟩] scope pos) (some (.Name y py)) spos.line X.env = pure true) (hi : DI X tg iter τi) (ok : BlkOk X.N X.env.scope scope own)
    (hg : ∀ (s : Shared) (H : Hp) (C : Addr) (cl : List (Str × Addr)) (fp : List Addr), DG (X.blk s H scope (compEnvC scope cl C X.env) fp) tg is γ) (ht : ∀ (s : Shared) (H : Hp) (C : Addr) (cl : List (Str × Addr)) (fp : List Addr), DTs (X.blk s H scope (compEnvC scope cl C X.env) fp) ifs τt)
    (he : ∀ (s : Shared) (H : Hp) (C : Addr) (cl : List (Str × Addr)) (fp : List Addr), DE (X.blk s H scope (compEnvC scope cl C X.env) fp) elt τe) (hv : ∀ i ∈ is, i ∈ own.map (·.2) := by decide) (hs : ∀ x, foldedSetIterable iter X.env x = pure x := by intro _; rfl) :
    DS X (.Assign [.Name y py] (.ListComp elt [⟨tg, iter, ifs, 0⟩] scope pos) spos) (tSetD i (tLcD τi γ τt τe (own.map (·.2)))) :=
  DS.of (ps_setLc hc hN hy hyl hsw hi.pi ok (fun s H C cl fp => (hg s H C cl fp).pg) (fun s H C cl fp => (ht s H C cl fp).pts) (fun s H C cl fp => (he s H C cl fp).pe) hs) fun D σ H Hf B ρ PD s q l =>
    lc_reading hv s.env q fun v H1 Hf1 r ρ1 e1 m1 r1 ⟨p1, p2⟩ => by
      obtain ⟨Hf2, e2, m2, r2⟩ := r1.freeze s.env e1 m1
      have s1 := s.mv e2 m2
      exact l.nx _ H1 Hf2 _ (s1.setTo (set_slot s1.env r2) (Ext.refl s1.env.sub) (setTo_slot s1.env.len p1)) p2
/-- .. a list of one's own -/
theorem ds_setLcO {i : Nat} {y : Str} {py : Pos} {elt tg iter : Expr} {ifs : List Expr} {scope : Scope} {own : List (Str × Nat)} {is : List Nat} {spos : Pos} {τi : TDI} {γ : TDG} {τt : TDT} {τe : TD} (hc : X.calm = true) (hN : X.N.Nodup) (hy : X.N[i]? = some y) (hyl : X.env.scope.names.lookup y = some .local)
    (hsw : swapsWith (.ListComp elt [⟨tg, iter, ifs, 0⟩] scope pos) (some (.Name y py)) spos.line X.env = pure true) (hi : DI X tg iter τi) (ok : BlkOk X.N X.env.scope scope own)
    (hg : ∀ (s : Shared) (H : Hp) (C : Addr) (cl : List (Str × Addr)) (fp : List Addr), DG (X.blk s H scope (compEnvC scope cl C X.env) fp) tg is γ) (ht : ∀ (s : Shared) (H : Hp) (C : Addr) (cl : List (Str × Addr)) (fp : List Addr), DTs (X.blk s H scope (compEnvC scope cl C X.env) fp) ifs τt)
    (he : ∀ (s : Shared) (H : Hp) (C : Addr) (cl : List (Str × Addr)) (fp : List Addr), DE (X.blk s H scope (compEnvC scope cl C X.env) fp) elt τe) (hv : ∀ i ∈ is, i ∈ own.map (·.2) := by decide) (hs : ∀ x, foldedSetIterable iter X.env x = pure x := by intro _; rfl) :
    DS X (.Assign [.Name y py] (.ListComp elt [⟨tg, iter, ifs, 0⟩] scope pos) spos) (tSetO i (tLcD τi γ τt τe (own.map (·.2)))) :=
  DS.of (ps_setLc hc hN hy hyl hsw hi.pi ok (fun s H C cl fp => (hg s H C cl fp).pg) (fun s H C cl fp => (ht s H C cl fp).pts) (fun s H C cl fp => (he s H C cl fp).pe) hs) fun D σ H Hf B ρ PD s q l =>
    lc_reading hv s.env q fun v H1 Hf1 r ρ1 e1 m1 r1 ⟨xs, hr, p1, p2⟩ => by
      subst hr
      obtain ⟨a, ys, rfl, h1, h2, h3, h4⟩ := r1
      have s1 := s.mv e1 m1
      exact l.nx _ H1 Hf1 _ (s1.setOwn p1 (s.live a h3) h1 h2 h4 (own_fresh s m1 h3)) p2
end
/-! ### f(x, ..), x a list of one's own that f changes -/
section
variable {X : Cx} {pos p p0 : Pos} {es : List Expr} {τs : TDA} {x y : Str} {f : Addr} {fd : FuncData} {ps : List Str} {k n : Nat}
def tCall1 (g : FS1) (i : Nat) (τ : TDA) : TD := fun ρ P => (∃ p xs, ρ[i]? = some (some (.ow p xs))) ∧ τ ρ fun ds ρ1 => ∃ p xs, ρ1[i]? = some (some (.ow p xs)) ∧ g xs ds fun r xs' => P r (ρ1.set i (some (.ow p xs')))
theorem de_call1 (i : Nat) {g : FS1} (F : FnOk X.prog X.w X.K X.mg X.base CX0 k f fd ps (sp1 X.K n g)) (hr : Room k X.A) (hg : Gl X x) (hm : X.mg x = some (.ref f)) (hk : PySem.W.keepIn X.K (.ref f) = true) (hb : Binds X.K fd ps [])
    (ha : DA X es τs) (hl : es.length + 1 = n := by rfl) (hN : X.N[i]? = some y := by rfl) (hv : Vis X.env.scope y := by first | exact Or.inl rfl | exact Or.inr (Or.inl rfl) | exact Or.inr (Or.inr rfl)) (hd : (y == ("__debug__" : Str)) = false := by decide) (hcd : (y == ("__classdict__" : Str)) = false := by decide)
    (hdb : (x == ("__debug__" : Str)) = false := by decide) (he : starEach (.Name y p0 :: es) X.env = (false, eval (.Name y p0) X.env) :: starEach es X.env := by rfl) (hpl : (backTo pos (starEach es X.env)).any (·.1) = false := by rfl) :
    DE X (.Call (.Name x p) (.Name y p0 :: es) [] pos) (tCall1 g i τs) := by
  refine DE.of (pe_call F hr hg hm hk hb .nil pass0 (pa_cons (pe_var hN hv hd hcd) ha.pa he) hdb he hpl) fun σ H Hf ρ P Q e ⟨⟨p1, xs0, h0⟩, q⟩ kk => ?_
  obtain ⟨a, ys0, h1, _⟩ := e.sl i _ h0
  refine ⟨.ref a, h1, Hf, ρ, _, e, q, fun vs H1 Hf1 ds ρ1 e1 m1 r1 hds ⟨p2, xs, g1, q1⟩ => ?_⟩
  show sp1 X.K n g ((.ref a :: vs) ++ []) H1 Q _
  rw [List.append_nil]
  obtain ⟨a', ys, z1, z2, z3, z4⟩ := e1.sl i _ g1
  rw [h1] at z1
  cases z1
  refine ⟨Hf1, a, vs, ys, xs, ds, _, rfl, e1.sub, z2, z3, z4, r1, by rw [hds]; exact hl, q1, fun v H2 Hf2 r ys' xs' x2 hy' hf' ry ok p3 => ?_⟩
  have hlt := lt_of g1
  have hga : ∀ b, Own σ ρ1 b → Hf2 b = none := fun b ⟨j, pj, us, w1, w2⟩ => by
    obtain ⟨b', zs, w3, w4, w5, _⟩ := e1.sl j _ w1
    rw [w2] at w3
    cases w3
    cases z : Hf2 b with
    | none => rfl
    | some o =>
      rcases x2.new b o z with z | z
      · rw [w5] at z; cases z
      · rw [w4] at z; cases z
  have e2 : DEnv X.K H2 Hf2 σ (ρ1.set i (some (.ow p2 xs'))) := {
    sub := x2.sub
    sl := fun j s h => by
      rw [set_get] at h
      by_cases hj : i = j
      · subst hj
        rw [if_pos rfl, if_pos hlt] at h
        cases h
        exact ⟨a, ys', h1, hy', hf', ry⟩
      · rw [if_neg hj] at h
        have z := e1.sl j s h
        cases s with
        | fz d =>
          obtain ⟨v, w1, w2⟩ := z
          exact ⟨v, w1, w2.mono x2.grow⟩
        | ow pj us =>
          obtain ⟨b, zs, w1, w2, w3, w4⟩ := z
          have hb : b ≠ a := fun w => by
            subst w
            exact hj (e1.sep i j b _ _ _ _ g1 h h1 w1)
          exact ⟨b, zs, w1, x2.same b _ w2 hb, hga b ⟨j, pj, us, h, w1⟩, w4.mono x2.grow⟩
    sep := fun j k b pj us pk zs q1 q2 q3 q4 => by
      have bk : ∀ {m : Nat} {pp : Bool} {vs : List D}, (ρ1.set i (some (.ow p2 xs')))[m]? = some (some (.ow pp vs)) → ∃ p2 vs2, ρ1[m]? = some (some (.ow p2 vs2)) := by
        intro m pp vs q
        rw [set_get] at q
        by_cases hm : i = m
        · subst hm
          exact ⟨_, _, g1⟩
        · rw [if_neg hm] at q
          exact ⟨_, _, q⟩
      obtain ⟨_, _, w1⟩ := bk q1
      obtain ⟨_, _, w2⟩ := bk q2
      exact e1.sep j k b _ _ _ _ w1 w2 q3 q4
    len := by rw [List.length_set]; exact e1.len }
  have m2 : Mv σ ρ1 (ρ1.set i (some (.ow p2 xs'))) H1 H2 Hf1 Hf2 := {
    keep := fun b o q hn => x2.same b o q fun z => hn ⟨i, p2, xs, g1, by rw [z]; exact h1⟩
    live := x2.live
    grow := x2.grow
    new := fun b o q => (x2.new b o q).imp id .inl
    own := fun j pj us q => by
      rw [set_get] at q
      by_cases hj : i = j
      · subst hj
        rw [if_pos rfl, if_pos hlt] at q
        cases q
        exact ⟨xs, g1⟩
      · rw [if_neg hj] at q
        exact ⟨us, q⟩
    pin := fun j us q => by
      by_cases hj : i = j
      · subst hj
        rw [g1] at q
        cases q
        exact ⟨xs', by rw [set_get, if_pos rfl, if_pos hlt]⟩
      · exact ⟨us, by rw [set_get, if_neg hj]; exact q⟩ }
  exact kk v H2 Hf2 r _ e2 (m1.trans m2) (ok.back m1.live) p3
end
end DL
/-! The data layer, 10: short words. -/
namespace DL
open PySem L2
/-- the def of the name x stands, at level k, and keeps the promise -/
def Fn0 (P : Program) (w : World) (K : Fg) (mg : Str → Option Value) (base : Heap) (x : Str) (k n : Nat) (g : FS0) : Prop := ∃ f fd ps, FnOk P w K mg base CX0 k f fd ps (sp0 K n g) ∧ mg x = some (.ref f) ∧ PySem.W.keepIn K (.ref f) = true ∧ Binds K fd ps []
def Fn1 (P : Program) (w : World) (K : Fg) (mg : Str → Option Value) (base : Heap) (x : Str) (k n : Nat) (g : FS1) : Prop := ∃ f fd ps, FnOk P w K mg base CX0 k f fd ps (sp1 K n g) ∧ mg x = some (.ref f) ∧ PySem.W.keepIn K (.ref f) = true ∧ Binds K fd ps []
/-- a constant of the module -/
def Gc (K : Fg) (mg : Str → Option Value) (x : Str) (d : D) : Prop := ∃ v u, mg x = some u ∧ RelV v u ∧ ∀ H, Rep K H v d
section
variable {P : Program} {w : World} {K : Fg} {mg : Str → Option Value} {base : Heap} {x qual : Str} {st : Stmt} {f : Addr} {fd : FuncData} {N ps : List Str} {k j n : Nat}
theorem Fn0.mono {g : FS0} (h : Fn0 P w K mg base x j n g) (hj : j ≤ k) : Fn0 P w K mg base x k n g := let ⟨f, fd, ps, a, b⟩ := h; ⟨f, fd, ps, a.mono hj, b⟩
theorem Fn1.mono {g : FS1} (h : Fn1 P w K mg base x j n g) (hj : j ≤ k) : Fn1 P w K mg base x k n g := let ⟨f, fd, ps, a, b⟩ := h; ⟨f, fd, ps, a.mono hj, b⟩
theorem Fn0.imp {g g' : FS0} (h : Fn0 P w K mg base x k n g) (i : ∀ ds Q, g' ds Q → g ds Q) : Fn0 P w K mg base x k n g' := let ⟨f, fd, ps, a, b⟩ := h; ⟨f, fd, ps, a.imp fun vs H Q E ⟨Hf, ds, P, h1, h2, h3, h4, h5⟩ => ⟨Hf, ds, P, h1, h2, h3, i ds P h4, h5⟩, b⟩
theorem Fn1.imp {g g' : FS1} (h : Fn1 P w K mg base x k n g) (i : ∀ xs ds Q, g' xs ds Q → g xs ds Q) : Fn1 P w K mg base x k n g' := let ⟨f, fd, ps, a, b⟩ := h; ⟨f, fd, ps, a.imp fun vs H Q E ⟨Hf, a, us, ys, xs, ds, P, h1, h2, h3, h4, h5, h6, h7, h8, h9⟩ => ⟨Hf, a, us, ys, xs, ds, P, h1, h2, h3, h4, h5, h6, h7, i xs ds P h8, h9⟩, b⟩
/-- where a def stands in the text: its object, its name, how arguments bind -/
structure At (K : Fg) (mg : Str → Option Value) (x : Str) (ps : List Str) (st : Stmt) (f : Addr) (fd : FuncData) : Prop where
  fn : Fun K x x st f fd
  mg : mg x = some (.ref f)
  bd : Binds K fd ps []
theorem At.fn0 {g : FS0} (A : At K mg x ps st f fd) (h : FnOk P w K mg base CX0 k f fd ps (sp0 K n g)) : Fn0 P w K mg base x k n g := ⟨f, fd, ps, h, A.mg, A.fn.kp, A.bd⟩
theorem At.fn1 {g : FS1} (A : At K mg x ps st f fd) (h : FnOk P w K mg base CX0 k f fd ps (sp1 K n g)) : Fn1 P w K mg base x k n g := ⟨f, fd, ps, h, A.mg, A.fn.kp, A.bd⟩
end
section
variable {X : Cx} {pos p p0 apos : Pos} {a b c e : Expr} {es : List Expr} {τa τb τc : TD} {τs : TDA} {x y : Str} {k n : Nat}
theorem de_g {d : D} (h : Gc X.K X.mg x d) (hg : Gl X x) (hd : (x == ("__debug__" : Str)) = false := by decide) : DE X (.Name x pos) (tK d) := let ⟨_, _, h1, h2, h3⟩ := h; de_glob hg h1 h2 h3 hd
theorem de_c0 {g : FS0} (h : Fn0 X.prog X.w X.K X.mg X.base x k n g) (hr : Room k X.A) (hg : Gl X x) (ha : DA X (e :: es) τs) (hl : (e :: es).length = n := by rfl) (hdb : (x == ("__debug__" : Str)) = false := by decide) (he : starEach (e :: es) X.env = (false, eval e X.env) :: starEach es X.env := by rfl) (hpl : (backTo pos (starEach es X.env)).any (·.1) = false := by rfl) :
    DE X (.Call (.Name x p) (e :: es) [] pos) (tCall0 g τs) := let ⟨_, _, _, h1, h2, h3, h4⟩ := h; de_call0 h1 hr hg h2 h3 h4 ha hl hdb he hpl
theorem de_c1 (i : Nat) {g : FS1} (h : Fn1 X.prog X.w X.K X.mg X.base x k n g) (hr : Room k X.A) (hg : Gl X x) (ha : DA X es τs) (hl : es.length + 1 = n := by rfl) (hN : X.N[i]? = some y := by rfl) (hv : Vis X.env.scope y := by first | exact Or.inl rfl | exact Or.inr (Or.inl rfl) | exact Or.inr (Or.inr rfl)) (hd : (y == ("__debug__" : Str)) = false := by decide) (hcd : (y == ("__classdict__" : Str)) = false := by decide)
    (hdb : (x == ("__debug__" : Str)) = false := by decide) (he : starEach (.Name y p0 :: es) X.env = (false, eval (.Name y p0) X.env) :: starEach es X.env := by rfl) (hpl : (backTo pos (starEach es X.env)).any (·.1) = false := by rfl) :
    DE X (.Call (.Name x p) (.Name y p0 :: es) [] pos) (tCall1 g i τs) := let ⟨_, _, _, h1, h2, h3, h4⟩ := h; de_call1 i h1 hr hg h2 h3 h4 ha hl hN hv hd hcd hdb he hpl
theorem opS_sub {K : Fg} : OpS K (rI0 fun i j => .int (i - j)) subD := opS_intI
theorem opS_fdiv {K : Fg} : OpS K (rI CDiv fun i j => .int (i / j)) fdivD := opS_int fun i j h => (show 0 < j ∧ j < 1073741824 from of_decide_eq_true h)
theorem opS_mod {K : Fg} : OpS K (rI (fun _ j => 0 < j) fun i j => .int (i % j)) modD := opS_int fun _ _ h => of_decide_eq_true h
theorem opS_pow {K : Fg} : OpS K (rI CPow fun i j => .int (i ^ j.toNat)) powD := opS_int fun i j h => (show 0 ≤ j ∧ j ≤ 1000000 ∧ i.natAbs < 2 ^ 64 from of_decide_eq_true h)
theorem opS_lt {K : Fg} : OpS K (rI0 fun i j => .bl (decide (i < j))) ltD := opS_intB
theorem opS_le {K : Fg} : OpS K (rI0 fun i j => .bl (decide (i ≤ j))) leD := opS_intB
theorem opS_gt {K : Fg} : OpS K (rI0 fun i j => .bl (decide (j < i))) gtD := opS_intB
theorem opS_ge {K : Fg} : OpS K (rI0 fun i j => .bl (decide (j ≤ i))) geD := opS_intB
theorem de_add (ha : DE X a τa) (hb : DE X b τb) : DE X (.BinOp a .Add b pos) (tBin addD τa τb) := de_bin op_addD opS_add ha hb
theorem de_sub (ha : DE X a τa) (hb : DE X b τb) : DE X (.BinOp a .Sub b pos) (tBin subD τa τb) := de_bin op_sub opS_sub ha hb
theorem de_mul (ha : DE X a τa) (hb : DE X b τb) : DE X (.BinOp a .Mult b pos) (tBin mulD τa τb) := de_bin op_mulD opS_mul ha hb
theorem de_fdiv (ha : DE X a τa) (hb : DE X b τb) : DE X (.BinOp a .FloorDiv b pos) (tBin fdivD τa τb) := de_bin op_fdiv opS_fdiv ha hb
theorem de_mod (ha : DE X a τa) (hb : DE X b τb) : DE X (.BinOp a .Mod b pos) (tBin modD τa τb) := de_bin op_mod opS_mod ha hb
theorem de_pow (ha : DE X a τa) (hb : DE X b τb) : DE X (.BinOp a .Pow b pos) (tBin powD τa τb) := de_bin op_pow opS_pow ha hb
theorem de_eq (hr : Room k X.A) (ha : DE X a τa) (hb : DE X b τb) : DE X (.Compare a [.Eq] [b] pos) (tBin eqD τa τb) := de_cmp (op_eqD' hr.units) opS_eq ha hb (nomark _)
theorem de_ne (hr : Room k X.A) (ha : DE X a τa) (hb : DE X b τb) : DE X (.Compare a [.NotEq] [b] pos) (tBin neD τa τb) := de_cmp (op_neD' hr.units) opS_ne ha hb (nomark _)
theorem de_lt (ha : DE X a τa) (hb : DE X b τb) : DE X (.Compare a [.Lt] [b] pos) (tBin ltD τa τb) := de_cmp op_lt opS_lt ha hb (nomark _)
theorem de_le (ha : DE X a τa) (hb : DE X b τb) : DE X (.Compare a [.LtE] [b] pos) (tBin leD τa τb) := de_cmp op_le opS_le ha hb (nomark _)
theorem de_gt (ha : DE X a τa) (hb : DE X b τb) : DE X (.Compare a [.Gt] [b] pos) (tBin gtD τa τb) := de_cmp op_gt opS_gt ha hb (nomark _)
theorem de_ge (ha : DE X a τa) (hb : DE X b τb) : DE X (.Compare a [.GtE] [b] pos) (tBin geD τa τb) := de_cmp op_ge opS_ge ha hb (nomark _)
theorem de_is (ha : DE X a τa) (hb : DE X b τb) : DE X (.Compare a [.Is] [b] pos) (tBin isD τa τb) := de_cmp op_isN opS_is ha hb (nomark _)
theorem de_isnt (ha : DE X a τa) (hb : DE X b τb) : DE X (.Compare a [.IsNot] [b] pos) (tBin isntD τa τb) := de_cmp op_notN opS_isnt ha hb (nomark _)
theorem de_in (ha : DE X a τa) (hb : DE X b τb) (hm : behindInMarks .In b = false := by rfl) : DE X (.Compare a [.In] [b] pos) (tBin inD τa τb) := de_cmp op_inD opS_in ha hb hm
theorem de_notin (ha : DE X a τa) (hb : DE X b τb) (hm : behindInMarks .NotIn b = false := by rfl) : DE X (.Compare a [.NotIn] [b] pos) (tBin notinD τa τb) := de_cmp op_notinD opS_notin ha hb hm
theorem dt_eq (hr : Room k X.A) (ha : DE X a τa) (hb : DE X b τb) : DT X (.Compare a [.Eq] [b] pos) (tT (tBin eqD τa τb)) := dt_cmp (op_eqD' hr.units) opS_eq ha hb (nomark _)
theorem dt_ne (hr : Room k X.A) (ha : DE X a τa) (hb : DE X b τb) : DT X (.Compare a [.NotEq] [b] pos) (tT (tBin neD τa τb)) := dt_cmp (op_neD' hr.units) opS_ne ha hb (nomark _)
theorem dt_lt (ha : DE X a τa) (hb : DE X b τb) : DT X (.Compare a [.Lt] [b] pos) (tT (tBin ltD τa τb)) := dt_cmp op_lt opS_lt ha hb (nomark _)
theorem dt_le (ha : DE X a τa) (hb : DE X b τb) : DT X (.Compare a [.LtE] [b] pos) (tT (tBin leD τa τb)) := dt_cmp op_le opS_le ha hb (nomark _)
theorem dt_gt (ha : DE X a τa) (hb : DE X b τb) : DT X (.Compare a [.Gt] [b] pos) (tT (tBin gtD τa τb)) := dt_cmp op_gt opS_gt ha hb (nomark _)
theorem dt_ge (ha : DE X a τa) (hb : DE X b τb) : DT X (.Compare a [.GtE] [b] pos) (tT (tBin geD τa τb)) := dt_cmp op_ge opS_ge ha hb (nomark _)
theorem dt_is (ha : DE X a τa) (hb : DE X b τb) : DT X (.Compare a [.Is] [b] pos) (tT (tBin isD τa τb)) := dt_cmp op_isN opS_is ha hb (nomark _)
theorem dt_isnt (ha : DE X a τa) (hb : DE X b τb) : DT X (.Compare a [.IsNot] [b] pos) (tT (tBin isntD τa τb)) := dt_cmp op_notN opS_isnt ha hb (nomark _)
theorem dt_in (ha : DE X a τa) (hb : DE X b τb) (hm : behindInMarks .In b = false := by rfl) : DT X (.Compare a [.In] [b] pos) (tT (tBin inD τa τb)) := dt_cmp op_inD opS_in ha hb hm
theorem dt_notin (ha : DE X a τa) (hb : DE X b τb) (hm : behindInMarks .NotIn b = false := by rfl) : DT X (.Compare a [.NotIn] [b] pos) (tT (tBin notinD τa τb)) := dt_cmp op_notinD opS_notin ha hb hm
theorem de_lele (ha : DE X a τa) (hb : DE X b τb) (hc : DE X c τc) (hm : lastMarks [.LtE, .LtE] [b, c] = false := by with_unfolding_all rfl) : DE X (.Compare a [.LtE, .LtE] [b, c] pos) (tChn leD leD τa τb τc) := de_chn op_le opS_le op_le opS_le ha hb hc hm
theorem dt_lele (ha : DE X a τa) (hb : DE X b τb) (hc : DE X c τc) (hm : lastMarks [.LtE, .LtE] [b, c] = false := by with_unfolding_all rfl) : DT X (.Compare a [.LtE, .LtE] [b, c] pos) (tT (tChn leD leD τa τb τc)) := dt_chn op_le opS_le op_le opS_le ha hb hc hm
/-! built-ins by name -/
variable {he : starEach (e :: es) X.env = (false, eval e X.env) :: starEach es X.env}
theorem de_len (hg : Gl X "len") (hm : X.mg "len" = none) (ha : DA X (e :: es) τs) (he : starEach (e :: es) X.env = (false, eval e X.env) :: starEach es X.env := by rfl) (hpl : (backTo pos (starEach es X.env)).any (·.1) = false := by rfl) : DE X (.Call (.Name "len" p) (e :: es) [] pos) (tCallG lenD τs) := de_callB call_len callS_len hg hm PySem.boot_len ha (he := he) (hpl := hpl)
theorem de_isi (hg : Gl X "isinstance") (hm : X.mg "isinstance" = none) (ha : DA X (e :: es) τs) (he : starEach (e :: es) X.env = (false, eval e X.env) :: starEach es X.env := by rfl) (hpl : (backTo pos (starEach es X.env)).any (·.1) = false := by rfl) : DE X (.Call (.Name "isinstance" p) (e :: es) [] pos) (tCallG isiD τs) := de_callB call_isi callS_isi hg hm (by decide +kernel) ha (he := he) (hpl := hpl)
theorem de_max2 (hc : X.calm = true) (hg : Gl X "max") (hm : X.mg "max" = none) (ha : DA X (e :: es) τs) (he : starEach (e :: es) X.env = (false, eval e X.env) :: starEach es X.env := by rfl) (hpl : (backTo pos (starEach es X.env)).any (·.1) = false := by rfl) : DE X (.Call (.Name "max" p) (e :: es) [] pos) (tCallG max2D τs) := de_callB (call_max2 hc) callS_max2 hg hm (by decide +kernel) ha (he := he) (hpl := hpl)
theorem de_sum (hc : X.calm = true) (hg : Gl X "sum") (hm : X.mg "sum" = none) (ha : DA X (e :: es) τs) (he : starEach (e :: es) X.env = (false, eval e X.env) :: starEach es X.env := by rfl) (hpl : (backTo pos (starEach es X.env)).any (·.1) = false := by rfl) : DE X (.Call (.Name "sum" p) (e :: es) [] pos) (tCallG sumD τs) := de_callB (cr_sum hc) callS_sum hg hm (by decide +kernel) ha (he := he) (hpl := hpl)
theorem de_all (hc : X.calm = true) (hg : Gl X "all") (hm : X.mg "all" = none) (ha : DA X (e :: es) τs) (he : starEach (e :: es) X.env = (false, eval e X.env) :: starEach es X.env := by rfl) (hpl : (backTo pos (starEach es X.env)).any (·.1) = false := by rfl) : DE X (.Call (.Name "all" p) (e :: es) [] pos) (tCallG allD τs) := de_callB (cr_all hc) callS_all hg hm (by decide +kernel) ha (he := he) (hpl := hpl)
theorem de_any (hc : X.calm = true) (hg : Gl X "any") (hm : X.mg "any" = none) (ha : DA X (e :: es) τs) (he : starEach (e :: es) X.env = (false, eval e X.env) :: starEach es X.env := by rfl) (hpl : (backTo pos (starEach es X.env)).any (·.1) = false := by rfl) : DE X (.Call (.Name "any" p) (e :: es) [] pos) (tCallG anyD τs) := de_callB (cr_any hc) callS_any hg hm (by decide +kernel) ha (he := he) (hpl := hpl)
theorem de_list (hc : X.calm = true) (hg : Gl X "list") (hm : X.mg "list" = none) (ha : DA X (e :: es) τs) (he : starEach (e :: es) X.env = (false, eval e X.env) :: starEach es X.env := by rfl) (hpl : (backTo pos (starEach es X.env)).any (·.1) = false := by rfl) : DE X (.Call (.Name "list" p) (e :: es) [] pos) (tCallG listD τs) := de_callTy (callR_list hc) callS_list hg hm (by decide +kernel) ha (he := he) (hpl := hpl)
theorem de_tuple (hg : Gl X "tuple") (hm : X.mg "tuple" = none) (ha : DA X (e :: es) τs) (he : starEach (e :: es) X.env = (false, eval e X.env) :: starEach es X.env := by rfl) (hpl : (backTo pos (starEach es X.env)).any (·.1) = false := by rfl) : DE X (.Call (.Name "tuple" p) (e :: es) [] pos) (tCallG tupleD τs) := de_callTy call_tuple_of callS_tuple hg hm (by decide +kernel) ha (he := he) (hpl := hpl)
theorem de_intc (hg : Gl X "int") (hm : X.mg "int" = none) (ha : DA X (e :: es) τs) (he : starEach (e :: es) X.env = (false, eval e X.env) :: starEach es X.env := by rfl) (hpl : (backTo pos (starEach es X.env)).any (·.1) = false := by rfl) : DE X (.Call (.Name "int" p) (e :: es) [] pos) (tCallG intOfD τs) := de_callTy call_int1 callS_int hg hm (by decide +kernel) ha (he := he) (hpl := hpl)
end
end DL
/-! The data layer, 11: comprehensions and loops whose turns are plain. -/
namespace DL
open PySem L2
/-- a comprehension that changes nothing, over what a list gives -/
theorem lc_pure {α : Type} {φ : α → D} {v : Nat} {τt : TDT} {τe : TD} {b : α → Bool} {f : α → D} {ρ : Ev} {P : List D → Ev → Prop} (hv : ρ.set v none = ρ) (hp : pinB ρ v = false) : ∀ (l : List α) (acc : List D),
    (∀ a ∈ l, ∀ Q, Q (b a) (ρ.set v (some (.fz (φ a)))) → τt (ρ.set v (some (.fz (φ a)))) Q) → (∀ a ∈ l, b a = true → ∀ Q : Res → Ev → Prop, (∀ r, r.dat = f a → Q r (ρ.set v (some (.fz (φ a))))) → τe (ρ.set v (some (.fz (φ a)))) Q) →
    acc.length + l.length ≤ 16000 → P (acc ++ (l.filter b).map f) ρ → lcD [v] (gN v) τt τe (l.map φ) ρ acc P
  | [], acc, _, _, _, q => by simpa [lcD] using q
  | a :: l, acc, ht, he, hz, q => by
    have hw : wipeD (ρ.set v (some (.fz (φ a)))) [v] = ρ := by
      show (ρ.set v (some (.fz (φ a)))).set v none = ρ
      rw [List.set_set]
      exact hv
    rw [List.length_cons] at hz
    refine ⟨hp, ht a (List.mem_cons_self ..) _ ?_⟩
    cases hb : b a with
    | true =>
      rw [if_pos rfl]
      refine he a (List.mem_cons_self ..) hb _ fun r hr => ⟨by omega, ?_⟩
      rw [hw, hr]
      refine lc_pure hv hp l (acc ++ [f a]) (fun d' hd => ht d' (List.mem_cons_of_mem _ hd)) (fun d' hd => he d' (List.mem_cons_of_mem _ hd)) (by rw [List.length_append, List.length_singleton]; omega) ?_
      rw [List.append_assoc]
      simpa [List.filter_cons, hb] using q
    | false =>
      rw [if_neg (by decide), hw]
      refine lc_pure hv hp l acc (fun d' hd => ht d' (List.mem_cons_of_mem _ hd)) (fun d' hd => he d' (List.mem_cons_of_mem _ hd)) (by omega) ?_
      simpa [List.filter_cons, hb] using q
/-- .. without tests -/
theorem lc_map {α : Type} {φ : α → D} {v : Nat} {τe : TD} {f : α → D} {ρ : Ev} {P : List D → Ev → Prop} (l : List α) (hv : ρ.set v none = ρ) (hp : pinB ρ v = false)
    (he : ∀ a ∈ l, ∀ Q : Res → Ev → Prop, (∀ r, r.dat = f a → Q r (ρ.set v (some (.fz (φ a))))) → τe (ρ.set v (some (.fz (φ a)))) Q) (hz : l.length ≤ 16000) (q : P (l.map f) ρ) : lcD [v] (gN v) tYesD τe (l.map φ) ρ [] P :=
  lc_pure (b := fun _ => true) hv hp l [] (fun d _ Q h => h) (fun d hd _ Q h => he d hd Q h) (by simpa using hz) (by rw [List.filter_eq_self.mpr (fun _ _ => rfl)]; simpa using q)
theorem lc_mapD {v : Nat} {τe : TD} {f : D → D} {ρ : Ev} {P : List D → Ev → Prop} (l : List D) (hv : ρ.set v none = ρ) (hp : pinB ρ v = false)
    (he : ∀ a ∈ l, ∀ Q : Res → Ev → Prop, (∀ r, r.dat = f a → Q r (ρ.set v (some (.fz a)))) → τe (ρ.set v (some (.fz a))) Q) (hz : l.length ≤ 16000) (q : P (l.map f) ρ) : lcD [v] (gN v) tYesD τe l ρ [] P := by
  have := lc_map (φ := id) l hv hp he hz q
  rw [List.map_id] at this
  exact this
/-- a test whose answer is told by a fact -/
theorem ifd {p : Prop} [Decidable p] {c : Bool} {A B : Prop} (hc : c = decide p) (h1 : p → A) (h2 : ¬ p → B) : if c = true then A else B := by
  subst hc
  by_cases h : p
  · rw [if_pos (decide_eq_true h)]
    exact h1 h
  · rw [if_neg (by rw [decide_eq_false h]; decide)]
    exact h2 h
theorem ifT {c : Bool} {A B : Prop} (hc : c = true) (h : A) : if c = true then A else B := by rw [if_pos hc]; exact h
theorem ifF {c : Bool} {A B : Prop} (hc : c = false) (h : B) : if c = true then A else B := by rw [if_neg (by rw [hc]; decide)]; exact h
theorem ifB {c : Bool} {A B : Prop} (h1 : c = true → A) (h2 : c = false → B) : if c = true then A else B := by
  cases c with
  | true => exact ifT rfl (h1 rfl)
  | false => exact ifF rfl (h2 rfl)
theorem intsOf_map {α : Type} (f : α → Int) : ∀ l : List α, intsOf (l.map fun x => D.int (f x)) = some (l.map f)
  | [] => rfl
  | x :: l => by
    rw [List.map_cons, intsOf, intsOf_map f l]
    rfl
theorem blsOf_map {α : Type} (f : α → Bool) : ∀ l : List α, blsOf (l.map fun x => D.bl (f x)) = some (l.map f)
  | [] => rfl
  | x :: l => by
    rw [List.map_cons, blsOf, blsOf_map f l]
    rfl
theorem all_map {α : Type} (p : α → Bool) (l : List α) : allD [.lst (l.map fun d => .bl (p d))] = some (.fz (.bl ((l.map p).all id))) := by
  show (blsOf (l.map fun d => .bl (p d))).map _ = _
  rw [blsOf_map]
  rfl
theorem sum_map {α : Type} (p : α → Int) (l : List α) : sumD [.lst (l.map fun d => .int (p d))] = some (.fz (.int (l.map p).sum)) := by
  show (intsOf (l.map fun d => .int (p d))).map _ = _
  rw [intsOf_map]
  rfl
/-- nothing is asked of such a def -/
theorem At.none0 {P : Program} {w : World} {K : Fg} {mg : Str → Option Value} {base : Heap} {x : Str} {ps : List Str} {st : Stmt} {f : Addr} {fd : FuncData} {k n : Nat} {g : FS0} (A : At K mg x ps st f fd) (h : ∀ ds Q, ¬ g ds Q) : Fn0 P w K mg base x k n g :=
  A.fn0 ⟨fun vs H Q E ⟨_, ds, P, _, _, _, hg, _⟩ => absurd hg (h ds P), fun _ _ _ _ _ _ _ _ _ _ _ _ _ ⟨_, ds, P, _, _, _, hg, _⟩ => absurd hg (h ds P)⟩
/-- texts of one sign joined -/
theorem strsOf_signs : ∀ cs : List Nat, strsOf (cs.map fun c => D.str ⟨#[c]⟩) = some (cs.map fun c => (⟨#[c]⟩ : Str))
  | [] => rfl
  | c :: cs => by
    rw [List.map_cons, strsOf, strsOf_signs cs]
    rfl
/-! texts as lists of signs -/
abbrev Str.l (s : Str) : List Nat := s.cps.toList
def ofL (cs : List Nat) : Str := ⟨cs.toArray⟩
@[simp] theorem ofL_l (cs : List Nat) : (ofL cs).cps.toList = cs := by simp [ofL]
@[simp] theorem l_ofL (s : Str) : ofL s.cps.toList = s := by cases s; simp [ofL]
theorem str_ext {s t : Str} (h : s.cps.toList = t.cps.toList) : s = t := by rw [← l_ofL s, ← l_ofL t, h]
theorem len_l (s : Str) : s.length = s.cps.toList.length := by simp [Str.length]
theorem l_append (s t : Str) : (s ++ t).cps.toList = s.cps.toList ++ t.cps.toList := by
  show (Str.append s t).cps.toList = _
  simp [Str.append]
theorem sjoin_empty : ∀ ys : List Str, (Str.join Str.empty ys).cps.toList = (ys.map fun y => y.cps.toList).flatten
  | [] => rfl
  | [y] => by simp [Str.join]
  | y :: z :: r => by
    show (y ++ Str.empty ++ Str.join Str.empty (z :: r)).cps.toList = _
    rw [l_append, l_append, sjoin_empty (z :: r)]
    simp [Str.empty]
theorem join_empty (ys : List Str) : (Txt.join Str.empty ys).cps.toList = (ys.map fun y => y.cps.toList).flatten := by
  rw [show Txt.join Str.empty ys = Str.join Str.empty ys from TL.join_eq _ _, sjoin_empty]
theorem join_signs (cs : List Nat) : Txt.join Str.empty (cs.map fun c => (⟨#[c]⟩ : Str)) = ofL cs := by
  apply str_ext
  rw [join_empty, ofL_l, List.map_map]
  induction cs with
  | nil => rfl
  | cons c cs ih => rw [List.map_cons, List.flatten_cons, ih]; rfl
theorem joinD_signs (cs : List Nat) (h : cs.length ≤ 50000) : joinD (.str "") (.lst (cs.map fun c => .str ⟨#[c]⟩)) = some (.fz (.str (ofL cs))) := by
  have e0 : ("" : Str) = Str.empty := by decide +kernel
  have hz : ((cs.map fun c => (⟨#[c]⟩ : Str)).map (fun s : Str => s.length)).sum + (cs.map fun c => (⟨#[c]⟩ : Str)).length * ("" : Str).length ≤ 100000 := by
    rw [e0, show Str.empty.length = 0 from rfl, Nat.mul_zero, Nat.add_zero, List.map_map]
    have : ∀ l : List Nat, (l.map ((fun s : Str => s.length) ∘ fun c => (⟨#[c]⟩ : Str))).sum = l.length := by
      intro l
      induction l with
      | nil => rfl
      | cons c l ih => rw [List.map_cons, List.sum_cons, ih, List.length_cons]; show 1 + l.length = _; omega
    rw [this]
    omega
  show (match strsOf (cs.map fun c => D.str ⟨#[c]⟩) with | some ys => if (ys.map (fun s : Str => s.length)).sum + ys.length * ("" : Str).length ≤ 100000 then some (Res.fz (.str (Txt.join "" ys))) else none | none => none) = _
  rw [strsOf_signs]
  show (if _ then _ else _) = _
  rw [if_pos hz, e0, join_signs]
theorem eqS_eq' (a b : Str) : eqS a b = decide (b = a) := by
  rw [eqS_eq]
  by_cases h : a = b
  · rw [decide_eq_true h, decide_eq_true h.symm]
  · rw [decide_eq_false h, decide_eq_false fun z => h z.symm]
theorem mod_ok {i j : Int} (h : 0 < j) : modD (.int i) (.int j) = some (.fz (.int (i % j))) := by
  show (if _ then _ else _) = _
  rw [if_pos (decide_eq_true h)]
theorem fdiv_ok {i j : Int} (h : 0 < j) (h2 : j < 1073741824) : fdivD (.int i) (.int j) = some (.fz (.int (i / j))) := by
  show (if _ then _ else _) = _
  rw [if_pos (decide_eq_true ⟨h, h2⟩)]
theorem pow_ok {i j : Int} (h : 0 ≤ j) (h2 : j ≤ 1000000) (h3 : i.natAbs < 2 ^ 64) : powD (.int i) (.int j) = some (.fz (.int (i ^ j.toNat))) := by
  show (if _ then _ else _) = _
  rw [if_pos (decide_eq_true ⟨h, h2, h3⟩)]
theorem mul_okL {i j : Int} (h : -(2 ^ 64) < i) (h2 : i < 2 ^ 64) : mulD (.int i) (.int j) = some (.fz (.int (i * j))) := by
  show (if _ then _ else _) = _
  rw [if_pos (decide_eq_true (.inl ⟨h, h2⟩))]
theorem mul_okR {i j : Int} (h : -(2 ^ 64) < j) (h2 : j < 2 ^ 64) : mulD (.int i) (.int j) = some (.fz (.int (i * j))) := by
  show (if _ then _ else _) = _
  rw [if_pos (decide_eq_true (.inr ⟨h, h2⟩))]
theorem atI_get {α : Type} {xs : List α} {i : Int} (h0 : 0 ≤ i) (h1 : i < (xs.length : Int)) : atI xs i = xs[i.toNat]? := by
  unfold atI ixN
  rw [if_pos h0, if_pos h1]
  rfl
theorem atI_ok {α : Type} {xs : List α} {i : Int} (h0 : 0 ≤ i) (h1 : i < (xs.length : Int)) : ∃ x, atI xs i = some x ∧ x ∈ xs := by
  have hl : i.toNat < xs.length := by omega
  exact ⟨xs[i.toNat], by rw [atI_get h0 h1]; exact List.getElem?_eq_getElem hl, List.getElem_mem hl⟩
theorem ix_lst {xs : List D} {i : Int} {d : D} (h : atI xs i = some d) : ixD (.lst xs) (.int i) = some (.fz d) := by
  show (atI xs i).map _ = _
  rw [h]
  rfl
theorem ix_tup' {xs : List D} {i : Int} {d : D} (h : atI xs i = some d) : ixD (.tup xs) (.int i) = some (.fz d) := by
  show (atI xs i).map _ = _
  rw [h]
  rfl
theorem atI_0 {α : Type} (x : α) (xs : List α) : atI (x :: xs) 0 = some x := by
  unfold atI ixN
  rw [if_pos (by decide), if_pos (by rw [List.length_cons]; omega)]
  rfl
theorem ix_t0 (x : D) (xs : List D) : ixD (.tup (x :: xs)) (.int 0) = some (.fz x) := by
  show (atI (x :: xs) 0).map Res.fz = _
  rw [atI_0]
  rfl
theorem ix_l0 (x : D) (xs : List D) : ixD (.lst (x :: xs)) (.int 0) = some (.fz x) := by
  show (atI (x :: xs) 0).map Res.fz = _
  rw [atI_0]
  rfl
end DL
/-! set(xs) of a list of ints, so that the set may be walked -/
namespace L2
open PySem PySem.Spec PyProof.Rows PySem.Calls
section
variable {P : Program} {w : World} {A : Around} {E : Value → Shared → Prop} {s : Shared}
/-- the set that is made first -/
abbrev so (w : World) : Obj := { cls := .type "set", dict := none, data := .set #[] 0 (.fresh 0 0 (!w.params.followText "set-order")) }
set_option maxHeartbeats 3200000 in
theorem set_lst {l : Addr} {its : Array Value} (ns : List Int) {Q : Value → Shared → Prop} (h0 : A.handled = none) (hL : s.heap.IsList l its) (hI : IntsAre its.toList ns) (hb : ns.length + 1 < scanBound)
    (k : ∀ (h' : Heap) (tk c : Nat), SetR w h' s.heap.objs.size (fun j => decide (j ∈ ns)) c → c ≤ ns.length → (∀ b o, s.heap.get? b = some o → h'.get? b = some o) → Q (.ref s.heap.objs.size) { s with heap := h', toks := tk }) :
    wpAny (model P w) A (call (.type "set") [.ref l]) Q E s := by
  have hz : its.size = ns.length := (Array.length_toList).symm.trans (IntsAre.length hI)
  obtain ⟨mc, mt, m1⟩ := F.called_set.mro
  have m2 := F.called_set.made
  have m3 := F.called_set.sub
  refine wpAny_call (codeAny_of_tree (wpAny_pure ⟨Code.quiet_builtin _ (by decide +kernel), codeAny_builtin F.entry_type_call ?_⟩))
  rw [Around.under_plain (weight_type_call_type "set" [.ref l] []) rfl]
  have m4 := F.called_set.notType
  have m5 := F.called_set.canCreate
  have m6 := F.typeCall_set_1 (.ref l)
  repeat (any_goals (first | assumption | wp_step))
  let s1 : Shared := { s with heap := s.heap.push (so w) }
  refine codeAny_mono (code_set_led1 (.ref l) (E := E) (Q₁ := fun v t => v = .ref s.heap.objs.size ∧ t = s1) ⟨rfl, rfl⟩) fun r t hr => ?_
  match r, hr with
  | .error e, hr => exact hr
  | .ok (.ret v), hr =>
    obtain ⟨rfl, rfl⟩ := hr
    have n1 : s1.heap.get? s.heap.objs.size = some (so w) := Heap.get?_push_size _ rfl
    have n2 : Shared.TypeIs s1 (.ref s.heap.objs.size) "set" := ⟨_, n1, rfl⟩
    have n3 := F.called_set.init.lookup
    have n4 := F.called_set.init.bind (.ref s.heap.objs.size)
    repeat (any_goals (first | assumption | wp_step))
    refine codeAny_mono (codeAny_call_builtin (R := wants (fun v t => v = .none ∧ ∃ h' tk c, t = { s with heap := h', toks := tk } ∧ SetR w h' s.heap.objs.size (fun j => decide (j ∈ ns)) c ∧ c ≤ ns.length ∧ ∀ b o, s.heap.get? b = some o → h'.get? b = some o) E) F.called_set.init.plain F.entry_set_init (check_set_init_1 n2 ?_)) fun r2 t2 hr2 => ?_
    · obtain ⟨⟨oc, od, ox, os⟩, hol, hcl, nl, hdl⟩ := hL
      simp only at hcl hdl
      subst hcl hdl
      have p1 : s1.heap.get? l = some { cls := .type "list", dict := od, data := .seq its nl, slots := os } := Heap.get?_push_of_some _ hol
      have p2 := F.sub_list_set
      have p3 := F.sub_list_frozenset
      have p4 : (Value.type "list" == Value.type "dict") = false := by decide
      have p5 : s1.heap.IsList l its := ⟨_, p1, rfl, nl, rfl⟩
      unfold Builtin.«set.__init__» noKeywords Builtin.Frozenset.updateFrom
      generalize hp : pyIter = pI
      wp_walk
      subst hp
      refine wpAny_pyIter_list p5 (wpAny_bind (wpAny_runValue ?_))
      have q1 : l < s.heap.objs.size := Heap.lt_size hol
      have q2 : A.in1.in1.in1.handled = none := by simp [h0]
      have q3 : s1.heap.objs.size = s.heap.objs.size + 1 := Heap.size_push ..
      have q4 : l ≠ s1.heap.objs.size := by rw [q3]; exact Nat.ne_of_lt (Nat.lt_succ_of_lt q1)
      have q5 : s.heap.objs.size ∉ [s1.heap.objs.size, l] := by
        rw [q3]
        simp only [List.mem_cons, List.not_mem_nil, or_false, not_or]
        exact ⟨Nat.ne_of_lt (Nat.lt_succ_self _), Nat.ne_of_gt q1⟩
      have q6 : ∀ (i : Nat) (v : Value), its[i]? = some v → ∃ n t, ns[i]? = some n ∧ v = .int n t := fun i v hv => by
        have hi : i < ns.length := hz ▸ (Array.getElem?_eq_some_iff.mp hv).1
        obtain ⟨t, e⟩ := IntsAre.int_at hI i v (by rw [Array.getElem?_toList]; exact hv)
        exact ⟨ns[i], t, List.getElem?_eq_getElem hi, by rw [e, List.getD_eq_getElem?_getD, List.getElem?_eq_getElem hi]; rfl⟩
      refine set_update_ints (Walks.list q2 _ l q4 its).toS s.heap.objs.size q5 ns hz hb q6 its.size 0 _ (by omega) (Nat.zero_le _) ⟨⟨_, Heap.get?_push_size _ rfl, rfl, rfl⟩, p5.push _⟩ ⟨0, Nat.le_refl 0, setR_new_at (Heap.get?_push_of_some _ n1)⟩ ?_
      rintro ⟨h', g', d', tk', os'⟩ c hm hc hS
      have e1 : g' = s.gens := hm.gens
      have e2 : d' = s.drawn := hm.drawn
      have e3 : os' = s.os := hm.os
      subst e1 e2 e3
      refine wpAny_pure (wpAny_pure ⟨rfl, h', tk', c, rfl, hS, hz ▸ hc, fun b o e => ?_⟩)
      have e4 : b < s.heap.objs.size := Heap.lt_size e
      refine hm.heap b o ?_ (Heap.get?_push_of_some _ (Heap.get?_push_of_some _ e))
      rw [q3]
      simp only [List.mem_cons, List.not_mem_nil, or_false, not_or]
      exact ⟨Nat.ne_of_lt e4, Nat.ne_of_lt (Nat.lt_succ_of_lt e4)⟩
    · match r2, hr2 with
      | .error e, hr2 => exact hr2
      | .ok (.ret v), hr2 =>
        obtain ⟨rfl, h', tk, c, rfl, a1, a2, a3⟩ := hr2
        repeat (any_goals (first | assumption | wp_step))
        exact k _ _ _ a1 a2 a3
end
section
variable {X : Cx}
/-- set(xs), a list of ints -/
def rSetInts (K : PySem.W.Frag) (w : World) : List V → Hp → VK → Prop := fun vs H Q => ∃ (l : Addr) (ns : List Int), vs = [V.ref l] ∧ SqL K H l (ns.map V.int) ∧ ns.length ≤ 1000 ∧ ∀ (p : Addr) (c : Nat), c ≤ ns.length → H p = none → Q (.ref p) (upd H p (SetO w p (fun j => decide (j ∈ ns)) c))
theorem cr_setL (hc : X.calm = true) : CallR X (.type "set") (rSetInts X.K X.w) := by
  intro pins s σ H vs us Q I r h
  obtain ⟨l, ns, rfl, hq, hl, q⟩ := h
  rw [Vals.ref1 r]
  obtain ⟨its, rv, pl, hz⟩ := I.list hq
  refine set_lst ns (I.ok.hd hc) pl.isList (show IntsAre its.toArray.toList ns from ints_of_vals rv) (by unfold scanBound; omega) fun h' tk c R hcn kk => ?_
  have hn : H s.heap.objs.size = none := I.hok.fresh (Nat.le_refl _)
  exact ⟨.ref _, upd H s.heap.objs.size (SetO X.w s.heap.objs.size (fun j => decide (j ∈ ns)) c), I.laid (t' := tk) kk (Nat.le_refl _) (setO_new R), rfl, q _ c hcn hn⟩
end
end L2
/-! The data layer, 12: loops by what holds ahead of a turn; minus, min, find, sorted(set(..)), text[::-1]. -/
namespace DL
open PySem L2 PySem.Spec PyProof.Rows
/-- a loop by what holds ahead of each turn -/
theorem loop_inv {γ : TDG} {τb : TDS} {PD : DEnds} (I : List D → Ev → Prop) : ∀ (ds : List D) (ρ : Ev), I ds ρ → (∀ d es ρ (R : Ev → Prop), I (d :: es) ρ → (∀ ρ', I es ρ' → R ρ') → γ d ρ fun ρ1 => τb { PD with nx := R, ct := R, bk := PD.nx } ρ1) → (∀ ρ, I [] ρ → PD.nx ρ) → loopD γ τb PD ds ρ
  | [], ρ, h, _, q => q ρ h
  | d :: ds, ρ, h, t, q => t d ds ρ _ h fun ρ' h' => loop_inv I ds ρ' h' t q
/-- a comprehension by what holds ahead of each turn -/
theorem lc_inv {vs : List Nat} {γ : TDG} {τt : TDT} {τe : TD} {P : List D → Ev → Prop} (I : List D → Ev → List D → Prop) : ∀ (ds : List D) (ρ : Ev) (acc : List D), I ds ρ acc →
    (∀ d es ρ acc (R : Ev → List D → Prop), I (d :: es) ρ acc → (∀ ρ' acc', I es ρ' acc' → R ρ' acc') → γ d ρ fun ρ1 => τt ρ1 fun b ρ2 => if b = true then τe ρ2 fun r ρ3 => acc.length < 16000 ∧ R (wipeD ρ3 vs) (acc ++ [r.dat]) else R (wipeD ρ2 vs) acc) →
    (∀ ρ acc, I [] ρ acc → P acc ρ) → lcD vs γ τt τe ds ρ acc P
  | [], ρ, acc, h, _, q => q ρ acc h
  | d :: ds, ρ, acc, h, t, q => t d ds ρ acc (fun ρ' acc' => lcD vs γ τt τe ds ρ' acc' P) h fun ρ' acc' h' => lc_inv I ds ρ' acc' h' t q
/-- a slot that is not a parameter's list -/
def NP : Option Sl → Prop
  | some (.ow true _) => False
  | _ => True
theorem pin_np {ρ : Ev} {i : Nat} {s : Option Sl} (h : ρ[i]? = some s) (n : NP s) : pinB ρ i = false := by
  unfold pinB
  rw [h]
  match s, n with
  | none, _ => rfl
  | some (.fz _), _ => rfl
  | some (.ow false _), _ => rfl
theorem At.none1 {P : Program} {w : World} {K : Fg} {mg : Str → Option Value} {base : Heap} {x : Str} {ps : List Str} {st : Stmt} {f : Addr} {fd : FuncData} {k n : Nat} {g : FS1} (A : At K mg x ps st f fd) (h : ∀ xs ds Q, ¬ g xs ds Q) : Fn1 P w K mg base x k n g :=
  A.fn1 ⟨fun vs H Q E ⟨_, _, _, _, xs, ds, P, _, _, _, _, _, _, _, hg, _⟩ => absurd hg (h xs ds P), fun _ _ _ _ _ _ _ _ _ _ _ _ _ ⟨_, _, _, _, xs, ds, P, _, _, _, _, _, _, _, hg, _⟩ => absurd hg (h xs ds P)⟩
section
variable {X : Cx} {pos p p2 q apos : Pos} {a b c e o : Expr} {es : List Expr} {τa τb τe τo : TD} {τs : TDA}
/-- -a -/
def tNegE (τ : TD) : TD := fun ρ P => τ ρ fun x ρ1 => ∃ i, x.dat = .int i ∧ P (.fz (.int (-i))) ρ1
theorem de_neg (ha : DE X a τa) : DE X (.UnaryOp .USub a pos) (tNegE τa) := by
  obtain ⟨ta, pa, sa⟩ := ha.fz
  refine DE.of (pe_un un_neg pa) fun σ H Hf ρ P Q e q k => sa σ H Hf ρ (fun d ρ1 => ∃ i, d = .int i ∧ P (.fz (.int (-i))) ρ1) _ e q fun v H1 Hf1 d ρ1 e1 m1 r1 ⟨i, hi, p1⟩ => ?_
  subst hi
  cases r1
  exact ⟨i, rfl, k _ H1 Hf1 (.fz (.int (-i))) ρ1 e1 m1 (.int _) p1⟩
theorem callS_min2 {K : Fg} : CallS K (fun xs H Q => ∃ i j, xs = [.int i, .int j] ∧ Q (.int (if j < i then j else i)) H) min2D := by
  intro H Hf xs ds c Q hf r hg k
  match ds, hg with
  | [.int i, .int j], hg =>
    cases r with
    | cons ra rs =>
      cases rs with
      | cons rb rs =>
        cases rs
        cases ra
        cases rb
        cases hg
        exact ⟨i, j, rfl, k _ _ _ (Ext.refl hf) (.int _)⟩
theorem de_min2 (hc : X.calm = true) (hg : Gl X "min") (hm : X.mg "min" = none) (ha : DA X (e :: es) τs) (he : starEach (e :: es) X.env = (false, eval e X.env) :: starEach es X.env := by rfl) (hpl : (backTo pos (starEach es X.env)).any (·.1) = false := by rfl) : DE X (.Call (.Name "min" p) (e :: es) [] pos) (tCallG min2D τs) := de_callB (call_min2 hc) callS_min2 hg hm (by decide +kernel) ha (he := he) (hpl := hpl)
/-- a text's method with one argument that is a text -/
def tMS1 (g : Str → Str → D) (τo τe : TD) : TD := fun ρ P => τo ρ fun x ρ1 => ∃ z, x.dat = .str z ∧ τe ρ1 fun y ρ2 => ∃ t, y.dat = .str t ∧ P (.fz (g z t)) ρ2
theorem de_find (ho : DE X o τo) (he : DE X e τe) (hs : starEach [e] X.env = [(false, eval e X.env)] := by rfl) (hbase : attributeBase o "find" X.env (eval o X.env) = eval o X.env := by rfl) (hline : (apos.endLine == pos.line) = true := by rfl) :
    DE X (.Call (.Attribute o "find" apos) [e] [] pos) (tMS1 (fun z t => .int (Txt.find z t)) τo τe) := by
  obtain ⟨to, po, so⟩ := ho.fz
  obtain ⟨te, pe, se⟩ := he.fz
  refine DE.of (pe_m1 F.slot_str_find F.type_str_find mt_find po pe hs hbase hline) fun σ H Hf ρ P Q e q k => ?_
  refine so σ H Hf ρ (fun x ρ1 => ∃ z, x = .str z ∧ τe ρ1 fun y ρ2 => ∃ t, y.dat = .str t ∧ P (.fz (.int (Txt.find z t))) ρ2) _ e q fun x H1 Hf1 dx ρ1 e1 m1 r1 ⟨z, hz, q1⟩ => ?_
  subst hz
  cases r1
  refine ⟨⟨_, rfl⟩, ?_⟩
  refine se σ H1 Hf1 ρ1 (fun y ρ2 => ∃ t, y = .str t ∧ P (.fz (.int (Txt.find z t))) ρ2) _ e1 q1 fun y H2 Hf2 dy ρ2 e2 m2 r2 ⟨t, ht, q2⟩ => ?_
  subst ht
  cases r2
  exact ⟨z, t, rfl, rfl, k _ H2 Hf2 (.fz (.int (Txt.find z t))) ρ2 e2 (m1.trans m2) (.int _) q2⟩
/-- sorted(set(xs)), a list of ints -/
def tSortSet (τ : TD) : TD := fun ρ P => τ ρ fun x ρ1 => ∃ ns : List Int, x.dat = .lst (ns.map D.int) ∧ ns.length < 64 ∧ ∀ ns' : List Int, ns'.Pairwise (· < ·) → (∀ k : Int, k ∈ ns' ↔ k ∈ ns) → P (.fr (ns'.map D.int)) ρ1
theorem de_sortset (hc : X.calm = true) (hg : Gl X "sorted") (hm : X.mg "sorted" = none) (hg2 : Gl X "set") (hm2 : X.mg "set" = none) (he : DE X e τe) (hs : starEach [e] X.env = (false, eval e X.env) :: starEach [] X.env := by rfl)
    (hs2 : starEach [.Call (.Name "set" p2) [e] [] q] X.env = (false, eval (.Call (.Name "set" p2) [e] [] q) X.env) :: starEach [] X.env := by rfl) :
    DE X (.Call (.Name "sorted" p) [.Call (.Name "set" p2) [e] [] q] [] pos) (tSortSet τe) := by
  obtain ⟨te, pe, se⟩ := he.fz
  refine DE.of (pe_callB (cr_sortedSet hc) hg hm (by decide +kernel) (pa_cons (pe_callTy (cr_setL hc) hg2 hm2 (by decide +kernel) (pa_cons pe pa_nil hs) (he := hs)) pa_nil hs2) (he := hs2)) fun σ H Hf ρ P Q e q k => ?_
  refine se σ H Hf ρ (fun x ρ1 => ∃ ns : List Int, x = .lst (ns.map D.int) ∧ ns.length < 64 ∧ ∀ ns' : List Int, ns'.Pairwise (· < ·) → (∀ k : Int, k ∈ ns' ↔ k ∈ ns) → P (.fr (ns'.map D.int)) ρ1) _ e q fun x H1 Hf1 dx ρ1 e1 m1 r1 ⟨ns, hx, hl, q1⟩ => ?_
  subst hx
  cases r1 with
  | lst hp rp =>
    have ev := rp.ints ((intsOf_map (fun n : Int => n) ns).trans (by rw [List.map_id'']; intro n; rfl))
    subst ev
    refine ⟨_, ns, rfl, .inl (.inl (e1.sub _ _ hp)), by omega, fun s c hcl hn => ?_⟩
    have x2 := Ext.add' e1.sub (SetO X.w s (fun j => decide (j ∈ ns)) c) hn
    refine ⟨s, _, c, rfl, upd_same, by omega, fun ns' p' h1 h2 h3 hn2 => ?_⟩
    have x3 := Ext.add' x2.sub (.lst (ns'.map V.int)) hn2
    have x := x2.trans x3
    refine k _ _ Hf1 (.fr (ns'.map D.int)) ρ1 (x.env e1) (m1.trans x.mv) ?_ (q1 ns' h1 fun k => by rw [h2 k]; exact decide_eq_true_iff)
    have hz := x2.live p' hn2
    refine ⟨p', ns'.map V.int, rfl, upd_same, ?_, m1.live p' hz, repL_ints ns'⟩
    cases hq : Hf1 p' with
    | none => rfl
    | some o => rw [e1.sub _ _ hq] at hz; cases hz
/-- z[::-1] -/
def revS (z : Str) : Str := ⟨((Builtin.Str.strSliceIndices none none (-1) z.length).filterMap (z.cps[·]?)).toArray⟩
theorem de_revS {k : Nat} {p1 p3 : Pos} (he : DE X e τe) : DE X (.Subscript e (.Slice none none (some (.UnaryOp .USub (.Constant (.int 1) k p1) p2)) p3) pos) (fun ρ P => τe ρ fun x ρ1 => ∃ z, x.dat = .str z ∧ (revS z).length ≤ 100000 ∧ P (.fz (.str (revS z))) ρ1) := by
  obtain ⟨te, pe, se⟩ := he.fz
  refine DE.of (t := fun σ H Q => te σ H fun x H1 => ∃ z, x = .str z ∧ (revS z).length ≤ 100000 ∧ Q (.str (revS z)) H1) ⟨fun pins s σ H Q I h => ?_⟩ fun σ H Hf ρ P Q e q k => ?_
  · refine Subscript_ (thn (pe.run pins s σ H _ I h) fun v s1 ⟨x, H1, I1, r1, q1⟩ => ?_)
    obtain ⟨z, rfl, hz, q⟩ := q1
    obtain ⟨t, rfl⟩ := r1
    have step : PO X (some (.UnaryOp .USub (.Constant (.int 1) k p1) p2)) _ := po_some (pe_un un_neg pe_int)
    refine wpAny_Slice (thn (po_none.run pins s1 σ H1 (fun o H2 => o = none ∧ H2 = H1) I1 ⟨rfl, rfl⟩) fun vl s2 ⟨l, H2, I2, pl, el, e2⟩ => ?_)
    subst el e2
    refine thn (po_none.run pins s2 σ H2 (fun o H3 => o = none ∧ H3 = H2) I2 ⟨rfl, rfl⟩) fun vu s3 ⟨u, H3, I3, pu, eu, e3⟩ => ?_
    subst eu e3
    refine thn (step.run pins s3 σ H3 (fun o H4 => o = some (-1) ∧ H4 = H3) I3 ⟨1, rfl, -1, rfl, rfl, rfl⟩) fun vs s4 ⟨o, H4, I4, ps, eo, e4⟩ => ?_
    subst eo e4
    cases pl
    cases pu
    cases ps with
    | int i tk =>
      have I5 : Inv X pins σ H4 { s4 with heap := s4.heap.push { cls := .type "slice", data := .fields #[.none, .none, .int (-1) tk] } } := I4.kept (t' := s4.toks) fun b ob q => Heap.get?_push_of_some _ q
      refine tail_any (o := .str z t) (i := .ref s4.heap.objs.size) (ops := [.str z t, .ref s4.heap.objs.size]) (typeIs_str _ _ _) F.slot_str_getitem.lookup ?_ (by with_unfolding_all rfl)
      refine wpAny_getItem_str_slice (l := none) (u := none) (st := some (-1, tk)) ⟨_, Heap.get?_push_size _ rfl, rfl, rfl⟩ rfl ?_
      exact ⟨Nat.le_trans hz (by decide), .str (revS z), H4, I5.tok _, ⟨_, rfl⟩, q⟩
  · refine se σ H Hf ρ (fun x ρ1 => ∃ z, x = .str z ∧ (revS z).length ≤ 100000 ∧ P (.fz (.str (revS z))) ρ1) _ e q fun x H1 Hf1 dx ρ1 e1 m1 r1 ⟨z, hz, hl, q1⟩ => ?_
    subst hz
    cases r1
    exact ⟨z, rfl, hl, k _ H1 Hf1 (.fz (.str (revS z))) ρ1 e1 m1 (.str _) q1⟩
end
end DL
/-! The data layer, 13: joins behind tests. -/
namespace DL
open PySem L2
theorem ite_cut {c : Bool} {τ1 τ2 : TDS} {PD : DEnds} {ρ : Ev} (I : Ev → Prop) (h : ∀ R : Ev → Prop, (∀ ρ', I ρ' → R ρ') → if c = true then τ1 { PD with nx := R } ρ else τ2 { PD with nx := R } ρ) (h2 : ∀ ρ', I ρ' → PD.nx ρ') : if c = true then τ1 PD ρ else τ2 PD ρ := h PD.nx h2
/-- both ways set the slot i to d -/
theorem ite_set {c : Bool} {τ1 τ2 : TDS} {PD : DEnds} {ρ : Ev} (i : Nat) (d : D) (h : ∀ R : Ev → Prop, R (ρ.set i (some (.fz d))) → if c = true then τ1 { PD with nx := R } ρ else τ2 { PD with nx := R } ρ) (h2 : PD.nx (ρ.set i (some (.fz d)))) : if c = true then τ1 PD ρ else τ2 PD ρ := h PD.nx h2
theorem iteE_cut {c : Bool} {τ1 τ2 : TD} {P : Res → Ev → Prop} {ρ : Ev} (r : Res) (h : ∀ P' : Res → Ev → Prop, P' r ρ → if c = true then τ1 ρ P' else τ2 ρ P') (h2 : P r ρ) : if c = true then τ1 ρ P else τ2 ρ P := h P h2
/-- a and b -/
theorem and_cut {c : Bool} {τ : TD} {P : Res → Ev → Prop} {ρ : Ev} (b : Bool) (h1 : c = true → ∀ P' : Res → Ev → Prop, P' (.fz (.bl b)) ρ → τ ρ P') (h2 : c = false → b = false) (h3 : P (.fz (.bl b)) ρ) : if c = true then τ ρ P else P (.fz (.bl false)) ρ := by
  cases c with
  | true => exact h1 rfl P h3
  | false => rw [h2 rfl] at h3; exact h3
theorem or_cut {c : Bool} {τ : TD} {P : Res → Ev → Prop} {ρ : Ev} (b : Bool) (h1 : c = false → ∀ P' : Res → Ev → Prop, P' (.fz (.bl b)) ρ → τ ρ P') (h2 : c = true → b = true) (h3 : P (.fz (.bl b)) ρ) : if c = true then P (.fz (.bl true)) ρ else τ ρ P := by
  cases c with
  | false => exact h1 rfl P h3
  | true => rw [h2 rfl] at h3; exact h3
/-- the tests of ifs -/
theorem andT_cut {c : Bool} {τ : TDT} {P : Bool → Ev → Prop} {ρ : Ev} (b : Bool) (h1 : c = true → ∀ P' : Bool → Ev → Prop, P' b ρ → τ ρ P') (h2 : c = false → b = false) (h3 : P b ρ) : if c = true then τ ρ P else P false ρ := by
  cases c with
  | true => exact h1 rfl P h3
  | false => rw [h2 rfl] at h3; exact h3
theorem orT_cut {c : Bool} {τ : TDT} {P : Bool → Ev → Prop} {ρ : Ev} (b : Bool) (h1 : c = false → ∀ P' : Bool → Ev → Prop, P' b ρ → τ ρ P') (h2 : c = true → b = true) (h3 : P b ρ) : if c = true then P true ρ else τ ρ P := by
  cases c with
  | false => exact h1 rfl P h3
  | true => rw [h2 rfl] at h3; exact h3
end DL
/-! Patterns as plain Lean: values, expressions, widths. -/
namespace Cut
open PySem L2 DL
/-! ### values -/
mutual
def val : D → Bool
  | .non | .bl _ | .int _ => true
  | .str s => decide (s.length ≤ 10000)
  | .tup ds => decide (ds.length ≤ 10000) && valL ds
  | .lst ds => decide (ds.length ≤ 10000) && valL ds
  | _ => false
def valL : List D → Bool
  | [] => true
  | d :: ds => val d && valL ds
end
mutual
def dep : D → Nat
  | .tup ds => depL ds + 1
  | .lst ds => depL ds + 1
  | _ => 0
def depL : List D → Nat
  | [] => 0
  | d :: ds => max (dep d) (depL ds)
end
theorem valL_mem : ∀ {ds : List D}, valL ds = true → ∀ d ∈ ds, val d = true
  | _ :: _, h, d, hd => by
    rw [valL, Bool.and_eq_true] at h
    rcases List.mem_cons.mp hd with e | e
    · rw [e]; exact h.1
    · exact valL_mem h.2 d e
theorem depL_mem : ∀ {ds : List D} {n : Nat}, depL ds < n → ∀ d ∈ ds, dep d < n
  | _ :: _, n, h, d, hd => by
    rw [depL] at h
    rcases List.mem_cons.mp hd with e | e
    · rw [e]; omega
    · exact depL_mem (by omega) d e
/-! ### expressions over an alphabet -/
def isInt : D → Bool
  | .int _ => true
  | _ => false
def isSetM (A : Str) : List D → Bool
  | [.str s] => decide (s = ofL (A.cps.toList.filter fun c => decide (c ∈ s.cps.toList)))
  | _ => false
def hiB (l : Int) : D → Bool
  | .non => true
  | .int h => decide (l ≤ h) && decide (h ≤ 4)
  | _ => false
def loB (hi : D) : D → Bool
  | .int l => decide (0 ≤ l) && decide (l ≤ 4) && hiB l hi
  | _ => false
def againB : List D → List Bool → Bool
  | [_, lo, hi], [b, _, _] => b && loB hi lo
  | _, _ => false
def exprB (A w : Str) (ps : List D) (bs : List Bool) : Bool :=
  if w = "set" then isSetM A ps else if w = "again" then againB ps bs else
  if (w = "not" ∧ ps.length ≠ 1) ∨ ¬ (w = "row" ∨ w = "any" ∨ w = "all" ∨ w = "not") then false else bs.all id
mutual
def isExpr (A : Str) : D → Bool
  | .tup (.str w :: ps) => exprB A w ps (isExprM A ps)
  | _ => false
def isExprM (A : Str) : List D → List Bool
  | [] => []
  | d :: ds => isExpr A d :: isExprM A ds
end
theorem isExprM_map (A : Str) : ∀ ds, isExprM A ds = ds.map (isExpr A)
  | [] => rfl
  | d :: ds => by rw [isExprM, isExprM_map A ds]; rfl
theorem k1 : ¬ (("row" : Str) = "set") := by decide +kernel
theorem k2 : ¬ (("row" : Str) = "again") := by decide +kernel
theorem k3 : ¬ (("row" : Str) = "not") := by decide +kernel
theorem k4 : ¬ (("any" : Str) = "set") := by decide +kernel
theorem k5 : ¬ (("any" : Str) = "again") := by decide +kernel
theorem k6 : ¬ (("any" : Str) = "not") := by decide +kernel
theorem k7 : ¬ (("all" : Str) = "set") := by decide +kernel
theorem k8 : ¬ (("all" : Str) = "again") := by decide +kernel
theorem k9 : ¬ (("all" : Str) = "not") := by decide +kernel
theorem k10 : ¬ (("not" : Str) = "set") := by decide +kernel
theorem k11 : ¬ (("not" : Str) = "again") := by decide +kernel
theorem k12 : ¬ (("again" : Str) = "set") := by decide +kernel
theorem k13 : ¬ (("set" : Str) = "again") := by decide +kernel
theorem k14 : ¬ (("any" : Str) = "row") := by decide +kernel
theorem k15 : ¬ (("all" : Str) = "row") := by decide +kernel
theorem k16 : ¬ (("not" : Str) = "row") := by decide +kernel
theorem k17 : ¬ (("again" : Str) = "row") := by decide +kernel
theorem k18 : ¬ (("set" : Str) = "row") := by decide +kernel
theorem k19 : ¬ (("row" : Str) = "all") := by decide +kernel
theorem k20 : ¬ (("any" : Str) = "all") := by decide +kernel
theorem k21 : ¬ (("not" : Str) = "all") := by decide +kernel
theorem k22 : ¬ (("again" : Str) = "all") := by decide +kernel
theorem k23 : ¬ (("set" : Str) = "all") := by decide +kernel
theorem k24 : ¬ (("set" : Str) = "not") := by decide +kernel
theorem k25 : ¬ (("again" : Str) = "not") := by decide +kernel
theorem k26 : ¬ (("all" : Str) = "any") := by decide +kernel
theorem k27 : ¬ (("row" : Str) = "any") := by decide +kernel
theorem k28 : ¬ (("not" : Str) = "any") := by decide +kernel
theorem k29 : ¬ (("again" : Str) = "any") := by decide +kernel
theorem k30 : ¬ (("set" : Str) = "any") := by decide +kernel
/-! ### patterns as a datatype -/
inductive Rx where
  | set (s : Str) | row (ps : List Rx) | any (ps : List Rx) | all (ps : List Rx) | no (p : Rx) | again (p : Rx) (lo : Int) (hi : Option Int)
def hiD : Option Int → D
  | none => .non
  | some h => .int h
mutual
def toD : Rx → D
  | .set s => .tup [.str "set", .str s]
  | .row ps => .tup (.str "row" :: toDL ps)
  | .any ps => .tup (.str "any" :: toDL ps)
  | .all ps => .tup (.str "all" :: toDL ps)
  | .no p => .tup [.str "not", toD p]
  | .again p lo hi => .tup [.str "again", toD p, .int lo, hiD hi]
def toDL : List Rx → List D
  | [] => []
  | p :: ps => toD p :: toDL ps
end
theorem toDL_map : ∀ ps, toDL ps = ps.map toD
  | [] => rfl
  | p :: ps => by rw [toDL, toDL_map ps]; rfl
theorem toDL_len (ps : List Rx) : (toDL ps).length = ps.length := by rw [toDL_map, List.length_map]
def Rx.word : Rx → Str
  | .set _ => "set" | .row _ => "row" | .any _ => "any" | .all _ => "all" | .no _ => "not" | .again _ _ _ => "again"
def Rx.parts : Rx → List Rx
  | .set _ => []
  | .row ps | .any ps | .all ps => ps
  | .no p => [p]
  | .again p _ _ => [p]
def Rx.tail : Rx → List D
  | .set s => [.str s]
  | .row ps | .any ps | .all ps => toDL ps
  | .no p => [toD p]
  | .again p lo hi => [toD p, .int lo, hiD hi]
theorem toD_eq (r : Rx) : toD r = .tup (.str r.word :: r.tail) := by cases r <;> simp [toD, Rx.word, Rx.tail]
mutual
def rdep : Rx → Nat
  | .set _ => 0
  | .row ps | .any ps | .all ps => rdepL ps + 1
  | .no p => rdep p + 1
  | .again p _ _ => rdep p + 1
def rdepL : List Rx → Nat
  | [] => 0
  | p :: ps => max (rdep p) (rdepL ps)
end
theorem rdepL_mem : ∀ {ps : List Rx} {n : Nat}, rdepL ps < n → ∀ p ∈ ps, rdep p < n
  | _ :: _, n, h, d, hd => by
    rw [rdepL] at h
    rcases List.mem_cons.mp hd with e | e
    · rw [e]; omega
    · exact rdepL_mem (by omega) d e
theorem rdep_parts {r : Rx} {n : Nat} (h : rdep r < n + 1) (h0 : r.parts ≠ []) : ∀ p ∈ r.parts, rdep p < n := by
  intro p hp
  cases r with
  | set s => cases hp
  | row ps => rw [rdep] at h; exact rdepL_mem (ps := ps) (by omega) p hp
  | any ps => rw [rdep] at h; exact rdepL_mem (ps := ps) (by omega) p hp
  | all ps => rw [rdep] at h; exact rdepL_mem (ps := ps) (by omega) p hp
  | no q =>
    rw [rdep] at h
    rw [List.mem_singleton.mp hp]
    omega
  | again q lo hi =>
    rw [rdep] at h
    rw [List.mem_singleton.mp hp]
    omega
/-! the numbers of agains within their bounds, not too many parts -/
def hiOk (lo : Int) : Option Int → Bool
  | none => true
  | some h => decide (lo ≤ h) && decide (h ≤ 4)
mutual
def okR : Rx → Bool
  | .set s => decide (s.length ≤ 10000)
  | .row ps | .any ps | .all ps => decide (ps.length ≤ 9999) && okRL ps
  | .no p => okR p
  | .again p lo hi => okR p && decide (0 ≤ lo) && decide (lo ≤ 4) && hiOk lo hi
def okRL : List Rx → Bool
  | [] => true
  | p :: ps => okR p && okRL ps
end
theorem okRL_mem : ∀ {ps : List Rx}, okRL ps = true → ∀ p ∈ ps, okR p = true
  | _ :: _, h, d, hd => by
    rw [okRL, Bool.and_eq_true] at h
    rcases List.mem_cons.mp hd with e | e
    · rw [e]; exact h.1
    · exact okRL_mem h.2 d e
theorem okR_parts {r : Rx} (h : okR r = true) : ∀ p ∈ r.parts, okR p = true := by
  intro p hp
  cases r with
  | set s => cases hp
  | row ps => rw [okR, Bool.and_eq_true] at h; exact okRL_mem h.2 p hp
  | any ps => rw [okR, Bool.and_eq_true] at h; exact okRL_mem h.2 p hp
  | all ps => rw [okR, Bool.and_eq_true] at h; exact okRL_mem h.2 p hp
  | no q =>
    rw [okR] at h
    rw [List.mem_singleton.mp hp]
    exact h
  | again q lo hi =>
    rw [okR, Bool.and_eq_true, Bool.and_eq_true, Bool.and_eq_true] at h
    rw [List.mem_singleton.mp hp]
    exact h.1.1.1
theorem okR_len {r : Rx} (h : okR r = true) : r.parts.length ≤ 9999 := by
  cases r with
  | set s => exact Nat.zero_le _
  | row ps => rw [okR, Bool.and_eq_true] at h; exact of_decide_eq_true h.1
  | any ps => rw [okR, Bool.and_eq_true] at h; exact of_decide_eq_true h.1
  | all ps => rw [okR, Bool.and_eq_true] at h; exact of_decide_eq_true h.1
  | no q => show 1 ≤ 9999; decide
  | again q lo hi => show 1 ≤ 9999; decide
def mx1 (j : Int) : Int := if j > 1 then j else 1
def Rx.fac : Rx → Int
  | .again _ lo none => lo + 1
  | .again _ _ (some h) => mx1 h
  | _ => 1
mutual
def wd : Rx → Int
  | .set _ => 1
  | .row ps | .any ps | .all ps => mx1 (wdL ps).sum
  | .no p => mx1 (wd p)
  | .again p lo none => mx1 (wd p) * (lo + 1)
  | .again p lo (some h) => mx1 (wd p) * mx1 h
def wdL : List Rx → List Int
  | [] => []
  | p :: ps => wd p :: wdL ps
end
theorem wdL_map : ∀ ps, wdL ps = ps.map wd
  | [] => rfl
  | p :: ps => by rw [wdL, wdL_map ps]; rfl
mutual
def cnt : Rx → Int
  | .set _ => 1
  | .row ps | .any ps | .all ps => 1 + (cntL ps).sum
  | .no p => 1 + cnt p
  | .again p _ _ => 1 + cnt p
def cntL : List Rx → List Int
  | [] => []
  | p :: ps => cnt p :: cntL ps
end
theorem cntL_map : ∀ ps, cntL ps = ps.map cnt
  | [] => rfl
  | p :: ps => by rw [cntL, cntL_map ps]; rfl
theorem cnt_eq (r : Rx) : cnt r = 1 + (r.parts.map cnt).sum := by
  cases r <;> simp [cnt, Rx.parts, cntL_map]
mutual
def plain : Rx → Bool
  | .set _ => true
  | .row ps | .any ps => (plainL ps).all id
  | .all _ | .no _ => false
  | .again p _ _ => plain p
def plainL : List Rx → List Bool
  | [] => []
  | p :: ps => plain p :: plainL ps
end
theorem plainL_map : ∀ ps, plainL ps = ps.map plain
  | [] => rfl
  | p :: ps => by rw [plainL, plainL_map ps]; rfl
theorem plain_eq (r : Rx) : plain r = (!(decide (r.word = "all") || decide (r.word = "not")) && (r.parts.map plain).all id) := by
  cases r <;> simp [plain, Rx.parts, plainL_map, Rx.word, k19, k3, k20, k6, k22, k25, k23, k24]
mutual
def hasP : Rx → Bool
  | .set _ => true
  | .row ps => (plainL ps).all id
  | .again p _ _ => plain p
  | .any ps | .all ps => (hasPL ps).all id
  | .no p => hasP p
def hasPL : List Rx → List Bool
  | [] => []
  | p :: ps => hasP p :: hasPL ps
end
theorem hasPL_map : ∀ ps, hasPL ps = ps.map hasP
  | [] => rfl
  | p :: ps => by rw [hasPL, hasPL_map ps]; rfl
theorem hasP_eq (r : Rx) : hasP r = if r.word = "row" ∨ r.word = "again" then plain r else (r.parts.map hasP).all id := by
  cases r <;> simp [hasP, plain, Rx.parts, hasPL_map, Rx.word, k18, k13, k14, k5, k15, k8, k16, k11]
mutual
theorem toD_inj : ∀ r r', toD r = toD r' → r = r'
  | .set s, r', h => by
    cases r' <;> simp [toD, k1, k4, k7, k10, k12, k13, k18, k23, k24, k30] at h
    rw [h]
  | .row ps, r', h => by
    cases r' <;> simp [toD, k1, k2, k3, k14, k15, k16, k17, k18, k19, k27] at h
    rw [toDL_inj _ _ h]
  | .any ps, r', h => by
    cases r' <;> simp [toD, k4, k5, k6, k14, k20] at h
    rw [toDL_inj _ _ h]
  | .all ps, r', h => by
    cases r' <;> simp [toD, k7, k8, k9, k15, k26] at h
    rw [toDL_inj _ _ h]
  | .no p, r', h => by
    cases r' <;> simp [toD, k10, k11, k16, k21, k28] at h
    rw [toD_inj _ _ h]
  | .again p lo hi, r', h => by
    cases r' <;> simp [toD, k12, k17, k22, k25, k29] at h
    rename_i p' lo' hi'
    obtain ⟨h1, h2, h3⟩ := h
    rw [toD_inj _ _ h1, h2]
    cases hi <;> cases hi' <;> simp [hiD] at h3
    · rfl
    · rw [h3]
theorem toDL_inj : ∀ ps ps', toDL ps = toDL ps' → ps = ps'
  | [], [], _ => rfl
  | [], _ :: _, h => by simp [toDL] at h
  | _ :: _, [], h => by simp [toDL] at h
  | p :: ps, p' :: ps', h => by
    simp only [toDL, List.cons.injEq] at h
    rw [toD_inj _ _ h.1, toDL_inj _ _ h.2]
end
def patR (r : Rx) : Bool := hasP r && (decide (cnt r ≤ 20) && decide (wd r ≤ 10))
theorem cutD_1 (x : D) (xs : List D) : cutD (x :: xs) (some 1) none = xs := by
  unfold cutD
  have h1 : HT.sIx (x :: xs).length 0 (some 1) = 1 := by
    have := HT.sIx_nat (x :: xs).length 0 1
    rw [List.length_cons] at this
    exact this.trans (by omega)
  rw [h1, show HT.sIx (x :: xs).length (x :: xs).length none = (x :: xs).length from rfl, List.length_cons, Nat.add_sub_cancel]
  exact List.take_length
/-! ### what is an expression is a pattern's value -/
mutual
theorem ofExpr (A : Str) : ∀ d, val d = true → isExpr A d = true → ∃ r, d = toD r ∧ okR r = true ∧ rdep r ≤ dep d
  | .tup (.str w :: ps), hv, h => by
    rw [isExpr] at h
    rw [val, Bool.and_eq_true, valL, Bool.and_eq_true] at hv
    have hl : ps.length + 1 ≤ 10000 := by have := of_decide_eq_true hv.1; simpa using this
    unfold exprB at h
    by_cases h1 : w = "set"
    · rw [if_pos h1] at h
      subst h1
      unfold isSetM at h
      split at h
      · rename_i s
        have hs : val (.str s) = true := by have := hv.2.2; rw [valL, Bool.and_eq_true] at this; exact this.1
        rw [val] at hs
        exact ⟨.set s, by rw [toD], by rw [okR]; exact hs, by rw [rdep]; exact Nat.zero_le _⟩
      · cases h
    rw [if_neg h1] at h
    by_cases h2 : w = "again"
    · rw [if_pos h2] at h
      subst h2
      match ps, h, hv with
      | [p, lo, hi], h, hv =>
        rw [isExprM, isExprM, isExprM, isExprM, againB, Bool.and_eq_true] at h
        have hv2 := hv.2.2
        rw [valL, Bool.and_eq_true] at hv2
        obtain ⟨r, e, o, dd⟩ := ofExpr A p hv2.1 h.1
        have hlo := h.2
        unfold loB at hlo
        split at hlo
        · rename_i l
          rw [Bool.and_eq_true, Bool.and_eq_true] at hlo
          obtain ⟨⟨q1, q2⟩, q3⟩ := hlo
          have hd : rdep r + 1 ≤ dep (.tup [.str "again", p, .int l, hi]) := by
            rw [dep, depL, depL]
            omega
          unfold hiB at q3
          split at q3
          · exact ⟨.again r l none, by rw [toD, e]; rfl, by rw [okR, o, q1, q2]; rfl, by rw [rdep]; exact hd⟩
          · rename_i hh
            exact ⟨.again r l (some hh), by rw [toD, e]; rfl, by rw [okR, o, q1, q2]; simpa [hiOk] using q3, by rw [rdep]; exact hd⟩
          · cases q3
        · cases hlo
      | [], h, _ => simp [againB] at h
      | [_], h, _ => simp [againB, isExprM] at h
      | [_, _], h, _ => simp [againB, isExprM] at h
      | _ :: _ :: _ :: _ :: _, h, _ => simp [againB, isExprM] at h
    rw [if_neg h2] at h
    by_cases h3 : (w = "not" ∧ ps.length ≠ 1) ∨ ¬ (w = "row" ∨ w = "any" ∨ w = "all" ∨ w = "not")
    · rw [if_pos h3] at h
      cases h
    rw [if_neg h3] at h
    obtain ⟨rs, e, o, dd⟩ := ofExprL A ps hv.2.2 h
    have hd : rdepL rs + 1 ≤ dep (.tup (.str w :: ps)) := by
      rw [dep, depL]
      omega
    have hlr : rs.length = ps.length := by rw [e, toDL_len]
    have ho : (decide (rs.length ≤ 9999) && okRL rs) = true := by rw [decide_eq_true (by omega), o]; rfl
    by_cases w1 : w = "not"
    · subst w1
      have l1 : ps.length = 1 := Classical.byContradiction fun z => h3 (.inl ⟨rfl, z⟩)
      match rs, hlr, e, ho, hd, o with
      | [r], _, e, _, hd, o =>
        rw [okRL, okRL, Bool.and_true] at o
        exact ⟨.no r, by rw [toD, e]; rfl, by rw [okR]; exact o, by rw [rdep]; rw [rdepL, rdepL] at hd; omega⟩
      | [], hlr, _, _, _, _ => simp at hlr; omega
      | _ :: _ :: _, hlr, _, _, _, _ => simp at hlr; omega
    have w2 : w = "row" ∨ w = "any" ∨ w = "all" := by
      rcases Classical.not_not.mp (fun z => h3 (.inr z)) with z | z | z | z
      · exact .inl z
      · exact .inr (.inl z)
      · exact .inr (.inr z)
      · exact absurd z w1
    rcases w2 with rfl | rfl | rfl
    · exact ⟨.row rs, by rw [toD, e], by rw [okR]; exact ho, by rw [rdep]; exact hd⟩
    · exact ⟨.any rs, by rw [toD, e], by rw [okR]; exact ho, by rw [rdep]; exact hd⟩
    · exact ⟨.all rs, by rw [toD, e], by rw [okR]; exact ho, by rw [rdep]; exact hd⟩
  | .tup [], _, h => by simp [isExpr] at h
  | .tup (.non :: _), _, h => by simp [isExpr] at h
  | .tup (.bl _ :: _), _, h => by simp [isExpr] at h
  | .tup (.int _ :: _), _, h => by simp [isExpr] at h
  | .tup (.tup _ :: _), _, h => by simp [isExpr] at h
  | .tup (.lst _ :: _), _, h => by simp [isExpr] at h
  | .tup (.obj _ _ :: _), _, h => by simp [isExpr] at h
  | .tup (.ty _ :: _), _, h => by simp [isExpr] at h
  | .tup (.raw _ :: _), _, h => by simp [isExpr] at h
  | .tup (.scr _ :: _), _, h => by simp [isExpr] at h
  | .non, _, h => by simp [isExpr] at h
  | .bl _, _, h => by simp [isExpr] at h
  | .int _, _, h => by simp [isExpr] at h
  | .str _, _, h => by simp [isExpr] at h
  | .lst _, _, h => by simp [isExpr] at h
  | .obj _ _, _, h => by simp [isExpr] at h
  | .ty _, _, h => by simp [isExpr] at h
  | .raw _, _, h => by simp [isExpr] at h
  | .scr _, _, h => by simp [isExpr] at h
theorem ofExprL (A : Str) : ∀ ds, valL ds = true → (isExprM A ds).all id = true → ∃ rs, ds = toDL rs ∧ okRL rs = true ∧ rdepL rs ≤ depL ds
  | [], _, _ => ⟨[], rfl, rfl, Nat.le_refl _⟩
  | d :: ds, hv, h => by
    rw [valL, Bool.and_eq_true] at hv
    rw [isExprM, List.all_cons, Bool.and_eq_true] at h
    obtain ⟨r, e, o, dd⟩ := ofExpr A d hv.1 h.1
    obtain ⟨rs, e2, o2, d2⟩ := ofExprL A ds hv.2 h.2
    exact ⟨r :: rs, by rw [toDL, ← e, ← e2], by rw [okRL, o, o2]; rfl, by rw [rdepL, depL]; omega⟩
end
end Cut
namespace Cut
open PySem L2 DL
def top (i : Nat) : Stmt := PySem.Challenge.pw_cutscribe_k01_patterns_looked_at.main.body.getD i (.Pass ⟨0, 0, 0, 0⟩)
local macro_rules | `(tactic| walk_at "s") => `(tactic| repeat (first | with_reducible refine ⟨_, rfl, ?_⟩ | refine ⟨_, rfl, ?_⟩ | refine ⟨rfl, ?_⟩ | refine ⟨_, _, rfl, rfl, ?_⟩ | refine ⟨_, _, rfl, ?_⟩ | refine iteT ?_ | refine iteF ?_ | refine ⟨⟨_, rfl⟩, ?_⟩ | refine ⟨Nat.le_of_ble_eq_true rfl, ?_⟩ | refine ⟨(by decide), ?_⟩ | refine ⟨_, ix_t0 _ _, ?_⟩ | refine ⟨_, ix_l0 _ _, ?_⟩))
abbrev s_is_integer : Stmt := top 5
abbrev N_is_integer : List Str := ["value"]
theorem sc_is_integer : FnScope N_is_integer ["value"] (defScope s_is_integer) := ⟨rfl, rfl, rfl, by decide +kernel, rfl, by decide +kernel, by decide +kernel⟩
abbrev s_is_set : Stmt := top 6
abbrev N_is_set : List Str := ["alphabet", "parts", "character"]
theorem sc_is_set : FnScope N_is_set ["alphabet", "parts"] (defScope s_is_set) := ⟨rfl, rfl, rfl, by decide +kernel, rfl, by decide +kernel, by decide +kernel⟩
abbrev s_is_again : Stmt := top 7
abbrev N_is_again : List Str := ["alphabet", "parts", "low", "high"]
theorem sc_is_again : FnScope N_is_again ["alphabet", "parts"] (defScope s_is_again) := ⟨rfl, rfl, rfl, by decide +kernel, rfl, by decide +kernel, by decide +kernel⟩
abbrev s_is_expression : Stmt := top 8
abbrev N_is_expression : List Str := ["alphabet", "value", "word", "parts", "part"]
theorem sc_is_expression : FnScope N_is_expression ["alphabet", "value"] (defScope s_is_expression) := ⟨rfl, rfl, rfl, by decide +kernel, rfl, by decide +kernel, by decide +kernel⟩
abbrev s_parts_of : Stmt := top 9
abbrev N_parts_of : List Str := ["expression"]
theorem sc_parts_of : FnScope N_parts_of ["expression"] (defScope s_parts_of) := ⟨rfl, rfl, rfl, by decide +kernel, rfl, by decide +kernel, by decide +kernel⟩
abbrev s_count_tuples : Stmt := top 10
abbrev N_count_tuples : List Str := ["expression", "part"]
theorem sc_count_tuples : FnScope N_count_tuples ["expression"] (defScope s_count_tuples) := ⟨rfl, rfl, rfl, by decide +kernel, rfl, by decide +kernel, by decide +kernel⟩
abbrev s_width : Stmt := top 11
abbrev N_width : List Str := ["expression", "total", "part", "low", "high"]
theorem sc_width : FnScope N_width ["expression"] (defScope s_width) := ⟨rfl, rfl, rfl, by decide +kernel, rfl, by decide +kernel, by decide +kernel⟩
abbrev s_is_plain : Stmt := top 12
abbrev N_is_plain : List Str := ["expression", "part"]
theorem sc_is_plain : FnScope N_is_plain ["expression"] (defScope s_is_plain) := ⟨rfl, rfl, rfl, by decide +kernel, rfl, by decide +kernel, by decide +kernel⟩
abbrev s_has_plain_repeats : Stmt := top 13
abbrev N_has_plain_repeats : List Str := ["expression", "part"]
theorem sc_has_plain_repeats : FnScope N_has_plain_repeats ["expression"] (defScope s_has_plain_repeats) := ⟨rfl, rfl, rfl, by decide +kernel, rfl, by decide +kernel, by decide +kernel⟩
abbrev s_is_pattern : Stmt := top 14
abbrev N_is_pattern : List Str := ["alphabet", "value"]
theorem sc_is_pattern : FnScope N_is_pattern ["alphabet", "value"] (defScope s_is_pattern) := ⟨rfl, rfl, rfl, by decide +kernel, rfl, by decide +kernel, by decide +kernel⟩
section
variable {P : Program} {w : World} {K : Fg} {mg : Str → Option Value} {base : Heap} {f f2 : Addr} {fd fd2 : FuncData}
def D.top : D → Bool
  | .non | .bl _ | .int _ | .str _ | .tup _ | .lst _ => true
  | _ => false
theorem val_top {d : D} (h : val d = true) : D.top d = true := by cases d <;> first | rfl | (simp [val] at h)
def g_is_integer : FS0 := fun ds Q => ∃ d, ds = [d] ∧ D.top d = true ∧ Q (.fz (.bl (isInt d)))
theorem ok_is_integer (A : At K mg "is_integer" ["value"] s_is_integer f fd) (m_isinstance : mg "isinstance" = none) (m_int : mg "int" = none) (m_bool : mg "bool" = none) : Fn0 P w K mg base "is_integer" 1 1 g_is_integer := by
  refine A.fn0 (okD0 (k := 0) A.fn sc_is_integer (by decide) (fun cdv A outer s H E hr => (dss_one (ds_ret (de_and (de_isi (by rfl) m_isinstance (da_cons (de_v 0) (da_cons (de_ty (n := "int") (by rfl) m_int (by decide +kernel)) da_nil))) (de_one (de_not (de_isi (by rfl) m_isinstance (da_cons (de_v 0) (da_cons (de_ty (n := "bool") (by rfl) m_bool (by decide +kernel)) da_nil))))))))) ?_)
  rintro ds Q hl ⟨d, rfl, ht, q⟩
  cases d <;> first | (simp [D.top] at ht; done) | skip
  all_goals (walk_at "s"; exact q)
def g_is_set : FS0 := fun ds Q => ∃ A ps, ds = [.str A, .lst ps] ∧ A.length ≤ 1000 ∧ valL ps = true ∧ Q (.fz (.bl (isSetM A ps)))
theorem isSetM_2 (A : Str) (a b : D) (t : List D) : isSetM A (a :: b :: t) = false := by cases a <;> rfl
theorem ok_is_set (A : At K mg "is_set" ["alphabet", "parts"] s_is_set f fd) (m_isinstance : mg "isinstance" = none) (m_str : mg "str" = none) (m_len : mg "len" = none) : Fn0 P w K mg base "is_set" 1 2 g_is_set := by
  refine A.fn0 (okD0 (k := 0) A.fn sc_is_set (by decide) (fun cdv A outer s H E hr => (dss_cons (ds_if (DW.dt (dw_or (dt_ne hr (de_len (by rfl) m_len (da_cons (de_v 1) da_nil)) de_int) (dw_or1 (dt_not (dt_val (de_isi (by rfl) m_isinstance (da_cons (de_ix (de_v 1) de_int (fun _ _ => rfl)) (da_cons (de_ty (n := "str") (by rfl) m_str (by decide +kernel)) da_nil)))))))) (dss_one (ds_ret de_bl)) dss_nil)
      (dss_one (ds_ret (de_eq hr (de_ix (de_v 1) de_int (fun _ _ => rfl)) (de_join de_str (de_lc (own := [("character", 2)]) rfl sc_is_set.nd (di_seq (de_v 0)) (blkOk_by (N := N_is_set) (sc := defScope s_is_set) (own := [("character", 2)]) (by decide +kernel)) (fun _ _ _ _ _ => (dg_n 2 sc_is_set.nd rfl (by first | exact Or.inl rfl | exact Or.inr rfl))) (fun _ _ _ _ _ => (dts_one (dt_in (de_v 2) (de_ix (de_v 1) de_int (fun _ _ => rfl))))) (fun _ _ _ _ _ => (de_v 2))))))))) ?_)
  rintro ds Q hl ⟨A, ps, rfl, hA, hv, q⟩
  match ps, hv, q with
  | [], _, q => walk_at "s"; exact q
  | [d], hv, q =>
    rw [valL, valL, Bool.and_true] at hv
    cases d <;> first | (simp [val] at hv; done) | skip
    all_goals (walk_at "s")
    all_goals try exact q
    rename_i s
    refine lc_pure (φ := fun c => .str ⟨#[c]⟩) (b := fun c => decide (c ∈ s.cps.toList)) (f := fun c => .str ⟨#[c]⟩) rfl rfl A.cps.toList [] (fun c _ Q q => ⟨_, rfl, _, rfl, _, rfl, _, rfl, _, rfl, q⟩) (fun c _ _ Q q => ⟨_, rfl, q _ rfl⟩) (by rw [← len_l]; simpa using Nat.le_trans hA (by decide)) ?_
    refine ⟨_, joinD_signs _ ?_, _, rfl, ?_⟩
    · have := List.length_filter_le (fun c => decide (c ∈ s.cps.toList)) A.cps.toList
      rw [← len_l] at this
      omega
    · have e : isSetM A [.str s] = eqS s (ofL (A.cps.toList.filter fun c => decide (c ∈ s.cps.toList))) := by rw [eqS_eq]; rfl
      rw [e] at q
      exact q
  | a :: b :: t, _, q =>
    rw [isSetM_2] at q
    walk_at "s"
    first | exact q | skip
    all_goals refine ifT ?_ q
    all_goals show (!decide (((t.length + 1 + 1 : Nat) : Int) = 1)) = true
    all_goals rw [decide_eq_false (by omega)]
    all_goals rfl
def g_is_expression (n : Nat) : FS0 := fun ds Q => ∃ A d, ds = [.str A, d] ∧ A.length ≤ 1000 ∧ val d = true ∧ dep d < n ∧ Q (.fz (.bl (isExpr A d)))
def g_is_again (n : Nat) : FS0 := fun ds Q => ∃ A ps, ds = [.str A, .lst ps] ∧ A.length ≤ 1000 ∧ valL ps = true ∧ depL ps < n ∧ Q (.fz (.bl (againB ps (isExprM A ps))))
theorem againB_ne {ps : List D} {bs : List Bool} (h : ps.length ≠ 3) : againB ps bs = false := by
  match ps, h with
  | [], _ => rfl
  | [_], _ => rfl
  | [_, _], _ => rfl
  | [_, _, _], h => exact absurd rfl h
  | _ :: _ :: _ :: _ :: _, _ => rfl
theorem ok_is_again {n : Nat} (A : At K mg "is_again" ["alphabet", "parts"] s_is_again f fd) (m_len : mg "len" = none) (c_is_integer : Fn0 P w K mg base "is_integer" 1 1 g_is_integer) (c_MOST_REPEATS : Gc K mg "MOST_REPEATS" (.int 4))
    (c_is_expression : Fn0 P w K mg base "is_expression" (2 * n + 1) 2 (g_is_expression n)) : Fn0 P w K mg base "is_again" (2 * n + 2) 2 (g_is_again n) := by
  refine A.fn0 (okD0 (k := 2 * n + 1) A.fn sc_is_again (by decide) (fun cdv A outer s H E hr => (dss_cons (ds_if (DW.dt (dw_or (dt_ne hr (de_len (by rfl) m_len (da_cons (de_v 1) da_nil)) de_int) (dw_or1 (dt_not (dt_val (de_c0 c_is_expression (hr.mono (by omega)) (by rfl) (da_cons (de_v 0) (da_cons (de_ix (de_v 1) de_int (fun _ _ => rfl)) da_nil)))))))) (dss_one (ds_ret de_bl)) dss_nil)
      (dss_cons (ds_asg (de_sl (de_v 1) (do_some de_int) do_none) (dg_unl (n := 2) rfl (dgs_cons (dg_n 2 sc_is_again.nd rfl (by first | exact Or.inl rfl | exact Or.inr rfl)) (dgs_cons (dg_n 3 sc_is_again.nd rfl (by first | exact Or.inl rfl | exact Or.inr rfl)) dgs_nil))))
      (dss_cons (ds_if (DW.dt (dw_or (dt_not (dt_val (de_c0 c_is_integer (hr.mono (by omega)) (by rfl) (da_cons (de_v 2) da_nil)))) (dw_or1 (dt_not (dt_lele de_int (de_v 2) (de_g c_MOST_REPEATS (by rfl))))))) (dss_one (ds_ret de_bl)) dss_nil)
      (dss_one (ds_ret (de_or (de_is (de_v 3) de_non) (de_one (de_and (de_c0 c_is_integer (hr.mono (by omega)) (by rfl) (da_cons (de_v 3) da_nil)) (de_one (de_lele (de_v 2) (de_v 3) (de_g c_MOST_REPEATS (by rfl))))))))))))) ?_)
  rintro ds Q hl ⟨A, ps, rfl, hA, hv, hd, q⟩
  by_cases h3 : ps.length = 3
  · match ps, h3, hv, hd, q with
    | [p, lo, hi], _, hv, hd, q =>
      rw [valL, valL, valL, valL, Bool.and_eq_true, Bool.and_eq_true, Bool.and_true] at hv
      have hp : dep p < n := depL_mem hd p (by simp)
      walk_at "s"
      refine ⟨hA, hv.1, hp, _, rfl, ?_⟩
      have e : againB [p, lo, hi] (isExprM A [p, lo, hi]) = (isExpr A p && loB hi lo) := rfl
      rw [e] at q
      refine ifB (fun hE => ?_) (fun hE => ?_)
      · have hE' : isExpr A p = false := by simpa using hE
        rw [hE'] at q
        exact q
      · have hE' : isExpr A p = true := by simpa using hE
        rw [hE', Bool.true_and] at q
        walk_at "s"
        refine ⟨val_top hv.2.1, ?_⟩
        cases lo <;> first | (walk_at "s"; exact q) | skip
        rename_i l _
        walk_at "s"
        have e2 : loB hi (.int l) = (decide (0 ≤ l) && decide (l ≤ 4) && hiB l hi) := rfl
        rw [e2] at q
        refine ifB (fun h => ?_) (fun h => ?_)
        · rw [h, Bool.true_and] at q
          walk_at "s"
          refine ifB (fun h2 => ?_) (fun h2 => ?_)
          · have h2' : decide (l ≤ 4) = false := by simpa using h2
            rw [h2'] at q
            exact q
          · have h2' : decide (l ≤ 4) = true := by simpa using h2
            rw [h2', Bool.true_and] at q
            cases hi <;> first | (simp [val] at hv; done) | skip
            all_goals walk_at "s"
            all_goals try exact q
            rename_i hh _
            have e3 : hiB l (.int hh) = (decide (l ≤ hh) && decide (hh ≤ 4)) := rfl
            rw [e3] at q
            refine ifB (fun h4 => ?_) (fun h4 => ?_)
            · rw [h4, Bool.true_and] at q
              walk_at "s"
              exact q
            · rw [h4] at q
              exact q
        · rw [h] at q
          walk_at "s"
          exact q
  · rw [againB_ne h3] at q
    walk_at "s"
    refine ifT ?_ q
    show (!decide (((ps.length : Nat) : Int) = 3)) = true
    rw [decide_eq_false (by omega)]
    rfl
theorem exprB_eq (A : Str) (w : Str) (ps : List D) : isExpr A (.tup (.str w :: ps)) = exprB A w ps (ps.map (isExpr A)) := by rw [isExpr, isExprM_map]
theorem ok_is_expression_step {n : Nat} (A : At K mg "is_expression" ["alphabet", "value"] s_is_expression f fd) (m_len : mg "len" = none) (m_isinstance : mg "isinstance" = none) (m_tuple : mg "tuple" = none) (m_str : mg "str" = none) (m_all : mg "all" = none)
    (c_LISTED : Gc K mg "LISTED" (.tup [.str "row", .str "any", .str "all"])) (c_is_set : Fn0 P w K mg base "is_set" 1 2 g_is_set) (c_is_again : Fn0 P w K mg base "is_again" (2 * n + 2) 2 (g_is_again n))
    (c_is_expression : Fn0 P w K mg base "is_expression" (2 * n + 1) 2 (g_is_expression n)) : Fn0 P w K mg base "is_expression" (2 * (n + 1) + 1) 2 (g_is_expression (n + 1)) := by
  refine A.fn0 (okD0 (k := 2 * n + 2) A.fn sc_is_expression (by decide) (fun cdv A outer s H E hr => (dss_cons (ds_if (DW.dt (dw_or (dt_not (dt_val (de_isi (by rfl) m_isinstance (da_cons (de_v 1) (da_cons (de_ty (n := "tuple") (by rfl) m_tuple (by decide +kernel)) da_nil))))) (dw_or (dt_eq hr (de_len (by rfl) m_len (da_cons (de_v 1) da_nil)) de_int) (dw_or1 (dt_not (dt_val (de_isi (by rfl) m_isinstance (da_cons (de_ix (de_v 1) de_int (fun _ _ => rfl)) (da_cons (de_ty (n := "str") (by rfl) m_str (by decide +kernel)) da_nil))))))))) (dss_one (ds_ret de_bl)) dss_nil)
      (dss_cons (ds_asg (de_v 1) (dg_star (i := 1) rfl (dgs_cons (dg_n 2 sc_is_expression.nd rfl (by first | exact Or.inl rfl | exact Or.inr rfl)) (dgs_star (dg_n 3 sc_is_expression.nd rfl (by first | exact Or.inl rfl | exact Or.inr rfl))))))
      (dss_cons (ds_if (dt_eq hr (de_v 2) de_str) (dss_one (ds_ret (de_c0 c_is_set (hr.mono (by omega)) (by rfl) (da_cons (de_v 0) (da_cons (de_v 3) da_nil))))) dss_nil)
      (dss_cons (ds_if (dt_eq hr (de_v 2) de_str) (dss_one (ds_ret (de_c0 c_is_again (hr.mono (by omega)) (by rfl) (da_cons (de_v 0) (da_cons (de_v 3) da_nil))))) dss_nil)
      (dss_cons (ds_if (DW.dt (dw_or (DW.dt (dw_and (dt_eq hr (de_v 2) de_str) (dw_and1 (dt_ne hr (de_len (by rfl) m_len (da_cons (de_v 3) da_nil)) de_int)))) (dw_or1 (dt_notin (de_v 2) (de_add (de_g c_LISTED (by rfl)) (de_tup (da_cons de_str da_nil))))))) (dss_one (ds_ret de_bl)) dss_nil)
      (dss_one (ds_ret (de_all rfl (by rfl) m_all (da_cons (de_lc (own := [("part", 4)]) rfl sc_is_expression.nd (di_seq (de_v 3)) (blkOk_by (N := N_is_expression) (sc := defScope s_is_expression) (own := [("part", 4)]) (by decide +kernel)) (fun _ _ _ _ _ => (dg_n 4 sc_is_expression.nd rfl (by first | exact Or.inl rfl | exact Or.inr rfl))) (fun _ _ _ _ _ => dts_nil) (fun _ _ _ _ _ => (de_c0 c_is_expression (hr.mono (by omega)) (by rfl) (da_cons (de_v 0) (da_cons (de_v 4) da_nil))))) da_nil)))))))))) ?_)
  rintro ds Q hl ⟨A, d, rfl, hA, hv, hd, q⟩
  match d, hv, hd, q with
  | .non, _, _, q => walk_at "s"; exact q
  | .bl _, _, _, q => walk_at "s"; exact q
  | .int _, _, _, q => walk_at "s"; exact q
  | .str _, _, _, q => walk_at "s"; exact q
  | .lst _, _, _, q => walk_at "s"; exact q
  | .tup [], _, _, q => walk_at "s"; exact q
  | .tup (x :: ps), hv, hd, q =>
    rw [val, valL, Bool.and_eq_true, Bool.and_eq_true] at hv
    have hlen : ps.length + 1 ≤ 10000 := by simpa using of_decide_eq_true hv.1
    have h0 : eqB (.int (((x :: ps).length : Nat) : Int)) (.int 0) = false := by
      show decide (((ps.length + 1 : Nat) : Int) = 0) = false
      exact decide_eq_false (by omega)
    cases x <;> first | (simp [val] at hv; done) | skip
    all_goals walk_at "s"
    all_goals try refine ifF h0 ?_
    all_goals walk_at "s"
    all_goals try exact q
    rename_i w
    rw [exprB_eq] at q
    have hdp : depL ps < n := by
      rw [dep, depL] at hd
      omega
    have hvp : valL ps = true := hv.2.2
    refine ⟨[.str w], ps, .inl rfl, rfl, by show ps.length + 1 ≤ 16000; omega, ?_⟩
    walk_at "s"
    refine ifd (eqS_eq w "set") (fun h1 => ?_) (fun h1 => ?_)
    · unfold exprB at q
      rw [if_pos h1] at q
      walk_at "s"
      exact ⟨hA, hvp, q⟩
    unfold exprB at q
    rw [if_neg h1] at q
    walk_at "s"
    refine ifd (eqS_eq w "again") (fun h2 => ?_) (fun h2 => ?_)
    · rw [if_pos h2] at q
      walk_at "s"
      exact ⟨hA, hvp, hdp, by rw [isExprM_map]; exact q⟩
    rw [if_neg h2] at q
    walk_at "s"
    have hin : (([.str "row", .str "any", .str "all", .str "not"] : List D).any fun b => eqB b (.str w)) = decide (w = "row" ∨ w = "any" ∨ w = "all" ∨ w = "not") := by
      show (eqS "row" w || (eqS "any" w || (eqS "all" w || (eqS "not" w || false)))) = _
      rw [eqS_eq', eqS_eq', eqS_eq', eqS_eq', Bool.or_false]
      simp only [Bool.decide_or]
    have fin : ∀ {ρ : Ev} {Q' : Res → Ev → Prop}, ρ = [some (.fz (.str A)), some (.fz (.tup (.str w :: ps))), some (.fz (.str w)), some (.fz (.lst ps)), none] → (∀ ρ, Q' (.fz (.bl ((ps.map (isExpr A)).all id))) ρ) →
        (tCallG allD (tACons (tLcD (tSeqI (tV 3)) (gN 4) tYesD (tCall0 (g_is_expression n) (tACons (tV 0) (tACons (tV 4) tANil))) [4]) tANil)) ρ Q' := by
      intro ρ Q' hρ q'
      subst hρ
      walk_at "s"
      refine lc_mapD (f := fun d => .bl (isExpr A d)) ps rfl rfl (fun d hd' Q2 q2 => ⟨_, rfl, _, rfl, A, d, rfl, hA, valL_mem hvp d hd', depL_mem hdp d hd', q2 _ rfl⟩) (by omega) ?_
      exact ⟨_, all_map _ _, q' _⟩
    refine ifd (eqS_eq w "not") (fun h3 => ?_) (fun h3 => ?_)
    · walk_at "s"
      refine ifB (fun h4 => ?_) (fun h4 => ?_)
      · have h4' : ps.length ≠ 1 := by
          intro z
          have h5 : (!decide (((ps.length : Nat) : Int) = 1)) = true := h4
          rw [decide_eq_true (by omega)] at h5
          cases h5
        rw [if_pos (.inl ⟨h3, h4'⟩)] at q
        exact q
      · have h4' : ps.length = 1 := by
          have h5 : (!decide (((ps.length : Nat) : Int) = 1)) = false := h4
          have h6 : ((ps.length : Nat) : Int) = 1 := by simpa using h5
          omega
        rw [if_neg (by rintro (⟨_, z⟩ | z); exact z h4'; exact z (.inr (.inr (.inr h3))))] at q
        walk_at "s"
        refine ifF (by show (!(([.str "row", .str "any", .str "all", .str "not"] : List D).any fun b => eqB b (.str w))) = false; rw [hin, decide_eq_true (.inr (.inr (.inr h3)))]; rfl) ?_
        exact fin rfl fun _ => q
    · walk_at "s"
      refine ifB (fun h4 => ?_) (fun h4 => ?_)
      · have h4' : ¬ (w = "row" ∨ w = "any" ∨ w = "all" ∨ w = "not") := by
          have h5 : (!(([.str "row", .str "any", .str "all", .str "not"] : List D).any fun b => eqB b (.str w))) = true := h4
          rw [hin] at h5
          simpa only [Bool.not_eq_true', decide_eq_false_iff_not] using h5
        rw [if_pos (.inr h4')] at q
        exact q
      · have h4' : (w = "row" ∨ w = "any" ∨ w = "all" ∨ w = "not") := by
          have h5 : (!(([.str "row", .str "any", .str "all", .str "not"] : List D).any fun b => eqB b (.str w))) = false := h4
          rw [hin] at h5
          simpa only [Bool.not_eq_false', decide_eq_true_eq] using h5
        rw [if_neg (by rintro (⟨z, _⟩ | z); exact h3 z; exact z h4')] at q
        exact fin rfl fun _ => q
theorem ok_is_expression (A : At K mg "is_expression" ["alphabet", "value"] s_is_expression f fd) (A2 : At K mg "is_again" ["alphabet", "parts"] s_is_again f2 fd2) (m_len : mg "len" = none) (m_isinstance : mg "isinstance" = none) (m_tuple : mg "tuple" = none) (m_str : mg "str" = none) (m_all : mg "all" = none)
    (c_LISTED : Gc K mg "LISTED" (.tup [.str "row", .str "any", .str "all"])) (c_MOST_REPEATS : Gc K mg "MOST_REPEATS" (.int 4)) (c_is_set : Fn0 P w K mg base "is_set" 1 2 g_is_set) (c_is_integer : Fn0 P w K mg base "is_integer" 1 1 g_is_integer) :
    ∀ n, Fn0 P w K mg base "is_expression" (2 * n + 1) 2 (g_is_expression n)
  | 0 => A.none0 fun ds Q ⟨_, _, _, _, _, h, _⟩ => absurd h (Nat.not_lt_zero _)
  | n + 1 => by
    have ih := ok_is_expression A A2 m_len m_isinstance m_tuple m_str m_all c_LISTED c_MOST_REPEATS c_is_set c_is_integer n
    exact ok_is_expression_step A m_len m_isinstance m_tuple m_str m_all c_LISTED c_is_set (ok_is_again A2 m_len c_is_integer c_MOST_REPEATS ih) ih
def g_parts_of : FS0 := fun ds Q => ∃ r, ds = [toD r] ∧ Q (.fz (.tup (toDL r.parts)))
theorem ok_parts_of (A : At K mg "parts_of" ["expression"] s_parts_of f fd) : Fn0 P w K mg base "parts_of" 1 1 g_parts_of := by
  refine A.fn0 (okD0 (k := 0) A.fn sc_parts_of (by decide) (fun cdv A outer s H E hr => (dss_cons (ds_if (dt_eq hr (de_ix (de_v 0) de_int (fun _ _ => rfl)) de_str) (dss_one (ds_ret (de_tup da_nil))) dss_nil)
      (dss_one (ds_ret (de_if (dt_eq hr (de_ix (de_v 0) de_int (fun _ _ => rfl)) de_str) (de_sl (de_v 0) (do_some de_int) (do_some de_int)) (de_sl (de_v 0) (do_some de_int) do_none)))))) ?_)
  rintro ds Q hl ⟨r, rfl, q⟩
  rw [toD_eq]
  walk_at "s"
  refine ifd (eqS_eq r.word "set") (fun h => ?_) (fun h => ?_)
  · cases r <;> first | (simp [Rx.word, k1, k4, k7, k10, k12] at h; done) | skip
    walk_at "s"
    exact q
  · walk_at "s"
    refine ifd (eqS_eq r.word "again") (fun h2 => ?_) (fun h2 => ?_)
    · cases r <;> first | (simp [Rx.word, k2, k5, k8, k11, k13] at h2; done) | skip
      walk_at "s"
      exact q
    · cases r <;> first | (simp [Rx.word] at h h2; done) | skip
      all_goals
        walk_at "s"
        rw [cutD_1]
        exact q
def g_count (n : Nat) : FS0 := fun ds Q => ∃ r, ds = [toD r] ∧ okR r = true ∧ rdep r < n ∧ Q (.fz (.int (cnt r)))
theorem ok_count (A : At K mg "count_tuples" ["expression"] s_count_tuples f fd) (m_sum : mg "sum" = none) (c_parts_of : Fn0 P w K mg base "parts_of" 1 1 g_parts_of) : ∀ n, Fn0 P w K mg base "count_tuples" (n + 1) 1 (g_count n)
  | 0 => A.none0 fun ds Q ⟨_, _, _, h, _⟩ => absurd h (Nat.not_lt_zero _)
  | n + 1 => by
    have c_count_tuples := ok_count A m_sum c_parts_of n
    refine A.fn0 (okD0 (k := n + 1) A.fn sc_count_tuples (by decide) (fun cdv A outer s H E hr => (dss_one (ds_ret (de_add de_int (de_sum rfl (by rfl) m_sum (da_cons (de_lc (own := [("part", 1)]) rfl sc_count_tuples.nd (di_seq (de_c0 c_parts_of (hr.mono (by omega)) (by rfl) (da_cons (de_v 0) da_nil))) (blkOk_by (N := N_count_tuples) (sc := defScope s_count_tuples) (own := [("part", 1)]) (by decide +kernel)) (fun _ _ _ _ _ => (dg_n 1 sc_count_tuples.nd rfl (by first | exact Or.inl rfl | exact Or.inr rfl))) (fun _ _ _ _ _ => dts_nil) (fun _ _ _ _ _ => (de_c0 c_count_tuples (hr.mono (by omega)) (by rfl) (da_cons (de_v 1) da_nil)))) da_nil)))))) ?_)
    rintro ds Q hl ⟨r, rfl, ho, hd, q⟩
    walk_at "s"
    rw [toDL_map]
    refine lc_map (φ := toD) (f := fun p => .int (cnt p)) r.parts rfl rfl (fun p hp Q2 q2 => ?_) (Nat.le_trans (okR_len ho) (by decide)) ?_
    · exact ⟨_, rfl, p, rfl, okR_parts ho p hp, rdep_parts hd (List.ne_nil_of_mem hp) p hp, q2 _ rfl⟩
    · refine ⟨_, sum_map _ _, _, rfl, ?_⟩
      rw [cnt_eq] at q
      exact q
def g_width (n : Nat) : FS0 := fun ds Q => ∃ r, ds = [toD r] ∧ okR r = true ∧ rdep r < n ∧ Q (.fz (.int (wd r)))
theorem wd_eq (r : Rx) (h : r.word ≠ "set") : wd r = mx1 (r.parts.map wd).sum * r.fac := by
  cases r with
  | set s => exact absurd rfl h
  | row ps => simp [wd, Rx.parts, wdL_map, Rx.fac]
  | any ps => simp [wd, Rx.parts, wdL_map, Rx.fac]
  | all ps => simp [wd, Rx.parts, wdL_map, Rx.fac]
  | no p => simp [wd, Rx.parts, Rx.fac]
  | again p lo hi => cases hi <;> simp [wd, Rx.parts, Rx.fac]
theorem ok_width (A : At K mg "width" ["expression"] s_width f fd) (m_sum : mg "sum" = none) (m_max : mg "max" = none) (c_parts_of : Fn0 P w K mg base "parts_of" 1 1 g_parts_of) : ∀ n, Fn0 P w K mg base "width" (n + 1) 1 (g_width n)
  | 0 => A.none0 fun ds Q ⟨_, _, _, h, _⟩ => absurd h (Nat.not_lt_zero _)
  | n + 1 => by
    have c_width := ok_width A m_sum m_max c_parts_of n
    refine A.fn0 (okD0 (k := n + 1) A.fn sc_width (by decide) (fun cdv A outer s H E hr => (dss_cons (ds_if (dt_eq hr (de_ix (de_v 0) de_int (fun _ _ => rfl)) de_str) (dss_one (ds_ret de_int)) dss_nil)
      (dss_cons (ds_set 1 sc_width.nd rfl (by first | exact Or.inl rfl | exact Or.inr rfl) (de_max2 rfl (by rfl) m_max (da_cons de_int (da_cons (de_sum rfl (by rfl) m_sum (da_cons (de_lc (own := [("part", 2)]) rfl sc_width.nd (di_seq (de_c0 c_parts_of (hr.mono (by omega)) (by rfl) (da_cons (de_v 0) da_nil))) (blkOk_by (N := N_width) (sc := defScope s_width) (own := [("part", 2)]) (by decide +kernel)) (fun _ _ _ _ _ => (dg_n 2 sc_width.nd rfl (by first | exact Or.inl rfl | exact Or.inr rfl))) (fun _ _ _ _ _ => dts_nil) (fun _ _ _ _ _ => (de_c0 c_width (hr.mono (by omega)) (by rfl) (da_cons (de_v 2) da_nil)))) da_nil)) da_nil))))
      (dss_cons (ds_if (dt_ne hr (de_ix (de_v 0) de_int (fun _ _ => rfl)) de_str) (dss_one (ds_ret (de_v 1))) dss_nil)
      (dss_cons (ds_asg (de_sl (de_v 0) (do_some de_int) do_none) (dg_tup (n := 2) rfl (dgs_cons (dg_n 3 sc_width.nd rfl (by first | exact Or.inl rfl | exact Or.inr rfl)) (dgs_cons (dg_n 4 sc_width.nd rfl (by first | exact Or.inl rfl | exact Or.inr rfl)) dgs_nil))))
      (dss_one (ds_ret (de_mul (de_v 1) (de_if (dt_is (de_v 4) de_non) (de_add (de_v 3) de_int) (de_max2 rfl (by rfl) m_max (da_cons de_int (da_cons (de_v 4) da_nil)))))))))))) ?_)
    rintro ds Q hl ⟨r, rfl, ho, hd, q⟩
    have et := toD_eq r
    rw [et]
    walk_at "s"
    refine ifd (eqS_eq r.word "set") (fun h => ?_) (fun h => ?_)
    · cases r <;> first | (simp [Rx.word, k1, k4, k7, k10, k12] at h; done) | skip
      walk_at "s"
      rw [wd] at q
      exact q
    · walk_at "s"
      refine ⟨r, by rw [et]; rfl, ?_⟩
      rw [toDL_map]
      walk_at "s"
      refine lc_map (φ := toD) (f := fun p => .int (wd p)) r.parts rfl rfl (fun p hp Q2 q2 => ?_) (Nat.le_trans (okR_len ho) (by decide)) ?_
      · exact ⟨_, rfl, p, rfl, okR_parts ho p hp, rdep_parts hd (List.ne_nil_of_mem hp) p hp, q2 _ rfl⟩
      · refine ⟨_, sum_map _ _, ?_⟩
        rw [wd_eq r h] at q
        walk_at "s"
        refine ifB (fun h2 => ?_) (fun h2 => ?_)
        · have h2' : r.word ≠ "again" := by
            have h3 : (!eqS r.word "again") = true := h2
            rw [eqS_eq] at h3
            simpa using h3
          have hf : r.fac = 1 := by cases r <;> first | rfl | (simp [Rx.word] at h2')
          rw [hf, Int.mul_one] at q
          walk_at "s"
          exact q
        · have h2' : r.word = "again" := by
            have h3 : (!eqS r.word "again") = false := h2
            rw [eqS_eq] at h3
            simpa using h3
          cases r <;> first | (simp [Rx.word, k2, k5, k8, k11, k13] at h2'; done) | skip
          rename_i p lo hi
          rw [okR, Bool.and_eq_true, Bool.and_eq_true, Bool.and_eq_true] at ho
          have l1 := of_decide_eq_true ho.1.1.2
          have l2 := of_decide_eq_true ho.1.2
          have key : ∀ (x y : Int), 0 ≤ y → y ≤ 5 → mulD (.int x) (.int y) = some (.fz (.int (x * y))) := by
            intro x y h1 h2
            show (if _ then _ else _) = _
            rw [if_pos (decide_eq_true (.inr ⟨by omega, by omega⟩))]
          cases hi with
          | none =>
            walk_at "s"
            exact ⟨_, key _ _ (by omega) (by omega), q⟩
          | some hh =>
            have hk := ho.2
            rw [hiOk, Bool.and_eq_true] at hk
            have l3 := of_decide_eq_true hk.2
            walk_at "s"
            exact ⟨_, key _ _ (by show 0 ≤ mx1 hh; unfold mx1; split <;> omega) (by show mx1 hh ≤ 5; unfold mx1; split <;> omega), q⟩
def g_is_plain (n : Nat) : FS0 := fun ds Q => ∃ r, ds = [toD r] ∧ okR r = true ∧ rdep r < n ∧ Q (.fz (.bl (plain r)))
theorem ok_is_plain (A : At K mg "is_plain" ["expression"] s_is_plain f fd) (m_all : mg "all" = none) (c_parts_of : Fn0 P w K mg base "parts_of" 1 1 g_parts_of) : ∀ n, Fn0 P w K mg base "is_plain" (n + 1) 1 (g_is_plain n)
  | 0 => A.none0 fun ds Q ⟨_, _, _, h, _⟩ => absurd h (Nat.not_lt_zero _)
  | n + 1 => by
    have c_is_plain := ok_is_plain A m_all c_parts_of n
    refine A.fn0 (okD0 (k := n + 1) A.fn sc_is_plain (by decide) (fun cdv A outer s H E hr => (dss_one (ds_ret (de_and (de_notin (de_ix (de_v 0) de_int (fun _ _ => rfl)) (de_tup (da_cons de_str (da_cons de_str da_nil)))) (de_one (de_all rfl (by rfl) m_all (da_cons (de_lc (own := [("part", 1)]) rfl sc_is_plain.nd (di_seq (de_c0 c_parts_of (hr.mono (by omega)) (by rfl) (da_cons (de_v 0) da_nil))) (blkOk_by (N := N_is_plain) (sc := defScope s_is_plain) (own := [("part", 1)]) (by decide +kernel)) (fun _ _ _ _ _ => (dg_n 1 sc_is_plain.nd rfl (by first | exact Or.inl rfl | exact Or.inr rfl))) (fun _ _ _ _ _ => dts_nil) (fun _ _ _ _ _ => (de_c0 c_is_plain (hr.mono (by omega)) (by rfl) (da_cons (de_v 1) da_nil)))) da_nil))))))) ?_)
    rintro ds Q hl ⟨r, rfl, ho, hd, q⟩
    have et := toD_eq r
    rw [et]
    walk_at "s"
    have hin : (([.str "all", .str "not"] : List D).any fun b => eqB b (.str r.word)) = (decide (r.word = "all") || decide (r.word = "not")) := by
      show (eqS "all" r.word || (eqS "not" r.word || false)) = _
      rw [eqS_eq', eqS_eq', Bool.or_false]
    rw [plain_eq, ← hin] at q
    refine ifB (fun h => ?_) (fun h => ?_)
    · have h' : (!(([.str "all", .str "not"] : List D).any fun b => eqB b (.str r.word))) = true := h
      rw [h', Bool.true_and] at q
      walk_at "s"
      refine ⟨r, by rw [et]; rfl, ?_⟩
      walk_at "s"
      rw [toDL_map]
      refine lc_map (φ := toD) (f := fun p => .bl (plain p)) r.parts rfl rfl (fun p hp Q2 q2 => ?_) (Nat.le_trans (okR_len ho) (by decide)) ?_
      · exact ⟨_, rfl, p, rfl, okR_parts ho p hp, rdep_parts hd (List.ne_nil_of_mem hp) p hp, q2 _ rfl⟩
      · exact ⟨_, all_map _ _, q⟩
    · have h' : (!(([.str "all", .str "not"] : List D).any fun b => eqB b (.str r.word))) = false := h
      rw [h', Bool.false_and] at q
      exact q
def g_hasP (n : Nat) : FS0 := fun ds Q => ∃ r, ds = [toD r] ∧ okR r = true ∧ rdep r < n ∧ Q (.fz (.bl (hasP r)))
theorem ok_hasP {m : Nat} (A : At K mg "has_plain_repeats" ["expression"] s_has_plain_repeats f fd) (m_all : mg "all" = none) (c_parts_of : Fn0 P w K mg base "parts_of" 1 1 g_parts_of) (c_is_plain : Fn0 P w K mg base "is_plain" (m + 1) 1 (g_is_plain m)) : ∀ n, n ≤ m → Fn0 P w K mg base "has_plain_repeats" (m + n + 2) 1 (g_hasP n)
  | 0, _ => A.none0 fun ds Q ⟨_, _, _, h, _⟩ => absurd h (Nat.not_lt_zero _)
  | n + 1, hn => by
    have c_has_plain_repeats := ok_hasP A m_all c_parts_of c_is_plain n (by omega)
    refine A.fn0 (okD0 (k := m + n + 2) A.fn sc_has_plain_repeats (by decide) (fun cdv A outer s H E hr => (dss_cons (ds_if (dt_in (de_ix (de_v 0) de_int (fun _ _ => rfl)) (de_tup (da_cons de_str (da_cons de_str da_nil)))) (dss_one (ds_ret (de_c0 c_is_plain (hr.mono (by omega)) (by rfl) (da_cons (de_v 0) da_nil)))) dss_nil)
      (dss_one (ds_ret (de_all rfl (by rfl) m_all (da_cons (de_lc (own := [("part", 1)]) rfl sc_has_plain_repeats.nd (di_seq (de_c0 c_parts_of (hr.mono (by omega)) (by rfl) (da_cons (de_v 0) da_nil))) (blkOk_by (N := N_has_plain_repeats) (sc := defScope s_has_plain_repeats) (own := [("part", 1)]) (by decide +kernel)) (fun _ _ _ _ _ => (dg_n 1 sc_has_plain_repeats.nd rfl (by first | exact Or.inl rfl | exact Or.inr rfl))) (fun _ _ _ _ _ => dts_nil) (fun _ _ _ _ _ => (de_c0 c_has_plain_repeats (hr.mono (by omega)) (by rfl) (da_cons (de_v 1) da_nil)))) da_nil)))))) ?_)
    rintro ds Q hl ⟨r, rfl, ho, hd, q⟩
    have et := toD_eq r
    rw [et]
    walk_at "s"
    have hin : (([.str "row", .str "again"] : List D).any fun b => eqB b (.str r.word)) = decide (r.word = "row" ∨ r.word = "again") := by
      show (eqS "row" r.word || (eqS "again" r.word || false)) = _
      rw [eqS_eq', eqS_eq', Bool.or_false]
      simp only [Bool.decide_or]
    rw [hasP_eq] at q
    refine ifd hin (fun h => ?_) (fun h => ?_)
    · rw [if_pos h] at q
      walk_at "s"
      exact ⟨r, by rw [et]; rfl, ho, by omega, q⟩
    · rw [if_neg h] at q
      walk_at "s"
      refine ⟨r, by rw [et]; rfl, ?_⟩
      walk_at "s"
      rw [toDL_map]
      refine lc_map (φ := toD) (f := fun p => .bl (hasP p)) r.parts rfl rfl (fun p hp Q2 q2 => ?_) (Nat.le_trans (okR_len ho) (by decide)) ?_
      · exact ⟨_, rfl, p, rfl, okR_parts ho p hp, rdep_parts hd (List.ne_nil_of_mem hp) p hp, q2 _ rfl⟩
      · exact ⟨_, all_map _ _, q⟩
def g_is_pattern : FS0 := fun ds Q => ∃ A d, ds = [.str A, d] ∧ A.length ≤ 1000 ∧ val d = true ∧ dep d < 60 ∧ (isExpr A d = false → Q (.fz (.bl false))) ∧ (∀ r, d = toD r → okR r = true → isExpr A d = true → Q (.fz (.bl (patR r))))
theorem ok_is_pattern (A : At K mg "is_pattern" ["alphabet", "value"] s_is_pattern f fd) (c_is_expression : Fn0 P w K mg base "is_expression" 121 2 (g_is_expression 60)) (c_has_plain_repeats : Fn0 P w K mg base "has_plain_repeats" 122 1 (g_hasP 60))
    (c_count_tuples : Fn0 P w K mg base "count_tuples" 61 1 (g_count 60)) (c_width : Fn0 P w K mg base "width" 61 1 (g_width 60)) (c_MOST_TUPLES : Gc K mg "MOST_TUPLES" (.int 20)) (c_MOST_WIDTH : Gc K mg "MOST_WIDTH" (.int 10)) : Fn0 P w K mg base "is_pattern" 123 2 g_is_pattern := by
  refine A.fn0 (okD0 (k := 122) A.fn sc_is_pattern (by decide) (fun cdv A outer s H E hr => (dss_cons (ds_if (DW.dt (dw_or (dt_not (dt_val (de_c0 c_is_expression (hr.mono (by decide)) (by rfl) (da_cons (de_v 0) (da_cons (de_v 1) da_nil))))) (dw_or1 (dt_not (dt_val (de_c0 c_has_plain_repeats (hr.mono (by decide)) (by rfl) (da_cons (de_v 1) da_nil))))))) (dss_one (ds_ret de_bl)) dss_nil)
      (dss_one (ds_ret (de_and (de_le (de_c0 c_count_tuples (hr.mono (by decide)) (by rfl) (da_cons (de_v 1) da_nil)) (de_g c_MOST_TUPLES (by rfl))) (de_one (de_le (de_c0 c_width (hr.mono (by decide)) (by rfl) (da_cons (de_v 1) da_nil)) (de_g c_MOST_WIDTH (by rfl))))))))) ?_)
  rintro ds Q hl ⟨A, d, rfl, hA, hv, hd, q1, q2⟩
  walk_at "s"
  refine ⟨hA, hv, hd, _, rfl, ?_⟩
  refine ifB (fun h => ?_) (fun h => ?_)
  · exact q1 (by simpa using h)
  have hE : isExpr A d = true := by simpa using h
  obtain ⟨r, e, o, dd⟩ := ofExpr A d hv hE
  have q := q2 r e o hE
  subst e
  have hrd : rdep r < 60 := by omega
  walk_at "s"
  refine ⟨o, hrd, _, rfl, ?_⟩
  unfold patR at q
  refine ifB (fun h2 => ?_) (fun h2 => ?_)
  · have h2' : hasP r = false := by simpa using h2
    rw [h2', Bool.false_and] at q
    exact q
  have h2' : hasP r = true := by simpa using h2
  rw [h2', Bool.true_and] at q
  walk_at "s"
  refine ⟨o, hrd, _, rfl, _, rfl, ?_⟩
  refine ifB (fun h3 => ?_) (fun h3 => ?_)
  · rw [show decide (cnt r ≤ 20) = true from h3, Bool.true_and] at q
    walk_at "s"
    exact ⟨o, hrd, _, rfl, q⟩
  · rw [show decide (cnt r ≤ 20) = false from h3, Bool.false_and] at q
    exact q
end
end Cut
namespace Cut
open PySem L2 DL
local macro_rules | `(tactic| walk_at "s") => `(tactic| repeat (first | with_reducible refine ⟨_, rfl, ?_⟩ | refine ⟨_, rfl, ?_⟩ | refine ⟨rfl, ?_⟩ | refine ⟨_, _, rfl, rfl, ?_⟩ | refine ⟨_, _, rfl, ?_⟩ | refine iteT ?_ | refine iteF ?_ | refine ⟨⟨_, rfl⟩, ?_⟩ | refine ⟨⟨_, _, rfl⟩, ?_⟩ | refine ⟨_, _, _, _, rfl, rfl, rfl, ?_⟩ | refine ⟨Nat.le_of_ble_eq_true rfl, ?_⟩ | refine ⟨(by decide), ?_⟩ | refine ⟨_, ix_t0 _ _, ?_⟩ | refine ⟨_, ix_l0 _ _, ?_⟩))
abbrev s_l_source : Stmt := top 16
abbrev N_l_source : List Str := ["_law_script", "_law_k", "_law_cell", "_law_deep"]
theorem sc_l_source : FnScope N_l_source ["_law_script", "_law_k"] (defScope s_l_source) := ⟨rfl, rfl, rfl, by decide +kernel, rfl, by decide +kernel, by decide +kernel⟩
abbrev s_l_draw : Stmt := top 17
abbrev N_l_draw : List Str := ["_law_source_here", "_law_many", "_law_digit", "_law_seed"]
theorem sc_l_draw : FnScope N_l_draw ["_law_source_here", "_law_many"] (defScope s_l_draw) := ⟨rfl, rfl, rfl, by decide +kernel, rfl, by decide +kernel, by decide +kernel⟩
abbrev s_l_alphabet : Stmt := top 18
abbrev N_l_alphabet : List Str := ["_law_source_here", "_law_many", "_law_left", "_law_k"]
theorem sc_l_alphabet : FnScope N_l_alphabet ["_law_source_here", "_law_many"] (defScope s_l_alphabet) := ⟨rfl, rfl, rfl, by decide +kernel, rfl, by decide +kernel, by decide +kernel⟩
abbrev s_l_set : Stmt := top 19
abbrev N_l_set : List Str := ["_law_source_here", "_law_alphabet_here", "_law_many", "_law_taken", "_law_k", "_law_at"]
theorem sc_l_set : FnScope N_l_set ["_law_source_here", "_law_alphabet_here"] (defScope s_l_set) := ⟨rfl, rfl, rfl, by decide +kernel, rfl, by decide +kernel, by decide +kernel⟩
abbrev s_l_row : Stmt := top 20
abbrev N_l_row : List Str := ["_law_source_here", "_law_alphabet_here", "_law_many", "_law_k"]
theorem sc_l_row : FnScope N_l_row ["_law_source_here", "_law_alphabet_here", "_law_many"] (defScope s_l_row) := ⟨rfl, rfl, rfl, by decide +kernel, rfl, by decide +kernel, by decide +kernel⟩
section
variable {P : Program} {w : World} {K : Fg} {mg : Str → Option Value} {base : Heap} {f f2 : Addr} {fd fd2 : FuncData}
/-- a source of draws, after at most c draws -/
def Src (c : Nat) (xs : List D) : Prop := ∃ a b n : Int, xs = [.int a, .int b, .int n] ∧ 0 ≤ b ∧ b ≤ 2 ^ 50 ∧ 0 ≤ n ∧ n ≤ c
theorem Src.mono {c c' : Nat} {xs : List D} (h : Src c xs) (hc : c ≤ c') : Src c' xs := let ⟨a, b, n, h1, h2, h3, h4, h5⟩ := h; ⟨a, b, n, h1, h2, h3, h4, by omega⟩
def g_source : FS0 := fun ds Q => ∃ (ns : List Int) (k : Int), ds = [.scr ns, .int k] ∧ 0 ≤ k ∧ k ≤ 1000000 ∧ ∀ xs, Src 0 xs → Q (.fr xs)
theorem ok_source (A : At K mg "_law_source" ["_law_script", "_law_k"] s_l_source f fd) (m_len : mg "len" = none) : Fn0 P w K mg base "_law_source" 1 2 g_source := by
  refine A.fn0 (okD0 (k := 0) A.fn sc_l_source (by decide) (fun cdv A outer s H E hr => (dss_cons (ds_set 2 sc_l_source.nd rfl (by first | exact Or.inl rfl | exact Or.inr rfl) de_int)
      (dss_cons (ds_set 3 sc_l_source.nd rfl (by first | exact Or.inl rfl | exact Or.inr rfl) de_int)
      (dss_cons (ds_if (dt_gt (de_len (by rfl) m_len (da_cons (de_v 0) da_nil)) de_int) (dss_one (ds_set 2 sc_l_source.nd rfl (by first | exact Or.inl rfl | exact Or.inr rfl) (de_ix (de_v 0) (de_mod (de_v 1) (de_len (by rfl) m_len (da_cons (de_v 0) da_nil))) (fun _ _ => rfl)))) dss_nil)
      (dss_cons (ds_if (DW.dt (dw_and (dt_lt (de_v 1) (de_len (by rfl) m_len (da_cons (de_v 0) da_nil))) (dw_and1 (dt_ge (de_v 2) (de_pow de_int de_int))))) (dss_one (ds_set 3 sc_l_source.nd rfl (by first | exact Or.inl rfl | exact Or.inr rfl) (de_v 2))) dss_nil)
      (dss_one (ds_ret (de_lst (da_cons (de_v 3) (da_cons (de_add (de_add (de_mod (de_v 2) de_int) (de_mul de_int (de_v 1))) de_int) (da_cons de_int da_nil))))))))))) ?_)
  rintro ds Q hl ⟨ns, k, rfl, hk, hk2, q⟩
  have fin : ∀ (a c : Int), (tRetD (tLstD (tACons (tV 3) (tACons (tBin addD (tBin addD (tBin modD (tV 2) (tK (.int 2147483647))) (tBin mulD (tK (.int 7919000)) (tV 1))) (tK (.int 104729))) (tACons (tK (.int 0)) tANil))))) { nx := fun _ => Q (.fz .non), rt := fun r _ => Q r } [some (.fz (.scr ns)), some (.fz (.int k)), some (.fz (.int c)), some (.fz (.int a))] := by
    intro a c
    walk_at "s"
    refine q _ ⟨a, c % 2147483647 + 7919000 * k + 104729, 0, rfl, ?_, ?_, by decide, by decide⟩
    · have := Int.emod_nonneg c (b := 2147483647) (by decide)
      omega
    · have := Int.emod_lt_of_pos c (b := 2147483647) (by decide)
      omega
  have mid : ∀ c : Int, (tSeqD (tIfD (tAndT (tT (tBin ltD (tV 1) (tCallG lenD (tACons (tV 0) tANil)))) (tT (tBin geD (tV 2) (tBin powD (tK (.int 10)) (tK (.int 18)))))) (tSetD 3 (tV 2)) tNextD)
      (tRetD (tLstD (tACons (tV 3) (tACons (tBin addD (tBin addD (tBin modD (tV 2) (tK (.int 2147483647))) (tBin mulD (tK (.int 7919000)) (tV 1))) (tK (.int 104729))) (tACons (tK (.int 0)) tANil)))))) { nx := fun _ => Q (.fz .non), rt := fun r _ => Q r } [some (.fz (.scr ns)), some (.fz (.int k)), some (.fz (.int c)), some (.fz (.int 0))] := by
    intro c
    walk_at "s"
    refine ifB (fun h => ?_) (fun h => ?_)
    · walk_at "s"
      refine ifB (fun h => ?_) (fun h => ?_)
      · exact ⟨_, rfl, rfl, fin c c⟩
      · exact fin 0 c
    · exact fin 0 c
  walk_at "s"
  refine ifB (fun h => ?_) (fun h => ?_)
  · have h1 : (0 : Int) < (ns.length : Int) := of_decide_eq_true h
    obtain ⟨x, hx, _⟩ := atI_ok (xs := ns) (Int.emod_nonneg k (by omega)) (Int.emod_lt_of_pos k h1)
    walk_at "s"
    refine ⟨_, mod_ok h1, .fz (.int x), by show (atI ns _).map _ = _; rw [hx]; rfl, rfl, mid x⟩
  · exact mid 0
def g_draw : FS1 := fun xs ds Q => ∃ (c : Nat) (m : Int), ds = [.int m] ∧ Src c xs ∧ c ≤ 2 ^ 40 ∧ 0 < m ∧ m ≤ 1000000 ∧ ∀ (i : Int) xs', 0 ≤ i → i < m → Src (c + 1) xs' → Q (.fz (.int i)) xs'
theorem ok_draw (A : At K mg "_law_draw" ["_law_source_here", "_law_many"] s_l_draw f fd) : Fn1 P w K mg base "_law_draw" 1 2 g_draw := by
  refine A.fn1 (okD1 (k := 0) A.fn sc_l_draw (by decide) (fun cdv A outer s H E hr => (dss_cons (ds_subO 0 (de_add (de_ixO 0 de_int (fun _ _ => rfl)) de_int) de_int)
      (dss_cons (ds_if (dt_gt (de_ixO 0 de_int (fun _ _ => rfl)) de_int) (dss_cons (ds_set 2 sc_l_draw.nd rfl (by first | exact Or.inl rfl | exact Or.inr rfl) (de_mod (de_ixO 0 de_int (fun _ _ => rfl)) (de_v 1)))
      (dss_cons (ds_subO 0 (de_fdiv (de_ixO 0 de_int (fun _ _ => rfl)) (de_v 1)) de_int)
      (dss_one (ds_ret (de_v 2))))) dss_nil)
      (dss_cons (ds_set 3 sc_l_draw.nd rfl (by first | exact Or.inl rfl | exact Or.inr rfl) (de_mod (de_pow (de_add (de_ixO 0 de_int (fun _ _ => rfl)) (de_mul de_int (de_ixO 0 de_int (fun _ _ => rfl)))) de_int) de_int))
      (dss_one (ds_ret (de_mod (de_fdiv (de_mod (de_mul (de_add (de_v 3) (de_ixO 0 de_int (fun _ _ => rfl))) de_int) de_int) de_int) (de_v 1)))))))) ?_)
  rintro xs ds Q hl ⟨c, m, rfl, ⟨a, b, n, rfl, b0, b1, n0, n1⟩, hc, m0, m1, q⟩
  walk_at "s"
  refine ifB (fun h => ?_) (fun h => ?_)
  · have h1 : 0 < a := of_decide_eq_true h
    walk_at "s"
    refine ⟨_, mod_ok m0, ?_⟩
    walk_at "s"
    refine ⟨_, fdiv_ok m0 (by omega), ?_⟩
    walk_at "s"
    exact q _ _ (Int.emod_nonneg a (by omega)) (Int.emod_lt_of_pos a m0) ⟨_, _, _, rfl, b0, b1, by omega, by omega⟩
  · walk_at "s"
    refine ⟨_, pow_ok (by decide) (by decide) (by omega), ?_⟩
    walk_at "s"
    refine ⟨_, mul_okR (by decide) (by decide), ?_⟩
    walk_at "s"
    refine ⟨_, mod_ok m0, ?_⟩
    walk_at "s"
    exact q _ _ (Int.emod_nonneg _ (by omega)) (Int.emod_lt_of_pos _ m0) ⟨_, _, _, rfl, b0, b1, by omega, by omega⟩
/-- the characters that alphabets are made of -/
def CH : List Nat := ((("abcdefghijklmnopqrstuvwxyz0123456789 -." : Str) ++ ("_" : Str))).cps.toList
theorem CH_eq : CH = [97, 98, 99, 100, 101, 102, 103, 104, 105, 106, 107, 108, 109, 110, 111, 112, 113, 114, 115, 116, 117, 118, 119, 120, 121, 122, 48, 49, 50, 51, 52, 53, 54, 55, 56, 57, 32, 45, 46, 95] := by decide +kernel
/-- an alphabet -/
structure Alp (A : Str) : Prop where
  lo : 1 ≤ A.length
  hi : A.length ≤ 6
  nd : A.cps.toList.Nodup
  ch : ∀ c ∈ A.cps.toList, c ∈ CH
def sgn (c : Nat) : D := .str ⟨#[c]⟩
def g_alphabet : FS1 := fun xs ds Q => ∃ (c : Nat) (m : Int), ds = [.int m] ∧ Src c xs ∧ c + 6 ≤ 2 ^ 40 ∧ 1 ≤ m ∧ m ≤ 6 ∧ ∀ A xs', Alp A → A.length = m.toNat → Src (c + 6) xs' → Q (.fz (.str A)) xs'
theorem rangeD_map (lo : Int) (n : Nat) : rangeD lo n = (List.range n).map fun (i : Nat) => D.int (lo + i) := rfl
theorem map_erase {α β : Type} (f : α → β) : ∀ (l : List α) (i : Nat), (l.map f).eraseIdx i = (l.eraseIdx i).map f
  | [], _ => rfl
  | _ :: _, 0 => rfl
  | a :: l, i + 1 => by
    show f a :: (l.map f).eraseIdx i = f a :: (l.eraseIdx i).map f
    rw [map_erase f l i]
theorem nd_erase {l : List Nat} (h : l.Nodup) {i : Nat} (hi : i < l.length) : l[i] ∉ l.eraseIdx i := by
  induction l generalizing i with
  | nil => exact absurd hi (Nat.not_lt_zero _)
  | cons a l ih =>
    rw [List.nodup_cons] at h
    cases i with
    | zero => exact h.1
    | succ i =>
      have hi' : i < l.length := by simpa using hi
      intro z
      have z' : l[i] ∈ a :: l.eraseIdx i := z
      rcases List.mem_cons.mp z' with e | e
      · exact h.1 (e ▸ List.getElem_mem (by simpa using hi))
      · exact ih h.2 (by simpa using hi) e
/-- the turns of the comprehension: characters are taken out of those left -/
theorem alpha_turns {Q : List D → Ev → Prop} {m : Int} : ∀ (n : Nat) (is : List Nat) (c : Nat) (xs : List D) (left acc : List Nat), is.length = n → Src c xs → c + n ≤ 2 ^ 40 → left.length ≥ n → left.length ≤ 1000 → acc.length + n ≤ 1000 → (∀ x ∈ left, x ∉ acc) → left.Nodup → acc.Nodup → (∀ x ∈ left, x ∈ CH) → (∀ x ∈ acc, x ∈ CH) →
    (∀ (acc' : List Nat) (xs' left' : List D), acc'.length = acc.length + n → acc'.Nodup → (∀ x ∈ acc', x ∈ CH) → Src (c + n) xs' → Q (acc'.map sgn) [some (.ow true xs'), some (.fz (.int m)), some (.ow false left'), none]) →
    lcD [3] (gN 3) tYesD (tPopO 2 (tACons (tCall1 g_draw 0 (tACons (tLenO 2) tANil)) tANil)) (is.map fun (i : Nat) => D.int (0 + i)) [some (.ow true xs), some (.fz (.int m)), some (.ow false (left.map sgn)), none] (acc.map sgn) Q
  | 0, [], c, xs, left, acc, _, hS, _, _, _, _, _, _, hn, _, hac, q => q acc xs _ rfl hn hac hS
  | n + 1, i :: is, c, xs, left, acc, hl, hS, hc, hll, hlm, ham, hdis, hnl, hna, hlc, hac, q => by
    refine ⟨rfl, ⟨_, _, rfl⟩, ⟨_, _, rfl⟩, _, _, rfl, _, _, rfl, c, _, rfl, hS, by omega, by rw [List.length_map]; omega, by rw [List.length_map]; omega, fun j xs' j0 j1 hS' => ?_⟩
    rw [List.length_map] at j1
    have hj : j.toNat < left.length := by omega
    refine ⟨_, _, _, j.toNat, sgn (left[j.toNat]), rfl, rfl, ⟨by omega, by omega⟩, ?_, ?_, by rw [List.length_map]; omega, ?_⟩
    · show seqIndex? j (left.map sgn).length = _
      rw [List.length_map]
      unfold seqIndex?
      simp
      omega
    · rw [List.getElem?_map, List.getElem?_eq_getElem hj]
      rfl
    · have e1 : (left.map sgn).eraseIdx j.toNat = (left.eraseIdx j.toNat).map sgn := map_erase ..
      have e2 : acc.map sgn ++ [sgn left[j.toNat]] = (acc ++ [left[j.toNat]]).map sgn := by rw [List.map_append]; rfl
      show lcD _ _ _ _ _ [some (.ow true xs'), some (.fz (.int m)), some (.ow false ((left.map sgn).eraseIdx j.toNat)), none] (acc.map sgn ++ [sgn left[j.toNat]]) Q
      rw [e1, e2]
      have hsub : ∀ x ∈ left.eraseIdx j.toNat, x ∈ left := fun x hx => List.mem_of_mem_eraseIdx hx
      have hne : ∀ x ∈ left.eraseIdx j.toNat, x ≠ left[j.toNat] := fun x hx e => nd_erase hnl hj (e ▸ hx)
      refine alpha_turns n is (c + 1) xs' (left.eraseIdx j.toNat) (acc ++ [left[j.toNat]]) (by simpa using hl) hS' (by omega) (by rw [List.length_eraseIdx_of_lt hj]; omega) (by rw [List.length_eraseIdx_of_lt hj]; omega) (by simp; omega) (fun x hx hm => ?_) (hnl.sublist (List.eraseIdx_sublist ..)) ?_ (fun x hx => hlc x (hsub x hx)) ?_ (fun acc' xs2 left' h1 h2 h3 h4 => q acc' xs2 left' (by rw [h1]; simp; omega) h2 h3 (by rw [show c + (n + 1) = c + 1 + n by omega]; exact h4))
      · rcases List.mem_append.mp hm with hm | hm
        · exact hdis x (hsub x hx) hm
        · exact hne x hx (List.mem_singleton.mp hm)
      · rw [List.nodup_append]
        refine ⟨hna, by simp, ?_⟩
        intro a ha b hb e
        rw [List.mem_singleton.mp hb] at e
        subst e
        exact hdis _ (List.getElem_mem hj) ha
      · intro x hx
        rcases List.mem_append.mp hx with hx | hx
        · exact hac x hx
        · rw [List.mem_singleton.mp hx]
          exact hlc _ (List.getElem_mem hj)
theorem ok_alphabet (A : At K mg "_law_alphabet" ["_law_source_here", "_law_many"] s_l_alphabet f fd) (m_len : mg "len" = none) (m_list : mg "list" = none) (m_range : mg "range" = none) (c_l_draw : Fn1 P w K mg base "_law_draw" 1 2 g_draw) : Fn1 P w K mg base "_law_alphabet" 2 2 g_alphabet := by
  refine A.fn1 (okD1 (k := 1) A.fn sc_l_alphabet (by decide) (fun cdv A outer s H E hr => (dss_cons (ds_setO 2 sc_l_alphabet.nd rfl (by first | exact Or.inl rfl | exact Or.inr rfl) (de_list rfl (by rfl) m_list (da_cons (de_add de_str de_str) da_nil)))
      (dss_one (ds_ret (de_join de_str (de_lc (own := [("_law_k", 3)]) rfl sc_l_alphabet.nd (di_range1 (by rfl) m_range (da_cons (de_v 1) da_nil)) (blkOk_by (N := N_l_alphabet) (sc := defScope s_l_alphabet) (own := [("_law_k", 3)]) (by decide +kernel)) (fun _ _ _ _ _ => (dg_n 3 sc_l_alphabet.nd rfl (by first | exact Or.inl rfl | exact Or.inr rfl))) (fun _ _ _ _ _ => dts_nil) (fun _ _ _ _ _ => (de_popO 2 (da_cons (de_c1 0 c_l_draw (hr.mono (by decide)) (by rfl) (da_cons (de_lenO 2 (by rfl) m_len) da_nil)) da_nil))))))))) ?_)
  rintro xs ds Q hl ⟨c, m, rfl, hS, hc, m0, m1, q⟩
  walk_at "s"
  refine ⟨⟨by omega, by omega⟩, rfl, ?_⟩
  refine alpha_turns (m := m) m.toNat (List.range m.toNat) c xs CH [] (by simp) hS (by omega) (by rw [CH_eq]; show 40 ≥ _; omega) (by rw [CH_eq]; decide) (by simp; omega) (by simp) (by rw [CH_eq]; decide) (by simp) (fun x hx => hx) (by simp) (fun acc' xs' left' h1 h2 h3 h4 => ?_)
  have hl6 : acc'.length = m.toNat := by simpa using h1
  have hlen : (ofL acc').length = acc'.length := by rw [len_l, ofL_l]
  exact ⟨_, joinD_signs acc' (by omega), xs', rfl, q (ofL acc') xs' ⟨by omega, by omega, by rw [ofL_l]; exact h2, by rw [ofL_l]; exact h3⟩ (by omega) (h4.mono (by omega))⟩
/-! ### sets -/
theorem map_range_getD (l : List Nat) : (List.range l.length).map (fun i => l.getD i 0) = l := by
  apply List.ext_getElem?
  intro i
  rw [List.getElem?_map]
  by_cases h : i < l.length
  · rw [List.getElem?_range h, List.getElem?_eq_getElem h]
    simp [List.getD_eq_getElem?_getD, List.getElem?_eq_getElem h]
  · rw [List.getElem?_eq_none (by rw [List.length_range]; omega), List.getElem?_eq_none (by omega)]
    rfl
theorem pick_set {l : List Nat} (hn : l.Nodup) (T : Nat → Bool) : l.filter (fun c => decide (c ∈ ((List.range l.length).filter T).map fun i => l.getD i 0)) = ((List.range l.length).filter T).map fun i => l.getD i 0 := by
  have e : ∀ p : Nat → Bool, l.filter p = ((List.range l.length).filter fun i => p (l.getD i 0)).map fun i => l.getD i 0 := by
    intro p
    have h := congrArg (List.filter p) (map_range_getD l)
    rw [List.filter_map] at h
    exact h.symm
  rw [e]
  congr 1
  apply List.filter_congr
  intro i hi
  have hi' : i < l.length := List.mem_range.mp hi
  by_cases hT : T i = true
  · rw [hT]
    exact decide_eq_true (List.mem_map.mpr ⟨i, List.mem_filter.mpr ⟨hi, hT⟩, rfl⟩)
  · rw [Bool.eq_false_iff.mpr hT]
    refine decide_eq_false fun z => ?_
    obtain ⟨j, hj, ej⟩ := List.mem_map.mp z
    obtain ⟨hj1, hj2⟩ := List.mem_filter.mp hj
    have hj' : j < l.length := List.mem_range.mp hj1
    have : i = j := by
      have e1 : l[j] = l[i] := by
        simpa [List.getD_eq_getElem?_getD, List.getElem?_eq_getElem hi', List.getElem?_eq_getElem hj'] using ej
      exact ((List.getElem_inj hn).mp e1).symm
    subst this
    exact hT hj2
theorem flat_ints : ∀ ns : List Int, (ns.map D.int).all D.flat = true
  | [] => rfl
  | n :: ns => by rw [List.map_cons, List.all_cons, flat_ints ns]; rfl
theorem in_ints (i : Int) (ns : List Int) : inD (.int i) (.lst (ns.map .int)) = some (.fz (.bl (decide (i ∈ ns)))) := by
  show (if ((D.int i).flat && (ns.map D.int).all D.flat) = true then some ((ns.map D.int).any fun b => eqB b (.int i)) else none).map _ = _
  rw [flat_ints, show ((D.int i).flat && true) = true from rfl, if_pos rfl]
  show some (Res.fz (.bl ((ns.map D.int).any fun b => eqB b (.int i)))) = _
  congr 3
  induction ns with
  | nil => rfl
  | cons n ns ih =>
    rw [List.map_cons, List.any_cons, ih]
    show (decide (n = i) || decide (i ∈ ns)) = decide (i ∈ n :: ns)
    rw [← Bool.decide_or]
    congr 1
    rw [List.mem_cons, show (i = n) = (n = i) from propext ⟨Eq.symm, Eq.symm⟩]
theorem ixS_ok {A : Str} {i : Nat} (h : i < A.cps.toList.length) (hz : A.length ≤ 100000) : ixD (.str A) (.int (0 + (i : Int))) = some (.fz (.str ⟨#[A.cps.toList.getD i 0]⟩)) := by
  show (if A.length ≤ 100000 then (atI A.cps.toList (0 + (i : Int))).map _ else none) = _
  rw [if_pos hz, atI_get (by omega) (by omega)]
  have e : (0 + (i : Int)).toNat = i := by omega
  rw [e, List.getElem?_eq_getElem h]
  simp [List.getD_eq_getElem?_getD, List.getElem?_eq_getElem h]
def g_set : FS1 := fun xs ds Q => ∃ (c : Nat) (A : Str), ds = [.str A] ∧ Alp A ∧ Src c xs ∧ c + 7 ≤ 2 ^ 40 ∧ ∀ s xs', isSetM A [.str s] = true → s.length ≤ 6 → Src (c + 7) xs' → Q (.fz (toD (.set s))) xs'
/-- draws in a comprehension -/
theorem draw_turns {Q : List D → Ev → Prop} {A : Str} {mm : D} (hA : A.length ≤ 100) (hA0 : 1 ≤ A.length) : ∀ (n : Nat) (is : List Nat) (c : Nat) (xs : List D) (acc : List Int), is.length = n → Src c xs → c + n ≤ 2 ^ 40 → acc.length + n ≤ 1000 →
    (∀ (acc' : List Int) (xs' : List D), Src (c + n) xs' → Q (acc'.map .int) [some (.ow true xs'), some (.fz (.str A)), some (.fz mm), none, none, none]) →
    lcD [4] (gN 4) tYesD (tCall1 g_draw 0 (tACons (tCallG lenD (tACons (tV 1) tANil)) tANil)) (is.map fun (i : Nat) => D.int (0 + i)) [some (.ow true xs), some (.fz (.str A)), some (.fz mm), none, none, none] (acc.map .int) Q
  | 0, [], c, xs, acc, _, hS, _, _, q => q acc xs hS
  | n + 1, i :: is, c, xs, acc, hl, hS, hc, ha, q => by
    refine ⟨rfl, ⟨_, _, rfl⟩, _, rfl, .fz (.int A.length), by show (if A.length ≤ 100000 then _ else _) = _; rw [if_pos (by omega)], _, _, rfl, c, _, rfl, hS, by omega, by omega, by omega, fun j xs' j0 j1 hS' => ⟨by rw [List.length_map]; omega, ?_⟩⟩
    show lcD _ _ _ _ _ [some (.ow true xs'), some (.fz (.str A)), some (.fz mm), none, none, none] (acc.map .int ++ [.int j]) Q
    rw [show acc.map D.int ++ [.int j] = (acc ++ [j]).map .int by rw [List.map_append]; rfl]
    exact draw_turns hA hA0 n is (c + 1) xs' (acc ++ [j]) (by simpa using hl) hS' (by omega) (by simp; omega) fun acc' xs2 h => q acc' xs2 (by rw [show c + (n + 1) = c + 1 + n by omega]; exact h)
theorem ok_set (A : At K mg "_law_set" ["_law_source_here", "_law_alphabet_here"] s_l_set f fd) (m_len : mg "len" = none) (m_range : mg "range" = none) (c_l_draw : Fn1 P w K mg base "_law_draw" 1 2 g_draw) : Fn1 P w K mg base "_law_set" 2 2 g_set := by
  refine A.fn1 (okD1 (k := 1) A.fn sc_l_set (by decide) (fun cdv A outer s H E hr => (dss_cons (ds_set 2 sc_l_set.nd rfl (by first | exact Or.inl rfl | exact Or.inr rfl) (de_ix (de_lst (da_cons de_int (da_cons de_int (da_cons de_int (da_cons de_int (da_cons de_int (da_cons de_int (da_cons de_int (da_cons de_int da_nil))))))))) (de_c1 0 c_l_draw (hr.mono (by decide)) (by rfl) (da_cons de_int da_nil)) (fun _ _ => rfl)))
      (dss_cons (ds_set 3 sc_l_set.nd rfl (by first | exact Or.inl rfl | exact Or.inr rfl) (de_lc (own := [("_law_k", 4)]) rfl sc_l_set.nd (di_range1 (by rfl) m_range (da_cons (de_v 2) da_nil)) (blkOk_by (N := N_l_set) (sc := defScope s_l_set) (own := [("_law_k", 4)]) (by decide +kernel)) (fun _ _ _ _ _ => (dg_n 4 sc_l_set.nd rfl (by first | exact Or.inl rfl | exact Or.inr rfl))) (fun _ _ _ _ _ => dts_nil) (fun _ _ _ _ _ => (de_c1 0 c_l_draw (hr.mono (by decide)) (by rfl) (da_cons (de_len (by rfl) m_len (da_cons (de_v 1) da_nil)) da_nil)))))
      (dss_one (ds_ret (de_tup (da_cons de_str (da_cons (de_join de_str (de_lc (own := [("_law_at", 5)]) rfl sc_l_set.nd (di_range1 (by rfl) m_range (da_cons (de_len (by rfl) m_len (da_cons (de_v 1) da_nil)) da_nil)) (blkOk_by (N := N_l_set) (sc := defScope s_l_set) (own := [("_law_at", 5)]) (by decide +kernel)) (fun _ _ _ _ _ => (dg_n 5 sc_l_set.nd rfl (by first | exact Or.inl rfl | exact Or.inr rfl))) (fun _ _ _ _ _ => (dts_one (dt_in (de_v 5) (de_v 3)))) (fun _ _ _ _ _ => (de_ix (de_v 1) (de_v 5) (fun _ _ => rfl))))) da_nil)))))))) ?_)
  rintro xs ds Q hl ⟨c, A, rfl, hA, hS, hc, q⟩
  have hA1 := hA.lo
  have hA6 := hA.hi
  walk_at "s"
  refine ⟨c, _, rfl, hS, by omega, by decide, by decide, fun j xs1 j0 j1 hS1 => ?_⟩
  obtain ⟨x, hx, hm⟩ := atI_ok (xs := ([.int 1, .int 1, .int 1, .int 1, .int 1, .int 2, .int 2, .int 6] : List D)) j0 j1
  obtain ⟨v, rfl, v1, v6⟩ : ∃ v : Int, x = .int v ∧ 1 ≤ v ∧ v ≤ 6 := by
    simp only [List.mem_cons, List.mem_nil_iff, or_false] at hm
    rcases hm with rfl | rfl | rfl | rfl | rfl | rfl | rfl | rfl <;> exact ⟨_, rfl, by decide, by decide⟩
  refine ⟨.fz (.int v), ix_lst hx, rfl, ?_⟩
  walk_at "s"
  refine ⟨⟨by omega, by omega⟩, rfl, ?_⟩
  refine draw_turns (A := A) (mm := .int v) (by omega) hA1 v.toNat (List.range v.toNat) (c + 1) xs1 [] (by simp) hS1 (by omega) (by simp; omega) fun taken xs2 hS2 => ?_
  walk_at "s"
  refine ⟨.fz (.int A.length), by show (if A.length ≤ 100000 then _ else _) = _; rw [if_pos (by omega)], ?_⟩
  walk_at "s"
  refine ⟨⟨by omega, by omega⟩, rfl, ?_⟩
  have el : ((A.length : Nat) : Int).toNat = A.cps.toList.length := by rw [len_l]; omega
  rw [show rangeD 0 ((A.length : Nat) : Int).toNat = (List.range A.cps.toList.length).map fun (i : Nat) => D.int (0 + i) by rw [el]; rfl]
  refine lc_pure (b := fun (i : Nat) => decide (0 + (i : Int) ∈ taken)) (f := fun i => .str ⟨#[A.cps.toList.getD i 0]⟩) rfl rfl (List.range A.cps.toList.length) [] (fun i _ Q2 q2 => ?_) (fun i hi _ Q2 q2 => ?_) (by rw [List.length_range, ← len_l]; simp; omega) ?_
  · exact ⟨_, rfl, _, rfl, _, in_ints _ taken, _, rfl, q2⟩
  · exact ⟨_, rfl, _, rfl, _, ixS_ok (List.mem_range.mp hi) (by omega), q2 _ rfl⟩
  · have hcl : ((((List.range A.cps.toList.length).filter fun (i : Nat) => decide (0 + (i : Int) ∈ taken)).map fun i => A.cps.toList.getD i 0)).length ≤ 6 := by
      rw [List.length_map]
      have := List.length_filter_le (fun (i : Nat) => decide (0 + (i : Int) ∈ taken)) (List.range A.cps.toList.length)
      rw [List.length_range] at this
      have := len_l A
      omega
    have hcs : ([] ++ ((List.range A.cps.toList.length).filter fun (i : Nat) => decide (0 + (i : Int) ∈ taken)).map fun i => D.str ⟨#[A.cps.toList.getD i 0]⟩) = (((List.range A.cps.toList.length).filter fun (i : Nat) => decide (0 + (i : Int) ∈ taken)).map fun i => A.cps.toList.getD i 0).map fun c => D.str ⟨#[c]⟩ := by
      rw [List.nil_append, List.map_map]
      rfl
    rw [hcs]
    generalize hcs2 : (((List.range A.cps.toList.length).filter fun (i : Nat) => decide (0 + (i : Int) ∈ taken)).map fun i => A.cps.toList.getD i 0) = cs at hcl
    refine ⟨_, joinD_signs cs (by omega), Nat.le_of_ble_eq_true rfl, xs2, rfl, q (ofL cs) xs2 ?_ (by rw [len_l, ofL_l]; exact hcl) (hS2.mono (by omega))⟩
    show decide (ofL cs = ofL (A.cps.toList.filter fun c => decide (c ∈ (ofL cs).cps.toList))) = true
    rw [ofL_l, ← hcs2, pick_set hA.nd]
    exact decide_eq_true rfl
/-! ### rows of sets -/
/-- the sets of a row -/
def setsOk (A : Str) (ss : List Str) : Prop := ∀ s ∈ ss, isSetM A [.str s] = true ∧ s.length ≤ 6
def g_row : FS1 := fun xs ds Q => ∃ (c : Nat) (A : Str) (m : Int), ds = [.str A, .int m] ∧ Alp A ∧ Src c xs ∧ 0 ≤ m ∧ m ≤ 100 ∧ c + 700 ≤ 2 ^ 40 ∧ ∀ ss xs', setsOk A ss → ss.length = m.toNat → Src (c + 700) xs' → Q (.fz (toD (.row (ss.map .set)))) xs'
theorem set_turns {Q : List D → Ev → Prop} {A : Str} {mm : D} (hA : Alp A) : ∀ (n : Nat) (is : List Nat) (c : Nat) (xs : List D) (acc : List Str), is.length = n → Src c xs → c + 7 * n ≤ 2 ^ 40 → acc.length + n ≤ 1000 → setsOk A acc →
    (∀ (acc' : List Str) (xs' : List D), setsOk A acc' → acc'.length = acc.length + n → Src (c + 7 * n) xs' → Q (acc'.map fun s => toD (.set s)) [some (.ow true xs'), some (.fz (.str A)), some (.fz mm), none]) →
    lcD [3] (gN 3) tYesD (tCall1 g_set 0 (tACons (tV 1) tANil)) (is.map fun (i : Nat) => D.int (0 + i)) [some (.ow true xs), some (.fz (.str A)), some (.fz mm), none] (acc.map fun s => toD (.set s)) Q
  | 0, [], c, xs, acc, _, hS, _, _, hs, q => q acc xs hs rfl hS
  | n + 1, i :: is, c, xs, acc, hl, hS, hc, ha, hs, q => by
    refine ⟨rfl, ⟨_, _, rfl⟩, _, rfl, _, _, rfl, c, A, rfl, hA, hS, by omega, fun s xs' h1 h2 hS' => ⟨by rw [List.length_map]; omega, ?_⟩⟩
    show lcD _ _ _ _ _ [some (.ow true xs'), some (.fz (.str A)), some (.fz mm), none] ((acc.map fun s => toD (.set s)) ++ [toD (.set s)]) Q
    rw [show (acc.map fun s => toD (.set s)) ++ [toD (.set s)] = (acc ++ [s]).map fun s => toD (.set s) by rw [List.map_append]; rfl]
    refine set_turns hA n is (c + 7) xs' (acc ++ [s]) (by simpa using hl) hS' (by omega) (by simp; omega) ?_ fun acc' xs2 h3 h4 h => q acc' xs2 h3 (by rw [h4]; simp; omega) (by rw [show c + 7 * (n + 1) = c + 7 + 7 * n by omega]; exact h)
    intro t ht
    rcases List.mem_append.mp ht with ht | ht
    · exact hs t ht
    · rw [List.mem_singleton.mp ht]
      exact ⟨h1, h2⟩
theorem ok_row (A : At K mg "_law_row" ["_law_source_here", "_law_alphabet_here", "_law_many"] s_l_row f fd) (m_tuple : mg "tuple" = none) (m_range : mg "range" = none) (c_l_set : Fn1 P w K mg base "_law_set" 2 2 g_set) : Fn1 P w K mg base "_law_row" 3 3 g_row := by
  refine A.fn1 (okD1 (k := 2) A.fn sc_l_row (by decide) (fun cdv A outer s H E hr => (dss_one (ds_ret (de_add (de_tup (da_cons de_str da_nil)) (de_tuple (by rfl) m_tuple (da_cons (de_lc (own := [("_law_k", 3)]) rfl sc_l_row.nd (di_range1 (by rfl) m_range (da_cons (de_v 2) da_nil)) (blkOk_by (N := N_l_row) (sc := defScope s_l_row) (own := [("_law_k", 3)]) (by decide +kernel)) (fun _ _ _ _ _ => (dg_n 3 sc_l_row.nd rfl (by first | exact Or.inl rfl | exact Or.inr rfl))) (fun _ _ _ _ _ => dts_nil) (fun _ _ _ _ _ => (de_c1 0 c_l_set (hr.mono (by decide)) (by rfl) (da_cons (de_v 1) da_nil)))) da_nil)))))) ?_)
  rintro xs ds Q hl ⟨c, A, m, rfl, hA, hS, m0, m1, hc, q⟩
  walk_at "s"
  refine ⟨⟨by omega, by omega⟩, rfl, ?_⟩
  refine set_turns (A := A) (mm := .int m) hA m.toNat (List.range m.toNat) c xs [] (by simp) hS (by omega) (by simp; omega) (by intro s hs; cases hs) fun ss xs2 h1 h2 hS2 => ?_
  walk_at "s"
  have hl2 : ss.length = m.toNat := by simpa using h2
  refine ⟨.fz (.tup (.str "row" :: ss.map fun s => toD (.set s))), ?_, xs2, rfl, ?_⟩
  · show (if ([D.str "row"].length + (ss.map fun s => toD (.set s)).length ≤ 16000) then _ else _) = _
    rw [if_pos (by simp; omega)]
    rfl
  · have := q ss xs2 h1 hl2 (hS2.mono (by omega))
    rw [toD, toDL_map, List.map_map] at this
    exact this
end
end Cut
namespace Cut
open PySem L2 DL
/-! ### expressions whose sets are those of the alphabet -/
mutual
def stR (A : Str) : Rx → Bool
  | .set s => isSetM A [.str s] && decide (s.length ≤ 6)
  | .row ps | .any ps | .all ps => stRL A ps
  | .no p => stR A p
  | .again p _ _ => stR A p
def stRL (A : Str) : List Rx → Bool
  | [] => true
  | p :: ps => stR A p && stRL A ps
end
theorem stRL_all (A : Str) : ∀ ps, (∀ p ∈ ps, stR A p = true) → stRL A ps = true
  | [], _ => rfl
  | p :: ps, h => by rw [stRL, h p (List.mem_cons_self ..), stRL_all A ps fun q hq => h q (List.mem_cons_of_mem _ hq)]; rfl
theorem okRL_all : ∀ ps, (∀ p ∈ ps, okR p = true) → okRL ps = true
  | [], _ => rfl
  | p :: ps, h => by rw [okRL, h p (List.mem_cons_self ..), okRL_all ps fun q hq => h q (List.mem_cons_of_mem _ hq)]; rfl
mutual
theorem exprR (A : Str) : ∀ r, stR A r = true → okR r = true → isExpr A (toD r) = true
  | .set s, h, _ => by
    rw [toD, isExpr, exprB, if_pos rfl]
    rw [stR, Bool.and_eq_true] at h
    exact h.1
  | .row ps, h, o => by
    rw [toD, isExpr, exprB, if_neg k1, if_neg k2, if_neg (by rintro (⟨z, _⟩ | z); exact k3 z; exact z (.inl rfl))]
    rw [okR, Bool.and_eq_true] at o
    exact exprRL A ps h o.2
  | .any ps, h, o => by
    rw [toD, isExpr, exprB, if_neg k4, if_neg k5, if_neg (by rintro (⟨z, _⟩ | z); exact k6 z; exact z (.inr (.inl rfl)))]
    rw [okR, Bool.and_eq_true] at o
    exact exprRL A ps h o.2
  | .all ps, h, o => by
    rw [toD, isExpr, exprB, if_neg k7, if_neg k8, if_neg (by rintro (⟨z, _⟩ | z); exact k9 z; exact z (.inr (.inr (.inl rfl))))]
    rw [okR, Bool.and_eq_true] at o
    exact exprRL A ps h o.2
  | .no p, h, o => by
    rw [toD, isExpr, exprB, if_neg k10, if_neg k11, if_neg (by rintro (⟨_, z⟩ | z); exact z rfl; exact z (.inr (.inr (.inr rfl)))), isExprM, isExprM, exprR A p h o]
    rfl
  | .again p lo hi, h, o => by
    rw [okR, Bool.and_eq_true, Bool.and_eq_true, Bool.and_eq_true] at o
    rw [toD, isExpr, exprB, if_neg k12, if_pos rfl, isExprM, isExprM, isExprM, isExprM, againB, exprR A p h o.1.1.1, Bool.true_and, loB, o.1.1.2, o.1.2]
    have o2 := o.2
    cases hi with
    | none => rfl
    | some hh => exact o2
theorem exprRL (A : Str) : ∀ ps, stRL A ps = true → okRL ps = true → (isExprM A (toDL ps)).all id = true
  | [], _, _ => rfl
  | p :: ps, h, o => by
    rw [stRL, Bool.and_eq_true] at h
    rw [okRL, Bool.and_eq_true] at o
    rw [toDL, isExprM, List.all_cons, exprR A p h.1 o.1, exprRL A ps h.2 o.2]
    rfl
end
/-! ### values, depths -/
theorem strlen_set : ("set" : Str).length = 3 := by decide +kernel
theorem strlen_row : ("row" : Str).length = 3 := by decide +kernel
theorem strlen_any : ("any" : Str).length = 3 := by decide +kernel
theorem strlen_all : ("all" : Str).length = 3 := by decide +kernel
theorem strlen_not : ("not" : Str).length = 3 := by decide +kernel
theorem strlen_again : ("again" : Str).length = 5 := by decide +kernel
theorem val_hi (hi : Option Int) : val (hiD hi) = true := by cases hi <;> rfl
theorem dep_hi (hi : Option Int) : dep (hiD hi) = 0 := by cases hi <;> rfl
mutual
theorem val_toD : ∀ r, okR r = true → val (toD r) = true
  | .set s, h => by
    rw [okR] at h
    simp only [toD, val, valL, strlen_set, h]
    rfl
  | .row ps, h => by
    rw [okR, Bool.and_eq_true] at h
    have := of_decide_eq_true h.1
    simp only [toD, val, valL, strlen_row, val_toDL ps h.2, List.length_cons, toDL_len]
    simp
    omega
  | .any ps, h => by
    rw [okR, Bool.and_eq_true] at h
    have := of_decide_eq_true h.1
    simp only [toD, val, valL, strlen_any, val_toDL ps h.2, List.length_cons, toDL_len]
    simp
    omega
  | .all ps, h => by
    rw [okR, Bool.and_eq_true] at h
    have := of_decide_eq_true h.1
    simp only [toD, val, valL, strlen_all, val_toDL ps h.2, List.length_cons, toDL_len]
    simp
    omega
  | .no p, h => by
    rw [okR] at h
    simp only [toD, val, valL, strlen_not, val_toD p h]
    rfl
  | .again p lo hi, h => by
    rw [okR, Bool.and_eq_true, Bool.and_eq_true, Bool.and_eq_true] at h
    simp only [toD, val, valL, strlen_again, val_toD p h.1.1.1, val_hi]
    rfl
theorem val_toDL : ∀ ps, okRL ps = true → valL (toDL ps) = true
  | [], _ => rfl
  | p :: ps, h => by
    rw [okRL, Bool.and_eq_true] at h
    rw [toDL, valL, val_toD p h.1, val_toDL ps h.2]
    rfl
end
mutual
theorem dep_toD : ∀ r, dep (toD r) ≤ rdep r + 1
  | .set s => by simp [toD, dep, depL]
  | .row ps => by have := dep_toDL ps; simp only [toD, dep, depL, rdep]; omega
  | .any ps => by have := dep_toDL ps; simp only [toD, dep, depL, rdep]; omega
  | .all ps => by have := dep_toDL ps; simp only [toD, dep, depL, rdep]; omega
  | .no p => by have := dep_toD p; simp only [toD, dep, depL, rdep]; omega
  | .again p lo hi => by have := dep_toD p; have := dep_hi hi; simp only [toD, dep, depL, rdep]; omega
theorem dep_toDL : ∀ ps, depL (toDL ps) ≤ rdepL ps + 1
  | [] => by simp [toDL, depL]
  | p :: ps => by have := dep_toD p; have := dep_toDL ps; simp only [toDL, depL, rdepL]; omega
end
/-- a pattern of the law: what is_pattern is asked of it -/
structure Okp (A : Str) (r : Rx) : Prop where
  st : stR A r = true
  ok : okR r = true
  dp : rdep r ≤ 50
theorem sum_const {α : Type} {f : α → Int} : ∀ (l : List α) (k : Int), (∀ a ∈ l, f a = k) → (l.map f).sum = k * l.length
  | [], k, _ => by simp
  | a :: l, k, h => by
    rw [List.map_cons, List.sum_cons, h a (List.mem_cons_self ..), sum_const l k fun b hb => h b (List.mem_cons_of_mem _ hb), List.length_cons]
    rw [show ((l.length + 1 : Nat) : Int) = (l.length : Int) + 1 by omega, Int.mul_add]
    omega
theorem all_const {α : Type} {f : α → Bool} (l : List α) (h : ∀ a ∈ l, f a = true) : (l.map f).all id = true := by
  rw [List.all_eq_true]
  intro x hx
  obtain ⟨a, ha, rfl⟩ := List.mem_map.mp hx
  exact h a ha
/-- an again's numbers -/
def fcI (lo : Int) (hi : Option Int) : Int := match hi with | none => lo + 1 | some h => mx1 h
theorem wd_again (p : Rx) (lo : Int) (hi : Option Int) : wd (.again p lo hi) = mx1 (wd p) * fcI lo hi := by cases hi <;> rfl
theorem stR_sets {A : Str} {ss : List Str} (h : setsOk A ss) : ∀ p ∈ ss.map Rx.set, stR A p = true := by
  intro p hp
  obtain ⟨s, hs, rfl⟩ := List.mem_map.mp hp
  rw [stR, (h s hs).1, decide_eq_true (h s hs).2]
  rfl
theorem okR_set {A : Str} {s : Str} (h : s.length ≤ 6) : okR (.set s) = true := by rw [okR]; exact decide_eq_true (by omega)
theorem okR_sets {A : Str} {ss : List Str} (h : setsOk A ss) : ∀ p ∈ ss.map Rx.set, okR p = true := by
  intro p hp
  obtain ⟨s, hs, rfl⟩ := List.mem_map.mp hp
  exact okR_set (A := A) (h s hs).2
theorem wd_sets (ss : List Str) : (wdL (ss.map Rx.set)).sum = (ss.length : Int) := by
  rw [wdL_map, sum_const _ 1 (by intro p hp; obtain ⟨s, _, rfl⟩ := List.mem_map.mp hp; rfl), List.length_map]
  omega
theorem cnt_sets (ss : List Str) : (cntL (ss.map Rx.set)).sum = (ss.length : Int) := by
  rw [cntL_map, sum_const _ 1 (by intro p hp; obtain ⟨s, _, rfl⟩ := List.mem_map.mp hp; rfl), List.length_map]
  omega
theorem plain_sets (ss : List Str) : (plainL (ss.map Rx.set)).all id = true := by
  rw [plainL_map]
  exact all_const _ (by intro p hp; obtain ⟨s, _, rfl⟩ := List.mem_map.mp hp; rfl)
theorem hasP_sets (ss : List Str) : (hasPL (ss.map Rx.set)).all id = true := by
  rw [hasPL_map]
  exact all_const _ (by intro p hp; obtain ⟨s, _, rfl⟩ := List.mem_map.mp hp; rfl)
theorem rdepL_le : ∀ (ps : List Rx) (n : Nat), (∀ p ∈ ps, rdep p ≤ n) → rdepL ps ≤ n
  | [], n, _ => Nat.zero_le _
  | p :: ps, n, h => by
    have h1 := h p (List.mem_cons_self ..)
    have h2 := rdepL_le ps n fun q hq => h q (List.mem_cons_of_mem _ hq)
    rw [rdepL]
    omega
theorem rdep_sets (ss : List Str) : rdepL (ss.map Rx.set) = 0 := by
  have := rdepL_le (ss.map Rx.set) 0 (by intro p hp; obtain ⟨s, _, rfl⟩ := List.mem_map.mp hp; exact Nat.le_refl _)
  omega
theorem mx1_of {j : Int} (h : 1 ≤ j) : mx1 j = j := by unfold mx1; split <;> omega
/-- row, any or all of parts -/
def mk (w : Nat) (ps : List Rx) : Rx := match w with | 0 => .row ps | 1 => .any ps | _ => .all ps
theorem toD_mk (w : Nat) (ps : List Rx) : toD (mk w ps) = .tup (.str (match w with | 0 => "row" | 1 => "any" | _ => "all") :: toDL ps) := by
  match w with
  | 0 => exact toD.eq_2 ps
  | 1 => exact toD.eq_3 ps
  | n + 2 => exact toD.eq_4 ps
theorem Okp.of {A : Str} {w : Nat} {ps : List Rx} (h1 : ∀ p ∈ ps, stR A p = true) (h2 : ∀ p ∈ ps, okR p = true) (h3 : ps.length ≤ 9999) (h4 : rdepL ps ≤ 40) : Okp A (Cut.mk w ps) := by
  have e1 := stRL_all A ps h1
  have e2 := okRL_all ps h2
  have e3 : (decide (ps.length ≤ 9999) && okRL ps) = true := by rw [decide_eq_true h3, e2]; rfl
  match w with
  | 0 => exact ⟨by show stR A (.row ps) = true; rw [stR]; exact e1, by show okR (.row ps) = true; rw [okR]; exact e3, by show rdep (.row ps) ≤ 50; rw [rdep]; omega⟩
  | 1 => exact ⟨by show stR A (.any ps) = true; rw [stR]; exact e1, by show okR (.any ps) = true; rw [okR]; exact e3, by show rdep (.any ps) ≤ 50; rw [rdep]; omega⟩
  | n + 2 => exact ⟨by show stR A (.all ps) = true; rw [stR]; exact e1, by show okR (.all ps) = true; rw [okR]; exact e3, by show rdep (.all ps) ≤ 50; rw [rdep]; omega⟩
theorem wd_mk (w : Nat) (ps : List Rx) : wd (mk w ps) = mx1 (wdL ps).sum := by
  match w with
  | 0 => exact wd.eq_2 ps
  | 1 => exact wd.eq_3 ps
  | n + 2 => exact wd.eq_4 ps
theorem cnt_mk (w : Nat) (ps : List Rx) : cnt (mk w ps) = 1 + (cntL ps).sum := by
  match w with
  | 0 => exact cnt.eq_2 ps
  | 1 => exact cnt.eq_3 ps
  | n + 2 => exact cnt.eq_4 ps
theorem hasP_mk (w : Nat) (ps : List Rx) (h1 : (plainL ps).all id = true) (h2 : (hasPL ps).all id = true) : hasP (mk w ps) = true := by
  match w with
  | 0 => exact (hasP.eq_2 ps).trans h1
  | 1 => show hasP (.any ps) = true; rw [hasP]; exact h2
  | n + 2 => show hasP (.all ps) = true; rw [hasP]; exact h2
/-- ["row", "any", "all"][draw] -/
theorem word3 {j : Int} (j0 : 0 ≤ j) (j1 : j < 3) : ∃ w : Nat, atI ([.str "row", .str "any", .str "all"] : List D) j = some (.str (match w with | 0 => "row" | 1 => "any" | _ => "all")) := by
  have h : j = 0 ∨ j = 1 ∨ j = 2 := by omega
  rcases h with rfl | rfl | rfl
  · exact ⟨0, rfl⟩
  · exact ⟨1, rfl⟩
  · exact ⟨2, rfl⟩
theorem add_tup {a b : List D} (h : a.length + b.length ≤ 16000) : addD (.tup a) (.tup b) = some (.fz (.tup (a ++ b))) := by
  show (if _ then _ else _) = _
  rw [if_pos h]
theorem mul_tup {a : List D} {k : Int} (h1 : a ≠ []) (h2 : 0 ≤ k) (h3 : k ≤ 1000) (h4 : a.length ≤ 1000) : mulD (.tup a) (.int k) = some (.fz (.tup (List.replicate k.toNat a).flatten)) := by
  show (if _ then _ else _) = _
  rw [if_pos (decide_eq_true ⟨h1, h2, h3, h4⟩)]
theorem rep_one {α : Type} (a : α) : ∀ n, (List.replicate n [a]).flatten = List.replicate n a
  | 0 => rfl
  | n + 1 => by rw [List.replicate_succ, List.flatten_cons, rep_one a n, List.replicate_succ]; rfl
theorem toDL_rep (r : Rx) (n : Nat) : toDL (List.replicate n r) = List.replicate n (toD r) := by rw [toDL_map, List.map_replicate]
/-! ### what the drawn patterns are -/
theorem wd_row (ps : List Rx) : wd (.row ps) = mx1 (wdL ps).sum := wd.eq_2 ps
theorem wd_any (ps : List Rx) : wd (.any ps) = mx1 (wdL ps).sum := wd.eq_3 ps
theorem wd_all (ps : List Rx) : wd (.all ps) = mx1 (wdL ps).sum := wd.eq_4 ps
theorem wd_no (p : Rx) : wd (.no p) = mx1 (wd p) := wd.eq_5 p
/-- a plain pattern of at most the width R -/
structure Pln (A : Str) (R : Int) (r : Rx) : Prop where
  st : stR A r = true
  ok : okR r = true
  dp : rdep r ≤ 3
  pl : plain r = true
  wl : wd r ≤ R
  w1 : 1 ≤ wd r
  ct : cnt r ≤ R + 3
structure Pat (A : Str) (R : Int) (r : Rx) : Prop where
  st : stR A r = true
  ok : okR r = true
  dp : rdep r ≤ 5
  hp : hasP r = true
  wl : wd r ≤ R
  w1 : 1 ≤ wd r
  ct : cnt r ≤ R + 8
mutual
theorem plain_hasP : ∀ r : Rx, plain r = true → hasP r = true
  | .set _, _ => rfl
  | .row ps, h => by rw [hasP]; rw [plain] at h; exact h
  | .any ps, h => by rw [hasP]; rw [plain] at h; exact plain_hasPL ps h
  | .all _, h => by rw [plain] at h; cases h
  | .no _, h => by rw [plain] at h; cases h
  | .again p _ _, h => by rw [hasP]; rw [plain] at h; exact h
theorem plain_hasPL : ∀ ps : List Rx, (plainL ps).all id = true → (hasPL ps).all id = true
  | [], _ => rfl
  | p :: ps, h => by
    rw [plainL, List.all_cons, Bool.and_eq_true] at h
    rw [hasPL, List.all_cons, Bool.and_eq_true]
    exact ⟨plain_hasP p h.1, plain_hasPL ps h.2⟩
end
theorem Pln.pat {A : Str} {R : Int} {r : Rx} (h : Pln A R r) : Pat A R r := ⟨h.st, h.ok, Nat.le_trans h.dp (by decide), plain_hasP r h.pl, h.wl, h.w1, by have := h.ct; omega⟩
theorem Pln.set {A s : Str} {R : Int} (h1 : isSetM A [.str s] = true) (h2 : s.length ≤ 6) (hR : 1 ≤ R) : Pln A R (.set s) :=
  ⟨by rw [stR, h1, decide_eq_true h2]; rfl, okR_set (A := A) h2, by rw [rdep]; decide, rfl, hR, Int.le_refl 1, by show (1 : Int) ≤ _; omega⟩
/-- the parts of a row of sets -/
structure Sets (A : Str) (n : Int) (ps : List Rx) : Prop where
  st : stRL A ps = true
  ok : okRL ps = true
  pl : (plainL ps).all id = true
  ws : (wdL ps).sum = n
  ct : (cntL ps).sum = n
  dp : rdepL ps = 0
  ln : (ps.length : Int) = n
theorem Sets.of {A : Str} {m : Int} {ss : List Str} (h : setsOk A ss) (hl : ss.length = m.toNat) (m0 : 0 ≤ m) : Sets A m (ss.map .set) := by
  have e : (ss.length : Int) = m := by omega
  exact ⟨stRL_all A _ (stR_sets h), okRL_all _ (okR_sets h), plain_sets ss, by rw [wd_sets, e], by rw [cnt_sets, e], rdep_sets ss, by rw [List.length_map]; exact e⟩
theorem Pln.row {A : Str} {R n : Int} {ps : List Rx} (h : Sets A n ps) (n1 : 1 ≤ n) (hn : n ≤ R) (hR : R ≤ 100) : Pln A R (.row ps) := by
  have := h.ln
  refine ⟨by rw [stR]; exact h.st, by rw [okR, decide_eq_true (by omega), h.ok]; rfl, by rw [rdep, h.dp]; decide, by rw [plain]; exact h.pl, ?_, ?_, ?_⟩
  · rw [wd_row, h.ws, mx1_of n1]
    exact hn
  · rw [wd_row, h.ws, mx1_of n1]
    exact n1
  · rw [cnt, h.ct]
    omega
theorem Pln.any2 {A : Str} {R n m : Int} {ps qs : List Rx} (h : Sets A n ps) (h' : Sets A m qs) (n1 : 1 ≤ n) (m1 : 1 ≤ m) (hn : n + m = R) (hR : R ≤ 100) : Pln A R (.any [.row ps, .row qs]) := by
  have a := Pln.row h n1 (Int.le_refl n) (by omega)
  have b := Pln.row h' m1 (Int.le_refl m) (by omega)
  have e1 : wd (.row ps) = n := by rw [wd_row, h.ws, mx1_of n1]
  have e2 : wd (.row qs) = m := by rw [wd_row, h'.ws, mx1_of m1]
  have e3 : wd (.any [.row ps, .row qs]) = R := by
    rw [wd_any, wdL, wdL, wdL, e1, e2, List.sum_cons, List.sum_cons, List.sum_nil, mx1_of (by omega)]
    omega
  refine ⟨by rw [stR, stRL, stRL, stRL, a.st, b.st]; rfl, by rw [okR, okRL, okRL, okRL, a.ok, b.ok]; rfl, ?_, by rw [plain, plainL, plainL, plainL, a.pl, b.pl]; rfl, by rw [e3]; exact Int.le_refl _, by rw [e3]; omega, ?_⟩
  · rw [rdep, rdepL, rdepL, rdepL, rdep, rdep, h.dp, h'.dp]
    decide
  · rw [cnt, cntL, cntL, cntL, cnt, cnt, h.ct, h'.ct, List.sum_cons, List.sum_cons, List.sum_nil]
    omega
/-- sets and one plain part behind or ahead of them -/
theorem Pln.rowWith {A : Str} {R n : Int} {ps qs : List Rx} {p : Rx} (h : Sets A n ps) (st : stR A p = true) (ok : okR p = true) (dp : rdep p ≤ 2) (pl : plain p = true) (w0 : 0 ≤ wd p) (wl : n + wd p ≤ R) (ct : n + cnt p ≤ R + 2) (n1 : 1 ≤ n) (hR : R ≤ 100) (hq : qs = ps ++ [p] ∨ qs = p :: ps) : Pln A R (.row qs) := by
  have hl := h.ln
  have e1 : stRL A qs = true := by
    refine stRL_all A qs fun q hq' => ?_
    have hm : ∀ x ∈ ps, stR A x = true := by
      have := h.st
      clear hl
      revert this
      clear h hq hq'
      induction ps with
      | nil => intro _ x hx; cases hx
      | cons a l ih =>
        intro z x hx
        rw [stRL, Bool.and_eq_true] at z
        rcases List.mem_cons.mp hx with e | e
        · rw [e]; exact z.1
        · exact ih z.2 x e
    rcases hq with rfl | rfl
    · rcases List.mem_append.mp hq' with z | z
      · exact hm q z
      · rw [List.mem_singleton.mp z]; exact st
    · rcases List.mem_cons.mp hq' with z | z
      · rw [z]; exact st
      · exact hm q z
  have e2 : okRL qs = true := by
    refine okRL_all qs fun q hq' => ?_
    rcases hq with rfl | rfl
    · rcases List.mem_append.mp hq' with z | z
      · exact okRL_mem h.ok q z
      · rw [List.mem_singleton.mp z]; exact ok
    · rcases List.mem_cons.mp hq' with z | z
      · rw [z]; exact ok
      · exact okRL_mem h.ok q z
  have e3 : (wdL qs).sum = n + wd p := by
    rcases hq with rfl | rfl
    · rw [wdL_map, List.map_append, List.sum_append, ← wdL_map, h.ws]
      simp
    · rw [wdL, List.sum_cons, h.ws]
      omega
  have e4 : (cntL qs).sum = n + cnt p := by
    rcases hq with rfl | rfl
    · rw [cntL_map, List.map_append, List.sum_append, ← cntL_map, h.ct]
      simp
    · rw [cntL, List.sum_cons, h.ct]
      omega
  have e5 : (plainL qs).all id = true := by
    rcases hq with rfl | rfl
    · rw [plainL_map, List.map_append, List.all_append, ← plainL_map, h.pl]
      simp [pl]
    · rw [plainL, List.all_cons, h.pl, pl]
      rfl
  have e6 : rdepL qs ≤ 2 := by
    refine rdepL_le qs 2 fun q hq' => ?_
    have hm : ∀ x ∈ ps, rdep x ≤ 2 := fun x hx => by
      have := rdepL_mem (n := 1) (by rw [h.dp]; decide) x hx
      omega
    rcases hq with rfl | rfl
    · rcases List.mem_append.mp hq' with z | z
      · exact hm q z
      · rw [List.mem_singleton.mp z]; exact dp
    · rcases List.mem_cons.mp hq' with z | z
      · rw [z]; exact dp
      · exact hm q z
  have e7 : qs.length = ps.length + 1 := by rcases hq with rfl | rfl <;> simp
  refine ⟨by rw [stR]; exact e1, by rw [okR, decide_eq_true (by omega), e2]; rfl, by rw [rdep]; omega, by rw [plain]; exact e5, ?_, ?_, ?_⟩
  · rw [wd_row, e3, mx1_of (by omega)]
    exact wl
  · rw [wd_row, e3, mx1_of (by omega)]
    omega
  · rw [cnt, e4]
    omega
theorem Pat.all2 {A : Str} {R n m : Int} {p q : Rx} (h : Pln A n p) (h' : Pln A m q) (hn : n + m = R) : Pat A R (.all [p, .no q]) := by
  have a := h.w1
  have b := h'.w1
  have c := h.wl
  have d := h'.wl
  have e3 : wd (.all [p, .no q]) = wd p + wd q := by
    rw [wd_all, wdL, wdL, wdL, wd_no, mx1_of b, List.sum_cons, List.sum_cons, List.sum_nil, mx1_of (by omega)]
    omega
  refine ⟨by rw [stR, stRL, stRL, stRL, stR, h.st, h'.st]; rfl, by rw [okR, okRL, okRL, okRL, okR, h.ok, h'.ok]; rfl, ?_, ?_, by rw [e3]; omega, by rw [e3]; omega, ?_⟩
  · have := h.dp
    have := h'.dp
    rw [rdep, rdepL, rdepL, rdepL, rdep]
    omega
  · rw [hasP, hasPL, hasPL, hasPL, hasP, plain_hasP p h.pl, plain_hasP q h'.pl]
    rfl
  · have := h.ct
    have := h'.ct
    rw [cnt, cntL, cntL, cntL, cnt, List.sum_cons, List.sum_cons, List.sum_nil]
    omega
end Cut
namespace Cut
open PySem L2 DL
local macro_rules | `(tactic| walk_at "s") => `(tactic| repeat (first | with_reducible refine ⟨_, rfl, ?_⟩ | refine ⟨_, rfl, ?_⟩ | refine ⟨rfl, ?_⟩ | refine ⟨_, _, rfl, rfl, ?_⟩ | refine ⟨_, _, rfl, ?_⟩ | refine iteT ?_ | refine iteF ?_ | refine ⟨⟨_, rfl⟩, ?_⟩ | refine ⟨⟨_, _, rfl⟩, ?_⟩ | refine ⟨_, _, _, _, rfl, rfl, rfl, ?_⟩ | refine ⟨Nat.le_of_ble_eq_true rfl, ?_⟩ | refine ⟨(by decide), ?_⟩ | refine ⟨_, ix_t0 _ _, ?_⟩ | refine ⟨_, ix_l0 _ _, ?_⟩))
abbrev s_l_plain : Stmt := top 21
abbrev N_l_plain : List Str := ["_law_source_here", "_law_alphabet_here", "_law_room", "_law_way", "_law_size", "_law_many", "_law_part", "_law_low", "_law_high"]
theorem sc_l_plain : FnScope N_l_plain ["_law_source_here", "_law_alphabet_here", "_law_room"] (defScope s_l_plain) := ⟨rfl, rfl, rfl, by decide +kernel, rfl, by decide +kernel, by decide +kernel⟩
abbrev s_l_pattern : Stmt := top 22
abbrev N_l_pattern : List Str := ["_law_source_here", "_law_alphabet_here", "_law_room", "_law_size", "_law_barred"]
theorem sc_l_pattern : FnScope N_l_pattern ["_law_source_here", "_law_alphabet_here", "_law_room"] (defScope s_l_pattern) := ⟨rfl, rfl, rfl, by decide +kernel, rfl, by decide +kernel, by decide +kernel⟩
section
variable {P : Program} {w : World} {K : Fg} {mg : Str → Option Value} {base : Heap} {f f2 : Addr} {fd fd2 : FuncData}
theorem add_row {ps rs : List Rx} {qs : List D} (hq : qs = toDL rs) (h : ps.length + rs.length ≤ 15000) : addD (toD (.row ps)) (.tup qs) = some (.fz (toD (.row (ps ++ rs)))) := by
  subst hq
  rw [toD.eq_2, toD.eq_2, add_tup (by rw [List.length_cons, toDL_len, toDL_len]; omega)]
  rw [show toDL (ps ++ rs) = toDL ps ++ toDL rs by rw [toDL_map, toDL_map, toDL_map, List.map_append]]
  rfl
theorem toD_again (p : Rx) (lo : Int) (hi : Option Int) : D.tup [.str "again", toD p, .int lo, hiD hi] = toD (.again p lo hi) := (toD.eq_6 p lo hi).symm
theorem fdiv_bd {a b : Int} (h0 : 1 ≤ b) (h1 : b ≤ a) : 1 ≤ a / b ∧ a / b ≤ a ∧ (a / b) * b ≤ a := by
  have h2 := Int.ediv_mul_le a (b := b) (by omega)
  have h3 : 1 ≤ a / b := (Int.le_ediv_iff_mul_le (by omega)).mpr (by omega)
  refine ⟨h3, ?_, h2⟩
  exact Int.ediv_le_self b (by omega)
def g_plain : FS1 := fun xs ds Q => ∃ (c : Nat) (A : Str) (R : Int), ds = [.str A, .int R] ∧ Alp A ∧ Src c xs ∧ 1 ≤ R ∧ R ≤ 20 ∧ c + 2000 ≤ 2 ^ 40 ∧ ∀ r xs', Pln A R r → Src (c + 2000) xs' → Q (.fz (toD r)) xs'
theorem ok_plain (A : At K mg "_law_plain" ["_law_source_here", "_law_alphabet_here", "_law_room"] s_l_plain f fd) (m_min : mg "min" = none) (m_int : mg "int" = none) (c_l_draw : Fn1 P w K mg base "_law_draw" 1 2 g_draw) (c_l_set : Fn1 P w K mg base "_law_set" 2 2 g_set) (c_l_row : Fn1 P w K mg base "_law_row" 3 3 g_row) : Fn1 P w K mg base "_law_plain" 4 3 g_plain := by
  refine A.fn1 (okD1 (k := 3) A.fn sc_l_plain (by decide) (fun cdv A outer s H E hr => (dss_cons (ds_set 3 sc_l_plain.nd rfl (by first | exact Or.inl rfl | exact Or.inr rfl) (de_c1 0 c_l_draw (hr.mono (by decide)) (by rfl) (da_cons de_int da_nil)))
      (dss_cons (ds_if (DW.dt (dw_or (dt_lt (de_v 2) de_int) (dw_or1 (dt_eq hr (de_v 3) de_int)))) (dss_one (ds_ret (de_c1 0 c_l_set (hr.mono (by decide)) (by rfl) (da_cons (de_v 1) da_nil)))) dss_nil)
      (dss_cons (ds_set 4 sc_l_plain.nd rfl (by first | exact Or.inl rfl | exact Or.inr rfl) (de_add de_int (de_c1 0 c_l_draw (hr.mono (by decide)) (by rfl) (da_cons (de_sub (de_v 2) de_int) da_nil))))
      (dss_cons (ds_if (dt_eq hr (de_v 3) de_int) (dss_one (ds_ret (de_tup (da_cons de_str (da_cons (de_c1 0 c_l_row (hr.mono (by decide)) (by rfl) (da_cons (de_v 1) (da_cons (de_v 4) da_nil))) (da_cons (de_c1 0 c_l_row (hr.mono (by decide)) (by rfl) (da_cons (de_v 1) (da_cons (de_sub (de_v 2) (de_v 4)) da_nil))) da_nil)))))) dss_nil)
      (dss_cons (ds_if (dt_eq hr (de_v 3) de_int) (dss_one (ds_ret (de_add (de_c1 0 c_l_row (hr.mono (by decide)) (by rfl) (da_cons (de_v 1) (da_cons (de_v 4) da_nil))) (de_tup (da_cons (de_tup (da_cons de_str (da_cons (de_c1 0 c_l_set (hr.mono (by decide)) (by rfl) (da_cons (de_v 1) da_nil)) (da_cons de_int (da_cons de_non da_nil))))) da_nil))))) dss_nil)
      (dss_cons (ds_if (dt_eq hr (de_v 3) de_int) (dss_one (ds_ret (de_add (de_tup (da_cons de_str (da_cons (de_tup (da_cons de_str (da_cons (de_c1 0 c_l_set (hr.mono (by decide)) (by rfl) (da_cons (de_v 1) da_nil)) (da_cons de_int (da_cons de_non da_nil))))) da_nil))) (de_sl (de_c1 0 c_l_row (hr.mono (by decide)) (by rfl) (da_cons (de_v 1) (da_cons (de_v 4) da_nil))) (do_some de_int) do_none)))) dss_nil)
      (dss_cons (ds_set 5 sc_l_plain.nd rfl (by first | exact Or.inl rfl | exact Or.inr rfl) (de_add de_int (de_c1 0 c_l_draw (hr.mono (by decide)) (by rfl) (da_cons (de_min2 rfl (by rfl) m_min (da_cons de_int (da_cons (de_sub (de_v 2) (de_v 4)) da_nil))) da_nil))))
      (dss_cons (ds_if (dt_eq hr (de_v 3) de_int) (dss_cons (ds_set 6 sc_l_plain.nd rfl (by first | exact Or.inl rfl | exact Or.inr rfl) (de_c1 0 c_l_row (hr.mono (by decide)) (by rfl) (da_cons (de_v 1) (da_cons (de_fdiv (de_sub (de_v 2) (de_v 4)) (de_v 5)) da_nil))))
      (dss_one (ds_ret (de_add (de_c1 0 c_l_row (hr.mono (by decide)) (by rfl) (da_cons (de_v 1) (da_cons (de_v 4) da_nil))) (de_tup (da_cons (de_tup (da_cons de_str (da_cons (de_v 6) (da_cons de_int (da_cons (de_v 5) da_nil))))) da_nil)))))) dss_nil)
      (dss_cons (ds_if (DW.dt (dw_or (dt_eq hr (de_v 3) de_int) (dw_or1 (dt_eq hr (de_v 3) de_int)))) (dss_cons (ds_set 7 sc_l_plain.nd rfl (by first | exact Or.inl rfl | exact Or.inr rfl) (de_add de_int (de_c1 0 c_l_draw (hr.mono (by decide)) (by rfl) (da_cons (de_v 5) da_nil))))
      (dss_cons (ds_set 8 sc_l_plain.nd rfl (by first | exact Or.inl rfl | exact Or.inr rfl) (de_ix (de_lst (da_cons (de_v 5) (da_cons de_non da_nil))) (de_mul (de_c1 0 c_l_draw (hr.mono (by decide)) (by rfl) (da_cons de_int da_nil)) (de_intc (by rfl) m_int (da_cons (de_lt (de_v 7) (de_v 5)) da_nil))) (fun _ _ => rfl)))
      (dss_one (ds_ret (de_tup (da_cons de_str (da_cons (de_c1 0 c_l_row (hr.mono (by decide)) (by rfl) (da_cons (de_v 1) (da_cons (de_fdiv (de_v 2) (de_v 5)) da_nil))) (da_cons (de_v 7) (da_cons (de_v 8) da_nil))))))))) dss_nil)
      (dss_one (ds_ret (de_c1 0 c_l_row (hr.mono (by decide)) (by rfl) (da_cons (de_v 1) (da_cons (de_add de_int (de_c1 0 c_l_draw (hr.mono (by decide)) (by rfl) (da_cons (de_v 2) da_nil))) da_nil))))))))))))))) ?_)
  rintro xs ds Q hl ⟨c, A, R, rfl, hA, hS, R1, R2, hc, q⟩
  walk_at "s"
  refine ⟨c, _, rfl, hS, by omega, by decide, by decide, fun way xs1 w0 w1 hS1 => ⟨rfl, ?_⟩⟩
  walk_at "s"
  refine ifB (fun h => ?_) (fun h => ?_)
  · walk_at "s"
    exact ⟨c + 1, A, rfl, hA, hS1, by omega, fun s xs3 h1 h2 hS3 => ⟨_, rfl, q _ _ (Pln.set h1 h2 R1) (hS3.mono (by omega))⟩⟩
  have R3 : 2 ≤ R := by
    have := of_decide_eq_false h
    omega
  walk_at "s"
  refine ifB (fun h => ?_) (fun h => ?_)
  · walk_at "s"
    exact ⟨c + 1, A, rfl, hA, hS1, by omega, fun s xs3 h1 h2 hS3 => ⟨_, rfl, q _ _ (Pln.set h1 h2 R1) (hS3.mono (by omega))⟩⟩
  walk_at "s"
  refine ⟨c + 1, _, rfl, hS1, by omega, by omega, by omega, fun sz xs2 s0 s1 hS2 => ?_⟩
  walk_at "s"
  -- way 1
  refine ifB (fun h => ?_) (fun h => ?_)
  · walk_at "s"
    refine ⟨c + 2, A, 1 + sz, rfl, hA, hS2, by omega, by omega, by omega, fun ss xs3 h3 h4 hS3 => ?_⟩
    walk_at "s"
    refine ⟨c + 702, A, R - (1 + sz), rfl, hA, hS3, by omega, by omega, by omega, fun ss' xs4 h5 h6 hS4 => ?_⟩
    walk_at "s"
    have := q _ xs4 (Pln.any2 (R := R) (Sets.of h3 h4 (by omega)) (Sets.of h5 h6 (by omega)) (by omega) (by omega) (by omega) (by omega)) (hS4.mono (by omega))
    rw [toD, toDL, toDL, toDL] at this
    exact this
  walk_at "s"
  -- way 2
  refine ifB (fun h => ?_) (fun h => ?_)
  · walk_at "s"
    refine ⟨c + 2, A, 1 + sz, rfl, hA, hS2, by omega, by omega, by omega, fun ss xs3 h3 h4 hS3 => ?_⟩
    walk_at "s"
    refine ⟨c + 702, A, rfl, hA, hS3, by omega, fun s xs4 h1 h2 hS4 => ?_⟩
    walk_at "s"
    have a := Pln.set (R := 1) h1 h2 (Int.le_refl 1)
    have := q (.row (ss.map .set ++ [.again (.set s) 0 none])) xs4 (Pln.rowWith (R := R) (n := 1 + sz) (Sets.of h3 h4 (by omega)) (p := .again (.set s) 0 none) (by rw [stR]; exact a.st) (by rw [okR, a.ok]; rfl) (by rw [rdep, rdep]; decide) rfl (by show (0 : Int) ≤ 1; decide) (by show 1 + sz + 1 ≤ R; omega) (by show 1 + sz + 2 ≤ R + 2; omega) (by omega) (by omega) (.inl rfl)) (hS4.mono (by omega))
    exact ⟨_, add_row (rs := [.again (.set s) 0 none]) (by rw [toDL, toDL, toD.eq_6]; rfl) (by rw [List.length_map]; show _ + 1 ≤ _; omega), _, rfl, this⟩
  walk_at "s"
  -- way 3
  refine ifB (fun h => ?_) (fun h => ?_)
  · walk_at "s"
    refine ⟨c + 2, A, rfl, hA, hS2, by omega, fun s xs3 h1 h2 hS3 => ?_⟩
    walk_at "s"
    refine ⟨c + 9, A, 1 + sz, rfl, hA, hS3, by omega, by omega, by omega, fun ss xs4 h3 h4 hS4 => ?_⟩
    walk_at "s"
    rw [cutD_1]
    refine ⟨_, add_tup (by rw [toDL_len, List.length_map]; show 2 + _ ≤ _; omega), ?_⟩
    have a := Pln.set (R := 1) h1 h2 (Int.le_refl 1)
    have := q (.row (.again (.set s) 0 none :: ss.map .set)) xs4 (Pln.rowWith (R := R) (n := 1 + sz) (Sets.of h3 h4 (by omega)) (p := .again (.set s) 0 none) (by rw [stR]; exact a.st) (by rw [okR, a.ok]; rfl) (by rw [rdep, rdep]; decide) rfl (by show (0 : Int) ≤ 1; decide) (by show 1 + sz + 1 ≤ R; omega) (by show 1 + sz + 2 ≤ R + 2; omega) (by omega) (by omega) (.inr rfl)) (hS4.mono (by omega))
    rw [toD.eq_2, toDL, toD.eq_6] at this
    exact ⟨_, rfl, this⟩
  walk_at "s"
  have mn : ∃ u : Int, (if R - (1 + sz) < 4 then R - (1 + sz) else 4) = u ∧ 1 ≤ u ∧ u ≤ 4 ∧ u ≤ R - (1 + sz) := by
    refine ⟨_, rfl, ?_, ?_, ?_⟩ <;> split <;> omega
  obtain ⟨u, hu, u1, u4, uR⟩ := mn
  rw [hu]
  refine ⟨c + 2, _, rfl, hS2, by omega, by omega, by omega, fun mj xs3 mj0 mj1 hS3 => ?_⟩
  walk_at "s"
  -- way 4
  refine ifB (fun h => ?_) (fun h => ?_)
  · walk_at "s"
    obtain ⟨b1, b2, b3⟩ := fdiv_bd (a := R - (1 + sz)) (b := 1 + mj) (by omega) (by omega)
    refine ⟨_, fdiv_ok (by omega) (by omega), ?_⟩
    walk_at "s"
    refine ⟨c + 3, A, (R - (1 + sz)) / (1 + mj), rfl, hA, hS3, by omega, by omega, by omega, fun ss' xs4 h5 h6 hS4 => ?_⟩
    walk_at "s"
    refine ⟨c + 703, A, 1 + sz, rfl, hA, hS4, by omega, by omega, by omega, fun ss xs5 h3 h4 hS5 => ?_⟩
    walk_at "s"
    have b := Pln.row (R := (R - (1 + sz)) / (1 + mj)) (Sets.of (A := A) h5 h6 (by omega)) b1 (Int.le_refl _) (by omega)
    have hb := Sets.of (A := A) h5 h6 (by omega)
    have ew : wd (.again (.row (ss'.map .set)) 0 (some (1 + mj))) = (R - (1 + sz)) / (1 + mj) * (1 + mj) := by
      rw [wd_again, wd_row, hb.ws, mx1_of b1, mx1_of b1]
      show _ * mx1 (1 + mj) = _
      rw [mx1_of (by omega)]
    have := q (.row (ss.map .set ++ [.again (.row (ss'.map .set)) 0 (some (1 + mj))])) xs5 (Pln.rowWith (R := R) (n := 1 + sz) (Sets.of h3 h4 (by omega)) (p := .again (.row (ss'.map .set)) 0 (some (1 + mj))) (by rw [stR]; exact b.st)
      (by rw [okR, b.ok, hiOk, decide_eq_true (by omega : (0 : Int) ≤ 1 + mj), decide_eq_true (by omega : 1 + mj ≤ 4)]; rfl) (by rw [rdep, rdep, hb.dp]; decide) (by rw [plain]; exact b.pl) (by rw [ew]; exact Int.mul_nonneg (by omega) (by omega)) (by rw [ew]; omega) (by rw [cnt, cnt, hb.ct]; omega) (by omega) (by omega) (.inl rfl)) (hS5.mono (by omega))
    exact ⟨_, add_row (rs := [.again (.row (ss'.map .set)) 0 (some (1 + mj))]) (by rw [toDL, toDL, toD.eq_6]; rfl) (by rw [List.length_map]; show _ + 1 ≤ _; omega), _, rfl, this⟩
  walk_at "s"
  have last : ∀ (xs4 : List D) (lo : Int) (hi : Option Int), 1 ≤ lo → lo ≤ 1 + mj → hiOk lo hi = true → fcI lo hi ≤ 1 + mj → 1 ≤ fcI lo hi → Src (c + 6) xs4 → g_row xs4 [.str A, .int (R / (1 + mj))] fun r xs' => ∀ d, d = D.tup [.str "again", r.dat, .int lo, hiD hi] → Q (.fz d) xs' := by
    intro xs4 lo hi l1 l2 l3 l4 l5 hS4
    obtain ⟨b1, b2, b3⟩ := fdiv_bd (a := R) (b := 1 + mj) (by omega) (by omega)
    refine ⟨c + 6, A, R / (1 + mj), rfl, hA, hS4, by omega, by omega, by omega, fun ss xs5 h3 h4 hS5 d hd => ?_⟩
    rw [hd]
    show Q (.fz (.tup [.str "again", toD (.row (ss.map .set)), .int lo, hiD hi])) xs5
    rw [toD_again]
    have hb := Sets.of (A := A) h3 h4 (by omega)
    have b := Pln.row hb b1 (Int.le_refl _) (by omega)
    have ew : wd (.again (.row (ss.map .set)) lo hi) = R / (1 + mj) * fcI lo hi := by rw [wd_again, wd_row, hb.ws, mx1_of b1, mx1_of b1]
    have em : R / (1 + mj) * fcI lo hi ≤ R / (1 + mj) * (1 + mj) := Int.mul_le_mul_of_nonneg_left l4 (by omega)
    have e1 : R / (1 + mj) * 1 ≤ R / (1 + mj) * fcI lo hi := Int.mul_le_mul_of_nonneg_left l5 (by omega)
    refine q _ xs5 ⟨by rw [stR]; exact b.st, by rw [okR, b.ok, decide_eq_true (by omega : 0 ≤ lo), decide_eq_true (by omega : lo ≤ 4), l3]; rfl, by rw [rdep, rdep, hb.dp]; decide, by rw [plain]; exact b.pl, by rw [ew]; omega, by rw [ew]; omega, by rw [cnt, cnt, hb.ct]; omega⟩ (hS5.mono (by omega))
  have pick : ∀ lj b : Int, 0 ≤ lj → lj < 1 + mj → 0 ≤ b → b < 2 → ∃ hi : Option Int, atI ([.int (1 + mj), .non] : List D) (b * (if decide (1 + lj < 1 + mj) = true then 1 else 0)) = some (hiD hi) ∧ hiOk (1 + lj) hi = true ∧ fcI (1 + lj) hi ≤ 1 + mj ∧ 1 ≤ fcI (1 + lj) hi := by
    intro lj b l0 l1 b0 b1
    have one : ∀ z : Int, z = 0 → ∃ hi : Option Int, atI ([.int (1 + mj), .non] : List D) z = some (hiD hi) ∧ hiOk (1 + lj) hi = true ∧ fcI (1 + lj) hi ≤ 1 + mj ∧ 1 ≤ fcI (1 + lj) hi := by
      rintro z rfl
      refine ⟨some (1 + mj), rfl, by rw [hiOk, decide_eq_true (by omega), decide_eq_true (by omega)]; rfl, ?_, ?_⟩
      · show mx1 (1 + mj) ≤ _
        rw [mx1_of (by omega)]
        omega
      · show 1 ≤ mx1 (1 + mj)
        rw [mx1_of (by omega)]
        omega
    by_cases hlt : 1 + lj < 1 + mj
    · rw [decide_eq_true hlt, if_pos rfl, Int.mul_one]
      rcases (show b = 0 ∨ b = 1 by omega) with e | e
      · exact one b e
      · subst e
        exact ⟨none, rfl, rfl, by show 1 + lj + 1 ≤ _; omega, by show 1 ≤ 1 + lj + 1; omega⟩
    · rw [decide_eq_false hlt, if_neg (by decide), Int.mul_zero]
      exact one 0 rfl
  -- ways 5, 6
  refine ifB (fun h => ?_) (fun h => ?_)
  · walk_at "s"
    refine ⟨c + 3, _, rfl, hS3, by omega, by omega, by omega, fun lj xs4 lj0 lj1 hS4 => ?_⟩
    walk_at "s"
    refine ⟨c + 4, _, rfl, hS4, by omega, by decide, by decide, fun b xs5 b0 b1 hS5 => ?_⟩
    walk_at "s"
    refine ⟨_, mul_okL (by omega) (by omega), ?_⟩
    obtain ⟨hi, hx, p1, p2, p3⟩ := pick lj b lj0 lj1 b0 b1
    refine ⟨_, ix_lst hx, rfl, ?_⟩
    walk_at "s"
    refine ⟨_, fdiv_ok (by omega) (by omega), ?_⟩
    walk_at "s"
    obtain ⟨c', A', m', e, a1, a2, a3, a4, a5, k⟩ := last xs5 (1 + lj) hi (by omega) (by omega) p1 p2 p3 (hS5.mono (by omega))
    refine ⟨c', A', m', e, a1, a2, a3, a4, a5, fun ss xs6 h1 h2 h3 => ?_⟩
    walk_at "s"
    exact k ss xs6 h1 h2 h3 _ rfl
  walk_at "s"
  refine ifB (fun h => ?_) (fun h => ?_)
  · walk_at "s"
    refine ⟨c + 3, _, rfl, hS3, by omega, by omega, by omega, fun lj xs4 lj0 lj1 hS4 => ?_⟩
    walk_at "s"
    refine ⟨c + 4, _, rfl, hS4, by omega, by decide, by decide, fun b xs5 b0 b1 hS5 => ?_⟩
    walk_at "s"
    refine ⟨_, mul_okL (by omega) (by omega), ?_⟩
    obtain ⟨hi, hx, p1, p2, p3⟩ := pick lj b lj0 lj1 b0 b1
    refine ⟨_, ix_lst hx, rfl, ?_⟩
    walk_at "s"
    refine ⟨_, fdiv_ok (by omega) (by omega), ?_⟩
    walk_at "s"
    obtain ⟨c', A', m', e, a1, a2, a3, a4, a5, k⟩ := last xs5 (1 + lj) hi (by omega) (by omega) p1 p2 p3 (hS5.mono (by omega))
    refine ⟨c', A', m', e, a1, a2, a3, a4, a5, fun ss xs6 h1 h2 h3 => ?_⟩
    walk_at "s"
    exact k ss xs6 h1 h2 h3 _ rfl
  walk_at "s"
  refine ⟨c + 3, _, rfl, hS3, by omega, by omega, by omega, fun j xs4 j0 j1 hS4 => ?_⟩
  walk_at "s"
  refine ⟨c + 4, A, 1 + j, rfl, hA, hS4, by omega, by omega, by omega, fun ss xs5 h3 h4 hS5 => ?_⟩
  walk_at "s"
  exact q _ xs5 (Pln.row (Sets.of h3 h4 (by omega)) (by omega) (by omega) (by omega)) (hS5.mono (by omega))
def g_pattern : FS1 := fun xs ds Q => ∃ (c : Nat) (A : Str) (R : Int), ds = [.str A, .int R] ∧ Alp A ∧ Src c xs ∧ 1 ≤ R ∧ R ≤ 20 ∧ c + 5000 ≤ 2 ^ 40 ∧ ∀ r xs', Pat A R r → Src (c + 5000) xs' → Q (.fz (toD r)) xs'
theorem ok_pattern (A : At K mg "_law_pattern" ["_law_source_here", "_law_alphabet_here", "_law_room"] s_l_pattern f fd) (c_l_draw : Fn1 P w K mg base "_law_draw" 1 2 g_draw) (c_l_plain : Fn1 P w K mg base "_law_plain" 4 3 g_plain) : Fn1 P w K mg base "_law_pattern" 5 3 g_pattern := by
  refine A.fn1 (okD1 (k := 4) A.fn sc_l_pattern (by decide) (fun cdv A outer s H E hr => (dss_cons (ds_if (DW.dt (dw_or (dt_lt (de_v 2) de_int) (dw_or1 (dt_gt (de_c1 0 c_l_draw (hr.mono (by decide)) (by rfl) (da_cons de_int da_nil)) de_int)))) (dss_one (ds_ret (de_c1 0 c_l_plain (hr.mono (by decide)) (by rfl) (da_cons (de_v 1) (da_cons (de_v 2) da_nil))))) dss_nil)
      (dss_cons (ds_set 3 sc_l_pattern.nd rfl (by first | exact Or.inl rfl | exact Or.inr rfl) (de_add de_int (de_c1 0 c_l_draw (hr.mono (by decide)) (by rfl) (da_cons (de_sub (de_v 2) de_int) da_nil))))
      (dss_cons (ds_set 4 sc_l_pattern.nd rfl (by first | exact Or.inl rfl | exact Or.inr rfl) (de_tup (da_cons de_str (da_cons (de_c1 0 c_l_plain (hr.mono (by decide)) (by rfl) (da_cons (de_v 1) (da_cons (de_sub (de_v 2) (de_v 3)) da_nil))) da_nil))))
      (dss_one (ds_ret (de_tup (da_cons de_str (da_cons (de_c1 0 c_l_plain (hr.mono (by decide)) (by rfl) (da_cons (de_v 1) (da_cons (de_v 3) da_nil))) (da_cons (de_v 4) da_nil)))))))))) ?_)
  rintro xs ds Q hl ⟨c, A, R, rfl, hA, hS, R1, R2, hc, q⟩
  walk_at "s"
  refine ifB (fun h => ?_) (fun h => ?_)
  · walk_at "s"
    refine ⟨c, A, R, rfl, hA, hS, R1, R2, by omega, fun r xs2 h1 hS2 => ?_⟩
    walk_at "s"
    exact q r xs2 h1.pat (hS2.mono (by omega))
  have R3 : 2 ≤ R := by
    have := of_decide_eq_false h
    omega
  walk_at "s"
  refine ⟨c, _, rfl, hS, by omega, by decide, by decide, fun j xs1 j0 j1 hS1 => ?_⟩
  walk_at "s"
  refine ifB (fun h => ?_) (fun h => ?_)
  · walk_at "s"
    refine ⟨c + 1, A, R, rfl, hA, hS1, R1, R2, by omega, fun r xs2 h1 hS2 => ?_⟩
    walk_at "s"
    exact q r xs2 h1.pat (hS2.mono (by omega))
  walk_at "s"
  refine ⟨c + 1, _, rfl, hS1, by omega, by omega, by omega, fun sz xs2 s0 s1 hS2 => ?_⟩
  walk_at "s"
  refine ⟨c + 2, A, R - (1 + sz), rfl, hA, hS2, by omega, by omega, by omega, fun r2 xs3 h2 hS3 => ?_⟩
  walk_at "s"
  refine ⟨c + 2002, A, 1 + sz, rfl, hA, hS3, by omega, by omega, by omega, fun r1 xs4 h1 hS4 => ?_⟩
  walk_at "s"
  have := q _ xs4 (Pat.all2 (R := R) h1 h2 (by omega)) (hS4.mono (by omega))
  rw [toD.eq_4, toDL, toDL, toDL, toD.eq_5] at this
  exact this
end
end Cut
namespace Cut
open PySem L2 DL
local macro_rules | `(tactic| walk_at "s") => `(tactic| repeat (first | with_reducible refine ⟨_, rfl, ?_⟩ | refine ⟨_, rfl, ?_⟩ | refine ⟨rfl, ?_⟩ | refine ⟨_, _, rfl, rfl, ?_⟩ | refine ⟨_, _, rfl, ?_⟩ | refine iteT ?_ | refine iteF ?_ | refine ⟨⟨_, rfl⟩, ?_⟩ | refine ⟨⟨_, _, rfl⟩, ?_⟩ | refine ⟨_, _, _, _, rfl, rfl, rfl, ?_⟩ | refine ⟨Nat.le_of_ble_eq_true rfl, ?_⟩ | refine ⟨(by decide), ?_⟩ | refine ⟨_, ix_t0 _ _, ?_⟩ | refine ⟨_, ix_l0 _ _, ?_⟩))
abbrev s_l_nested : Stmt := top 23
abbrev N_l_nested : List Str := ["_law_source_here", "_law_alphabet_here", "_law_depth", "_law_way", "_law_low", "_law_high", "_law_parts", "_law_k"]
theorem sc_l_nested : FnScope N_l_nested ["_law_source_here", "_law_alphabet_here", "_law_depth"] (defScope s_l_nested) := ⟨rfl, rfl, rfl, by decide +kernel, rfl, by decide +kernel, by decide +kernel⟩
abbrev s_l_measures : Stmt := top 28
abbrev N_l_measures : List Str := ["_law_value", "_law_word", "_law_found", "_law_part", "_law_wide", "_law_one", "_law_plain_here", "_law_right"]
theorem sc_l_measures : FnScope N_l_measures ["_law_value"] (defScope s_l_measures) := ⟨rfl, rfl, rfl, by decide +kernel, rfl, by decide +kernel, by decide +kernel⟩
/-! ### nested expressions -/
def ks : Nat → Nat
  | 0 => 10
  | n + 1 => 3 * ks n + 10
def cb : Nat → Int
  | 0 => 1
  | n + 1 => 3 * cb n + 1
theorem cb_pos : ∀ n, 1 ≤ cb n
  | 0 => by decide
  | n + 1 => by have := cb_pos n; rw [cb]; omega
structure Nst (A : Str) (n : Nat) (r : Rx) : Prop where
  st : stR A r = true
  ok : okR r = true
  dp : rdep r ≤ n
  ct : cnt r ≤ cb n
theorem Nst.set {A s : Str} {n : Nat} (h1 : isSetM A [.str s] = true) (h2 : s.length ≤ 6) : Nst A n (.set s) :=
  ⟨by rw [stR, h1, decide_eq_true h2]; rfl, okR_set (A := A) h2, by rw [rdep]; exact Nat.zero_le _, by show (1 : Int) ≤ _; exact cb_pos n⟩
theorem Nst.list {A : Str} {n w : Nat} {ps : List Rx} (h : ∀ p ∈ ps, Nst A n p) (hl : ps.length ≤ 3) : Nst A (n + 1) (Cut.mk w ps) := by
  have e1 := stRL_all A ps fun p hp => (h p hp).st
  have e2 := okRL_all ps fun p hp => (h p hp).ok
  have e3 := rdepL_le ps n fun p hp => (h p hp).dp
  have e4 : (cntL ps).sum ≤ cb n * ps.length := by
    rw [cntL_map]
    clear e1 e2 e3 hl
    induction ps with
    | nil => simp
    | cons p l ih =>
      have a := (h p (List.mem_cons_self ..)).ct
      have b := ih fun q hq => h q (List.mem_cons_of_mem _ hq)
      rw [List.map_cons, List.sum_cons, List.length_cons, show ((l.length + 1 : Nat) : Int) = (l.length : Int) + 1 by omega, Int.mul_add]
      omega
  have e5 : cb n * ps.length ≤ cb n * 3 := Int.mul_le_mul_of_nonneg_left (by omega) (by have := cb_pos n; omega)
  have e6 : (decide (ps.length ≤ 9999) && okRL ps) = true := by rw [decide_eq_true (by omega), e2]; rfl
  refine ⟨?_, ?_, ?_, ?_⟩
  · match w with
    | 0 => show stR A (.row ps) = true; rw [stR]; exact e1
    | 1 => show stR A (.any ps) = true; rw [stR]; exact e1
    | k + 2 => show stR A (.all ps) = true; rw [stR]; exact e1
  · match w with
    | 0 => show okR (.row ps) = true; rw [okR]; exact e6
    | 1 => show okR (.any ps) = true; rw [okR]; exact e6
    | k + 2 => show okR (.all ps) = true; rw [okR]; exact e6
  · match w with
    | 0 => show rdep (.row ps) ≤ _; rw [rdep]; omega
    | 1 => show rdep (.any ps) ≤ _; rw [rdep]; omega
    | k + 2 => show rdep (.all ps) ≤ _; rw [rdep]; omega
  · rw [cnt_mk, cb]
    omega
theorem Nst.no {A : Str} {n : Nat} {p : Rx} (h : Nst A n p) : Nst A (n + 1) (.no p) :=
  ⟨by rw [stR]; exact h.st, by rw [okR]; exact h.ok, by rw [rdep]; have := h.dp; omega, by rw [cnt, cb]; have := h.ct; have := cb_pos n; omega⟩
theorem Nst.again {A : Str} {n : Nat} {p : Rx} {lo : Int} {hi : Option Int} (h : Nst A n p) (l0 : 0 ≤ lo) (l1 : lo ≤ 4) (hh : hiOk lo hi = true) : Nst A (n + 1) (.again p lo hi) :=
  ⟨by rw [stR]; exact h.st, by rw [okR, h.ok, decide_eq_true l0, decide_eq_true l1, hh]; rfl, by rw [rdep]; have := h.dp; omega, by rw [cnt, cb]; have := h.ct; have := cb_pos n; omega⟩
section
variable {P : Program} {w : World} {K : Fg} {mg : Str → Option Value} {base : Heap} {f f2 : Addr} {fd fd2 : FuncData}
def g_nested (n : Nat) : FS1 := fun xs ds Q => ∃ (c m : Nat) (A : Str), ds = [.str A, .int m] ∧ Alp A ∧ m < n ∧ m ≤ 100 ∧ Src c xs ∧ c + ks m ≤ 2 ^ 40 ∧ ∀ r xs', Nst A m r → Src (c + ks m) xs' → Q (.fz (toD r)) xs'
theorem ok_nested (A : At K mg "_law_nested" ["_law_source_here", "_law_alphabet_here", "_law_depth"] s_l_nested f fd) (m_range : mg "range" = none) (m_tuple : mg "tuple" = none) (c_l_draw : Fn1 P w K mg base "_law_draw" 1 2 g_draw) (c_l_set : Fn1 P w K mg base "_law_set" 2 2 g_set) : ∀ n, Fn1 P w K mg base "_law_nested" (n + 3) 3 (g_nested n)
  | 0 => A.none1 fun xs ds Q ⟨_, _, _, _, _, h, _⟩ => absurd h (Nat.not_lt_zero _)
  | n + 1 => by
    have c_l_nested := ok_nested A m_range m_tuple c_l_draw c_l_set n
    refine A.fn1 (okD1 (k := n + 3) A.fn sc_l_nested (by decide) (fun cdv A outer s H E hr => (dss_cons (ds_set 3 sc_l_nested.nd rfl (by first | exact Or.inl rfl | exact Or.inr rfl) (de_c1 0 c_l_draw (hr.mono (by omega)) (by rfl) (da_cons de_int da_nil)))
      (dss_cons (ds_if (DW.dt (dw_or (dt_eq hr (de_v 2) de_int) (dw_or1 (dt_eq hr (de_v 3) de_int)))) (dss_one (ds_ret (de_c1 0 c_l_set (hr.mono (by omega)) (by rfl) (da_cons (de_v 1) da_nil)))) dss_nil)
      (dss_cons (ds_if (dt_eq hr (de_v 3) de_int) (dss_cons (ds_set 4 sc_l_nested.nd rfl (by first | exact Or.inl rfl | exact Or.inr rfl) (de_c1 0 c_l_draw (hr.mono (by omega)) (by rfl) (da_cons de_int da_nil)))
      (dss_cons (ds_set 5 sc_l_nested.nd rfl (by first | exact Or.inl rfl | exact Or.inr rfl) (de_ix (de_lst (da_cons de_non (da_cons (de_add (de_v 4) (de_c1 0 c_l_draw (hr.mono (by omega)) (by rfl) (da_cons (de_sub de_int (de_v 4)) da_nil))) da_nil))) (de_c1 0 c_l_draw (hr.mono (by omega)) (by rfl) (da_cons de_int da_nil)) (fun _ _ => rfl)))
      (dss_one (ds_ret (de_tup (da_cons de_str (da_cons (de_c1 0 c_l_nested (hr.mono (by omega)) (by rfl) (da_cons (de_v 1) (da_cons (de_sub (de_v 2) de_int) da_nil))) (da_cons (de_v 4) (da_cons (de_v 5) da_nil))))))))) dss_nil)
      (dss_cons (ds_if (dt_eq hr (de_v 3) de_int) (dss_one (ds_ret (de_tup (da_cons de_str (da_cons (de_c1 0 c_l_nested (hr.mono (by omega)) (by rfl) (da_cons (de_v 1) (da_cons (de_sub (de_v 2) de_int) da_nil))) da_nil))))) dss_nil)
      (dss_cons (ds_setLc (i := 6) (own := [("_law_k", 7)]) rfl sc_l_nested.nd rfl rfl (sw_true rfl rfl rfl (by decide +kernel)) (di_range1 (by rfl) m_range (da_cons (de_c1 0 c_l_draw (hr.mono (by omega)) (by rfl) (da_cons de_int da_nil)) da_nil)) (blkOk_by (N := N_l_nested) (sc := defScope s_l_nested) (own := [("_law_k", 7)]) (by decide +kernel)) (fun _ _ _ _ _ => (dg_n 7 sc_l_nested.nd rfl (by first | exact Or.inl rfl | exact Or.inr rfl))) (fun _ _ _ _ _ => dts_nil) (fun _ _ _ _ _ => (de_c1 0 c_l_nested (hr.mono (by omega)) (by rfl) (da_cons (de_v 1) (da_cons (de_sub (de_v 2) de_int) da_nil)))))
      (dss_one (ds_ret (de_add (de_tup (da_cons (de_ix (de_lst (da_cons de_str (da_cons de_str (da_cons de_str da_nil)))) (de_mod (de_v 3) de_int) (fun _ _ => rfl)) da_nil)) (de_tuple (by rfl) m_tuple (da_cons (de_v 6) da_nil))))))))))) ?_)
    rintro xs ds Q hl ⟨c, m, A, rfl, hA, hm, hm2, hS, hc, q⟩
    have hk : 10 ≤ ks m := by cases m <;> rw [ks] <;> omega
    walk_at "s"
    refine ⟨c, _, rfl, hS, by omega, by decide, by decide, fun way xs1 w0 w1 hS1 => ⟨rfl, ?_⟩⟩
    walk_at "s"
    refine ifB (fun h => ?_) (fun h => ?_)
    · walk_at "s"
      exact ⟨c + 1, A, rfl, hA, hS1, by omega, fun s xs3 h1 h2 hS3 => ⟨_, rfl, q _ _ (Nst.set h1 h2) (hS3.mono (by omega))⟩⟩
    walk_at "s"
    refine ifB (fun h => ?_) (fun h => ?_)
    · walk_at "s"
      exact ⟨c + 1, A, rfl, hA, hS1, by omega, fun s xs3 h1 h2 hS3 => ⟨_, rfl, q _ _ (Nst.set h1 h2) (hS3.mono (by omega))⟩⟩
    have hm0 : m ≠ 0 := by
      rename_i h1
      have h1' : decide ((m : Int) = 0) = false := h1
      have := of_decide_eq_false h1'
      omega
    obtain ⟨k, rfl⟩ : ∃ k, m = k + 1 := ⟨m - 1, by omega⟩
    have ek : ((k + 1 : Nat) : Int) - 1 = (k : Int) := by omega
    have eks : ks (k + 1) = 3 * ks k + 10 := rfl
    walk_at "s"
    refine ifB (fun h => ?_) (fun h => ?_)
    · walk_at "s"
      refine ⟨c + 1, _, rfl, hS1, by omega, by decide, by decide, fun lo xs2 l0 l1 hS2 => ?_⟩
      walk_at "s"
      refine ⟨c + 2, _, rfl, hS2, by omega, by omega, by omega, fun d xs3 d0 d1 hS3 => ?_⟩
      walk_at "s"
      refine ⟨c + 3, _, rfl, hS3, by omega, by decide, by decide, fun b xs4 b0 b1 hS4 => ?_⟩
      obtain ⟨hi, hx, hh⟩ : ∃ hi : Option Int, atI ([.non, .int (lo + d)] : List D) b = some (hiD hi) ∧ hiOk lo hi = true := by
        rcases (show b = 0 ∨ b = 1 by omega) with e | e
        · subst e
          exact ⟨none, rfl, rfl⟩
        · subst e
          exact ⟨some (lo + d), rfl, by rw [hiOk, decide_eq_true (by omega), decide_eq_true (by omega)]; rfl⟩
      refine ⟨_, ix_lst hx, rfl, ?_⟩
      walk_at "s"
      refine ⟨c + 4, k, A, congrArg (fun z : Int => [D.str A, .int z]) ek, hA, by omega, by omega, hS4, by omega, fun r xs5 hr hS5 => ?_⟩
      walk_at "s"
      have := q _ xs5 (hr.again l0 (by omega) hh) (hS5.mono (by omega))
      rw [toD.eq_6] at this
      exact this
    walk_at "s"
    refine ifB (fun h => ?_) (fun h => ?_)
    · walk_at "s"
      refine ⟨c + 1, k, A, congrArg (fun z : Int => [D.str A, .int z]) ek, hA, by omega, by omega, hS1, by omega, fun r xs5 hr hS5 => ?_⟩
      walk_at "s"
      have := q _ xs5 hr.no (hS5.mono (by omega))
      rw [toD.eq_5] at this
      exact this
    walk_at "s"
    refine ⟨c + 1, _, rfl, hS1, by omega, by decide, by decide, fun j xs2 j0 j1 hS2 => ?_⟩
    refine ⟨j, rfl, ⟨by omega, by omega⟩, rfl, ?_⟩
    refine lc_inv (fun es ρ acc => ∃ (xs : List D) (rs : List Rx), ρ = [some (.ow true xs), some (.fz (.str A)), some (.fz (.int ((k + 1 : Nat) : Int))), some (.fz (.int way)), none, none, none, none] ∧ acc = rs.map toD ∧ (∀ r ∈ rs, Nst A k r) ∧ rs.length + es.length = j.toNat ∧ Src (c + 2 + rs.length * ks k) xs) _ _ _ ⟨xs2, [], rfl, rfl, (by intro r hr; cases hr), by rw [rangeD_map]; simp, by simpa using hS2⟩ ?_ ?_
    · rintro d es ρ acc R ⟨xs3, rs, rfl, rfl, hrs, hlen, hS3⟩ hR
      rw [List.length_cons] at hlen
      have hb : rs.length * ks k ≤ 2 * ks k := Nat.mul_le_mul_right _ (by omega)
      refine ⟨rfl, ?_⟩
      walk_at "s"
      refine ⟨c + 2 + rs.length * ks k, k, A, congrArg (fun z : Int => [D.str A, .int z]) ek, hA, by omega, by omega, hS3, by omega, fun r xs4 hr hS4 => ?_⟩
      refine ⟨by rw [List.length_map]; omega, hR _ _ ⟨xs4, rs ++ [r], rfl, by rw [List.map_append]; rfl, ?_, ?_, ?_⟩⟩
      · intro t ht
        rcases List.mem_append.mp ht with ht | ht
        · exact hrs t ht
        · rw [List.mem_singleton.mp ht]
          exact hr
      · rw [List.length_append]
        show rs.length + 1 + es.length = _
        omega
      · rw [List.length_append]
        show Src (c + 2 + (rs.length + 1) * ks k) xs4
        rw [Nat.add_mul, Nat.one_mul, ← Nat.add_assoc]
        exact hS4
    · rintro ρ acc ⟨xs3, rs, rfl, rfl, hrs, hlen, hS3⟩
      have hl3 : rs.length ≤ 3 := by
        have : rs.length + 0 = j.toNat := hlen
        omega
      have hb : rs.length * ks k ≤ 3 * ks k := Nat.mul_le_mul_right _ hl3
      walk_at "s"
      obtain ⟨w, hw⟩ := word3 (Int.emod_nonneg way (b := 3) (by decide)) (Int.emod_lt_of_pos way (b := 3) (by decide))
      refine ⟨_, ix_lst hw, ?_⟩
      walk_at "s"
      refine ⟨_, add_tup (by rw [List.length_map]; show 1 + _ ≤ _; omega), ?_⟩
      walk_at "s"
      have := q _ xs3 (Nst.list (w := w) hrs hl3) (hS3.mono (by omega))
      rw [toD_mk, toDL_map] at this
      exact this
/-! ### measures -/
def meas (r : Rx) : D := .tup [.int (wd r), .int (cnt r), .bl (plain r), .bl (hasP r)]
def g_measures (n : Nat) : FS0 := fun ds Q => ∃ r, ds = [toD r] ∧ okR r = true ∧ rdep r < n ∧ Q (.fz (meas r))
/-- what stands behind the word: parts, and numbers or texts -/
def Rx.bits : Rx → List (Rx ⊕ D)
  | .set s => [.inr (.str s)]
  | .row ps | .any ps | .all ps => ps.map .inl
  | .no p => [.inl p]
  | .again p lo hi => [.inl p, .inr (.int lo), .inr (hiD hi)]
def bitD : Rx ⊕ D → D
  | .inl p => toD p
  | .inr d => d
theorem tail_bits (r : Rx) : r.tail = r.bits.map bitD := by
  cases r <;> simp [Rx.tail, Rx.bits, bitD, toDL_map] <;> rfl
theorem bits_parts (r : Rx) : (r.bits.filter Sum.isLeft).map (fun b => match b with | .inl p => meas p | .inr _ => .non) = r.parts.map meas := by
  have h : ∀ ps : List Rx, ((ps.map (Sum.inl (β := D))).filter Sum.isLeft).map (fun b => match b with | .inl p => meas p | .inr _ => .non) = ps.map meas := by
    intro ps
    rw [List.filter_eq_self.mpr (by intro a ha; obtain ⟨p, _, rfl⟩ := List.mem_map.mp ha; rfl), List.map_map]
    rfl
  cases r with
  | set s => rfl
  | row ps => exact h ps
  | any ps => exact h ps
  | all ps => exact h ps
  | no p => rfl
  | again p lo hi => rfl
theorem bits_isi (r : Rx) : ∀ b ∈ r.bits, isiD [bitD b, .ty "tuple"] = some (.fz (.bl b.isLeft)) := by
  have h1 : ∀ p : Rx, isiD [toD p, .ty "tuple"] = some (.fz (.bl true)) := fun p => by rw [toD_eq p]; rfl
  have h : ∀ ps : List Rx, ∀ b ∈ ps.map (Sum.inl (β := D)), isiD [bitD b, .ty "tuple"] = some (.fz (.bl b.isLeft)) := by
    intro ps b hb
    obtain ⟨p, _, rfl⟩ := List.mem_map.mp hb
    exact h1 p
  intro b hb
  cases r with
  | set s => rw [List.mem_singleton.mp hb]; rfl
  | row ps => exact h ps b hb
  | any ps => exact h ps b hb
  | all ps => exact h ps b hb
  | no p => rw [List.mem_singleton.mp hb]; exact h1 p
  | again p lo hi =>
    simp only [Rx.bits, List.mem_cons, List.mem_nil_iff, or_false] at hb
    rcases hb with rfl | rfl | rfl
    · exact h1 p
    · rfl
    · cases hi <;> rfl
theorem bits_mem (r : Rx) {p : Rx} (h : Sum.inl p ∈ r.bits) : p ∈ r.parts := by
  have g : ∀ ps : List Rx, Sum.inl p ∈ ps.map (Sum.inl (β := D)) → p ∈ ps := fun ps hp => by
    obtain ⟨q, hq, e⟩ := List.mem_map.mp hp
    cases e
    exact hq
  cases r with
  | set s => simp [Rx.bits] at h
  | row ps => exact g ps h
  | any ps => exact g ps h
  | all ps => exact g ps h
  | no q => simp [Rx.bits] at h; rw [h]; exact List.mem_singleton.mpr rfl
  | again q lo hi => simp [Rx.bits] at h; rw [h]; exact List.mem_singleton.mpr rfl
theorem bits_len (r : Rx) : r.bits.length ≤ r.parts.length + 2 := by
  cases r <;> simp [Rx.bits, Rx.parts]
theorem in_raa (w : Str) : (([.str "row", .str "any", .str "again"] : List D).any fun b => eqB b (.str w)) = (decide (w = "row") || (decide (w = "any") || decide (w = "again"))) := by
  show (eqS "row" w || (eqS "any" w || (eqS "again" w || false))) = _
  rw [eqS_eq', eqS_eq', eqS_eq', Bool.or_false]
theorem in_ra (w : Str) : (([.str "row", .str "again"] : List D).any fun b => eqB b (.str w)) = decide (w = "row" ∨ w = "again") := by
  show (eqS "row" w || (eqS "again" w || false)) = _
  rw [eqS_eq', eqS_eq', Bool.or_false]
  simp only [Bool.decide_or]
theorem plain_raa (r : Rx) (h : r.word ≠ "set") : plain r = ((decide (r.word = "row") || (decide (r.word = "any") || decide (r.word = "again"))) && (r.parts.map plain).all id) := by
  cases r with
  | set s => exact absurd rfl h
  | row ps => rw [plain, plainL_map]; simp [Rx.word, Rx.parts]
  | any ps => rw [plain, plainL_map]; simp [Rx.word, Rx.parts]
  | all ps => rw [plain]; simp [Rx.word, k15, k7, k8, k9, k20, k26, k6]
  | no p => rw [plain]; simp [Rx.word, k16, k10, k11, k21, k28]
  | again p lo hi => rw [plain]; simp [Rx.word, Rx.parts]
theorem meas_is {Q : Res → Prop} {r : Rx} (q : Q (.fz (meas r))) {a b : Int} {x y : Bool} (ha : a = wd r) (hb : b = cnt r) (hx : x = plain r) (hy : y = hasP r) : Q (.fz (.tup [.int a, .int b, .bl x, .bl y])) := by
  subst ha hb hx hy
  exact q
theorem ok_measures (A : At K mg "_law_measures" ["_law_value"] s_l_measures f fd) (m_isinstance : mg "isinstance" = none) (m_tuple : mg "tuple" = none) (m_sum : mg "sum" = none) (m_max : mg "max" = none) (m_all : mg "all" = none) : ∀ n, Fn0 P w K mg base "_law_measures" (n + 1) 1 (g_measures n)
  | 0 => A.none0 fun ds Q ⟨_, _, _, h, _⟩ => absurd h (Nat.not_lt_zero _)
  | n + 1 => by
    have c_l_measures := ok_measures A m_isinstance m_tuple m_sum m_max m_all n
    refine A.fn0 (okD0 (k := n + 1) A.fn sc_l_measures (by decide) (fun cdv A outer s H E hr => (dss_cons (ds_set 1 sc_l_measures.nd rfl (by first | exact Or.inl rfl | exact Or.inr rfl) (de_ix (de_v 0) de_int (fun _ _ => rfl)))
      (dss_cons (ds_if (dt_eq hr (de_v 1) de_str) (dss_one (ds_ret (de_tup (da_cons de_int (da_cons de_int (da_cons de_bl (da_cons de_bl da_nil))))))) dss_nil)
      (dss_cons (ds_setLc (i := 2) (own := [("_law_part", 3)]) rfl sc_l_measures.nd rfl rfl (sw_true rfl rfl rfl (by decide +kernel)) (di_seq (de_sl (de_v 0) (do_some de_int) do_none)) (blkOk_by (N := N_l_measures) (sc := defScope s_l_measures) (own := [("_law_part", 3)]) (by decide +kernel)) (fun _ _ _ _ _ => (dg_n 3 sc_l_measures.nd rfl (by first | exact Or.inl rfl | exact Or.inr rfl))) (fun _ _ _ _ _ => (dts_one (dt_val (de_isi (by rfl) m_isinstance (da_cons (de_v 3) (da_cons (de_ty (n := "tuple") (by rfl) m_tuple (by decide +kernel)) da_nil)))))) (fun _ _ _ _ _ => (de_c0 c_l_measures (hr.mono (by omega)) (by rfl) (da_cons (de_v 3) da_nil))))
      (dss_cons (ds_set 4 sc_l_measures.nd rfl (by first | exact Or.inl rfl | exact Or.inr rfl) (de_max2 rfl (by rfl) m_max (da_cons de_int (da_cons (de_sum rfl (by rfl) m_sum (da_cons (de_lc (own := [("_law_one", 5)]) rfl sc_l_measures.nd (di_seq (de_v 2)) (blkOk_by (N := N_l_measures) (sc := defScope s_l_measures) (own := [("_law_one", 5)]) (by decide +kernel)) (fun _ _ _ _ _ => (dg_n 5 sc_l_measures.nd rfl (by first | exact Or.inl rfl | exact Or.inr rfl))) (fun _ _ _ _ _ => dts_nil) (fun _ _ _ _ _ => (de_ix (de_v 5) de_int (fun _ _ => rfl)))) da_nil)) da_nil))))
      (dss_cons (ds_if (dt_eq hr (de_v 1) de_str) (dss_one (ds_set 4 sc_l_measures.nd rfl (by first | exact Or.inl rfl | exact Or.inr rfl) (de_mul (de_v 4) (de_max2 rfl (by rfl) m_max (da_cons de_int (da_cons (de_if (dt_is (de_ix (de_v 0) de_int (fun _ _ => rfl)) de_non) (de_add (de_ix (de_v 0) de_int (fun _ _ => rfl)) de_int) (de_ix (de_v 0) de_int (fun _ _ => rfl))) da_nil)))))) dss_nil)
      (dss_cons (ds_set 6 sc_l_measures.nd rfl (by first | exact Or.inl rfl | exact Or.inr rfl) (de_and (de_in (de_v 1) (de_tup (da_cons de_str (da_cons de_str (da_cons de_str da_nil))))) (de_one (de_all rfl (by rfl) m_all (da_cons (de_lc (own := [("_law_one", 5)]) rfl sc_l_measures.nd (di_seq (de_v 2)) (blkOk_by (N := N_l_measures) (sc := defScope s_l_measures) (own := [("_law_one", 5)]) (by decide +kernel)) (fun _ _ _ _ _ => (dg_n 5 sc_l_measures.nd rfl (by first | exact Or.inl rfl | exact Or.inr rfl))) (fun _ _ _ _ _ => dts_nil) (fun _ _ _ _ _ => (de_ix (de_v 5) de_int (fun _ _ => rfl)))) da_nil)))))
      (dss_cons (ds_set 7 sc_l_measures.nd rfl (by first | exact Or.inl rfl | exact Or.inr rfl) (de_if (dt_in (de_v 1) (de_tup (da_cons de_str (da_cons de_str da_nil)))) (de_v 6) (de_all rfl (by rfl) m_all (da_cons (de_lc (own := [("_law_one", 5)]) rfl sc_l_measures.nd (di_seq (de_v 2)) (blkOk_by (N := N_l_measures) (sc := defScope s_l_measures) (own := [("_law_one", 5)]) (by decide +kernel)) (fun _ _ _ _ _ => (dg_n 5 sc_l_measures.nd rfl (by first | exact Or.inl rfl | exact Or.inr rfl))) (fun _ _ _ _ _ => dts_nil) (fun _ _ _ _ _ => (de_ix (de_v 5) de_int (fun _ _ => rfl)))) da_nil))))
      (dss_one (ds_ret (de_tup (da_cons (de_v 4) (da_cons (de_add de_int (de_sum rfl (by rfl) m_sum (da_cons (de_lc (own := [("_law_one", 5)]) rfl sc_l_measures.nd (di_seq (de_v 2)) (blkOk_by (N := N_l_measures) (sc := defScope s_l_measures) (own := [("_law_one", 5)]) (by decide +kernel)) (fun _ _ _ _ _ => (dg_n 5 sc_l_measures.nd rfl (by first | exact Or.inl rfl | exact Or.inr rfl))) (fun _ _ _ _ _ => dts_nil) (fun _ _ _ _ _ => (de_ix (de_v 5) de_int (fun _ _ => rfl)))) da_nil))) (da_cons (de_v 6) (da_cons (de_v 7) da_nil))))))))))))))) ?_)
    rintro ds Q hl ⟨r, rfl, ho, hd, q⟩
    have et := toD_eq r
    rw [et]
    walk_at "s"
    refine ifd (eqS_eq r.word "set") (fun h => ?_) (fun h => ?_)
    · cases r <;> first | (simp [Rx.word, k1, k4, k7, k10, k12] at h; done) | skip
      walk_at "s"
      exact q
    · walk_at "s"
      rw [cutD_1, tail_bits]
      have hpl := okR_len ho
      refine lc_pure (φ := bitD) (b := Sum.isLeft) (f := fun b => match b with | .inl p => meas p | .inr _ => .non) rfl rfl r.bits [] (fun b hb Q2 q2 => ?_) (fun b hb hl Q2 q2 => ?_) (by have := bits_len r; simp; omega) ?_
      · exact ⟨_, rfl, _, bits_isi r b hb, b.isLeft, rfl, q2⟩
      · match b, hb, hl, q2 with
        | .inl p, hb, _, q2 =>
          have hp := bits_mem r hb
          exact ⟨_, rfl, p, rfl, okR_parts ho p hp, rdep_parts hd (List.ne_nil_of_mem hp) p hp, q2 _ rfl⟩
      rw [List.nil_append, bits_parts]
      walk_at "s"
      refine lc_map (φ := meas) (f := fun p => .int (wd p)) r.parts rfl rfl (fun p hp Q2 q2 => ?_) (by omega) ?_
      · exact ⟨_, rfl, _, rfl, q2 _ rfl⟩
      refine ⟨_, sum_map _ _, ?_⟩
      walk_at "s"
      have hwd := wd_eq r h
      refine ite_set 4 (.int (wd r)) (fun R hR => ?_) ?_
      · refine ifd (eqS_eq r.word "again") (fun h2 => ?_) (fun h2 => ?_)
        · obtain ⟨p, lo, hi, er⟩ : ∃ p lo hi, r = .again p lo hi := by
            cases r <;> first | (simp [Rx.word, k2, k5, k8, k11, k13] at h2; done) | skip
            exact ⟨_, _, _, rfl⟩
          have i2 : ixD (.tup (.str r.word :: r.bits.map bitD)) (.int 2) = some (.fz (.int lo)) := by rw [er]; rfl
          have i3 : ixD (.tup (.str r.word :: r.bits.map bitD)) (.int 3) = some (.fz (hiD hi)) := by rw [er]; rfl
          rw [er] at ho
          rw [okR, Bool.and_eq_true, Bool.and_eq_true, Bool.and_eq_true] at ho
          have l1 := of_decide_eq_true ho.1.1.2
          have l2 := of_decide_eq_true ho.1.2
          have key : ∀ (x y : Int), 0 ≤ y → y ≤ 5 → mulD (.int x) (.int y) = some (.fz (.int (x * y))) := by
            intro x y h1 h2
            exact mul_okR (by omega) (by omega)
          walk_at "s"
          refine ⟨_, i3, ?_⟩
          have hfac : r.fac = fcI lo hi := by
            rw [er]
            cases hi <;> rfl
          have hlo := ho.2
          cases hi with
          | none =>
            walk_at "s"
            refine ⟨_, i2, ?_⟩
            walk_at "s"
            refine ⟨_, key _ (mx1 (lo + 1)) (by unfold mx1; split <;> omega) (by rw [mx1_of (by omega)]; omega), rfl, ?_⟩
            have e1 : mx1 (lo + 1) = lo + 1 := mx1_of (by omega)
            show R (List.set _ 4 (some (.fz (.int (mx1 (r.parts.map wd).sum * mx1 (lo + 1))))))
            rw [e1]
            rw [hwd, hfac] at hR
            exact hR
          | some x =>
            walk_at "s"
            refine ⟨_, i3, ?_⟩
            have hu' : x ≤ 5 := by
              rw [hiOk, Bool.and_eq_true] at hlo
              have := of_decide_eq_true hlo.2
              omega
            refine ⟨_, rfl, ?_⟩
            refine ⟨_, key _ (mx1 x) (by unfold mx1; split <;> omega) (by unfold mx1; split <;> omega), rfl, ?_⟩
            show R (List.set _ 4 (some (.fz (.int (mx1 (r.parts.map wd).sum * mx1 x)))))
            rw [hwd, hfac] at hR
            exact hR
        · have hf : r.fac = 1 := by cases r <;> first | rfl | (simp [Rx.word] at h2)
          rw [hwd, hf, Int.mul_one] at hR
          exact hR
      walk_at "s"
      refine and_cut (plain r) (fun h3 P' q' => ?_) (fun h3 => ?_) ?_
      · walk_at "s"
        refine lc_map (φ := meas) (f := fun p => .bl (plain p)) r.parts rfl rfl (fun p hp Q2 q2 => ⟨_, rfl, _, rfl, q2 _ rfl⟩) (by omega) ?_
        refine ⟨_, all_map _ _, ?_⟩
        rw [plain_raa r h, (in_raa r.word).symm.trans h3, Bool.true_and] at q'
        exact q'
      · rw [plain_raa r h, (in_raa r.word).symm.trans h3, Bool.false_and]
      walk_at "s"
      refine iteE_cut (.fz (.bl (hasP r))) (fun P' q' => ?_) ?_
      · refine ifd (in_ra r.word) (fun h4 => ?_) (fun h4 => ?_)
        · walk_at "s"
          rw [hasP_eq, if_pos h4] at q'
          exact q'
        · walk_at "s"
          refine lc_map (φ := meas) (f := fun p => .bl (hasP p)) r.parts rfl rfl (fun p hp Q2 q2 => ⟨_, rfl, _, rfl, q2 _ rfl⟩) (by omega) ?_
          refine ⟨_, all_map _ _, ?_⟩
          rw [hasP_eq, if_neg h4] at q'
          exact q'
      walk_at "s"
      refine lc_map (φ := meas) (f := fun p => .int (cnt p)) r.parts rfl rfl (fun p hp Q2 q2 => ⟨_, rfl, _, rfl, q2 _ rfl⟩) (by omega) ?_
      refine ⟨_, sum_map _ _, ?_⟩
      walk_at "s"
      exact meas_is q rfl (cnt_eq r).symm rfl rfl
end
end Cut
namespace Cut
open PySem L2 DL
/-! ### places of signs -/
theorem idx_first : ∀ (l : List Nat) (c i : Nat), l[i]? = some c → (∀ k, k < i → l[k]? ≠ some c) → l.idxOf c = i
  | [], c, i, h, _ => by simp at h
  | a :: l, c, 0, h, _ => by
    have h' : a = c := by simpa using h
    subst h'
    simp
  | a :: l, c, i + 1, h, hk => by
    have ha : a ≠ c := fun e => hk 0 (by omega) (by simp [e])
    have := idx_first l c i (by simpa using h) fun k hk' => by
      have := hk (k + 1) (by omega)
      simpa using this
    rw [List.idxOf_cons, beq_eq_false_iff_ne.mpr ha, this]
    rfl
theorem find_one (A : Str) (c : Nat) : Txt.find A ⟨#[c]⟩ = if c ∈ A.cps.toList then (A.cps.toList.idxOf c : Int) else -1 := by
  rcases PyProof.Rows.find_whole A ⟨#[c]⟩ with ⟨h, hn⟩ | ⟨i, h, hi, hn⟩
  · have : c ∉ A.cps.toList := fun hm => by
      obtain ⟨i, hi⟩ := List.mem_iff_getElem?.mp hm
      exact hn i ((StrLaws.subAt_one A c i).mpr hi)
    rw [h, if_neg this]
  · have e := (StrLaws.subAt_one A c i).mp hi
    have hm : c ∈ A.cps.toList := List.mem_iff_getElem?.mpr ⟨i, e⟩
    rw [h, if_pos hm, idx_first _ c i e fun k hk z => hn k hk ((StrLaws.subAt_one A c k).mpr z)]
def plc (A s : Str) : List Int := s.cps.toList.map fun c => Txt.find A ⟨#[c]⟩
theorem sorted_ext : ∀ {a b : List Int}, a.Pairwise (· < ·) → b.Pairwise (· < ·) → (∀ k, k ∈ a ↔ k ∈ b) → a = b
  | [], [], _, _, _ => rfl
  | [], y :: b, _, _, h => absurd ((h y).mpr (List.mem_cons_self ..)) (by simp)
  | x :: a, [], _, _, h => absurd ((h x).mp (List.mem_cons_self ..)) (by simp)
  | x :: a, y :: b, ha, hb, h => by
    rw [List.pairwise_cons] at ha hb
    have e : x = y := by
      rcases List.mem_cons.mp ((h x).mp (List.mem_cons_self ..)) with e | e
      · exact e
      · rcases List.mem_cons.mp ((h y).mpr (List.mem_cons_self ..)) with e2 | e2
        · exact e2.symm
        · have := hb.1 x e
          have := ha.1 y e2
          omega
    subst e
    rw [sorted_ext ha.2 hb.2 fun k => ⟨fun hk => ?_, fun hk => ?_⟩]
    · rcases List.mem_cons.mp ((h k).mp (List.mem_cons_of_mem _ hk)) with e | e
      · have := ha.1 k hk
        omega
      · exact e
    · rcases List.mem_cons.mp ((h k).mpr (List.mem_cons_of_mem _ hk)) with e | e
      · have := hb.1 k hk
        omega
      · exact e
theorem idx_up : ∀ l : List Nat, l.Nodup → (l.map fun c => (l.idxOf c : Int)).Pairwise (· < ·)
  | [], _ => .nil
  | a :: l, h => by
    rw [List.nodup_cons] at h
    have e : (l.map fun c => ((a :: l).idxOf c : Int)) = (l.map fun c => (l.idxOf c : Int)).map (· + 1) := by
      rw [List.map_map]
      refine List.map_congr_left fun c hc => ?_
      have : a ≠ c := fun e => h.1 (e ▸ hc)
      rw [List.idxOf_cons, beq_eq_false_iff_ne.mpr this]
      rfl
    rw [List.map_cons, List.pairwise_cons, e]
    refine ⟨fun b hb => ?_, ?_⟩
    · obtain ⟨x, hx, rfl⟩ := List.mem_map.mp hb
      obtain ⟨y, hy, rfl⟩ := List.mem_map.mp hx
      rw [List.idxOf_cons_self]
      show (0 : Int) < (l.idxOf y : Int) + 1
      omega
    · rw [List.pairwise_map]
      exact (idx_up l h.2).imp fun h => by omega
theorem map_inj {l : List Nat} {f : Nat → Int} : ∀ {a b : List Nat}, (∀ x ∈ a, x ∈ l) → (∀ x ∈ b, x ∈ l) → (∀ x ∈ l, ∀ y ∈ l, f x = f y → x = y) → a.map f = b.map f → a = b
  | [], [], _, _, _, _ => rfl
  | [], _ :: _, _, _, _, h => by simp at h
  | _ :: _, [], _, _, _, h => by simp at h
  | x :: a, y :: b, ha, hb, hf, h => by
    simp only [List.map_cons, List.cons.injEq] at h
    rw [hf x (ha x (List.mem_cons_self ..)) y (hb y (List.mem_cons_self ..)) h.1, map_inj (fun z hz => ha z (List.mem_cons_of_mem _ hz)) (fun z hz => hb z (List.mem_cons_of_mem _ hz)) hf h.2]
theorem set_places (A s : Str) (nd : A.cps.toList.Nodup) {ns : List Int} (h1 : ns.Pairwise (· < ·)) (h2 : ∀ k, k ∈ ns ↔ k ∈ plc A s) : isSetM A [.str s] = (!((plc A s).any fun k => decide (k = -1)) && decide (plc A s = ns)) := by
  have hin : ∀ x ∈ A.cps.toList, ∀ y ∈ A.cps.toList, (A.cps.toList.idxOf x : Int) = (A.cps.toList.idxOf y : Int) → x = y := by
    intro x hx y hy e
    have e' : A.cps.toList.idxOf x = A.cps.toList.idxOf y := by omega
    have a1 := List.getElem_idxOf (List.idxOf_lt_length_iff.mpr hx)
    have a2 := List.getElem_idxOf (List.idxOf_lt_length_iff.mpr hy)
    rw [← a1, ← a2]
    congr 1
  have key : ∀ ss : List Nat, (∀ c ∈ ss, c ∈ A.cps.toList) → (ss.map fun c => Txt.find A ⟨#[c]⟩) = ss.map fun c => (A.cps.toList.idxOf c : Int) := fun ss h => List.map_congr_left fun c hc => by rw [find_one, if_pos (h c hc)]
  rw [Bool.eq_iff_iff]
  constructor
  · intro h
    have hs : s = ofL (A.cps.toList.filter fun c => decide (c ∈ s.cps.toList)) := of_decide_eq_true h
    have hl : s.cps.toList = A.cps.toList.filter fun c => decide (c ∈ s.cps.toList) := by
      conv => lhs; rw [hs]
      rw [ofL_l]
    have hm : ∀ c ∈ s.cps.toList, c ∈ A.cps.toList := fun c hc => by
      rw [hl] at hc
      exact (List.mem_filter.mp hc).1
    have e : plc A s = s.cps.toList.map fun c => (A.cps.toList.idxOf c : Int) := key _ hm
    have hp : (plc A s).Pairwise (· < ·) := by
      rw [e, hl]
      exact (idx_up _ nd).sublist (List.filter_sublist.map _)
    rw [Bool.and_eq_true, Bool.not_eq_true', decide_eq_true_eq]
    refine ⟨?_, sorted_ext hp h1 fun k => (h2 k).symm⟩
    rw [List.any_eq_false]
    intro k hk
    rw [e] at hk
    obtain ⟨c, _, rfl⟩ := List.mem_map.mp hk
    simp
  · intro h
    rw [Bool.and_eq_true, Bool.not_eq_true', decide_eq_true_eq] at h
    have hm : ∀ c ∈ s.cps.toList, c ∈ A.cps.toList := fun c hc => by
      refine Classical.byContradiction fun hn => ?_
      have := List.any_eq_false.mp h.1 (-1) (List.mem_map.mpr ⟨c, hc, by rw [find_one, if_neg hn]⟩)
      simp at this
    have e : plc A s = s.cps.toList.map fun c => (A.cps.toList.idxOf c : Int) := key _ hm
    have hf : ∀ x ∈ A.cps.toList.filter (fun c => decide (c ∈ s.cps.toList)), x ∈ A.cps.toList := fun x hx => (List.mem_filter.mp hx).1
    have : s.cps.toList = A.cps.toList.filter fun c => decide (c ∈ s.cps.toList) := by
      refine map_inj hm hf hin ?_
      refine sorted_ext (by rw [← e, h.2]; exact h1) ((idx_up _ nd).sublist (List.filter_sublist.map _)) fun k => ?_
      constructor
      · intro hk
        obtain ⟨c, hc, rfl⟩ := List.mem_map.mp hk
        exact List.mem_map.mpr ⟨c, List.mem_filter.mpr ⟨hm c hc, decide_eq_true hc⟩, rfl⟩
      · intro hk
        obtain ⟨c, hc, rfl⟩ := List.mem_map.mp hk
        exact List.mem_map.mpr ⟨c, of_decide_eq_true (List.mem_filter.mp hc).2, rfl⟩
    exact decide_eq_true (str_ext (by rw [ofL_l]; exact this))
/-! ### lists of ints compared -/
theorem okL_ints : ∀ ns : List Int, okL (ns.map D.int) = true
  | [] => rfl
  | n :: ns => by rw [List.map_cons, okL, okL_ints ns]; rfl
theorem pyL_ints : ∀ ns : List Int, pyL (ns.map D.int) = ns.map PyData.int
  | [] => rfl
  | n :: ns => by rw [List.map_cons, pyL, pyL_ints ns]; rfl
theorem eqvAll_ints : ∀ ns ms : List Int, PyData.eqvAll (ns.map PyData.int) (ms.map PyData.int) = decide (ns = ms)
  | [], [] => rfl
  | [], _ :: _ => rfl
  | _ :: _, [] => rfl
  | n :: ns, m :: ms => by
    rw [List.map_cons, List.map_cons, PyData.eqvAll, eqvAll_ints ns ms]
    show (n == m && decide (ns = ms)) = decide (n :: ns = m :: ms)
    rw [Bool.eq_iff_iff]
    simp
theorem eq_ints (ns ms : List Int) : eqB (.lst (ns.map D.int)) (.lst (ms.map D.int)) = decide (ns = ms) := by
  rw [eqB_eq, eqvD, D.py, D.py, pyL_ints, pyL_ints]
  exact eqvAll_ints ns ms
theorem shaped_ints' (ns : List Int) : shapedD (.lst (ns.map D.int)) = true := by
  rw [shapedD, D.okP, okL_ints, D.py, pyL_ints, Bool.true_and]
  exact PySem.W.shaped_ints ns
theorem eqD_ints (ns ms : List Int) : eqD (.lst (ns.map D.int)) (.lst (ms.map D.int)) = some (.fz (.bl (decide (ns = ms)))) := by
  unfold eqD
  rw [shaped_ints', shaped_ints', eq_ints]
  rfl
theorem neD_ints (ns ms : List Int) : neD (.lst (ns.map D.int)) (.lst (ms.map D.int)) = some (.fz (.bl (!decide (ns = ms)))) := by
  unfold neD
  rw [shaped_ints', shaped_ints', eq_ints]
  rfl
theorem notin_ints (k : Int) (ns : List Int) : notinD (.int k) (.lst (ns.map D.int)) = some (.fz (.bl (!ns.any fun n => decide (n = k)))) := by
  show Option.map (fun k => Res.fz (D.bl !k)) (if (D.flat (.int k) && (ns.map D.int).all D.flat) = true then some ((ns.map D.int).any fun b => eqB b (.int k)) else none) = _
  rw [if_pos (by rw [flat_ints]; rfl), List.any_map]
  rfl
end Cut
namespace Cut
open PySem L2 DL
theorem set_no {A s : Str} (h : ((plc A s).any fun k => decide (k = -1)) = true) : isSetM A [.str s] = false := by
  rw [Bool.eq_false_iff]
  intro z
  have hs : s = ofL (A.cps.toList.filter fun c => decide (c ∈ s.cps.toList)) := of_decide_eq_true z
  have hl : s.cps.toList = A.cps.toList.filter fun c => decide (c ∈ s.cps.toList) := by
    conv => lhs; rw [hs]
    rw [ofL_l]
  obtain ⟨k, hk, e⟩ := List.any_eq_true.mp h
  obtain ⟨c, hc, rfl⟩ := List.mem_map.mp hk
  have hm : c ∈ A.cps.toList := by
    rw [hl] at hc
    exact (List.mem_filter.mp hc).1
  have e' := of_decide_eq_true e
  rw [find_one, if_pos hm] at e'
  omega
/-! ### values of bounded sizes -/
mutual
def bv (m : Nat) : D → Bool
  | .non | .bl _ | .int _ => true
  | .str s => decide (s.length ≤ 60)
  | .tup ds => decide (ds.length ≤ m) && bvL m ds
  | .lst ds => decide (ds.length ≤ m) && bvL m ds
  | _ => false
def bvL (m : Nat) : List D → Bool
  | [] => true
  | d :: ds => bv m d && bvL m ds
end
mutual
theorem bv_val {m : Nat} (hm : m ≤ 10000) : ∀ d, bv m d = true → val d = true
  | .non, _ | .bl _, _ | .int _, _ => by rw [val]
  | .str s, h => by rw [bv] at h; rw [val]; have := of_decide_eq_true h; exact decide_eq_true (by omega)
  | .tup ds, h => by
    rw [bv, Bool.and_eq_true] at h
    have := of_decide_eq_true h.1
    rw [val, decide_eq_true (by omega), bvL_val hm ds h.2]
    rfl
  | .lst ds, h => by
    rw [bv, Bool.and_eq_true] at h
    have := of_decide_eq_true h.1
    rw [val, decide_eq_true (by omega), bvL_val hm ds h.2]
    rfl
  | .obj _ _, h | .ty _, h | .raw _, h | .scr _, h => by simp [bv] at h
theorem bvL_val {m : Nat} (hm : m ≤ 10000) : ∀ ds, bvL m ds = true → valL ds = true
  | [], _ => rfl
  | d :: ds, h => by
    rw [bvL, Bool.and_eq_true] at h
    rw [valL, bv_val hm d h.1, bvL_val hm ds h.2]
    rfl
end
mutual
theorem bv_mono {m m' : Nat} (hm : m ≤ m') : ∀ d, bv m d = true → bv m' d = true
  | .non, _ | .bl _, _ | .int _, _ => by rw [bv]
  | .str s, h => by rw [bv] at h ⊢; exact h
  | .tup ds, h => by
    rw [bv, Bool.and_eq_true] at h
    have := of_decide_eq_true h.1
    rw [bv, decide_eq_true (by omega), bvL_mono hm ds h.2]
    rfl
  | .lst ds, h => by
    rw [bv, Bool.and_eq_true] at h
    have := of_decide_eq_true h.1
    rw [bv, decide_eq_true (by omega), bvL_mono hm ds h.2]
    rfl
  | .obj _ _, h | .ty _, h | .raw _, h | .scr _, h => by simp [bv] at h
theorem bvL_mono {m m' : Nat} (hm : m ≤ m') : ∀ ds, bvL m ds = true → bvL m' ds = true
  | [], _ => rfl
  | d :: ds, h => by
    rw [bvL, Bool.and_eq_true] at h
    rw [bvL, bv_mono hm d h.1, bvL_mono hm ds h.2]
    rfl
end
theorem bvL_mem {m : Nat} : ∀ {ds : List D}, bvL m ds = true → ∀ d ∈ ds, bv m d = true
  | _ :: _, h, d, hd => by
    rw [bvL, Bool.and_eq_true] at h
    rcases List.mem_cons.mp hd with e | e
    · rw [e]; exact h.1
    · exact bvL_mem h.2 d e
theorem bvL_of {m : Nat} : ∀ {ds : List D}, (∀ d ∈ ds, bv m d = true) → bvL m ds = true
  | [], _ => rfl
  | d :: ds, h => by rw [bvL, h d (List.mem_cons_self ..), bvL_of fun e he => h e (List.mem_cons_of_mem _ he)]; rfl
theorem depL_of {n : Nat} : ∀ {ds : List D}, (∀ d ∈ ds, dep d ≤ n) → depL ds ≤ n
  | [], _ => Nat.zero_le _
  | d :: ds, h => by
    have := h d (List.mem_cons_self ..)
    have := depL_of fun e he => h e (List.mem_cons_of_mem _ he)
    rw [depL]
    omega
theorem depL_le {ds : List D} {n : Nat} (h : depL ds ≤ n) : ∀ d ∈ ds, dep d ≤ n := fun d hd => by
  have := depL_mem (n := n + 1) (by omega) d hd
  omega
def numB (l : Int) : D → Bool
  | .int h => decide (l ≤ h) && decide (h ≤ 4)
  | _ => false
end Cut
namespace Cut
open PySem L2 DL
local macro_rules | `(tactic| walk_at "s") => `(tactic| repeat (first | with_reducible refine ⟨_, rfl, ?_⟩ | refine ⟨_, rfl, ?_⟩ | refine ⟨rfl, ?_⟩ | refine ⟨_, _, rfl, rfl, ?_⟩ | refine ⟨_, _, rfl, ?_⟩ | refine iteT ?_ | refine iteF ?_ | refine ⟨⟨_, rfl⟩, ?_⟩ | refine ⟨⟨_, _, rfl⟩, ?_⟩ | refine ⟨_, _, _, _, rfl, rfl, rfl, ?_⟩ | refine ⟨Nat.le_of_ble_eq_true rfl, ?_⟩ | refine ⟨(by decide), ?_⟩ | refine ⟨_, ix_t0 _ _, ?_⟩ | refine ⟨_, ix_l0 _ _, ?_⟩))
abbrev s_l_is_number : Stmt := top 26
abbrev N_l_is_number : List Str := ["_law_value", "_law_low"]
theorem sc_l_is_number : FnScope N_l_is_number ["_law_value", "_law_low"] (defScope s_l_is_number) := ⟨rfl, rfl, rfl, by decide +kernel, rfl, by decide +kernel, by decide +kernel⟩
abbrev s_l_fits : Stmt := top 27
abbrev N_l_fits : List Str := ["_law_alphabet_here", "_law_value", "_law_word", "_law_parts", "_law_places", "_law_character", "_law_part"]
theorem sc_l_fits : FnScope N_l_fits ["_law_alphabet_here", "_law_value"] (defScope s_l_fits) := ⟨rfl, rfl, rfl, by decide +kernel, rfl, by decide +kernel, by decide +kernel⟩
section
variable {P : Program} {w : World} {K : Fg} {mg : Str → Option Value} {base : Heap} {f f2 : Addr} {fd fd2 : FuncData}
def g_is_number : FS0 := fun ds Q => ∃ d l, ds = [d, .int l] ∧ D.top d = true ∧ Q (.fz (.bl (numB l d)))
theorem ok_is_number (A : At K mg "_law_is_number" ["_law_value", "_law_low"] s_l_is_number f fd) (m_isinstance : mg "isinstance" = none) (m_int : mg "int" = none) (m_bool : mg "bool" = none) : Fn0 P w K mg base "_law_is_number" 1 2 g_is_number := by
  refine A.fn0 (okD0 (k := 0) A.fn sc_l_is_number (by decide) (fun cdv A outer s H E hr => (dss_one (ds_ret (de_and (de_isi (by rfl) m_isinstance (da_cons (de_v 0) (da_cons (de_ty (n := "int") (by rfl) m_int (by decide +kernel)) da_nil))) (de_and (de_not (de_isi (by rfl) m_isinstance (da_cons (de_v 0) (da_cons (de_ty (n := "bool") (by rfl) m_bool (by decide +kernel)) da_nil)))) (de_one (de_lele (de_v 1) (de_v 0) de_int))))))) ?_)
  rintro ds Q hl ⟨d, l, rfl, ht, q⟩
  cases d <;> first | (simp [D.top] at ht; done) | skip
  all_goals walk_at "s"
  all_goals try exact q
  rename_i h
  refine ifB (fun h1 => ?_) (fun h1 => ?_)
  · walk_at "s"
    rw [numB, show decide (l ≤ h) = true from h1] at q
    exact q
  · walk_at "s"
    rw [numB, show decide (l ≤ h) = false from h1] at q
    exact q
def g_fits (n : Nat) : FS0 := fun ds Q => ∃ A d, ds = [.str A, d] ∧ Alp A ∧ bv 1000 d = true ∧ dep d < n ∧ Q (.fz (.bl (isExpr A d)))
theorem ok_fits (A : At K mg "_law_fits" ["_law_alphabet_here", "_law_value"] s_l_fits f fd) (m_isinstance : mg "isinstance" = none) (m_tuple : mg "tuple" = none) (m_str : mg "str" = none) (m_len : mg "len" = none) (m_all : mg "all" = none) (m_sorted : mg "sorted" = none) (m_set : mg "set" = none)
    (c_l_is_number : Fn0 P w K mg base "_law_is_number" 1 2 g_is_number) : ∀ n, Fn0 P w K mg base "_law_fits" (n + 1) 2 (g_fits n)
  | 0 => A.none0 fun ds Q ⟨_, _, _, _, _, h, _⟩ => absurd h (Nat.not_lt_zero _)
  | n + 1 => by
    have c_l_fits := ok_fits A m_isinstance m_tuple m_str m_len m_all m_sorted m_set c_l_is_number n
    refine A.fn0 (okD0 (k := n + 1) A.fn sc_l_fits (by decide) (fun cdv A outer s H E hr => (dss_cons (ds_if (DW.dt (dw_or (dt_not (dt_val (de_isi (by rfl) m_isinstance (da_cons (de_v 1) (da_cons (de_ty (n := "tuple") (by rfl) m_tuple (by decide +kernel)) da_nil))))) (dw_or (dt_eq hr (de_len (by rfl) m_len (da_cons (de_v 1) da_nil)) de_int) (dw_or1 (dt_not (dt_val (de_isi (by rfl) m_isinstance (da_cons (de_ix (de_v 1) de_int (fun _ _ => rfl)) (da_cons (de_ty (n := "str") (by rfl) m_str (by decide +kernel)) da_nil))))))))) (dss_one (ds_ret de_bl)) dss_nil)
      (dss_cons (ds_par (i := 2) (j := 3) rfl sc_l_fits.nd rfl rfl (by decide) rfl rfl (da_cons (de_ix (de_v 1) de_int (fun _ _ => rfl)) (da_cons (de_sl (de_v 1) (do_some de_int) do_none) da_nil)) (by rfl))
      (dss_cons (ds_if (dt_eq hr (de_v 2) de_str) (dss_cons (ds_if (DW.dt (dw_or (dt_ne hr (de_len (by rfl) m_len (da_cons (de_v 3) da_nil)) de_int) (dw_or1 (dt_not (dt_val (de_isi (by rfl) m_isinstance (da_cons (de_ix (de_v 3) de_int (fun _ _ => rfl)) (da_cons (de_ty (n := "str") (by rfl) m_str (by decide +kernel)) da_nil)))))))) (dss_one (ds_ret de_bl)) dss_nil)
      (dss_cons (ds_setLc (i := 4) (own := [("_law_character", 5)]) rfl sc_l_fits.nd rfl rfl (sw_true rfl rfl rfl (by decide +kernel)) (di_seq (de_ix (de_v 3) de_int (fun _ _ => rfl))) (blkOk_by (N := N_l_fits) (sc := defScope s_l_fits) (own := [("_law_character", 5)]) (by decide +kernel)) (fun _ _ _ _ _ => (dg_n 5 sc_l_fits.nd rfl (by first | exact Or.inl rfl | exact Or.inr rfl))) (fun _ _ _ _ _ => dts_nil) (fun _ _ _ _ _ => (de_find (de_v 0) (de_v 5))))
      (dss_one (ds_ret (de_and (de_notin (de_neg de_int) (de_v 4)) (de_one (de_eq hr (de_v 4) (de_sortset rfl (by rfl) m_sorted (by rfl) m_set (de_v 4))))))))) dss_nil)
      (dss_cons (ds_if (dt_eq hr (de_v 2) de_str) (dss_cons (ds_if (DW.dt (dw_or (dt_ne hr (de_len (by rfl) m_len (da_cons (de_v 3) da_nil)) de_int) (dw_or (dt_not (dt_val (de_c0 c_l_fits (hr.mono (by omega)) (by rfl) (da_cons (de_v 0) (da_cons (de_ix (de_v 3) de_int (fun _ _ => rfl)) da_nil))))) (dw_or1 (dt_not (dt_val (de_c0 c_l_is_number (hr.mono (by omega)) (by rfl) (da_cons (de_ix (de_v 3) de_int (fun _ _ => rfl)) (da_cons de_int da_nil))))))))) (dss_one (ds_ret de_bl)) dss_nil)
      (dss_one (ds_ret (de_or (de_is (de_ix (de_v 3) de_int (fun _ _ => rfl)) de_non) (de_one (de_c0 c_l_is_number (hr.mono (by omega)) (by rfl) (da_cons (de_ix (de_v 3) de_int (fun _ _ => rfl)) (da_cons (de_ix (de_v 3) de_int (fun _ _ => rfl)) da_nil)))))))) dss_nil)
      (dss_cons (ds_if (DW.dt (dw_and (dt_eq hr (de_v 2) de_str) (dw_and1 (dt_ne hr (de_len (by rfl) m_len (da_cons (de_v 3) da_nil)) de_int)))) (dss_one (ds_ret de_bl)) dss_nil)
      (dss_one (ds_ret (de_and (de_in (de_v 2) (de_tup (da_cons de_str (da_cons de_str (da_cons de_str (da_cons de_str da_nil)))))) (de_one (de_all rfl (by rfl) m_all (da_cons (de_lc (own := [("_law_part", 6)]) rfl sc_l_fits.nd (di_seq (de_v 3)) (blkOk_by (N := N_l_fits) (sc := defScope s_l_fits) (own := [("_law_part", 6)]) (by decide +kernel)) (fun _ _ _ _ _ => (dg_n 6 sc_l_fits.nd rfl (by first | exact Or.inl rfl | exact Or.inr rfl))) (fun _ _ _ _ _ => dts_nil) (fun _ _ _ _ _ => (de_c0 c_l_fits (hr.mono (by omega)) (by rfl) (da_cons (de_v 0) (da_cons (de_v 6) da_nil))))) da_nil)))))))))))) ?_)
    rintro ds Q hl ⟨A, d, rfl, hA, hv, hd, q⟩
    match d, hv, hd, q with
    | .non, _, _, q => walk_at "s"; exact q
    | .bl _, _, _, q => walk_at "s"; exact q
    | .int _, _, _, q => walk_at "s"; exact q
    | .str _, _, _, q => walk_at "s"; exact q
    | .lst _, _, _, q => walk_at "s"; exact q
    | .tup [], _, _, q => walk_at "s"; exact q
    | .tup (x :: ps), hv, hd, q =>
      rw [bv, bvL, Bool.and_eq_true, Bool.and_eq_true] at hv
      have hlen : ps.length + 1 ≤ 1000 := by simpa using of_decide_eq_true hv.1
      have h0 : eqB (.int (((x :: ps).length : Nat) : Int)) (.int 0) = false := by
        show decide (((ps.length + 1 : Nat) : Int) = 0) = false
        exact decide_eq_false (by omega)
      cases x <;> first | (simp [bv] at hv; done) | skip
      all_goals walk_at "s"
      all_goals try refine ifF h0 ?_
      all_goals walk_at "s"
      all_goals try exact q
      rename_i w
      rw [exprB_eq] at q
      have hdp : depL ps < n := by
        rw [dep, depL] at hd
        omega
      have hvp : bvL 1000 ps = true := hv.2.2
      rw [cutD_1]
      refine ifd (eqS_eq w "set") (fun h1 => ?_) (fun h1 => ?_)
      · unfold exprB at q
        rw [if_pos h1] at q
        clear h1 h0
        match ps, hlen, hvp, q with
        | [], _, _, q => walk_at "s"; exact q
        | a :: b :: t, hlen, _, q =>
          rw [isSetM_2] at q
          walk_at "s"
          exact q
        | [d], hlen1, hvp, q =>
          rw [bvL, bvL, Bool.and_true] at hvp
          cases d <;> first | (simp [bv] at hvp; done) | skip
          all_goals (walk_at "s")
          all_goals try exact q
          rename_i s
          have hs : s.length ≤ 60 := by rw [bv] at hvp; exact of_decide_eq_true hvp
          refine lc_map (φ := fun c => .str ⟨#[c]⟩) (f := fun c => .int (Txt.find A ⟨#[c]⟩)) s.cps.toList rfl rfl (fun c _ Q2 q2 => ⟨_, rfl, _, rfl, _, rfl, _, rfl, q2 _ rfl⟩) (by rw [← len_l]; omega) ?_
          rw [show (s.cps.toList.map fun c => D.int (Txt.find A ⟨#[c]⟩)) = (plc A s).map D.int by rw [plc, List.map_map]; rfl]
          walk_at "s"
          refine ⟨_, notin_ints _ _, ?_⟩
          walk_at "s"
          refine ifB (fun h3 => ?_) (fun h3 => ?_)
          · walk_at "s"
            refine ⟨by rw [plc, List.length_map, ← len_l]; omega, fun ns n1 n2 => ?_⟩
            refine ⟨_, eqD_ints _ _, ?_⟩
            rw [set_places A s hA.nd n1 n2, h3, Bool.true_and] at q
            exact q
          · rw [set_no (by simpa using h3)] at q
            exact q
      unfold exprB at q
      rw [if_neg h1] at q
      walk_at "s"
      refine ifd (eqS_eq w "again") (fun h2 => ?_) (fun h2 => ?_)
      · rw [if_pos h2] at q
        clear h1 h2 h0
        by_cases h3 : ps.length = 3
        · match ps, h3, hvp, hdp, q with
          | [p, lo, hi], h33, hvp, hdp, q =>
            rw [bvL, bvL, bvL, bvL, Bool.and_eq_true, Bool.and_eq_true, Bool.and_true] at hvp
            have hp : dep p < n := depL_mem hdp p (by simp)
            have t1 := val_top (bv_val (by decide) _ hvp.2.1)
            have t2 := val_top (bv_val (by decide) _ hvp.2.2)
            have e : againB [p, lo, hi] ([p, lo, hi].map (isExpr A)) = (isExpr A p && loB hi lo) := rfl
            rw [e] at q
            walk_at "s"
            refine ⟨hA, hvp.1, hp, _, rfl, ?_⟩
            refine ifB (fun hE => ?_) (fun hE => ?_)
            · have hE' : isExpr A p = false := by simpa using hE
              rw [hE'] at q
              exact q
            have hE' : isExpr A p = true := by simpa using hE
            rw [hE', Bool.true_and] at q
            walk_at "s"
            refine ⟨t1, _, rfl, ?_⟩
            cases lo <;> first | (walk_at "s"; exact q) | skip
            rename_i l
            have e2 : loB hi (.int l) = (decide (0 ≤ l) && decide (l ≤ 4) && hiB l hi) := rfl
            have e3 : numB 0 (.int l) = (decide (0 ≤ l) && decide (l ≤ 4)) := rfl
            rw [e2, ← e3] at q
            refine ifB (fun h => ?_) (fun h => ?_)
            · have h' : numB 0 (.int l) = false := by simpa using h
              rw [h'] at q
              exact q
            have h' : numB 0 (.int l) = true := by simpa using h
            rw [h', Bool.true_and] at q
            cases hi <;> first | (simp [bv] at hvp; done) | skip
            all_goals walk_at "s"
            all_goals first | exact q | exact ⟨rfl, q⟩
        · rw [againB_ne h3] at q
          walk_at "s"
          refine ifT ?_ q
          show (!decide (((ps.length : Nat) : Int) = 3)) = true
          rw [decide_eq_false (by omega)]
          rfl
      rw [if_neg h2] at q
      walk_at "s"
      have hin : (([.str "row", .str "any", .str "all", .str "not"] : List D).any fun b => eqB b (.str w)) = decide (w = "row" ∨ w = "any" ∨ w = "all" ∨ w = "not") := by
        show (eqS "row" w || (eqS "any" w || (eqS "all" w || (eqS "not" w || false)))) = _
        rw [eqS_eq', eqS_eq', eqS_eq', eqS_eq', Bool.or_false]
        simp only [Bool.decide_or]
      refine andT_cut (decide (w = "not" ∧ ps.length ≠ 1)) (fun h3 P' q' => ?_) (fun h3 => ?_) ?_
      · walk_at "s"
        have h3' : w = "not" := by
          have h4 : eqS w "not" = true := h3
          rw [eqS_eq] at h4
          exact of_decide_eq_true h4
        rw [show decide (w = "not" ∧ ps.length ≠ 1) = !decide (((ps.length : Nat) : Int) = 1) by
          by_cases h5 : ps.length = 1
          · rw [decide_eq_true (by omega : ((ps.length : Nat) : Int) = 1), decide_eq_false (by rintro ⟨_, z⟩; exact z h5)]; rfl
          · rw [decide_eq_false (by omega : ¬ ((ps.length : Nat) : Int) = 1), decide_eq_true ⟨h3', h5⟩]; rfl] at q'
        exact q'
      · have h3' : ¬ w = "not" := by
          have h4 : eqS w "not" = false := h3
          rw [eqS_eq] at h4
          exact of_decide_eq_false h4
        exact decide_eq_false fun z => h3' z.1
      refine ifd rfl (fun h3 => ?_) (fun h3 => ?_)
      · rw [if_pos (.inl h3)] at q
        walk_at "s"
        exact q
      walk_at "s"
      refine ifd hin (fun h4 => ?_) (fun h4 => ?_)
      · rw [if_neg (by rintro (z | z); exact h3 z; exact z h4)] at q
        walk_at "s"
        refine lc_mapD (f := fun d => .bl (isExpr A d)) ps rfl rfl (fun d hd' Q2 q2 => ⟨_, rfl, _, rfl, A, d, rfl, hA, bvL_mem hvp d hd', depL_mem hdp d hd', q2 _ rfl⟩) (by omega) ?_
        exact ⟨_, all_map _ _, q⟩
      · rw [if_pos (.inr h4)] at q
        exact q
end
end Cut
namespace Cut
open PySem L2 DL
local macro_rules | `(tactic| walk_at "s") => `(tactic| repeat (first | with_reducible refine ⟨_, rfl, ?_⟩ | refine ⟨_, rfl, ?_⟩ | refine ⟨rfl, ?_⟩ | refine ⟨_, _, rfl, rfl, ?_⟩ | refine ⟨_, _, rfl, ?_⟩ | refine iteT ?_ | refine iteF ?_ | refine ⟨⟨_, rfl⟩, ?_⟩ | refine ⟨⟨_, _, rfl⟩, ?_⟩ | refine ⟨_, _, _, _, rfl, rfl, rfl, ?_⟩ | refine ⟨Nat.le_of_ble_eq_true rfl, ?_⟩ | refine ⟨(by decide), ?_⟩ | refine ⟨_, ix_t0 _ _, ?_⟩ | refine ⟨_, ix_l0 _ _, ?_⟩))
abbrev s_l_other : Stmt := top 24
abbrev N_l_other : List Str := ["_law_source_here", "_law_alphabet_here", "_law_some"]
theorem sc_l_other : FnScope N_l_other ["_law_source_here", "_law_alphabet_here"] (defScope s_l_other) := ⟨rfl, rfl, rfl, by decide +kernel, rfl, by decide +kernel, by decide +kernel⟩
abbrev s_l_changed : Stmt := top 25
abbrev N_l_changed : List Str := ["_law_source_here", "_law_alphabet_here", "_law_value", "_law_at", "_law_inner", "_law_k", "_law_way", "_law_low"]
theorem sc_l_changed : FnScope N_l_changed ["_law_source_here", "_law_alphabet_here", "_law_value"] (defScope s_l_changed) := ⟨rfl, rfl, rfl, by decide +kernel, rfl, by decide +kernel, by decide +kernel⟩
abbrev s_l_due : Stmt := top 29
abbrev N_l_due : List Str := ["_law_alphabet_here", "_law_value", "_law_wide", "_law_tuples", "_law_plain_here", "_law_right"]
theorem sc_l_due : FnScope N_l_due ["_law_alphabet_here", "_law_value"] (defScope s_l_due) := ⟨rfl, rfl, rfl, by decide +kernel, rfl, by decide +kernel, by decide +kernel⟩
theorem revS_len (z : Str) : (revS z).length ≤ z.length := by
  show (((Builtin.Str.strSliceIndices none none (-1) z.length).filterMap (z.cps[·]?)).toArray).size ≤ _
  rw [List.size_toArray]
  exact Nat.le_trans (List.length_filterMap_le ..) (PySem.sliceIndicesBy_le _ _ _ (by decide) _)
theorem len_add (a b : Str) : (a ++ b).length = a.length + b.length := by rw [len_l, l_append, List.length_append, ← len_l, ← len_l]
theorem cut_mem {xs : List D} {lo hi : Option Int} {d : D} (h : d ∈ cutD xs lo hi) : d ∈ xs := List.mem_of_mem_drop (List.mem_of_mem_take h)
theorem cut_len (xs : List D) (lo hi : Option Int) : (cutD xs lo hi).length ≤ xs.length := by
  unfold cutD
  rw [List.length_take, List.length_drop]
  omega
/-- what a change may give -/
def Sm (m n : Nat) (d : D) : Prop := bv m d = true ∧ dep d ≤ n
theorem Sm.tup {m n : Nat} {ds : List D} (h : ∀ d ∈ ds, Sm m n d) (hl : ds.length ≤ m) : Sm m (n + 1) (.tup ds) :=
  ⟨by rw [bv, decide_eq_true hl, bvL_of fun d hd => (h d hd).1]; rfl, by rw [dep]; have := depL_of fun d hd => (h d hd).2; omega⟩
theorem Sm.mono {m n m' n' : Nat} {d : D} (h : Sm m n d) (hm : m ≤ m') (hn : n ≤ n') : Sm m' n' d := ⟨bv_mono hm d h.1, Nat.le_trans h.2 hn⟩
theorem Sm.parts {m n : Nat} {ds : List D} (h : Sm m (n + 1) (.tup ds)) : ds.length ≤ m ∧ ∀ d ∈ ds, Sm m n d := by
  have h1 := h.1
  have h2 := h.2
  rw [bv, Bool.and_eq_true] at h1
  rw [dep] at h2
  exact ⟨of_decide_eq_true h1.1, fun d hd => ⟨bvL_mem h1.2 d hd, depL_le (by omega) d hd⟩⟩
theorem sm_str {m n : Nat} {s : Str} (h : s.length ≤ 60) : Sm m n (.str s) := ⟨by rw [bv, decide_eq_true h], Nat.zero_le _⟩
theorem sm_non {m n : Nat} : Sm m n .non := ⟨rfl, Nat.zero_le _⟩
theorem sm_int {m n : Nat} {i : Int} : Sm m n (.int i) := ⟨rfl, Nat.zero_le _⟩
theorem sm_bl {m n : Nat} {i : Bool} : Sm m n (.bl i) := ⟨rfl, Nat.zero_le _⟩
theorem sm_t0 {m n : Nat} : Sm m (n + 1) (.tup []) := Sm.tup (by simp) (Nat.zero_le _)
theorem sm_t1 {m n : Nat} {a : D} (h : 4 ≤ m) (ha : Sm m n a) : Sm m (n + 1) (.tup [a]) := Sm.tup (by simpa using ha) (by show 1 ≤ m; omega)
theorem sm_t2 {m n : Nat} {a b : D} (h : 4 ≤ m) (ha : Sm m n a) (hb : Sm m n b) : Sm m (n + 1) (.tup [a, b]) := Sm.tup (by simpa using ⟨ha, hb⟩) (by show 2 ≤ m; omega)
theorem sm_t3 {m n : Nat} {a b c : D} (h : 4 ≤ m) (ha : Sm m n a) (hb : Sm m n b) (hc : Sm m n c) : Sm m (n + 1) (.tup [a, b, c]) := Sm.tup (by simpa using ⟨ha, hb, hc⟩) (by show 3 ≤ m; omega)
theorem sm_t4 {m n : Nat} {a b c d : D} (h : 4 ≤ m) (ha : Sm m n a) (hb : Sm m n b) (hc : Sm m n c) (hd : Sm m n d) : Sm m (n + 1) (.tup [a, b, c, d]) := Sm.tup (by simpa using ⟨ha, hb, hc, hd⟩) (by show 4 ≤ m; omega)
theorem sm_lst {m n : Nat} {l : List D} (h : Sm m n (.tup l)) : Sm m n (.lst l) := ⟨h.1, h.2⟩
theorem sm_l0 {m n : Nat} : Sm m (n + 1) (.lst []) := sm_lst sm_t0
theorem sm_l1 {m n : Nat} {a : D} (h : 4 ≤ m) (ha : Sm m n a) : Sm m (n + 1) (.lst [a]) := sm_lst (sm_t1 h ha)
theorem sm_l2 {m n : Nat} {a b : D} (h : 4 ≤ m) (ha : Sm m n a) (hb : Sm m n b) : Sm m (n + 1) (.lst [a, b]) := sm_lst (sm_t2 h ha hb)
theorem Sm.top {m n : Nat} {d : D} (h : Sm m n d) (hm : m ≤ 10000) : D.top d = true := val_top (bv_val hm d h.1)
/-- pieces of a tuple put together -/
theorem Sm.cat {m n M : Nat} {a b : List D} (ha : ∀ d ∈ a, Sm m n d) (hb : ∀ d ∈ b, Sm m n d) (hl : a.length + b.length ≤ M) (hm : m ≤ M) : Sm M (n + 1) (.tup (a ++ b)) :=
  Sm.tup (fun d hd => by
    rcases List.mem_append.mp hd with h | h
    · exact (ha d h).mono hm (Nat.le_refl _)
    · exact (hb d h).mono hm (Nat.le_refl _)) (by rw [List.length_append]; exact hl)
def isT : D → Bool
  | .tup _ => true
  | _ => false
def tupAt (vs : List D) (i : Nat) : Bool := match vs[i]? with
  | some d => isT d
  | none => false
theorem isi_T {d : D} (h : D.top d = true) : isiD [d, .ty "tuple"] = some (.fz (.bl (isT d))) := by cases d <;> first | rfl | (simp [D.top] at h)
section
variable {P : Program} {w : World} {K : Fg} {mg : Str → Option Value} {base : Heap} {f f2 : Addr} {fd fd2 : FuncData}
def g_other : FS1 := fun xs ds Q => ∃ (c : Nat) (A : Str), ds = [.str A] ∧ Alp A ∧ Src c xs ∧ c + 1 ≤ 2 ^ 40 ∧ ∀ d xs', Sm 5 2 d → Src (c + 1) xs' → Q (.fz d) xs'
theorem pick {l : List D} {j : Int} {G : Res → Prop} (p : D → Prop) (j0 : 0 ≤ j) (j1 : j < (l.length : Int)) (hl : ∀ x ∈ l, p x) (q : ∀ d, p d → G (.fz d)) : ∃ c, ixD (.lst l) (.int j) = some c ∧ G c := by
  obtain ⟨d, hd, hm⟩ := atI_ok j0 j1
  exact ⟨_, ix_lst hd, q d (hl d hm)⟩
theorem ok_other (A : At K mg "_law_other" ["_law_source_here", "_law_alphabet_here"] s_l_other f fd) (c_l_draw : Fn1 P w K mg base "_law_draw" 1 2 g_draw) : Fn1 P w K mg base "_law_other" 2 2 g_other := by
  refine A.fn1 (okD1 (k := 1) A.fn sc_l_other (by decide) (fun cdv A outer s H E hr => (dss_cons (ds_set 2 sc_l_other.nd rfl (by first | exact Or.inl rfl | exact Or.inr rfl) (de_lst (da_cons de_non (da_cons de_bl (da_cons de_int (da_cons de_int (da_cons de_str (da_cons de_str (da_cons de_str (da_cons (de_tup da_nil) (da_cons (de_lst da_nil) (da_cons (de_tup (da_cons de_str da_nil)) (da_cons (de_tup (da_cons de_str (da_cons de_int da_nil))) (da_cons (de_tup (da_cons de_str (da_cons de_str da_nil))) (da_cons (de_lst (da_cons de_str (da_cons de_str da_nil))) (da_cons (de_tup (da_cons de_str (da_cons de_str da_nil))) da_nil))))))))))))))))
      (dss_cons (ds_set 2 sc_l_other.nd rfl (by first | exact Or.inl rfl | exact Or.inr rfl) (de_add (de_v 2) (de_lst (da_cons (de_tup (da_cons de_str (da_cons (de_v 1) da_nil))) (da_cons (de_tup (da_cons de_str (da_cons (de_revS (de_v 1)) da_nil))) (da_cons (de_tup (da_cons de_str (da_cons (de_add (de_v 1) (de_v 1)) da_nil))) (da_cons (de_tup (da_cons de_str (da_cons (de_lst (da_cons de_str da_nil)) da_nil))) (da_cons (de_tup (da_cons de_str da_nil)) da_nil))))))))
      (dss_cons (ds_set 2 sc_l_other.nd rfl (by first | exact Or.inl rfl | exact Or.inr rfl) (de_add (de_v 2) (de_lst (da_cons (de_tup (da_cons de_str (da_cons (de_tup (da_cons de_str (da_cons de_str da_nil))) (da_cons de_int da_nil)))) (da_cons (de_tup (da_cons de_str (da_cons (de_tup (da_cons de_str da_nil)) (da_cons (de_tup (da_cons de_str da_nil)) da_nil)))) (da_cons (de_tup (da_cons de_str da_nil)) (da_cons (de_tup (da_cons (de_tup (da_cons de_str (da_cons de_str da_nil))) da_nil)) (da_cons (de_tup (da_cons de_str (da_cons de_non da_nil))) da_nil))))))))
      (dss_one (ds_ret (de_ix (de_v 2) (de_c1 0 c_l_draw (hr.mono (by decide)) (by rfl) (da_cons de_int da_nil)) (fun _ _ => rfl)))))))) ?_)
  rintro xs ds Q hl ⟨c, A, rfl, hA, hS, hc, q⟩
  have hA6 := hA.hi
  have hr6 := revS_len A
  walk_at "s"
  refine ⟨by omega, ?_⟩
  walk_at "s"
  have e1 : addD (.str A) (.str A) = some (.fz (.str (A ++ A))) := by
    show (if _ then _ else _) = _
    rw [if_pos (by omega)]
  refine ⟨_, e1, ?_⟩
  walk_at "s"
  refine ⟨c, _, rfl, hS, by omega, by decide, by decide, fun j xs1 j0 j1 hS1 => ?_⟩
  have a6 : (A ++ A).length ≤ 60 := by rw [len_add]; omega
  have hA60 : A.length ≤ 60 := by omega
  have hr60 : (revS A).length ≤ 60 := by omega
  have wl : ∀ s : Str, s ∈ ([("" : Str), "set", "a", "zz9", "row", "again", "not", "any"] : List Str) → s.length ≤ 60 := by decide +kernel
  refine pick (Sm 5 2) j0 (show j < ((24 : Nat) : Int) from j1) ?_ fun d hd => ⟨_, rfl, q d xs1 hd hS1⟩
  clear q hS1 hS
  repeat' (first | exact sm_non | exact sm_bl | exact sm_int | exact sm_str (wl _ (by decide +kernel)) | exact sm_str hA60 | exact sm_str hr60 | exact sm_str a6 | exact sm_t0 | exact sm_l0 | apply sm_t1 (by decide) | apply sm_t2 (by decide) | apply sm_t3 (by decide) | apply sm_l1 (by decide) | apply sm_l2 (by decide) | refine List.forall_mem_cons.mpr ⟨?_, ?_⟩ | (intro x hx; cases hx; done))
def g_changed (n : Nat) : FS1 := fun xs ds Q => ∃ (c : Nat) (A : Str) (d : D) (m dd : Nat), ds = [.str A, d] ∧ Alp A ∧ 5 ≤ m ∧ m ≤ 300 ∧ Sm m dd d ∧ dd < n ∧ Src c xs ∧ c + 6 * n ≤ 2 ^ 40 ∧ ∀ r xs', Sm (3 * m) (dd + 3) r.dat → Src (c + 6 * n) xs' → Q r xs'
theorem ok_changed (A : At K mg "_law_changed" ["_law_source_here", "_law_alphabet_here", "_law_value"] s_l_changed f fd) (m_isinstance : mg "isinstance" = none) (m_tuple : mg "tuple" = none) (m_list : mg "list" = none) (m_len : mg "len" = none) (m_range : mg "range" = none)
    (c_l_draw : Fn1 P w K mg base "_law_draw" 1 2 g_draw) (c_l_other : Fn1 P w K mg base "_law_other" 2 2 g_other) : ∀ n, Fn1 P w K mg base "_law_changed" (n + 3) 3 (g_changed n)
  | 0 => A.none1 fun xs ds Q ⟨_, _, _, _, _, _, _, _, _, _, h, _⟩ => absurd h (Nat.not_lt_zero _)
  | n + 1 => by
    have c_l_changed := ok_changed A m_isinstance m_tuple m_list m_len m_range c_l_draw c_l_other n
    refine A.fn1 (okD1 (k := n + 3) A.fn sc_l_changed (by decide) (fun cdv A outer s H E hr => (dss_cons (ds_set 3 sc_l_changed.nd rfl (by first | exact Or.inl rfl | exact Or.inr rfl) (de_c1 0 c_l_draw (hr.mono (by omega)) (by rfl) (da_cons de_int da_nil)))
      (dss_cons (ds_set 4 sc_l_changed.nd rfl (by first | exact Or.inl rfl | exact Or.inr rfl) (de_if (dt_val (de_isi (by rfl) m_isinstance (da_cons (de_v 2) (da_cons (de_ty (n := "tuple") (by rfl) m_tuple (by decide +kernel)) da_nil)))) (de_lc (own := [("_law_k", 5)]) rfl sc_l_changed.nd (di_range2 (by rfl) m_range (da_cons de_int (da_cons (de_len (by rfl) m_len (da_cons (de_v 2) da_nil)) da_nil))) (blkOk_by (N := N_l_changed) (sc := defScope s_l_changed) (own := [("_law_k", 5)]) (by decide +kernel)) (fun _ _ _ _ _ => (dg_n 5 sc_l_changed.nd rfl (by first | exact Or.inl rfl | exact Or.inr rfl))) (fun _ _ _ _ _ => (dts_one (dt_val (de_isi (by rfl) m_isinstance (da_cons (de_ix (de_v 2) (de_v 5) (fun _ _ => rfl)) (da_cons (de_ty (n := "tuple") (by rfl) m_tuple (by decide +kernel)) da_nil)))))) (fun _ _ _ _ _ => (de_v 5))) (de_lst da_nil)))
      (dss_cons (ds_if (DW.dt (dw_and (dt_ne hr (de_v 4) (de_lst da_nil)) (dw_and1 (dt_gt (de_v 3) de_int)))) (dss_cons (ds_set 5 sc_l_changed.nd rfl (by first | exact Or.inl rfl | exact Or.inr rfl) (de_ix (de_v 4) (de_c1 0 c_l_draw (hr.mono (by omega)) (by rfl) (da_cons (de_len (by rfl) m_len (da_cons (de_v 4) da_nil)) da_nil)) (fun _ _ => rfl)))
      (dss_one (ds_ret (de_add (de_add (de_sl (de_v 2) do_none (do_some (de_v 5))) (de_tup (da_cons (de_c1 0 c_l_changed (hr.mono (by omega)) (by rfl) (da_cons (de_v 1) (da_cons (de_ix (de_v 2) (de_v 5) (fun _ _ => rfl)) da_nil))) da_nil))) (de_sl (de_v 2) (do_some (de_add (de_v 5) de_int)) do_none))))) dss_nil)
      (dss_cons (ds_set 6 sc_l_changed.nd rfl (by first | exact Or.inl rfl | exact Or.inr rfl) (de_c1 0 c_l_draw (hr.mono (by omega)) (by rfl) (da_cons de_int da_nil)))
      (dss_cons (ds_if (DW.dt (dw_or (dt_not (dt_val (de_isi (by rfl) m_isinstance (da_cons (de_v 2) (da_cons (de_ty (n := "tuple") (by rfl) m_tuple (by decide +kernel)) da_nil))))) (dw_or (dt_eq hr (de_len (by rfl) m_len (da_cons (de_v 2) da_nil)) de_int) (dw_or1 (dt_eq hr (de_v 6) de_int))))) (dss_one (ds_ret (de_c1 0 c_l_other (hr.mono (by omega)) (by rfl) (da_cons (de_v 1) da_nil)))) dss_nil)
      (dss_cons (ds_set 5 sc_l_changed.nd rfl (by first | exact Or.inl rfl | exact Or.inr rfl) (de_c1 0 c_l_draw (hr.mono (by omega)) (by rfl) (da_cons (de_len (by rfl) m_len (da_cons (de_v 2) da_nil)) da_nil)))
      (dss_cons (ds_if (dt_eq hr (de_v 6) de_int) (dss_one (ds_ret (de_add (de_tup (da_cons (de_ix (de_lst (da_cons de_str (da_cons de_str (da_cons de_str (da_cons de_str (da_cons de_str (da_cons de_str (da_cons de_str (da_cons de_str da_nil))))))))) (de_c1 0 c_l_draw (hr.mono (by omega)) (by rfl) (da_cons de_int da_nil)) (fun _ _ => rfl)) da_nil)) (de_sl (de_v 2) (do_some de_int) do_none)))) dss_nil)
      (dss_cons (ds_if (dt_eq hr (de_v 6) de_int) (dss_one (ds_ret (de_add (de_sl (de_v 2) do_none (do_some (de_v 5))) (de_sl (de_v 2) (do_some (de_add (de_v 5) de_int)) do_none)))) dss_nil)
      (dss_cons (ds_if (dt_eq hr (de_v 6) de_int) (dss_one (ds_ret (de_add (de_add (de_sl (de_v 2) do_none (do_some (de_v 5))) (de_sl (de_v 2) (do_some (de_v 5)) (do_some (de_add (de_v 5) de_int)))) (de_sl (de_v 2) (do_some (de_v 5)) do_none)))) dss_nil)
      (dss_cons (ds_if (dt_eq hr (de_v 6) de_int) (dss_one (ds_ret (de_list rfl (by rfl) m_list (da_cons (de_v 2) da_nil)))) dss_nil)
      (dss_cons (ds_if (dt_eq hr (de_v 6) de_int) (dss_cons (ds_set 7 sc_l_changed.nd rfl (by first | exact Or.inl rfl | exact Or.inr rfl) (de_ix (de_lst (da_cons de_int (da_cons de_int (da_cons de_int (da_cons de_int (da_cons (de_neg de_int) (da_cons de_bl (da_cons de_non (da_cons de_str da_nil))))))))) (de_c1 0 c_l_draw (hr.mono (by omega)) (by rfl) (da_cons de_int da_nil)) (fun _ _ => rfl)))
      (dss_one (ds_ret (de_tup (da_cons de_str (da_cons (de_v 2) (da_cons (de_v 7) (da_cons (de_ix (de_lst (da_cons de_non (da_cons de_int (da_cons de_int (da_cons de_int (da_cons de_int (da_cons de_bl (da_cons de_str da_nil)))))))) (de_c1 0 c_l_draw (hr.mono (by omega)) (by rfl) (da_cons de_int da_nil)) (fun _ _ => rfl)) da_nil)))))))) dss_nil)
      (dss_cons (ds_if (dt_eq hr (de_v 6) de_int) (dss_one (ds_ret (de_tup (da_cons (de_ix (de_lst (da_cons de_str (da_cons de_str (da_cons de_str (da_cons de_str da_nil))))) (de_c1 0 c_l_draw (hr.mono (by omega)) (by rfl) (da_cons de_int da_nil)) (fun _ _ => rfl)) (da_cons (de_v 2) da_nil))))) dss_nil)
      (dss_one (ds_ret (de_add (de_add (de_sl (de_v 2) do_none (do_some (de_v 5))) (de_tup (da_cons (de_c1 0 c_l_other (hr.mono (by omega)) (by rfl) (da_cons (de_v 1) da_nil)) da_nil))) (de_sl (de_v 2) (do_some (de_add (de_v 5) de_int)) do_none))))))))))))))))) ?_)
    rintro xs ds Q hl ⟨c, A, d, m, dd, rfl, hA, m5, m3, hd, hdn, hS, hc, q⟩
    walk_at "s"
    refine ⟨c, _, rfl, hS, by omega, by decide, by decide, fun at_ xs1 a0 a1 hS1 => ⟨rfl, ?_⟩⟩
    walk_at "s"
    have e := isi_T (hd.top (by omega))
    by_cases ht : isT d = true
    rotate_left
    · rw [show isT d = false by simpa using ht] at e
      refine ⟨_, e, ?_⟩
      walk_at "s"
      refine ⟨c + 1, _, rfl, hS1, by omega, by decide, by decide, fun way xs2 w0 w1 hS2 => ⟨rfl, ?_⟩⟩
      walk_at "s"
      refine ⟨_, e, ?_⟩
      walk_at "s"
      exact ⟨c + 2, A, rfl, hA, hS2, by omega, fun d' xs3 hd' hS3 => ⟨_, rfl, q _ _ (hd'.mono (by omega) (by omega)) (hS3.mono (by omega))⟩⟩
    clear e
    obtain ⟨vs, rfl⟩ : ∃ vs, d = .tup vs := by cases d <;> first | exact ⟨_, rfl⟩ | (simp [isT] at ht)
    obtain ⟨de, rfl⟩ : ∃ de, dd = de + 1 := by
      have := hd.2
      rw [dep] at this
      exact ⟨dd - 1, by omega⟩
    obtain ⟨hvl, hvs⟩ := hd.parts
    clear ht
    walk_at "s"
    refine ⟨by omega, ?_⟩
    walk_at "s"
    rw [rangeD_map]
    refine lc_pure (φ := fun (i : Nat) => D.int (1 + i)) (b := fun i => tupAt vs (i + 1)) (f := fun (i : Nat) => D.int (1 + i)) rfl rfl (List.range ((vs.length : Int) - 1).toNat) [] (fun i hi Q2 q2 => ?_) (fun i _ _ Q2 q2 => ⟨_, rfl, q2 _ rfl⟩) (by rw [List.length_range]; simp; omega) ?_
    · have hi' := List.mem_range.mp hi
      have hlt : i + 1 < vs.length := by omega
      have hx : atI vs (1 + (i : Int)) = some vs[i + 1] := by
        rw [atI_get (by omega) (by omega), show ((1 : Int) + (i : Int)).toNat = i + 1 by omega]
        exact List.getElem?_eq_getElem hlt
      refine ⟨_, rfl, _, rfl, _, ix_tup' hx, _, isi_T ((hvs _ (List.getElem_mem hlt)).top (by omega)), _, rfl, ?_⟩
      have e2 : tupAt vs (i + 1) = isT vs[i + 1] := by rw [tupAt, List.getElem?_eq_getElem hlt]
      rw [e2] at q2
      exact q2
    rw [List.nil_append]
    generalize hI : (List.range ((vs.length : Int) - 1).toNat).filter (fun i => tupAt vs (i + 1)) = is
    have his : ∀ i ∈ is, ∃ h : i + 1 < vs.length, isT vs[i + 1] = true := by
      intro i hi
      rw [← hI, List.mem_filter, List.mem_range] at hi
      have hlt : i + 1 < vs.length := by omega
      refine ⟨hlt, ?_⟩
      have h2 := hi.2
      rw [tupAt, List.getElem?_eq_getElem hlt] at h2
      exact h2
    have hisl : is.length ≤ 300 := by
      rw [← hI]
      refine Nat.le_trans (List.length_filter_le ..) ?_
      rw [List.length_range]
      omega
    clear hI
    rw [show (is.map fun (i : Nat) => D.int (1 + i)) = (is.map fun (i : Nat) => (1 + (i : Int))).map D.int by rw [List.map_map]; rfl]
    walk_at "s"
    refine ⟨_, neD_ints _ [], _, rfl, ?_⟩
    have keep : ∀ {lo hi : Option Int}, ∀ x ∈ cutD vs lo hi, Sm m de x := fun x hx => hvs x (cut_mem hx)
    have klen : ∀ {lo hi : Option Int}, (cutD vs lo hi).length ≤ m := Nat.le_trans (cut_len ..) hvl
    have one : ∀ {M : Nat} {d : D}, Sm M (de + 3) d → m ≤ M → ∀ x ∈ [d], Sm M (de + 3) x := fun h _ x hx => by rw [List.mem_singleton.mp hx]; exact h
    refine andT_cut (decide (is ≠ [] ∧ 0 < at_)) (fun h3 P' q' => ?_) (fun h3 => ?_) ?_
    · walk_at "s"
      have h4 : is ≠ [] := by rintro rfl; simp at h3
      rw [show decide (is ≠ [] ∧ 0 < at_) = decide (0 < at_) by simp [h4]] at q'
      exact q'
    · refine decide_eq_false fun z => ?_
      cases is with
      | nil => exact z.1 rfl
      | cons _ _ => simp at h3
    refine ifd rfl (fun h3 => ?_) (fun h3 => ?_)
    · walk_at "s"
      have hne : 0 < is.length := List.length_pos_iff.mpr h3.1
      refine ⟨c + 1, _, rfl, hS1, by omega, by rw [List.length_map, List.length_map]; omega, by rw [List.length_map, List.length_map]; omega, fun j xs2 j0 j1 hS2 => ?_⟩
      rw [List.length_map, List.length_map] at j1
      refine pick (fun d => ∃ i, i ∈ is ∧ d = .int (1 + (i : Int))) j0 ?hj1 ?_ ?_
      case hj1 => rw [List.length_map, List.length_map]; exact j1
      · intro x hx
        obtain ⟨y, hy, rfl⟩ := List.mem_map.mp hx
        obtain ⟨i, hi, rfl⟩ := List.mem_map.mp hy
        exact ⟨i, hi, rfl⟩
      rintro d ⟨i, hi, rfl⟩
      obtain ⟨hlt, hit⟩ := his i hi
      have hx : atI vs (1 + (i : Int)) = some vs[i + 1] := by
        rw [atI_get (by omega) (by omega), show ((1 : Int) + (i : Int)).toNat = i + 1 by omega]
        exact List.getElem?_eq_getElem hlt
      have hsm := hvs _ (List.getElem_mem hlt)
      walk_at "s"
      refine ⟨_, ix_tup' hx, ?_⟩
      walk_at "s"
      refine ⟨c + 2, A, _, m, de, rfl, hA, m5, m3, hsm, by omega, hS2, by omega, fun r xs3 hr hS3 => ?_⟩
      walk_at "s"
      have k1 := klen (lo := none) (hi := some (1 + (i : Int)))
      have k2 := klen (lo := some (1 + (i : Int) + 1)) (hi := none)
      refine ⟨_, add_tup (by show _ + 1 ≤ _; omega), ?_⟩
      walk_at "s"
      refine ⟨_, add_tup (by rw [List.length_append]; show _ + 1 + _ ≤ _; omega), _, rfl, q _ _ ?_ (hS3.mono (by omega))⟩
      refine Sm.cat (m := 3 * m) (n := de + 3) (fun x hx => ?_) (fun x hx => (keep x hx).mono (by omega) (by omega)) (by rw [List.length_append]; show _ + 1 + _ ≤ _; omega) (Nat.le_refl _)
      rcases List.mem_append.mp hx with h | h
      · exact (keep x h).mono (by omega) (by omega)
      · rw [List.mem_singleton.mp h]
        exact hr
    walk_at "s"
    refine ⟨c + 1, _, rfl, hS1, by omega, by decide, by decide, fun way xs2 w0 w1 hS2 => ⟨rfl, ?_⟩⟩
    walk_at "s"
    have oth : ∀ {R : Res → List D → Prop}, (∀ d' xs3, Sm 5 2 d' → Src (c + 6) xs3 → R (.fz d') xs3) → ∀ {c' xs3}, Src c' xs3 → c' ≤ c + 5 → g_other xs3 [.str A] R := fun h c' xs3 h2 h4 => ⟨c', A, rfl, hA, h2, by omega, fun d' xs4 hd' hS4 => h d' xs4 hd' (hS4.mono (by omega))⟩
    have fin : ∀ {r xs3 c'}, Src c' xs3 → c' ≤ c + 6 → Sm (3 * m) (de + 4) r.dat → Q r xs3 := fun h h2 h3 => q _ _ h3 (h.mono (by omega))
    refine ifB (fun h4 => ?_) (fun h4 => ?_)
    · walk_at "s"
      exact oth (fun d' xs3 hd' hS3 => ⟨_, rfl, fin hS3 (by omega) (hd'.mono (by omega) (by omega))⟩) hS2 (by omega)
    have hv0 : 0 < vs.length := by
      have h5 : decide (((vs.length : Nat) : Int) = 0) = false := h4
      have := of_decide_eq_false h5
      omega
    walk_at "s"
    refine ifB (fun h5 => ?_) (fun h5 => ?_)
    · walk_at "s"
      exact oth (fun d' xs3 hd' hS3 => ⟨_, rfl, fin hS3 (by omega) (hd'.mono (by omega) (by omega))⟩) hS2 (by omega)
    walk_at "s"
    refine ⟨c + 2, _, rfl, hS2, by omega, by omega, by omega, fun k xs3 k0 k1 hS3 => ⟨rfl, ?_⟩⟩
    have kl1 := klen (lo := none) (hi := some k)
    have kl2 := klen (lo := some (k + 1)) (hi := none)
    have kl3 := klen (lo := some k) (hi := none)
    have kl4 := klen (lo := some k) (hi := some (k + 1))
    have kl5 := klen (lo := some 1) (hi := none)
    have wl : ∀ s : Str, s ∈ ([("" : Str), "set", "row", "any", "all", "not", "again", "Row", "0", "4"] : List Str) → s.length ≤ 60 := by decide +kernel
    walk_at "s"
    -- way 1
    refine ifB (fun h6 => ?_) (fun h6 => ?_)
    · walk_at "s"
      refine ⟨c + 3, _, rfl, hS3, by omega, by decide, by decide, fun j xs4 j0 j1 hS4 => ?_⟩
      refine pick (Sm m 0) j0 ?hj2 ?hall2 ?_
      case hj2 => exact (show j < ((8 : Nat) : Int) from j1)
      case hall2 => repeat' (first | exact sm_str (wl _ (by decide +kernel)) | refine List.forall_mem_cons.mpr ⟨?_, ?_⟩ | (intro x hx; cases hx; done))
      intro d' hd'
      walk_at "s"
      refine ⟨_, add_tup (by show 1 + _ ≤ _; omega), _, rfl, fin hS4 (by omega) ?_⟩
      exact Sm.cat (m := m) (n := de + 3) (fun x hx => by rw [List.mem_singleton.mp hx]; exact hd'.mono (Nat.le_refl _) (by omega)) (fun x hx => (keep x hx).mono (Nat.le_refl _) (by omega)) (by show 1 + _ ≤ _; omega) (by omega)
    walk_at "s"
    -- way 2
    refine ifB (fun h7 => ?_) (fun h7 => ?_)
    · walk_at "s"
      refine ⟨_, add_tup (by omega), _, rfl, fin hS3 (by omega) ?_⟩
      exact Sm.cat (m := m) (n := de + 3) (fun x hx => (keep x hx).mono (Nat.le_refl _) (by omega)) (fun x hx => (keep x hx).mono (Nat.le_refl _) (by omega)) (by omega) (by omega)
    walk_at "s"
    -- way 3
    refine ifB (fun h8 => ?_) (fun h8 => ?_)
    · walk_at "s"
      refine ⟨_, add_tup (by omega), ?_⟩
      walk_at "s"
      refine ⟨_, add_tup (by rw [List.length_append]; omega), _, rfl, fin hS3 (by omega) ?_⟩
      refine Sm.cat (m := m) (n := de + 3) (fun x hx => ?_) (fun x hx => (keep x hx).mono (Nat.le_refl _) (by omega)) (by rw [List.length_append]; omega) (by omega)
      rcases List.mem_append.mp hx with h | h
      · exact (keep x h).mono (Nat.le_refl _) (by omega)
      · exact (keep x h).mono (Nat.le_refl _) (by omega)
    walk_at "s"
    -- way 4
    refine ifB (fun h9 => ?_) (fun h9 => ?_)
    · walk_at "s"
      exact fin hS3 (by omega) ((sm_lst hd).mono (by omega) (by omega))
    walk_at "s"
    -- way 5
    refine ifB (fun h10 => ?_) (fun h10 => ?_)
    · walk_at "s"
      refine ⟨c + 3, _, rfl, hS3, by omega, by decide, by decide, fun j xs4 j0 j1 hS4 => ?_⟩
      refine pick (Sm m 0) j0 ?hj3 ?hall3 ?_
      case hj3 => exact (show j < ((8 : Nat) : Int) from j1)
      case hall3 => repeat' (first | exact sm_non | exact sm_bl | exact sm_int | exact sm_str (wl _ (by decide +kernel)) | refine List.forall_mem_cons.mpr ⟨?_, ?_⟩ | (intro x hx; cases hx; done))
      intro d1 hd1
      walk_at "s"
      refine ⟨c + 4, _, rfl, hS4, by omega, by decide, by decide, fun j xs5 j0 j1 hS5 => ?_⟩
      refine pick (Sm m 0) j0 ?hj4 ?hall4 ?_
      case hj4 => exact (show j < ((7 : Nat) : Int) from j1)
      case hall4 => repeat' (first | exact sm_non | exact sm_bl | exact sm_int | exact sm_str (wl _ (by decide +kernel)) | refine List.forall_mem_cons.mpr ⟨?_, ?_⟩ | (intro x hx; cases hx; done))
      intro d2 hd2
      walk_at "s"
      exact fin hS5 (by omega) (sm_t4 (by omega) (sm_str (wl _ (by decide +kernel))) (hd.mono (by omega) (by omega)) (hd1.mono (by omega) (by omega)) (hd2.mono (by omega) (by omega)))
    walk_at "s"
    -- way 6
    refine ifB (fun h11 => ?_) (fun h11 => ?_)
    · walk_at "s"
      refine ⟨c + 3, _, rfl, hS3, by omega, by decide, by decide, fun j xs4 j0 j1 hS4 => ?_⟩
      refine pick (Sm m 0) j0 ?hj5 ?hall5 ?_
      case hj5 => exact (show j < ((4 : Nat) : Int) from j1)
      case hall5 => repeat' (first | exact sm_str (wl _ (by decide +kernel)) | refine List.forall_mem_cons.mpr ⟨?_, ?_⟩ | (intro x hx; cases hx; done))
      intro d1 hd1
      walk_at "s"
      exact fin hS4 (by omega) (sm_t2 (by omega) (hd1.mono (by omega) (by omega)) (hd.mono (by omega) (by omega)))
    walk_at "s"
    refine oth (fun d' xs4 hd' hS4 => ?_) hS3 (by omega)
    walk_at "s"
    refine ⟨_, add_tup (by show _ + 1 ≤ _; omega), ?_⟩
    walk_at "s"
    refine ⟨_, add_tup (by rw [List.length_append]; show _ + 1 + _ ≤ _; omega), _, rfl, fin hS4 (by omega) ?_⟩
    refine Sm.cat (m := 3 * m) (n := de + 3) (fun x hx => ?_) (fun x hx => (keep x hx).mono (by omega) (by omega)) (by rw [List.length_append]; show _ + 1 + _ ≤ _; omega) (Nat.le_refl _)
    rcases List.mem_append.mp hx with h | h
    · exact (keep x h).mono (by omega) (by omega)
    · rw [List.mem_singleton.mp h]
      exact hd'.mono (by omega) (by omega)
end
end Cut
namespace Cut
open PySem L2 DL
local macro_rules | `(tactic| walk_at "s") => `(tactic| repeat (first | with_reducible refine ⟨_, rfl, ?_⟩ | refine ⟨_, rfl, ?_⟩ | refine ⟨rfl, ?_⟩ | refine ⟨_, _, rfl, rfl, ?_⟩ | refine ⟨_, _, rfl, ?_⟩ | refine iteT ?_ | refine iteF ?_ | refine ⟨⟨_, rfl⟩, ?_⟩ | refine ⟨⟨_, _, rfl⟩, ?_⟩ | refine ⟨_, _, _, _, rfl, rfl, rfl, ?_⟩ | refine ⟨Nat.le_of_ble_eq_true rfl, ?_⟩ | refine ⟨(by decide), ?_⟩ | refine ⟨_, ix_t0 _ _, ?_⟩ | refine ⟨_, ix_l0 _ _, ?_⟩))
abbrev s_law : Stmt := top 30
abbrev N_law : List Str := ["_law_script", "_law_k", "_law_source_here", "_law_alphabet_here", "_law_value", "_law_turn", "_law_found"]
theorem sc_law : FnScope N_law ["_law_script"] (defScope s_law) := ⟨rfl, rfl, rfl, by decide +kernel, rfl, by decide +kernel, by decide +kernel⟩
theorem hi_sm {m n : Nat} (hi : Option Int) : Sm m n (hiD hi) := by cases hi; exact sm_non; exact sm_int
mutual
theorem cnt_pos : ∀ r : Rx, 1 ≤ cnt r
  | .set _ => Int.le_refl 1
  | .row ps | .any ps | .all ps => by have := cntL_pos ps; rw [cnt]; omega
  | .no p => by have := cnt_pos p; rw [cnt]; omega
  | .again p _ _ => by have := cnt_pos p; rw [cnt]; omega
theorem cntL_pos : ∀ ps : List Rx, (ps.length : Int) ≤ (cntL ps).sum
  | [] => by simp [cntL]
  | p :: ps => by
    have := cnt_pos p
    have := cntL_pos ps
    rw [cntL, List.sum_cons, List.length_cons]
    omega
end
theorem wl6 : ∀ s : Str, s ∈ ([("set" : Str), "row", "any", "all", "not", "again"] : List Str) → s.length ≤ 60 := by decide +kernel
mutual
theorem sm_toD {A : Str} {M : Nat} : ∀ r : Rx, stR A r = true → cnt r ≤ M → Sm (M + 4) (rdep r + 1) (toD r)
  | .set s, h, _ => by
    rw [stR, Bool.and_eq_true] at h
    have := of_decide_eq_true h.2
    rw [toD]
    exact sm_t2 (by omega) (sm_str (wl6 _ (by decide +kernel))) (sm_str (by omega))
  | .row ps, h, hc => by
    rw [stR] at h
    rw [cnt] at hc
    rw [toD, rdep]
    have := cntL_pos ps
    exact Sm.tup (List.forall_mem_cons.mpr ⟨sm_str (wl6 _ (by decide +kernel)), sm_toDL ps h (by omega)⟩) (by rw [List.length_cons, toDL_len]; omega)
  | .any ps, h, hc => by
    rw [stR] at h
    rw [cnt] at hc
    rw [toD, rdep]
    have := cntL_pos ps
    exact Sm.tup (List.forall_mem_cons.mpr ⟨sm_str (wl6 _ (by decide +kernel)), sm_toDL ps h (by omega)⟩) (by rw [List.length_cons, toDL_len]; omega)
  | .all ps, h, hc => by
    rw [stR] at h
    rw [cnt] at hc
    rw [toD, rdep]
    have := cntL_pos ps
    exact Sm.tup (List.forall_mem_cons.mpr ⟨sm_str (wl6 _ (by decide +kernel)), sm_toDL ps h (by omega)⟩) (by rw [List.length_cons, toDL_len]; omega)
  | .no p, h, hc => by
    rw [stR] at h
    rw [cnt] at hc
    rw [toD, rdep]
    exact sm_t2 (by omega) (sm_str (wl6 _ (by decide +kernel))) (sm_toD p h (by omega))
  | .again p lo hi, h, hc => by
    rw [stR] at h
    rw [cnt] at hc
    rw [toD, rdep]
    exact sm_t4 (by omega) (sm_str (wl6 _ (by decide +kernel))) (sm_toD p h (by omega)) sm_int (hi_sm hi)
theorem sm_toDL {A : Str} {M : Nat} : ∀ ps : List Rx, stRL A ps = true → (cntL ps).sum ≤ M → ∀ d ∈ toDL ps, Sm (M + 4) (rdepL ps + 1) d
  | [], _, _, d, hd => by simp [toDL] at hd
  | p :: ps, h, hc, d, hd => by
    rw [stRL, Bool.and_eq_true] at h
    rw [cntL, List.sum_cons] at hc
    have c1 := cnt_pos p
    have c2 := cntL_pos ps
    rw [toDL] at hd
    rw [rdepL]
    rcases List.mem_cons.mp hd with e | e
    · rw [e]
      exact (sm_toD p h.1 (by omega)).mono (Nat.le_refl _) (by omega)
    · exact (sm_toDL ps h.2 (by omega) d e).mono (Nat.le_refl _) (by omega)
end
section
variable {P : Program} {w : World} {K : Fg} {mg : Str → Option Value} {base : Heap} {f f2 : Addr} {fd fd2 : FuncData}
def g_due : FS0 := fun ds Q => ∃ A d, ds = [.str A, d] ∧ Alp A ∧ bv 1000 d = true ∧ dep d < 60 ∧ (isExpr A d = false → Q (.fz (.bl false))) ∧ (∀ r, d = toD r → okR r = true → isExpr A d = true → Q (.fz (.bl (patR r))))
theorem ok_due (A : At K mg "_law_due" ["_law_alphabet_here", "_law_value"] s_l_due f fd) (c_l_fits : Fn0 P w K mg base "_law_fits" 61 2 (g_fits 60)) (c_l_measures : Fn0 P w K mg base "_law_measures" 61 1 (g_measures 60)) : Fn0 P w K mg base "_law_due" 62 2 g_due := by
  refine A.fn0 (okD0 (k := 61) A.fn sc_l_due (by decide) (fun cdv A outer s H E hr => (dss_cons (ds_if (dt_not (dt_val (de_c0 c_l_fits (hr.mono (by decide)) (by rfl) (da_cons (de_v 0) (da_cons (de_v 1) da_nil))))) (dss_one (ds_ret de_bl)) dss_nil)
      (dss_cons (ds_asg (de_c0 c_l_measures (hr.mono (by decide)) (by rfl) (da_cons (de_v 1) da_nil)) (dg_tup (n := 4) rfl (dgs_cons (dg_n 2 sc_l_due.nd rfl (by first | exact Or.inl rfl | exact Or.inr rfl)) (dgs_cons (dg_n 3 sc_l_due.nd rfl (by first | exact Or.inl rfl | exact Or.inr rfl)) (dgs_cons (dg_n 4 sc_l_due.nd rfl (by first | exact Or.inl rfl | exact Or.inr rfl)) (dgs_cons (dg_n 5 sc_l_due.nd rfl (by first | exact Or.inl rfl | exact Or.inr rfl)) dgs_nil))))))
      (dss_one (ds_ret (de_and (de_le (de_v 2) de_int) (de_and (de_le (de_v 3) de_int) (de_one (de_v 5))))))))) ?_)
  rintro ds Q hl ⟨A, d, rfl, hA, hv, hd, q1, q2⟩
  walk_at "s"
  refine ⟨hA, hv, hd, _, rfl, ?_⟩
  refine ifB (fun h => ?_) (fun h => ?_)
  · walk_at "s"
    exact q1 (by simpa using h)
  have h' : isExpr A d = true := by simpa using h
  obtain ⟨r, rfl, ho, hrd⟩ := ofExpr A d (bv_val (by decide) d hv) h'
  walk_at "s"
  refine ⟨ho, by omega, ?_⟩
  refine ⟨_, rfl, rfl, ?_⟩
  walk_at "s"
  have q3 := q2 r rfl ho h'
  refine and_cut (patR r) (fun h1 P' q' => ?_) (fun h1 => ?_) q3
  · walk_at "s"
    refine and_cut (patR r) (fun h2 P'' q'' => ?_) (fun h2 => ?_) q'
    · rw [patR, show decide (wd r ≤ 10) = true from h1, show decide (cnt r ≤ 20) = true from h2] at q''
      simp only [Bool.and_true] at q''
      exact ⟨_, rfl, q''⟩
    · rw [patR, show decide (cnt r ≤ 20) = false from h2]
      simp
  · rw [patR, show decide (wd r ≤ 10) = false from h1]
    simp
def Mt : Nat → Nat
  | 0 => 396
  | 1 => 132
  | _ => 44
def g_law : FS0 := fun ds Q => ∃ (ns : List Int), ds = [.scr ns] ∧ Q (.fz (.bl true))
def LI (ns : List Int) (ds : List D) (ρ : Ev) : Prop := ∃ s1 s2 s3 s4 s5 s6, ρ = [some (.fz (.scr ns)), s1, s2, s3, s4, s5, s6] ∧ NP s1 ∧ NP s2 ∧ NP s3 ∧ NP s4 ∧ NP s5 ∧ NP s6 ∧ ∀ d ∈ ds, ∃ k : Int, d = .int k ∧ 0 ≤ k ∧ k < 6
theorem ok_law (A : At K mg "law" ["_law_script"] s_law f fd) (m_range : mg "range" = none) (m_isinstance : mg "isinstance" = none) (m_bool : mg "bool" = none) (c_l_draw : Fn1 P w K mg base "_law_draw" 1 2 g_draw) (c_l_source : Fn0 P w K mg base "_law_source" 1 2 g_source)
    (c_l_alphabet : Fn1 P w K mg base "_law_alphabet" 2 2 g_alphabet) (c_l_pattern : Fn1 P w K mg base "_law_pattern" 5 3 g_pattern) (c_l_nested : Fn1 P w K mg base "_law_nested" 8 3 (g_nested 5)) (c_l_changed : Fn1 P w K mg base "_law_changed" 33 3 (g_changed 30)) (c_l_due : Fn0 P w K mg base "_law_due" 62 2 g_due)
    (c_is_pattern : Fn0 P w K mg base "is_pattern" 123 2 g_is_pattern) : FnOk P w K mg base CX0 124 f fd ["_law_script"] (sp0 K 1 g_law) := by
  refine okD0 (k := 123) A.fn sc_law (by decide) (fun cdv A outer s H E hr => (dss_cons (ds_for PassesOwn.never rfl (di_range1 (by rfl) m_range (da_cons de_int da_nil)) (dg_n 1 sc_law.nd rfl (by first | exact Or.inl rfl | exact Or.inr rfl)) (dss_cons (ds_setO 2 sc_law.nd rfl (by first | exact Or.inl rfl | exact Or.inr rfl) (de_c0 c_l_source (hr.mono (by decide)) (by rfl) (da_cons (de_v 0) (da_cons (de_v 1) da_nil))))
      (dss_cons (ds_set 3 sc_law.nd rfl (by first | exact Or.inl rfl | exact Or.inr rfl) (de_c1 2 c_l_alphabet (hr.mono (by decide)) (by rfl) (da_cons (de_add de_int (de_c1 2 c_l_draw (hr.mono (by decide)) (by rfl) (da_cons de_int da_nil))) da_nil)))
      (dss_cons (ds_set 4 sc_law.nd rfl (by first | exact Or.inl rfl | exact Or.inr rfl) (de_c1 2 c_l_pattern (hr.mono (by decide)) (by rfl) (da_cons (de_v 3) (da_cons (de_add de_int (de_c1 2 c_l_draw (hr.mono (by decide)) (by rfl) (da_cons de_int da_nil))) da_nil))))
      (dss_cons (ds_if (dt_eq hr (de_c1 2 c_l_draw (hr.mono (by decide)) (by rfl) (da_cons de_int da_nil)) de_int) (dss_one (ds_set 4 sc_law.nd rfl (by first | exact Or.inl rfl | exact Or.inr rfl) (de_c1 2 c_l_nested (hr.mono (by decide)) (by rfl) (da_cons (de_v 3) (da_cons (de_add de_int (de_c1 2 c_l_draw (hr.mono (by decide)) (by rfl) (da_cons de_int da_nil))) da_nil))))) dss_nil)
      (dss_cons (ds_for PassesOwn.never rfl (di_range1 (by rfl) m_range (da_cons (de_c1 2 c_l_draw (hr.mono (by decide)) (by rfl) (da_cons de_int da_nil)) da_nil)) (dg_n 5 sc_law.nd rfl (by first | exact Or.inl rfl | exact Or.inr rfl)) (dss_one (ds_set 4 sc_law.nd rfl (by first | exact Or.inl rfl | exact Or.inr rfl) (de_c1 2 c_l_changed (hr.mono (by decide)) (by rfl) (da_cons (de_v 3) (da_cons (de_v 4) da_nil))))))
      (dss_cons (ds_set 6 sc_law.nd rfl (by first | exact Or.inl rfl | exact Or.inr rfl) (de_c0 c_is_pattern (hr.mono (by decide)) (by rfl) (da_cons (de_v 3) (da_cons (de_v 4) da_nil))))
      (dss_one (ds_if (DW.dt (dw_or (dt_not (dt_val (de_isi (by rfl) m_isinstance (da_cons (de_v 6) (da_cons (de_ty (n := "bool") (by rfl) m_bool (by decide +kernel)) da_nil))))) (dw_or1 (dt_ne hr (de_v 6) (de_c0 c_l_due (hr.mono (by decide)) (by rfl) (da_cons (de_v 3) (da_cons (de_v 4) da_nil))))))) (dss_one (ds_ret de_bl)) dss_nil)))))))))
      (dss_one (ds_ret de_bl)))) ?_
  rintro ds Q hl ⟨ns, rfl, q⟩
  refine ⟨6, rfl, ⟨by decide, by decide⟩, ?_⟩
  refine loop_inv (LI ns) _ _ ⟨none, none, none, none, none, none, rfl, trivial, trivial, trivial, trivial, trivial, trivial, ?_⟩ ?_ ?_
  · intro d hd
    rw [rangeD_map] at hd
    obtain ⟨i, hi, rfl⟩ := List.mem_map.mp hd
    have hi' : i < (6 : Int).toNat := List.mem_range.mp hi
    exact ⟨_, rfl, by omega, by omega⟩
  · rintro d es ρ R ⟨s1, s2, s3, s4, s5, s6, rfl, n1, n2, n3, n4, n5, n6, hd⟩ hR
    obtain ⟨k, rfl, k0, k1⟩ := hd d (List.mem_cons_self ..)
    have hd' := fun d h => hd d (List.mem_cons_of_mem _ h)
    clear hd
    refine ⟨pin_np rfl n1, ?_⟩
    walk_at "s"
    refine ⟨k0, by omega, fun xs hS => ?_⟩
    refine ⟨_, rfl, pin_np rfl n2, ?_⟩
    walk_at "s"
    refine ⟨0, _, rfl, hS, by omega, by decide, by decide, fun j xs1 j0 j1 hS1 => ?_⟩
    walk_at "s"
    refine ⟨1, _, rfl, hS1, by omega, by omega, by omega, fun A xs2 hA hAl hS2 => ?_⟩
    refine ⟨pin_np rfl n3, ?_⟩
    walk_at "s"
    refine ⟨7, _, rfl, hS2, by omega, by decide, by decide, fun j2 xs3 j20 j21 hS3 => ?_⟩
    walk_at "s"
    refine ⟨8, A, 1 + j2, rfl, hA, hS3, by omega, by omega, by omega, fun r xs4 hp hS4 => ?_⟩
    have hsm : Sm 44 6 (toD r) := (sm_toD (M := 18) r hp.st (by have := hp.ct; omega)).mono (by decide) (by have := hp.dp; omega)
    refine ⟨pin_np rfl n4, ?_⟩
    walk_at "s"
    refine ⟨5008, _, rfl, hS4, by omega, by decide, by decide, fun j3 xs5 j30 j31 hS5 => ?_⟩
    walk_at "s"
    refine ite_cut (fun ρ' => ∃ d xs6, ρ' = [some (.fz (.scr ns)), some (.fz (.int k)), some (.ow false xs6), some (.fz (.str A)), some (.fz d), s5, s6] ∧ Sm 44 6 d ∧ Src 6000 xs6) (fun R2 hR2 => ?_) ?_
    · refine ifB (fun h => ?_) (fun h => ?_)
      · walk_at "s"
        refine ⟨5009, _, rfl, hS5, by omega, by decide, by decide, fun j4 xs6 j40 j41 hS6 => ?_⟩
        walk_at "s"
        obtain ⟨jn, hjn⟩ : ∃ jn : Nat, (jn : Int) = 1 + j4 := ⟨(1 + j4).toNat, by omega⟩
        have hks : ks jn ≤ 400 := by
          have : jn = 1 ∨ jn = 2 ∨ jn = 3 := by omega
          rcases this with rfl | rfl | rfl <;> decide
        have hcb : cb jn ≤ 40 := by
          have : jn = 1 ∨ jn = 2 ∨ jn = 3 := by omega
          rcases this with rfl | rfl | rfl <;> decide
        refine ⟨5010, jn, A, congrArg (fun z : Int => [D.str A, .int z]) hjn.symm, hA, by omega, by omega, hS6, by omega, fun r' xs7 hn hS7 => ?_⟩
        refine ⟨rfl, ?_⟩
        exact hR2 _ ⟨toD r', xs7, rfl, (sm_toD (M := 40) r' hn.st (by have := hn.ct; omega)).mono (by decide) (by have := hn.dp; omega), hS7.mono (by omega)⟩
      · exact hR2 _ ⟨toD r, xs5, rfl, hsm, hS5.mono (by omega)⟩
    rintro ρ' ⟨d, xs6, rfl, hd6, hS6⟩
    walk_at "s"
    refine ⟨6000, _, rfl, hS6, by omega, by decide, by decide, fun j4 xs7 j40 j41 hS7 => ?_⟩
    refine ⟨j4, rfl, ⟨by omega, by omega⟩, ?_⟩
    refine loop_inv (fun es ρ => ∃ d xs8 s5', ρ = [some (.fz (.scr ns)), some (.fz (.int k)), some (.ow false xs8), some (.fz (.str A)), some (.fz d), s5', s6] ∧ NP s5' ∧ es.length ≤ 2 ∧ Sm (Mt es.length) (12 - 3 * es.length) d ∧ Src (7000 - 200 * es.length) xs8) _ _ ⟨d, xs7, s5, rfl, n5, ?_, ?_, ?_⟩ ?_ ?_
    · rw [rangeD_map, List.length_map, List.length_range]
      omega
    · rw [rangeD_map, List.length_map, List.length_range]
      have : j4.toNat = 0 ∨ j4.toNat = 1 ∨ j4.toNat = 2 := by omega
      rcases this with e | e | e <;> rw [e] <;> exact hd6.mono (by decide) (by decide)
    · rw [rangeD_map, List.length_map, List.length_range]
      exact hS7.mono (by omega)
    · rintro d1 es1 ρ R3 ⟨d2, xs8, s5', rfl, n5', hl1, hd2, hS8⟩ hR3
      rw [List.length_cons] at hl1 hd2 hS8
      refine ⟨pin_np rfl n5', ?_⟩
      walk_at "s"
      have hmt : 5 ≤ Mt (es1.length + 1) ∧ Mt (es1.length + 1) ≤ 300 ∧ 3 * Mt (es1.length + 1) ≤ Mt es1.length := by
        have : es1.length = 0 ∨ es1.length = 1 := by omega
        rcases this with e | e <;> rw [e] <;> decide
      refine ⟨7000 - 200 * (es1.length + 1), A, d2, Mt (es1.length + 1), 12 - 3 * (es1.length + 1), rfl, hA, hmt.1, hmt.2.1, hd2, by omega, hS8, by omega, fun r' xs9 hr' hS9 => ?_⟩
      refine ⟨rfl, ?_⟩
      exact hR3 _ ⟨r'.dat, xs9, _, rfl, trivial, by omega, hr'.mono hmt.2.2 (by omega), hS9.mono (by omega)⟩
    rintro ρ ⟨d2, xs8, s5', rfl, n5', hl1, hd2, hS8⟩
    have hb : bv 1000 d2 = true := bv_mono (by decide) _ hd2.1
    have hdp : dep d2 < 60 := Nat.lt_of_le_of_lt hd2.2 (by decide)
    have fin : ∀ b : Bool, R [some (.fz (.scr ns)), some (.fz (.int k)), some (.ow false xs8), some (.fz (.str A)), some (.fz d2), s5', some (.fz (.bl b))] := fun b => hR _ ⟨_, _, _, _, _, _, rfl, trivial, trivial, trivial, trivial, n5', trivial, hd'⟩
    walk_at "s"
    refine ⟨by have := hA.hi; omega, bv_val (by decide) _ hb, hdp, fun hE => ?_, fun r' e ho hE => ?_⟩
    · refine ⟨pin_np rfl n6, ?_⟩
      walk_at "s"
      refine ⟨hA, hb, hdp, fun _ => ?_, fun r2 _ _ z => absurd (hE.symm.trans z) (by decide)⟩
      walk_at "s"
      exact fin false
    · subst e
      refine ⟨pin_np rfl n6, ?_⟩
      walk_at "s"
      refine ⟨hA, hb, hdp, fun z => absurd (hE.symm.trans z) (by decide), fun r2 e2 _ _ => ?_⟩
      cases toD_inj _ _ e2
      walk_at "s"
      refine ifF ?_ (fin _)
      show (!eqB (.bl (patR r')) (.bl (patR r'))) = false
      cases patR r' <;> rfl
  · rintro ρ _
    walk_at "s"
    exact q
end
end Cut
namespace Cut
open PySem L2 DL
theorem gc_int {K : Fg} {h : Heap} {mg : Str → Option Value} {x : Str} {i : Int} {t : Tok} (X : K.In h) (G : h.Ns mainGlobals mg) (e : PySem.W.nsIn K mainGlobals x = some (some (.int i t))) : Gc K mg x (.int i) := ⟨.int i, _, PySem.W.mg_of X G e, ⟨_, rfl⟩, fun _ => .int i⟩
theorem gc_LISTED {K : Fg} {h : Heap} {mg : Str → Option Value} {x : Str} {a : Addr} {od : Option Addr} {t0 t1 t2 : Tok} {nn : Nat} {sl : Array (Option Value)} (X : K.In h) (G : h.Ns mainGlobals mg) (e : PySem.W.nsIn K mainGlobals x = some (some (.ref a))) (l : K.lookup a = some ⟨.type "tuple", od, .seq #[.str "row" t0, .str "any" t1, .str "all" t2] nn, sl⟩) : Gc K mg x (.tup [.str "row", .str "any", .str "all"]) :=
  ⟨.ref a, _, PySem.W.mg_of X G e, rfl, fun H => .tup (xs := [.str "row", .str "any", .str "all"]) (.inr ⟨_, _, _, l, rfl, rfl, (show 3 ≤ sizeLine by decide), .cons ⟨_, rfl⟩ (.cons ⟨_, rfl⟩ (.cons ⟨_, rfl⟩ (.nil)))⟩) (.cons (.str _) (.cons (.str _) (.cons (.str _) (.nil))))⟩
theorem all_mk {l : PySem.W.OpenLaw} {w : World} {K : PySem.W.Frag} {h : Heap} {mg : Str → Option Value} {fa : Addr} (X : K.In h) (G : h.Ns mainGlobals mg) (hfa : mg "law" = some (.ref fa))
    {od0 od1 od2 od3 od4 od5 od6 od7 od8 od9 od10 od11 od12 od13 od14 od15 od16 od17 od18 od19 od20 od21 od22 od23 od24 an0 an1 an2 an3 an4 an5 an6 an7 an8 an9 an10 an11 an12 an13 an14 an15 an16 an17 an18 an19 an20 an21 an22 an23 an24 : Option Addr} {sl0 sl1 sl2 sl3 sl4 sl5 sl6 sl7 sl8 sl9 sl10 sl11 sl12 sl13 sl14 sl15 sl16 sl17 sl18 sl19 sl20 sl21 sl22 sl23 sl24 : Array (Option Value)} {oc0 oc1 oc2 oc3 oc4 oc5 oc6 oc7 oc8 oc9 oc10 oc11 oc12 oc13 oc14 oc15 oc16 oc17 oc18 oc19 oc20 oc21 oc22 oc23 oc24 kV0 kV1 kV2 kV3 kV4 kV5 kV6 kV7 kV8 kV9 kV10 kV11 kV12 kV13 kV14 kV15 kV16 kV17 kV18 kV19 kV20 kV21 kV22 kV23 kV24 dc0 dc1 dc2 dc3 dc4 dc5 dc6 dc7 dc8 dc9 dc10 dc11 dc12 dc13 dc14 dc15 dc16 dc17 dc18 dc19 dc20 dc21 dc22 dc23 dc24 pm0 pm1 pm2 pm3 pm4 pm5 pm6 pm7 pm8 pm9 pm10 pm11 pm12 pm13 pm14 pm15 pm16 pm17 pm18 pm19 pm20 pm21 pm22 pm23 pm24 cd0 cd1 cd2 cd3 cd4 cd5 cd6 cd7 cd8 cd9 cd10 cd11 cd12 cd13 cd14 cd15 cd16 cd17 cd18 cd19 cd20 cd21 cd22 cd23 cd24 ct0 ct1 ct2 ct3 ct4 ct5 ct6 ct7 ct8 ct9 ct10 ct11 ct12 ct13 ct14 ct15 ct16 ct17 ct18 ct19 ct20 ct21 ct22 ct23 ct24 : Value} {f0 f1 f2 f3 f4 f5 f6 f7 f8 f9 f10 f11 f12 f13 f14 f15 f16 f17 f18 f19 f20 f21 f22 f23 f24 : Addr}
    {ta0 : Addr} {to0 : Option Addr} {tn0 : Nat} {tl0 : Array (Option Value)} {tt0_0 tt0_1 tt0_2 : Tok}
    {it0 it1 it2 : Tok}
    (a0 : PySem.W.nsIn K mainGlobals "is_integer" = some (some (.ref f0))) (l0 : K.lookup f0 = some ⟨oc0, od0, .func (PySem.W.fnOf "is_integer" "is_integer" (defArgs s_is_integer) (defBody s_is_integer) (defScope s_is_integer) .none kV0 dc0 pm0 an0 cd0 ct0), sl0⟩) (c0 : PySem.W.codeIn K cd0 "is_integer" = true) (k0 : PySem.W.keepIn K (.ref f0) = true)
    (a1 : PySem.W.nsIn K mainGlobals "is_set" = some (some (.ref f1))) (l1 : K.lookup f1 = some ⟨oc1, od1, .func (PySem.W.fnOf "is_set" "is_set" (defArgs s_is_set) (defBody s_is_set) (defScope s_is_set) .none kV1 dc1 pm1 an1 cd1 ct1), sl1⟩) (c1 : PySem.W.codeIn K cd1 "is_set" = true) (k1 : PySem.W.keepIn K (.ref f1) = true)
    (a2 : PySem.W.nsIn K mainGlobals "is_again" = some (some (.ref f2))) (l2 : K.lookup f2 = some ⟨oc2, od2, .func (PySem.W.fnOf "is_again" "is_again" (defArgs s_is_again) (defBody s_is_again) (defScope s_is_again) .none kV2 dc2 pm2 an2 cd2 ct2), sl2⟩) (c2 : PySem.W.codeIn K cd2 "is_again" = true) (k2 : PySem.W.keepIn K (.ref f2) = true)
    (a3 : PySem.W.nsIn K mainGlobals "is_expression" = some (some (.ref f3))) (l3 : K.lookup f3 = some ⟨oc3, od3, .func (PySem.W.fnOf "is_expression" "is_expression" (defArgs s_is_expression) (defBody s_is_expression) (defScope s_is_expression) .none kV3 dc3 pm3 an3 cd3 ct3), sl3⟩) (c3 : PySem.W.codeIn K cd3 "is_expression" = true) (k3 : PySem.W.keepIn K (.ref f3) = true)
    (a4 : PySem.W.nsIn K mainGlobals "parts_of" = some (some (.ref f4))) (l4 : K.lookup f4 = some ⟨oc4, od4, .func (PySem.W.fnOf "parts_of" "parts_of" (defArgs s_parts_of) (defBody s_parts_of) (defScope s_parts_of) .none kV4 dc4 pm4 an4 cd4 ct4), sl4⟩) (c4 : PySem.W.codeIn K cd4 "parts_of" = true) (k4 : PySem.W.keepIn K (.ref f4) = true)
    (a5 : PySem.W.nsIn K mainGlobals "count_tuples" = some (some (.ref f5))) (l5 : K.lookup f5 = some ⟨oc5, od5, .func (PySem.W.fnOf "count_tuples" "count_tuples" (defArgs s_count_tuples) (defBody s_count_tuples) (defScope s_count_tuples) .none kV5 dc5 pm5 an5 cd5 ct5), sl5⟩) (c5 : PySem.W.codeIn K cd5 "count_tuples" = true) (k5 : PySem.W.keepIn K (.ref f5) = true)
    (a6 : PySem.W.nsIn K mainGlobals "width" = some (some (.ref f6))) (l6 : K.lookup f6 = some ⟨oc6, od6, .func (PySem.W.fnOf "width" "width" (defArgs s_width) (defBody s_width) (defScope s_width) .none kV6 dc6 pm6 an6 cd6 ct6), sl6⟩) (c6 : PySem.W.codeIn K cd6 "width" = true) (k6 : PySem.W.keepIn K (.ref f6) = true)
    (a7 : PySem.W.nsIn K mainGlobals "is_plain" = some (some (.ref f7))) (l7 : K.lookup f7 = some ⟨oc7, od7, .func (PySem.W.fnOf "is_plain" "is_plain" (defArgs s_is_plain) (defBody s_is_plain) (defScope s_is_plain) .none kV7 dc7 pm7 an7 cd7 ct7), sl7⟩) (c7 : PySem.W.codeIn K cd7 "is_plain" = true) (k7 : PySem.W.keepIn K (.ref f7) = true)
    (a8 : PySem.W.nsIn K mainGlobals "has_plain_repeats" = some (some (.ref f8))) (l8 : K.lookup f8 = some ⟨oc8, od8, .func (PySem.W.fnOf "has_plain_repeats" "has_plain_repeats" (defArgs s_has_plain_repeats) (defBody s_has_plain_repeats) (defScope s_has_plain_repeats) .none kV8 dc8 pm8 an8 cd8 ct8), sl8⟩) (c8 : PySem.W.codeIn K cd8 "has_plain_repeats" = true) (k8 : PySem.W.keepIn K (.ref f8) = true)
    (a9 : PySem.W.nsIn K mainGlobals "is_pattern" = some (some (.ref f9))) (l9 : K.lookup f9 = some ⟨oc9, od9, .func (PySem.W.fnOf "is_pattern" "is_pattern" (defArgs s_is_pattern) (defBody s_is_pattern) (defScope s_is_pattern) .none kV9 dc9 pm9 an9 cd9 ct9), sl9⟩) (c9 : PySem.W.codeIn K cd9 "is_pattern" = true) (k9 : PySem.W.keepIn K (.ref f9) = true)
    (a10 : PySem.W.nsIn K mainGlobals "_law_source" = some (some (.ref f10))) (l10 : K.lookup f10 = some ⟨oc10, od10, .func (PySem.W.fnOf "_law_source" "_law_source" (defArgs s_l_source) (defBody s_l_source) (defScope s_l_source) .none kV10 dc10 pm10 an10 cd10 ct10), sl10⟩) (c10 : PySem.W.codeIn K cd10 "_law_source" = true) (k10 : PySem.W.keepIn K (.ref f10) = true)
    (a11 : PySem.W.nsIn K mainGlobals "_law_draw" = some (some (.ref f11))) (l11 : K.lookup f11 = some ⟨oc11, od11, .func (PySem.W.fnOf "_law_draw" "_law_draw" (defArgs s_l_draw) (defBody s_l_draw) (defScope s_l_draw) .none kV11 dc11 pm11 an11 cd11 ct11), sl11⟩) (c11 : PySem.W.codeIn K cd11 "_law_draw" = true) (k11 : PySem.W.keepIn K (.ref f11) = true)
    (a12 : PySem.W.nsIn K mainGlobals "_law_alphabet" = some (some (.ref f12))) (l12 : K.lookup f12 = some ⟨oc12, od12, .func (PySem.W.fnOf "_law_alphabet" "_law_alphabet" (defArgs s_l_alphabet) (defBody s_l_alphabet) (defScope s_l_alphabet) .none kV12 dc12 pm12 an12 cd12 ct12), sl12⟩) (c12 : PySem.W.codeIn K cd12 "_law_alphabet" = true) (k12 : PySem.W.keepIn K (.ref f12) = true)
    (a13 : PySem.W.nsIn K mainGlobals "_law_set" = some (some (.ref f13))) (l13 : K.lookup f13 = some ⟨oc13, od13, .func (PySem.W.fnOf "_law_set" "_law_set" (defArgs s_l_set) (defBody s_l_set) (defScope s_l_set) .none kV13 dc13 pm13 an13 cd13 ct13), sl13⟩) (c13 : PySem.W.codeIn K cd13 "_law_set" = true) (k13 : PySem.W.keepIn K (.ref f13) = true)
    (a14 : PySem.W.nsIn K mainGlobals "_law_row" = some (some (.ref f14))) (l14 : K.lookup f14 = some ⟨oc14, od14, .func (PySem.W.fnOf "_law_row" "_law_row" (defArgs s_l_row) (defBody s_l_row) (defScope s_l_row) .none kV14 dc14 pm14 an14 cd14 ct14), sl14⟩) (c14 : PySem.W.codeIn K cd14 "_law_row" = true) (k14 : PySem.W.keepIn K (.ref f14) = true)
    (a15 : PySem.W.nsIn K mainGlobals "_law_plain" = some (some (.ref f15))) (l15 : K.lookup f15 = some ⟨oc15, od15, .func (PySem.W.fnOf "_law_plain" "_law_plain" (defArgs s_l_plain) (defBody s_l_plain) (defScope s_l_plain) .none kV15 dc15 pm15 an15 cd15 ct15), sl15⟩) (c15 : PySem.W.codeIn K cd15 "_law_plain" = true) (k15 : PySem.W.keepIn K (.ref f15) = true)
    (a16 : PySem.W.nsIn K mainGlobals "_law_pattern" = some (some (.ref f16))) (l16 : K.lookup f16 = some ⟨oc16, od16, .func (PySem.W.fnOf "_law_pattern" "_law_pattern" (defArgs s_l_pattern) (defBody s_l_pattern) (defScope s_l_pattern) .none kV16 dc16 pm16 an16 cd16 ct16), sl16⟩) (c16 : PySem.W.codeIn K cd16 "_law_pattern" = true) (k16 : PySem.W.keepIn K (.ref f16) = true)
    (a17 : PySem.W.nsIn K mainGlobals "_law_nested" = some (some (.ref f17))) (l17 : K.lookup f17 = some ⟨oc17, od17, .func (PySem.W.fnOf "_law_nested" "_law_nested" (defArgs s_l_nested) (defBody s_l_nested) (defScope s_l_nested) .none kV17 dc17 pm17 an17 cd17 ct17), sl17⟩) (c17 : PySem.W.codeIn K cd17 "_law_nested" = true) (k17 : PySem.W.keepIn K (.ref f17) = true)
    (a18 : PySem.W.nsIn K mainGlobals "_law_other" = some (some (.ref f18))) (l18 : K.lookup f18 = some ⟨oc18, od18, .func (PySem.W.fnOf "_law_other" "_law_other" (defArgs s_l_other) (defBody s_l_other) (defScope s_l_other) .none kV18 dc18 pm18 an18 cd18 ct18), sl18⟩) (c18 : PySem.W.codeIn K cd18 "_law_other" = true) (k18 : PySem.W.keepIn K (.ref f18) = true)
    (a19 : PySem.W.nsIn K mainGlobals "_law_changed" = some (some (.ref f19))) (l19 : K.lookup f19 = some ⟨oc19, od19, .func (PySem.W.fnOf "_law_changed" "_law_changed" (defArgs s_l_changed) (defBody s_l_changed) (defScope s_l_changed) .none kV19 dc19 pm19 an19 cd19 ct19), sl19⟩) (c19 : PySem.W.codeIn K cd19 "_law_changed" = true) (k19 : PySem.W.keepIn K (.ref f19) = true)
    (a20 : PySem.W.nsIn K mainGlobals "_law_is_number" = some (some (.ref f20))) (l20 : K.lookup f20 = some ⟨oc20, od20, .func (PySem.W.fnOf "_law_is_number" "_law_is_number" (defArgs s_l_is_number) (defBody s_l_is_number) (defScope s_l_is_number) .none kV20 dc20 pm20 an20 cd20 ct20), sl20⟩) (c20 : PySem.W.codeIn K cd20 "_law_is_number" = true) (k20 : PySem.W.keepIn K (.ref f20) = true)
    (a21 : PySem.W.nsIn K mainGlobals "_law_fits" = some (some (.ref f21))) (l21 : K.lookup f21 = some ⟨oc21, od21, .func (PySem.W.fnOf "_law_fits" "_law_fits" (defArgs s_l_fits) (defBody s_l_fits) (defScope s_l_fits) .none kV21 dc21 pm21 an21 cd21 ct21), sl21⟩) (c21 : PySem.W.codeIn K cd21 "_law_fits" = true) (k21 : PySem.W.keepIn K (.ref f21) = true)
    (a22 : PySem.W.nsIn K mainGlobals "_law_measures" = some (some (.ref f22))) (l22 : K.lookup f22 = some ⟨oc22, od22, .func (PySem.W.fnOf "_law_measures" "_law_measures" (defArgs s_l_measures) (defBody s_l_measures) (defScope s_l_measures) .none kV22 dc22 pm22 an22 cd22 ct22), sl22⟩) (c22 : PySem.W.codeIn K cd22 "_law_measures" = true) (k22 : PySem.W.keepIn K (.ref f22) = true)
    (a23 : PySem.W.nsIn K mainGlobals "_law_due" = some (some (.ref f23))) (l23 : K.lookup f23 = some ⟨oc23, od23, .func (PySem.W.fnOf "_law_due" "_law_due" (defArgs s_l_due) (defBody s_l_due) (defScope s_l_due) .none kV23 dc23 pm23 an23 cd23 ct23), sl23⟩) (c23 : PySem.W.codeIn K cd23 "_law_due" = true) (k23 : PySem.W.keepIn K (.ref f23) = true)
    (a24 : PySem.W.nsIn K mainGlobals "law" = some (some (.ref f24))) (l24 : K.lookup f24 = some ⟨oc24, od24, .func (PySem.W.fnOf "law" "law" (defArgs s_law) (defBody s_law) (defScope s_law) .none kV24 dc24 pm24 an24 cd24 ct24), sl24⟩) (c24 : PySem.W.codeIn K cd24 "law" = true) (k24 : PySem.W.keepIn K (.ref f24) = true)
    (i0 : PySem.W.nsIn K mainGlobals "MOST_REPEATS" = some (some (.int 4 it0)))
    (i1 : PySem.W.nsIn K mainGlobals "MOST_WIDTH" = some (some (.int 10 it1)))
    (i2 : PySem.W.nsIn K mainGlobals "MOST_TUPLES" = some (some (.int 20 it2)))
    (t0 : PySem.W.nsIn K mainGlobals "LISTED" = some (some (.ref ta0))) (u0 : K.lookup ta0 = some ⟨.type "tuple", to0, .seq #[.str "row" tt0_0, .str "any" tt0_1, .str "all" tt0_2] tn0, tl0⟩)
    (z0 : PySem.W.nsIn K mainGlobals "isinstance" = some none)
    (z1 : PySem.W.nsIn K mainGlobals "int" = some none)
    (z2 : PySem.W.nsIn K mainGlobals "bool" = some none)
    (z3 : PySem.W.nsIn K mainGlobals "str" = some none)
    (z4 : PySem.W.nsIn K mainGlobals "tuple" = some none)
    (z5 : PySem.W.nsIn K mainGlobals "len" = some none)
    (z6 : PySem.W.nsIn K mainGlobals "all" = some none)
    (z7 : PySem.W.nsIn K mainGlobals "sum" = some none)
    (z8 : PySem.W.nsIn K mainGlobals "max" = some none)
    (z9 : PySem.W.nsIn K mainGlobals "min" = some none)
    (z10 : PySem.W.nsIn K mainGlobals "range" = some none)
    (z11 : PySem.W.nsIn K mainGlobals "list" = some none)
    (z12 : PySem.W.nsIn K mainGlobals "sorted" = some none)
    (z13 : PySem.W.nsIn K mainGlobals "set" = some none)
    : ∃ fd : FuncData, (∀ (s : Shared) (v : Value), BindsTo s fd ⟨[v], []⟩ [("_law_script", v)]) ∧ ∀ base : Heap, K.In base → base.Ns mainGlobals mg → FnOk l.prog w K mg base CX0 124 fa fd ["_law_script"] (sp0 K 1 g_law) := by
  have e := hfa.symm.trans (PySem.W.mg_of X G a24)
  cases e
  have F0 := fun_mk (st := s_is_integer) l0 c0 k0
  have A_is_integer : At K mg "is_integer" ["value"] s_is_integer _ _ := ⟨F0, PySem.W.mg_of X G a0, F0.binds (ps := ["value"]) fun _ _ _ _ _ _ us hl => match us, hl with | [_], _ => rfl⟩
  have F1 := fun_mk (st := s_is_set) l1 c1 k1
  have A_is_set : At K mg "is_set" ["alphabet", "parts"] s_is_set _ _ := ⟨F1, PySem.W.mg_of X G a1, F1.binds (ps := ["alphabet", "parts"]) fun _ _ _ _ _ _ us hl => match us, hl with | [_, _], _ => rfl⟩
  have F2 := fun_mk (st := s_is_again) l2 c2 k2
  have A_is_again : At K mg "is_again" ["alphabet", "parts"] s_is_again _ _ := ⟨F2, PySem.W.mg_of X G a2, F2.binds (ps := ["alphabet", "parts"]) fun _ _ _ _ _ _ us hl => match us, hl with | [_, _], _ => rfl⟩
  have F3 := fun_mk (st := s_is_expression) l3 c3 k3
  have A_is_expression : At K mg "is_expression" ["alphabet", "value"] s_is_expression _ _ := ⟨F3, PySem.W.mg_of X G a3, F3.binds (ps := ["alphabet", "value"]) fun _ _ _ _ _ _ us hl => match us, hl with | [_, _], _ => rfl⟩
  have F4 := fun_mk (st := s_parts_of) l4 c4 k4
  have A_parts_of : At K mg "parts_of" ["expression"] s_parts_of _ _ := ⟨F4, PySem.W.mg_of X G a4, F4.binds (ps := ["expression"]) fun _ _ _ _ _ _ us hl => match us, hl with | [_], _ => rfl⟩
  have F5 := fun_mk (st := s_count_tuples) l5 c5 k5
  have A_count_tuples : At K mg "count_tuples" ["expression"] s_count_tuples _ _ := ⟨F5, PySem.W.mg_of X G a5, F5.binds (ps := ["expression"]) fun _ _ _ _ _ _ us hl => match us, hl with | [_], _ => rfl⟩
  have F6 := fun_mk (st := s_width) l6 c6 k6
  have A_width : At K mg "width" ["expression"] s_width _ _ := ⟨F6, PySem.W.mg_of X G a6, F6.binds (ps := ["expression"]) fun _ _ _ _ _ _ us hl => match us, hl with | [_], _ => rfl⟩
  have F7 := fun_mk (st := s_is_plain) l7 c7 k7
  have A_is_plain : At K mg "is_plain" ["expression"] s_is_plain _ _ := ⟨F7, PySem.W.mg_of X G a7, F7.binds (ps := ["expression"]) fun _ _ _ _ _ _ us hl => match us, hl with | [_], _ => rfl⟩
  have F8 := fun_mk (st := s_has_plain_repeats) l8 c8 k8
  have A_has_plain_repeats : At K mg "has_plain_repeats" ["expression"] s_has_plain_repeats _ _ := ⟨F8, PySem.W.mg_of X G a8, F8.binds (ps := ["expression"]) fun _ _ _ _ _ _ us hl => match us, hl with | [_], _ => rfl⟩
  have F9 := fun_mk (st := s_is_pattern) l9 c9 k9
  have A_is_pattern : At K mg "is_pattern" ["alphabet", "value"] s_is_pattern _ _ := ⟨F9, PySem.W.mg_of X G a9, F9.binds (ps := ["alphabet", "value"]) fun _ _ _ _ _ _ us hl => match us, hl with | [_, _], _ => rfl⟩
  have F10 := fun_mk (st := s_l_source) l10 c10 k10
  have A_l_source : At K mg "_law_source" ["_law_script", "_law_k"] s_l_source _ _ := ⟨F10, PySem.W.mg_of X G a10, F10.binds (ps := ["_law_script", "_law_k"]) fun _ _ _ _ _ _ us hl => match us, hl with | [_, _], _ => rfl⟩
  have F11 := fun_mk (st := s_l_draw) l11 c11 k11
  have A_l_draw : At K mg "_law_draw" ["_law_source_here", "_law_many"] s_l_draw _ _ := ⟨F11, PySem.W.mg_of X G a11, F11.binds (ps := ["_law_source_here", "_law_many"]) fun _ _ _ _ _ _ us hl => match us, hl with | [_, _], _ => rfl⟩
  have F12 := fun_mk (st := s_l_alphabet) l12 c12 k12
  have A_l_alphabet : At K mg "_law_alphabet" ["_law_source_here", "_law_many"] s_l_alphabet _ _ := ⟨F12, PySem.W.mg_of X G a12, F12.binds (ps := ["_law_source_here", "_law_many"]) fun _ _ _ _ _ _ us hl => match us, hl with | [_, _], _ => rfl⟩
  have F13 := fun_mk (st := s_l_set) l13 c13 k13
  have A_l_set : At K mg "_law_set" ["_law_source_here", "_law_alphabet_here"] s_l_set _ _ := ⟨F13, PySem.W.mg_of X G a13, F13.binds (ps := ["_law_source_here", "_law_alphabet_here"]) fun _ _ _ _ _ _ us hl => match us, hl with | [_, _], _ => rfl⟩
  have F14 := fun_mk (st := s_l_row) l14 c14 k14
  have A_l_row : At K mg "_law_row" ["_law_source_here", "_law_alphabet_here", "_law_many"] s_l_row _ _ := ⟨F14, PySem.W.mg_of X G a14, F14.binds (ps := ["_law_source_here", "_law_alphabet_here", "_law_many"]) fun _ _ _ _ _ _ us hl => match us, hl with | [_, _, _], _ => rfl⟩
  have F15 := fun_mk (st := s_l_plain) l15 c15 k15
  have A_l_plain : At K mg "_law_plain" ["_law_source_here", "_law_alphabet_here", "_law_room"] s_l_plain _ _ := ⟨F15, PySem.W.mg_of X G a15, F15.binds (ps := ["_law_source_here", "_law_alphabet_here", "_law_room"]) fun _ _ _ _ _ _ us hl => match us, hl with | [_, _, _], _ => rfl⟩
  have F16 := fun_mk (st := s_l_pattern) l16 c16 k16
  have A_l_pattern : At K mg "_law_pattern" ["_law_source_here", "_law_alphabet_here", "_law_room"] s_l_pattern _ _ := ⟨F16, PySem.W.mg_of X G a16, F16.binds (ps := ["_law_source_here", "_law_alphabet_here", "_law_room"]) fun _ _ _ _ _ _ us hl => match us, hl with | [_, _, _], _ => rfl⟩
  have F17 := fun_mk (st := s_l_nested) l17 c17 k17
  have A_l_nested : At K mg "_law_nested" ["_law_source_here", "_law_alphabet_here", "_law_depth"] s_l_nested _ _ := ⟨F17, PySem.W.mg_of X G a17, F17.binds (ps := ["_law_source_here", "_law_alphabet_here", "_law_depth"]) fun _ _ _ _ _ _ us hl => match us, hl with | [_, _, _], _ => rfl⟩
  have F18 := fun_mk (st := s_l_other) l18 c18 k18
  have A_l_other : At K mg "_law_other" ["_law_source_here", "_law_alphabet_here"] s_l_other _ _ := ⟨F18, PySem.W.mg_of X G a18, F18.binds (ps := ["_law_source_here", "_law_alphabet_here"]) fun _ _ _ _ _ _ us hl => match us, hl with | [_, _], _ => rfl⟩
  have F19 := fun_mk (st := s_l_changed) l19 c19 k19
  have A_l_changed : At K mg "_law_changed" ["_law_source_here", "_law_alphabet_here", "_law_value"] s_l_changed _ _ := ⟨F19, PySem.W.mg_of X G a19, F19.binds (ps := ["_law_source_here", "_law_alphabet_here", "_law_value"]) fun _ _ _ _ _ _ us hl => match us, hl with | [_, _, _], _ => rfl⟩
  have F20 := fun_mk (st := s_l_is_number) l20 c20 k20
  have A_l_is_number : At K mg "_law_is_number" ["_law_value", "_law_low"] s_l_is_number _ _ := ⟨F20, PySem.W.mg_of X G a20, F20.binds (ps := ["_law_value", "_law_low"]) fun _ _ _ _ _ _ us hl => match us, hl with | [_, _], _ => rfl⟩
  have F21 := fun_mk (st := s_l_fits) l21 c21 k21
  have A_l_fits : At K mg "_law_fits" ["_law_alphabet_here", "_law_value"] s_l_fits _ _ := ⟨F21, PySem.W.mg_of X G a21, F21.binds (ps := ["_law_alphabet_here", "_law_value"]) fun _ _ _ _ _ _ us hl => match us, hl with | [_, _], _ => rfl⟩
  have F22 := fun_mk (st := s_l_measures) l22 c22 k22
  have A_l_measures : At K mg "_law_measures" ["_law_value"] s_l_measures _ _ := ⟨F22, PySem.W.mg_of X G a22, F22.binds (ps := ["_law_value"]) fun _ _ _ _ _ _ us hl => match us, hl with | [_], _ => rfl⟩
  have F23 := fun_mk (st := s_l_due) l23 c23 k23
  have A_l_due : At K mg "_law_due" ["_law_alphabet_here", "_law_value"] s_l_due _ _ := ⟨F23, PySem.W.mg_of X G a23, F23.binds (ps := ["_law_alphabet_here", "_law_value"]) fun _ _ _ _ _ _ us hl => match us, hl with | [_, _], _ => rfl⟩
  have F24 := fun_mk (st := s_law) l24 c24 k24
  have A_law : At K mg "law" ["_law_script"] s_law _ _ := ⟨F24, PySem.W.mg_of X G a24, F24.binds (ps := ["_law_script"]) fun _ _ _ _ _ _ us hl => match us, hl with | [_], _ => rfl⟩
  have c_MOST_REPEATS := gc_int X G i0
  have c_MOST_WIDTH := gc_int X G i1
  have c_MOST_TUPLES := gc_int X G i2
  have c_LISTED := gc_LISTED X G t0 u0
  have m_isinstance := PySem.W.mg_none_of X G z0
  have m_int := PySem.W.mg_none_of X G z1
  have m_bool := PySem.W.mg_none_of X G z2
  have m_str := PySem.W.mg_none_of X G z3
  have m_tuple := PySem.W.mg_none_of X G z4
  have m_len := PySem.W.mg_none_of X G z5
  have m_all := PySem.W.mg_none_of X G z6
  have m_sum := PySem.W.mg_none_of X G z7
  have m_max := PySem.W.mg_none_of X G z8
  have m_min := PySem.W.mg_none_of X G z9
  have m_range := PySem.W.mg_none_of X G z10
  have m_list := PySem.W.mg_none_of X G z11
  have m_sorted := PySem.W.mg_none_of X G z12
  have m_set := PySem.W.mg_none_of X G z13
  refine ⟨PySem.W.fnOf "law" "law" (defArgs s_law) (defBody s_law) (defScope s_law) .none kV24 dc24 pm24 an24 cd24 ct24, fun s v => .of_eq rfl, fun base _ _ => ?_⟩
  have o1 := ok_is_integer (P := l.prog) (w := w) (base := base) A_is_integer m_isinstance m_int m_bool
  have o2 := ok_is_set (P := l.prog) (w := w) (base := base) A_is_set m_isinstance m_str m_len
  have o3 := ok_is_expression (P := l.prog) (w := w) (base := base) A_is_expression A_is_again m_len m_isinstance m_tuple m_str m_all c_LISTED c_MOST_REPEATS o2 o1 60
  have o4 := ok_parts_of (P := l.prog) (w := w) (base := base) A_parts_of
  have o5 := ok_count (P := l.prog) (w := w) (base := base) A_count_tuples m_sum o4 60
  have o6 := ok_width (P := l.prog) (w := w) (base := base) A_width m_sum m_max o4 60
  have o7 := ok_is_plain (P := l.prog) (w := w) (base := base) A_is_plain m_all o4 60
  have o8 := ok_hasP (P := l.prog) (w := w) (base := base) A_has_plain_repeats m_all o4 o7 60 (Nat.le_refl _)
  have o9 := ok_is_pattern (P := l.prog) (w := w) (base := base) A_is_pattern o3 o8 o5 o6 c_MOST_TUPLES c_MOST_WIDTH
  have p1 := ok_source (P := l.prog) (w := w) (base := base) A_l_source m_len
  have p2 := ok_draw (P := l.prog) (w := w) (base := base) A_l_draw
  have p3 := ok_alphabet (P := l.prog) (w := w) (base := base) A_l_alphabet m_len m_list m_range p2
  have p4 := ok_set (P := l.prog) (w := w) (base := base) A_l_set m_len m_range p2
  have p5 := ok_row (P := l.prog) (w := w) (base := base) A_l_row m_tuple m_range p4
  have p6 := ok_plain (P := l.prog) (w := w) (base := base) A_l_plain m_min m_int p2 p4 p5
  have p7 := ok_pattern (P := l.prog) (w := w) (base := base) A_l_pattern p2 p6
  have p8 := ok_nested (P := l.prog) (w := w) (base := base) A_l_nested m_range m_tuple p2 p4 5
  have p9 := ok_other (P := l.prog) (w := w) (base := base) A_l_other p2
  have p10 := ok_changed (P := l.prog) (w := w) (base := base) A_l_changed m_isinstance m_tuple m_list m_len m_range p2 p9 30
  have p11 := ok_is_number (P := l.prog) (w := w) (base := base) A_l_is_number m_isinstance m_int m_bool
  have p12 := ok_fits (P := l.prog) (w := w) (base := base) A_l_fits m_isinstance m_tuple m_str m_len m_all m_sorted m_set p11 60
  have p13 := ok_measures (P := l.prog) (w := w) (base := base) A_l_measures m_isinstance m_tuple m_sum m_max m_all 60
  have p14 := ok_due (P := l.prog) (w := w) (base := base) A_l_due p12 p13
  exact ok_law A_law m_range m_isinstance m_bool p2 p1 p3 p7 p8 p10 p14 o9
theorem walk {l : PySem.W.OpenLaw} {q : Program} {loose : List Str} {XP : (Str → Option Value) → Heap → Prop} {YP : World → Heap → Prop} {d : DefRec} {K : Params → PySem.W.Frag} (hn : l.most = some 63) (hdf : d.params.defaults = [])
    (hY : ∀ (w : World) (h : Heap), YP w h → (K w.params).In h)
    (F : ∀ (w : World) (mg : Str → Option Value) (fa : Addr) (h : Heap), (K w.params).In h → h.Ns mainGlobals mg → mg d.name = some (.ref fa) →
      ∃ fd : FuncData, (∀ (s : Shared) (u : Value), BindsTo s fd ⟨[u], []⟩ [("_law_script", u)]) ∧ ∀ base : Heap, (K w.params).In base → base.Ns mainGlobals mg → FnOk l.prog w (K w.params) mg base CX0 124 fa fd ["_law_script"] (sp0 (K w.params) 1 g_law)) :
    PySem.W.WalkO q loose XP YP l.row.toRowW d [] (fun f vs => PySem.call f vs) :=
  L2.walk_of (n := 63) (k := 124) (x := "_law_script") (CX := fun _ => CX0) (sp := fun w => sp0 (K w.params) 1 g_law) hn (by decide) hdf ⟨rfl, by decide, by decide⟩ hY F
    (fun w H a ns hl _ hS => ⟨H, [.scr ns], fun r => r = .fz (.bl true), fun _ _ h => h, .cons (.scr hS) .nil, rfl, ⟨ns, rfl, rfl⟩, fun v H' Hf' r _ ok e => by subst e; exact Rep.bl_inv ok⟩) fun _ _ _ _ _ z => z
end Cut
open PySem PySem.W PyProof.Rows
set_option maxRecDepth 100000 in
set_option maxHeartbeats 0 in
theorem PySem.Challenge.cw_cutscribe_k01_patterns_looked_at_holds : PySem.Challenge.rw_cutscribe_k01_patterns_looked_at.Holds := by
  w_on; o_law; k_head; (case hw => w_witness2)
  k_fill
  refine Cut.walk (l := PySem.Challenge.rw_cutscribe_k01_patterns_looked_at) rfl rfl (fun w h Y => PySem.W.kIn_of Y) ?F
  case F =>
    intro w mg fa h KX G hmg0
    have hmg : mg "law" = some (.ref fa) := hmg0
    clear hmg0
    refine' Cut.all_mk KX G hmg ?a0 ?l0 ?c0 ?k0 ?a1 ?l1 ?c1 ?k1 ?a2 ?l2 ?c2 ?k2 ?a3 ?l3 ?c3 ?k3 ?a4 ?l4 ?c4 ?k4 ?a5 ?l5 ?c5 ?k5 ?a6 ?l6 ?c6 ?k6 ?a7 ?l7 ?c7 ?k7 ?a8 ?l8 ?c8 ?k8 ?a9 ?l9 ?c9 ?k9 ?a10 ?l10 ?c10 ?k10 ?a11 ?l11 ?c11 ?k11 ?a12 ?l12 ?c12 ?k12 ?a13 ?l13 ?c13 ?k13 ?a14 ?l14 ?c14 ?k14 ?a15 ?l15 ?c15 ?k15 ?a16 ?l16 ?c16 ?k16 ?a17 ?l17 ?c17 ?k17 ?a18 ?l18 ?c18 ?k18 ?a19 ?l19 ?c19 ?k19 ?a20 ?l20 ?c20 ?k20 ?a21 ?l21 ?c21 ?k21 ?a22 ?l22 ?c22 ?k22 ?a23 ?l23 ?c23 ?k23 ?a24 ?l24 ?c24 ?k24 ?i0 ?i1 ?i2 ?t0 ?u0 ?z0 ?z1 ?z2 ?z3 ?z4 ?z5 ?z6 ?z7 ?z8 ?z9 ?z10 ?z11 ?z12 ?z13
    (case a0 => k_is)
    (case l0 => k_is)
    (case c0 => k_is)
    (case k0 => k_is)
    (case a1 => k_is)
    (case l1 => k_is)
    (case c1 => k_is)
    (case k1 => k_is)
    (case a2 => k_is)
    (case l2 => k_is)
    (case c2 => k_is)
    (case k2 => k_is)
    (case a3 => k_is)
    (case l3 => k_is)
    (case c3 => k_is)
    (case k3 => k_is)
    (case a4 => k_is)
    (case l4 => k_is)
    (case c4 => k_is)
    (case k4 => k_is)
    (case a5 => k_is)
    (case l5 => k_is)
    (case c5 => k_is)
    (case k5 => k_is)
    (case a6 => k_is)
    (case l6 => k_is)
    (case c6 => k_is)
    (case k6 => k_is)
    (case a7 => k_is)
    (case l7 => k_is)
    (case c7 => k_is)
    (case k7 => k_is)
    (case a8 => k_is)
    (case l8 => k_is)
    (case c8 => k_is)
    (case k8 => k_is)
    (case a9 => k_is)
    (case l9 => k_is)
    (case c9 => k_is)
    (case k9 => k_is)
    (case a10 => k_is)
    (case l10 => k_is)
    (case c10 => k_is)
    (case k10 => k_is)
    (case a11 => k_is)
    (case l11 => k_is)
    (case c11 => k_is)
    (case k11 => k_is)
    (case a12 => k_is)
    (case l12 => k_is)
    (case c12 => k_is)
    (case k12 => k_is)
    (case a13 => k_is)
    (case l13 => k_is)
    (case c13 => k_is)
    (case k13 => k_is)
    (case a14 => k_is)
    (case l14 => k_is)
    (case c14 => k_is)
    (case k14 => k_is)
    (case a15 => k_is)
    (case l15 => k_is)
    (case c15 => k_is)
    (case k15 => k_is)
    (case a16 => k_is)
    (case l16 => k_is)
    (case c16 => k_is)
    (case k16 => k_is)
    (case a17 => k_is)
    (case l17 => k_is)
    (case c17 => k_is)
    (case k17 => k_is)
    (case a18 => k_is)
    (case l18 => k_is)
    (case c18 => k_is)
    (case k18 => k_is)
    (case a19 => k_is)
    (case l19 => k_is)
    (case c19 => k_is)
    (case k19 => k_is)
    (case a20 => k_is)
    (case l20 => k_is)
    (case c20 => k_is)
    (case k20 => k_is)
    (case a21 => k_is)
    (case l21 => k_is)
    (case c21 => k_is)
    (case k21 => k_is)
    (case a22 => k_is)
    (case l22 => k_is)
    (case c22 => k_is)
    (case k22 => k_is)
    (case a23 => k_is)
    (case l23 => k_is)
    (case c23 => k_is)
    (case k23 => k_is)
    (case a24 => k_is)
    (case l24 => k_is)
    (case c24 => k_is)
    (case k24 => k_is)
    (case i0 => k_is)
    (case i1 => k_is)
    (case i2 => k_is)
    (case t0 => k_is)
    (case u0 => k_is)
    (case z0 => k_is)
    (case z1 => k_is)
    (case z2 => k_is)
    (case z3 => k_is)
    (case z4 => k_is)
    (case z5 => k_is)
    (case z6 => k_is)
    (case z7 => k_is)
    (case z8 => k_is)
    (case z9 => k_is)
    (case z10 => k_is)
    (case z11 => k_is)
    (case z12 => k_is)
    (case z13 => k_is)
