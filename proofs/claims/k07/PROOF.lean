import PyProof.Rows.All
import Wide.All
import OpenK.AllK
import Wide.FinOn
import KE.KUnpackStar
import HandS.ForMost
import HandS.IsInst
import HandS.Zip
import HandS.Conv
import HandS.Strs
import HandS.TupMul
import HandS.TupAny
import HandS.SetFor
import PyProof.ListStr
import HandS.NoneIn
import HandS.Words
import HandS.WordsExc
import HandS.Defaults
import HandS.Dict
import KE.KDictKeyed
import KE.KDictCopyH
import HandS.SetKeys
import HandS.TupLen
import PyProof.Rows.TupDisplay
import HandS.Exc
import HandS.ExcInit
import HandS.CallSlots
import HandS.Replace
import HandS.ExcField
import HandS.ExcIs
import HandS.TupLe
import KE.KIsAll
import HandS.More
import HandS.SortInts
import HandS.DictComp
import KE.GoesEnum
import HandS.WordsDict
import HandS.Deep
import HandS.Iter
import HandS.TryOnly
import HandS.Flow
import HandS.OwnEq
import HandS.HeadHook1
import HandS.HeadHook2
import HandS.Head0
import HandS.Head1
import HandS.Head2
import HandS.HeadEnd
import HandS.Style
import HandS.List
import PyProof.SumWalkG
import PySem.Challenge.RW_cutscribe_k07_automata_at_the_limit
set_option Elab.async false
set_option linter.all false
set_option maxRecDepth 100000
set_option maxHeartbeats 1000000
namespace DL
open PySem L2
inductive D where
  | non | bl (b : Bool) | int (i : Int) | str (x : Str) | tup (xs : List D) | lst (xs : List D) | obj (C : Addr) (fs : List (Str × D)) | ty (n : String) | raw (v : V) | scr (ns : List Int)
  deriving Inhabited
abbrev Fg := PySem.W.Frag
mutual
inductive Rep (K : Fg) (H : Hp) : V → D → Prop
  | non : Rep K H .non .non
  | bl (b : Bool) : Rep K H (.bl b) (.bl b)
  | int (i : Int) : Rep K H (.int i) (.int i)
  | str (x : Str) : Rep K H (.str x) (.str x)
  | ty (n : String) : Rep K H (.ty n) (.ty n)
  | raw (v : V) : Rep K H v (.raw v)
  | scr {a : Addr} {ns : List Int} : SqL K H a (ns.map V.int) → Rep K H (.ref a) (.scr ns)
  | tup {a : Addr} {xs : List V} {ds : List D} : SqT K H a xs → RepL K H xs ds → Rep K H (.ref a) (.tup ds)
  | lst {a : Addr} {xs : List V} {ds : List D} : H a = some (.lst xs) → RepL K H xs ds → Rep K H (.ref a) (.lst ds)
  | obj {a C dx : Addr} {fs : List (Str × V)} {gs : List (Str × D)} : H a = some (.ins C dx fs) → RepF K H fs gs → Rep K H (.ref a) (.obj C gs)
inductive RepL (K : Fg) (H : Hp) : List V → List D → Prop
  | nil : RepL K H [] []
  | cons {v : V} {vs : List V} {d : D} {ds : List D} : Rep K H v d → RepL K H vs ds → RepL K H (v :: vs) (d :: ds)
inductive RepF (K : Fg) (H : Hp) : List (Str × V) → List (Str × D) → Prop
  | nil : RepF K H [] []
  | cons {f : Str} {v : V} {vs : List (Str × V)} {d : D} {ds : List (Str × D)} : Rep K H v d → RepF K H vs ds → RepF K H ((f, v) :: vs) ((f, d) :: ds)
end
section
variable {K : Fg} {H H' : Hp}
theorem rd_same (e : ∀ b o, H b = some o → H' b = some o) {a : Addr} {u : HO} (h : Rd H a u) : Rd H' a u := by
  rcases h with h | ⟨o, h⟩
  · exact .inl (e _ _ h)
  · exact .inr ⟨o, e _ _ h⟩
theorem sqL_same (e : ∀ b o, H b = some o → H' b = some o) {a : Addr} {xs : List V} (h : SqL K H a xs) : SqL K H' a xs := by
  rcases h with h | h
  · exact .inl (rd_same e h)
  · exact .inr h
theorem sqT_same (e : ∀ b o, H b = some o → H' b = some o) {a : Addr} {xs : List V} (h : SqT K H a xs) : SqT K H' a xs := by
  rcases h with h | h
  · exact .inl (rd_same e h)
  · exact .inr h
mutual
theorem Rep.mono (e : ∀ b o, H b = some o → H' b = some o) : ∀ {d : D} {v : V}, Rep K H v d → Rep K H' v d
  | _, _, .non => .non
  | _, _, .bl b => .bl b
  | _, _, .int i => .int i
  | _, _, .str x => .str x
  | _, _, .ty n => .ty n
  | _, _, .raw v => .raw v
  | _, _, .scr h => .scr (sqL_same e h)
  | _, _, .tup h r => .tup (sqT_same e h) (RepL.mono e r)
  | _, _, .lst h r => .lst (e _ _ h) (RepL.mono e r)
  | _, _, .obj h r => .obj (e _ _ h) (RepF.mono e r)
theorem RepL.mono (e : ∀ b o, H b = some o → H' b = some o) : ∀ {ds : List D} {vs : List V}, RepL K H vs ds → RepL K H' vs ds
  | _, _, .nil => .nil
  | _, _, .cons h r => .cons (Rep.mono e h) (RepL.mono e r)
theorem RepF.mono (e : ∀ b o, H b = some o → H' b = some o) : ∀ {ds : List (Str × D)} {vs : List (Str × V)}, RepF K H vs ds → RepF K H' vs ds
  | _, _, .nil => .nil
  | _, _, .cons h r => .cons (Rep.mono e h) (RepF.mono e r)
end
theorem RepL.length : ∀ {vs : List V} {ds : List D}, RepL K H vs ds → vs.length = ds.length
  | _, _, .nil => rfl
  | _, _, .cons _ r => congrArg (· + 1) r.length
theorem RepL.append : ∀ {vs ws : List V} {ds es : List D}, RepL K H vs ds → RepL K H ws es → RepL K H (vs ++ ws) (ds ++ es)
  | _, _, _, _, .nil, s => s
  | _, _, _, _, .cons h r, s => .cons h (RepL.append r s)
theorem RepL.get : ∀ {vs : List V} {ds : List D} {i : Nat} {d : D}, RepL K H vs ds → ds[i]? = some d → ∃ v, vs[i]? = some v ∧ Rep K H v d
  | _, _, _, _, .nil, e => by simp at e
  | _, _, 0, _, .cons h _, e => by simp at e; subst e; exact ⟨_, rfl, h⟩
  | _, _, i + 1, d, .cons _ r, e => by
    obtain ⟨v, h1, h2⟩ := RepL.get (i := i) (d := d) r (by simpa using e)
    exact ⟨v, by simpa using h1, h2⟩
theorem RepL.take : ∀ {vs : List V} {ds : List D} (n : Nat), RepL K H vs ds → RepL K H (vs.take n) (ds.take n)
  | _, _, 0, _ => .nil
  | _, _, _ + 1, .nil => .nil
  | _, _, n + 1, .cons h r => .cons h (RepL.take n r)
theorem RepL.drop : ∀ {vs : List V} {ds : List D} (n : Nat), RepL K H vs ds → RepL K H (vs.drop n) (ds.drop n)
  | _, _, 0, r => r
  | _, _, _ + 1, .nil => .nil
  | _, _, n + 1, .cons _ r => RepL.drop n r
theorem RepL.set {v : V} {d : D} (h : Rep K H v d) : ∀ {vs : List V} {ds : List D} (i : Nat), RepL K H vs ds → RepL K H (vs.set i v) (ds.set i d)
  | _, _, _, .nil => .nil
  | _, _, 0, .cons _ r => .cons h r
  | _, _, i + 1, .cons q r => .cons q (RepL.set h i r)
theorem RepL.eraseIdx : ∀ {vs : List V} {ds : List D} (i : Nat), RepL K H vs ds → RepL K H (vs.eraseIdx i) (ds.eraseIdx i)
  | _, _, _, .nil => .nil
  | _, _, 0, .cons _ r => r
  | _, _, i + 1, .cons q r => .cons q (RepL.eraseIdx i r)
theorem RepL.dropLast : ∀ {vs : List V} {ds : List D}, RepL K H vs ds → RepL K H vs.dropLast ds.dropLast
  | _, _, .nil => .nil
  | _, _, .cons _ .nil => .nil
  | _, _, .cons h (.cons h2 r) => .cons h (RepL.dropLast (.cons h2 r))
theorem RepL.split : ∀ {ds es : List D} {vs : List V}, RepL K H vs (ds ++ es) → ∃ us ws, vs = us ++ ws ∧ RepL K H us ds ∧ RepL K H ws es
  | [], _, vs, r => ⟨[], vs, rfl, .nil, r⟩
  | _ :: _, _, _, .cons h r => by
    obtain ⟨us, ws, e, r1, r2⟩ := RepL.split r
    exact ⟨_ :: us, ws, by rw [e]; rfl, .cons h r1, r2⟩
theorem RepL.replicate {v : V} {d : D} (h : Rep K H v d) : ∀ n, RepL K H (List.replicate n v) (List.replicate n d)
  | 0 => .nil
  | n + 1 => .cons h (RepL.replicate h n)
end
inductive Sl where
  | fz (d : D) | ow (pin : Bool) (xs : List D)
abbrev Ev := List (Option Sl)
inductive Res where
  | fz (d : D) | fr (xs : List D)
def Res.dat : Res → D
  | .fz d => d
  | .fr xs => .lst xs
@[simp] theorem dat_fz (d : D) : (Res.fz d).dat = d := rfl
@[simp] theorem dat_fr (xs : List D) : (Res.fr xs).dat = .lst xs := rfl
def SlOk (K : Fg) (H Hf : Hp) (ov : Option (Option V)) : Sl → Prop
  | .fz d => ∃ v, ov = some (some v) ∧ Rep K Hf v d
  | .ow _ xs => ∃ a ys, ov = some (some (.ref a)) ∧ H a = some (.lst ys) ∧ Hf a = none ∧ RepL K Hf ys xs
def Own (σ : St) (ρ : Ev) (a : Addr) : Prop := ∃ (i : Nat) (p : Bool) (xs : List D), ρ[i]? = some (some (.ow p xs)) ∧ σ[i]? = some (some (.ref a))
structure DEnv (K : Fg) (H Hf : Hp) (σ : St) (ρ : Ev) : Prop where
  sub : ∀ b o, Hf b = some o → H b = some o
  sl : ∀ (i : Nat) (s : Sl), ρ[i]? = some (some s) → SlOk K H Hf σ[i]? s
  sep : ∀ (i j : Nat) (a : Addr) (p : Bool) (xs : List D) (q : Bool) (ys : List D), ρ[i]? = some (some (.ow p xs)) → ρ[j]? = some (some (.ow q ys)) → σ[i]? = some (some (.ref a)) → σ[j]? = some (some (.ref a)) → i = j
  len : σ.length = ρ.length
structure Mv (σ : St) (ρ ρ' : Ev) (H H' Hf Hf' : Hp) : Prop where
  keep : ∀ b o, H b = some o → ¬ Own σ ρ b → H' b = some o
  live : ∀ b, H' b = none → H b = none
  grow : ∀ b o, Hf b = some o → Hf' b = some o
  new : ∀ b o, Hf' b = some o → Hf b = some o ∨ H b = none ∨ Own σ ρ b
  own : ∀ (i : Nat) (p : Bool) (xs : List D), ρ'[i]? = some (some (.ow p xs)) → ∃ ys, ρ[i]? = some (some (.ow p ys))
  pin : ∀ (i : Nat) (xs : List D), ρ[i]? = some (some (.ow true xs)) → ∃ ys, ρ'[i]? = some (some (.ow true ys))
def ResOk (K : Fg) (H H' Hf' : Hp) (v : V) : Res → Prop
  | .fz d => Rep K Hf' v d
  | .fr xs => ∃ a ys, v = .ref a ∧ H' a = some (.lst ys) ∧ Hf' a = none ∧ H a = none ∧ RepL K Hf' ys xs
section
variable {K : Fg} {σ : St} {ρ ρ1 ρ2 : Ev} {H H1 H2 Hf Hf1 Hf2 : Hp}
theorem Mv.refl (σ : St) (ρ : Ev) (H Hf : Hp) : Mv σ ρ ρ H H Hf Hf := ⟨fun _ _ h _ => h, fun _ h => h, fun _ _ h => h, fun _ _ h => .inl h, fun _ _ xs h => ⟨xs, h⟩, fun _ xs h => ⟨xs, h⟩⟩
theorem Mv.ow (m : Mv σ ρ ρ1 H H1 Hf Hf1) {a : Addr} (h : Own σ ρ1 a) : Own σ ρ a := by
  obtain ⟨i, p, xs, h1, h2⟩ := h
  obtain ⟨ys, h3⟩ := m.own i p xs h1
  exact ⟨i, p, ys, h3, h2⟩
theorem Mv.trans (m : Mv σ ρ ρ1 H H1 Hf Hf1) (n : Mv σ ρ1 ρ2 H1 H2 Hf1 Hf2) : Mv σ ρ ρ2 H H2 Hf Hf2 where
  keep := fun b o h ho => n.keep b o (m.keep b o h ho) fun z => ho (m.ow z)
  live := fun b h => m.live b (n.live b h)
  grow := fun b o h => n.grow b o (m.grow b o h)
  new := fun b o h => by
    rcases n.new b o h with h | h | h
    · exact m.new b o h
    · exact .inr (.inl (m.live b h))
    · exact .inr (.inr (m.ow h))
  own := fun i p xs h => by
    obtain ⟨ys, h1⟩ := n.own i p xs h
    exact m.own i p ys h1
  pin := fun i xs h => by
    obtain ⟨ys, h1⟩ := m.pin i xs h
    exact n.pin i ys h1
theorem Own.at (e : DEnv K H Hf σ ρ) {a : Addr} (h : Own σ ρ a) : (∃ ys, H a = some (.lst ys)) ∧ Hf a = none := by
  obtain ⟨i, p, xs, h1, h2⟩ := h
  obtain ⟨b, ys, e1, e2, e3, _⟩ := e.sl i _ h1
  rw [h2] at e1
  cases e1
  exact ⟨⟨ys, e2⟩, e3⟩
theorem not_own (e : DEnv K H Hf σ ρ) {a : Addr} (h : H a = none) : ¬ Own σ ρ a := fun z => by
  obtain ⟨⟨ys, q⟩, _⟩ := z.at e
  rw [h] at q
  cases q
structure Ext (H H' Hf Hf' : Hp) : Prop where
  same : ∀ b o, H b = some o → H' b = some o
  sub : ∀ b o, Hf' b = some o → H' b = some o
  grow : ∀ b o, Hf b = some o → Hf' b = some o
  new : ∀ b o, Hf' b = some o → Hf b = some o ∨ H b = none
theorem Ext.refl (h : ∀ b o, Hf b = some o → H b = some o) : Ext H H Hf Hf := ⟨fun _ _ h => h, h, fun _ _ h => h, fun _ _ h => .inl h⟩
theorem Ext.live (x : Ext H H1 Hf Hf1) (b : Addr) (h : H1 b = none) : H b = none := by
  cases q : H b with
  | none => rfl
  | some o =>
    rw [x.same b o q] at h
    cases h
theorem Ext.mv (x : Ext H H1 Hf Hf1) : Mv σ ρ ρ H H1 Hf Hf1 :=
  ⟨fun b o h _ => x.same b o h, x.live, x.grow, fun b o h => (x.new b o h).imp id .inl, fun _ _ xs h => ⟨xs, h⟩, fun _ xs h => ⟨xs, h⟩⟩
theorem Ext.env (x : Ext H H1 Hf Hf1) (e : DEnv K H Hf σ ρ) : DEnv K H1 Hf1 σ ρ where
  sub := x.sub
  sl := fun i s h => by
    have q := e.sl i s h
    cases s with
    | fz d =>
      obtain ⟨v, q1, q2⟩ := q
      exact ⟨v, q1, q2.mono x.grow⟩
    | ow p xs =>
      obtain ⟨a, ys, q1, q2, q3, q4⟩ := q
      refine ⟨a, ys, q1, x.same _ _ q2, ?_, q4.mono x.grow⟩
      cases z : Hf1 a with
      | none => rfl
      | some o =>
        rcases x.new a o z with z | z
        · rw [q3] at z; cases z
        · rw [q2] at z; cases z
  sep := e.sep
  len := e.len
theorem Ext.trans (x : Ext H H1 Hf Hf1) (y : Ext H1 H2 Hf1 Hf2) : Ext H H2 Hf Hf2 :=
  ⟨fun b o h => y.same b o (x.same b o h), y.sub, fun b o h => y.grow b o (x.grow b o h), fun b o h => by
    rcases y.new b o h with h | h
    · exact x.new b o h
    · exact .inr (x.live b h)⟩
theorem Ext.add (h : ∀ b o, Hf b = some o → H b = some o) {a : Addr} (o : HO) (n : H a = none) : Ext H (upd H a o) Hf (upd Hf a o) where
  same := fun b u e => by rw [upd_ne (ne_of_none e n)]; exact e
  sub := fun b u e => by
    by_cases hb : b = a
    · subst hb
      rw [upd_same] at e ⊢
      exact e
    · rw [upd_ne hb] at e ⊢
      exact h b u e
  grow := fun b u e => by rw [upd_ne (ne_of_none (h _ _ e) n)]; exact e
  new := fun b u e => by
    by_cases hb : b = a
    · subst hb
      exact .inr n
    · rw [upd_ne hb] at e
      exact .inl e
theorem Ext.add' (h : ∀ b o, Hf b = some o → H b = some o) {a : Addr} (o : HO) (n : H a = none) : Ext H (upd H a o) Hf Hf where
  same := fun b u e => by rw [upd_ne (ne_of_none e n)]; exact e
  sub := fun b u e => by rw [upd_ne (ne_of_none (h _ _ e) n)]; exact h _ _ e
  grow := fun b u e => e
  new := fun b u e => .inl e
theorem ResOk.freeze {v : V} {r : Res} (e : DEnv K H Hf σ ρ) (e1 : DEnv K H1 Hf1 σ ρ1) (m : Mv σ ρ ρ1 H H1 Hf Hf1) (h : ResOk K H H1 Hf1 v r) :
    ∃ Hf2, DEnv K H1 Hf2 σ ρ1 ∧ Mv σ ρ ρ1 H H1 Hf Hf2 ∧ Rep K Hf2 v r.dat := by
  cases r with
  | fz d => exact ⟨Hf1, e1, m, h⟩
  | fr xs =>
    obtain ⟨a, ys, rfl, h1, h2, h3, h4⟩ := h
    have g : ∀ b o, Hf1 b = some o → upd Hf1 a (.lst ys) b = some o := fun b o q => by rw [upd_ne (ne_of_none q h2)]; exact q
    refine ⟨upd Hf1 a (.lst ys), ⟨fun b o q => ?_, fun i s q => ?_, e1.sep, e1.len⟩, ⟨m.keep, m.live, fun b o q => g b o (m.grow b o q), fun b o q => ?_, m.own, m.pin⟩, .lst upd_same (h4.mono g)⟩
    · by_cases hb : b = a
      · subst hb
        rw [upd_same] at q
        rw [h1]
        exact q
      · rw [upd_ne hb] at q
        exact e1.sub b o q
    · have z := e1.sl i s q
      cases s with
      | fz d =>
        obtain ⟨v, q1, q2⟩ := z
        exact ⟨v, q1, q2.mono g⟩
      | ow p us =>
        obtain ⟨b, zs, q1, q2, q3, q4⟩ := z
        have hb : b ≠ a := fun w => by
          have o1 : Own σ ρ b := m.ow ⟨i, p, us, q, q1⟩
          obtain ⟨⟨_, o2⟩, _⟩ := o1.at e
          rw [w, h3] at o2
          cases o2
        exact ⟨b, zs, q1, q2, by rw [upd_ne hb]; exact q3, q4.mono g⟩
    · by_cases hb : b = a
      · subst hb
        exact .inr (.inl h3)
      · rw [upd_ne hb] at q
        exact m.new b o q
end
abbrev TD := Ev → (Res → Ev → Prop) → Prop
def canE (K : Fg) (τ : TD) : TE := fun σ H Q => ∃ (Hf : Hp) (ρ : Ev) (P : Res → Ev → Prop), DEnv K H Hf σ ρ ∧ τ ρ P ∧
    (∀ v H' Hf' r ρ', DEnv K H' Hf' σ ρ' → Mv σ ρ ρ' H H' Hf Hf' → ResOk K H H' Hf' v r → P r ρ' → Q v H')
structure DE (X : Cx) (e : Expr) (τ : TD) : Prop where
  pe : PE X e (canE X.K τ)
theorem DE.of {X : Cx} {e : Expr} {τ : TD} {t : TE} (h : PE X e t) (k : ∀ (σ : St) (H Hf : Hp) (ρ : Ev) (P : Res → Ev → Prop) (Q : VK), DEnv X.K H Hf σ ρ → τ ρ P →
    (∀ v H' Hf' r ρ', DEnv X.K H' Hf' σ ρ' → Mv σ ρ ρ' H H' Hf Hf' → ResOk X.K H H' Hf' v r → P r ρ' → Q v H') → t σ H Q) : DE X e τ :=
  ⟨⟨fun pins s σ H Q I ⟨Hf, ρ, P, e, q, kk⟩ => h.run pins s σ H Q I (k σ H Hf ρ P Q e q kk)⟩⟩
theorem DE.ex {X : Cx} {e : Expr} {τ : TD} (h : DE X e τ) : ∃ t, PE X e t ∧ ∀ (σ : St) (H Hf : Hp) (ρ : Ev) (P : Res → Ev → Prop) (Q : VK), DEnv X.K H Hf σ ρ → τ ρ P →
    (∀ v H' Hf' r ρ', DEnv X.K H' Hf' σ ρ' → Mv σ ρ ρ' H H' Hf Hf' → ResOk X.K H H' Hf' v r → P r ρ' → Q v H') → t σ H Q :=
  ⟨_, h.pe, fun _ _ Hf ρ P _ e q k => ⟨Hf, ρ, P, e, q, k⟩⟩
theorem DE.fz {X : Cx} {e : Expr} {τ : TD} (h : DE X e τ) : ∃ t, PE X e t ∧ ∀ (σ : St) (H Hf : Hp) (ρ : Ev) (P : D → Ev → Prop) (Q : VK), DEnv X.K H Hf σ ρ → τ ρ (fun r ρ' => P r.dat ρ') →
    (∀ v H' Hf' d ρ', DEnv X.K H' Hf' σ ρ' → Mv σ ρ ρ' H H' Hf Hf' → Rep X.K Hf' v d → P d ρ' → Q v H') → t σ H Q := by
  obtain ⟨t, ht, hs⟩ := h.ex
  refine ⟨t, ht, fun σ H Hf ρ P Q e q k => hs σ H Hf ρ _ Q e q fun v H' Hf' r ρ' e1 m1 r1 p1 => ?_⟩
  obtain ⟨Hf2, e2, m2, r2⟩ := r1.freeze e e1 m1
  exact k v H' Hf2 r.dat ρ' e2 m2 r2 p1
end DL
namespace L2
open PySem PySem.Spec PyProof.Rows
theorem tuple_mul_one (l : Addr) (items : Array Value) (n : Nat) (dd : Option Addr) (sl : Array (Option Value)) (x : Int) (u : Tok) (c0 : (decide (x < -(2 ^ 63)) || decide (x ≥ 2 ^ 63)) = false) (c1 : (items.isEmpty || x == 1) = true) :
    Meets (Builtin.«tuple.__mul__» ⟨[.ref l, .int x u], []⟩) (fun _ R s => s.heap.get? l = some { cls := .type "tuple", dict := dd, data := .seq items n, slots := sl } ∧
      R (.ok (.ret (Value.ref l))) s) :=
  .of_wp fun prog w A R s h => by
    obtain ⟨hp, g, d, tk, os⟩ := s
    obtain ⟨hl, h⟩ := h
    have f1 := AutoSeq1.idx_int
    wp_walk using wpAny_loadPart' hl
    repeat (first
      | (refine wpAny_ite_false (decide_eq_false (by rw [c0]; exact Bool.false_ne_true)) ?_; wp_walk using wpAny_loadPart' hl)
      | (refine wpAny_ite_true (decide_eq_true (by rw [c1])) ?_; wp_walk using wpAny_loadPart' hl))
    exact ⟨_, rfl, h⟩
theorem tuple_mul_none (l : Addr) (items : Array Value) (n : Nat) (dd : Option Addr) (sl : Array (Option Value)) (x : Int) (u : Tok) (c0 : (decide (x < -(2 ^ 63)) || decide (x ≥ 2 ^ 63)) = false) (c1 : (items.isEmpty || x == 1) = false) (c2 : (decide (x ≤ 0) || items.isEmpty) = true) :
    Meets (Builtin.«tuple.__mul__» ⟨[.ref l, .int x u], []⟩) (fun _ R s => s.heap.get? l = some { cls := .type "tuple", dict := dd, data := .seq items n, slots := sl } ∧
      R (.ok (.ret (Value.ref s.heap.objs.size))) { s with heap := s.heap.push { cls := Value.type "tuple", data := Data.seq #[] }, toks := s.toks }) :=
  .of_wp fun prog w A R s h => by
    obtain ⟨hp, g, d, tk, os⟩ := s
    obtain ⟨hl, h⟩ := h
    have f1 := AutoSeq1.idx_int
    wp_walk using wpAny_loadPart' hl
    repeat (first
      | (refine wpAny_ite_false (decide_eq_false (by rw [c0]; exact Bool.false_ne_true)) ?_; wp_walk using wpAny_loadPart' hl)
      | (refine wpAny_ite_false (decide_eq_false (by rw [c1]; exact Bool.false_ne_true)) ?_; wp_walk using wpAny_loadPart' hl)
      | (refine wpAny_ite_true (decide_eq_true (by rw [c2])) ?_; wp_walk using wpAny_loadPart' hl))
    exact ⟨_, rfl, h⟩
def rRepA (K : PySem.W.Frag) : R2 := fun x y H Q => ∃ l k xs, x = .ref l ∧ y = .int k ∧ SqT K H l xs ∧ xs ≠ [] ∧ 0 ≤ k ∧ k ≤ 1000 ∧ xs.length ≤ 1000 ∧
  (k = 1 → Q (.ref l) H) ∧ (k ≠ 1 → ∀ p, H p = none → Q (.ref p) (upd H p (.tup (List.replicate k.toNat xs).flatten)))
section
variable {X : Cx}
theorem op_repA : OpR X (binaryOp .Mult) (rRepA X.K) := by
  intro pins s σ H x y v u Q I rx ry h
  obtain ⟨l, k, xs, rfl, rfl, hT, hne, h0, h2, hz, q1, q2⟩ := h
  by_cases hk : 2 ≤ k
  · exact op_repT pins s σ H _ _ v u Q I rx ry ⟨l, k, xs, rfl, rfl, hT, hne, hk, h2, hz, q2 (by omega)⟩
  cases rx
  obtain ⟨t, rfl⟩ := ry
  obtain ⟨its, r, ⟨⟨cls, dd, data, sl⟩, ho, hc, n, hd⟩, hs⟩ := I.tuple hT
  simp only at hc hd
  subst hc hd
  have hle : its.length = xs.length := r.length.symm
  have hn : its ≠ [] := fun e => hne (by
    rw [e] at hle
    exact List.eq_nil_of_length_eq_zero hle.symm)
  have hi : its.toArray.isEmpty = false := by
    cases its with
    | nil => exact absurd rfl hn
    | cons a b => rfl
  have c0 : (decide (k < -(2 ^ 63)) || decide (k ≥ 2 ^ 63)) = false := by
    rw [decide_eq_false (by omega), decide_eq_false (by omega)] <;> rfl
  by_cases e1 : k = 1
  · have c1 : (its.toArray.isEmpty || k == 1) = true := by
      rw [hi, Bool.false_or]
      exact beq_iff_eq.mpr e1
    refine wpAny_binaryOp_repeat_ref (T := "tuple") (U := "int") (by decide) ⟨_, ho, rfl⟩ (fun s' => typeIs_int s' k t) noFill_tuple_mul F.fills_int_mul F.slot_int_rmul repeat_tuple F.slot_int_index.lookup
      (call_meets F.slot_int_rmul (typeIs_int s k t) F.entry_int_rmul (F.args_int_rmul_2 _ _) (int_rmul_tuple k t l its.toArray n dd sl)
        ⟨ho, rfl, ⟨_, ho, rfl⟩, call_meets F.slot_tuple_mul ⟨_, ho, rfl⟩ F.entry_tuple_mul (F.args_tuple_mul_2 _ _) (tuple_mul_one l its.toArray n dd sl k t c0 c1) ⟨ho, ?_⟩⟩)
    exact ⟨.ref l, H, I, rfl, q1 e1⟩
  · have e0 : k = 0 := by omega
    have c1 : (its.toArray.isEmpty || k == 1) = false := by
      rw [hi, Bool.false_or]
      exact beq_eq_false_iff_ne.mpr e1
    have c2 : (decide (k ≤ 0) || its.toArray.isEmpty) = true := by
      rw [hi, Bool.or_false]
      exact decide_eq_true (by omega)
    refine wpAny_binaryOp_repeat_ref (T := "tuple") (U := "int") (by decide) ⟨_, ho, rfl⟩ (fun s' => typeIs_int s' k t) noFill_tuple_mul F.fills_int_mul F.slot_int_rmul repeat_tuple F.slot_int_index.lookup
      (call_meets F.slot_int_rmul (typeIs_int s k t) F.entry_int_rmul (F.args_int_rmul_2 _ _) (int_rmul_tuple k t l its.toArray n dd sl)
        ⟨ho, rfl, ⟨_, ho, rfl⟩, call_meets F.slot_tuple_mul ⟨_, ho, rfl⟩ F.entry_tuple_mul (F.args_tuple_mul_2 _ _) (tuple_mul_none l its.toArray n dd sl k t c0 c1 c2) ⟨ho, ?_⟩⟩)
    have en : (List.replicate k.toNat xs).flatten = [] := by rw [e0]; rfl
    have q3 := q2 e1 s.heap.objs.size (I.hok.fresh (Nat.le_refl _))
    rw [en] at q3
    refine ⟨.ref s.heap.objs.size, _, I.laid (t' := s.toks) (o := .tup []) (fun b ob q => Heap.get?_push_of_some _ q) (Nat.le_refl _) ?_, rfl, q3⟩
    exact ⟨Nat.zero_le _, [], .nil, IsTup.new _ _⟩
end
end L2
namespace L2
open PySem PySem.Spec PyProof.Rows
section
variable {X : Cx} {pos : Pos}
def gStar (K : PySem.W.Frag) (k : Nat) (t : TGs) : TG := fun v σ H Q => ∃ (a : Addr) (ys xs : List V), v = .ref a ∧ (SqT K H a (ys ++ xs) ∨ SqL K H a (ys ++ xs)) ∧ ys.length = k ∧ (ys ++ xs).length ≤ 16000 ∧
  ∀ D, H D = none → t (ys ++ [.ref D]) σ (upd H D (.lst xs)) Q
theorem pgs_star {e : Expr} {p : Pos} {t : TG} (h1 : PG X e t) : PGs X [.Starred e p] (gCons t gNil) := by
  refine ⟨fun pins s σ H vs us Q I r h => ?_⟩
  obtain ⟨v, vr, e1, h⟩ := h
  subst e1
  cases r with
  | cons r rr =>
    show wpAny _ _ (assignInOrder (assign e X.env :: []) _) _ _ _
    refine assignInOrder_cons (thn (h1.run pins s σ H _ _ _ I r h) fun _ s1 ⟨σ1, H1, I1, q1⟩ => ?_)
    obtain ⟨e2, q1⟩ := q1
    subst e2
    cases rr
    exact assignInOrder_nil ⟨σ1, H1, I1, q1⟩
theorem pg_star {es : List Expr} {k i : Nat} {t : TGs} (hc : X.calm = true) (h : PGs X es t)
    (hn : (assignEach es X.env).length = i + 1 := by rfl) (hst : (assignEach es X.env).findIdx? (·.1) = some i := by rfl) : PG X (.Tuple es k pos) (gStar X.K i t) := by
  refine ⟨fun pins s σ H v u Q I r hw => ?_⟩
  obtain ⟨a, ys, xs, e1, hq, hl, hz, hw⟩ := hw
  subst e1
  cases r
  rw [assign_Tuple]
  refine wpAny_bind (wpAny_standAt ?_)
  unfold unpack
  rw [hn, hst]
  refine wpAny_bind (wpAny_holding ?_)
  have fin : ∀ (its : List Value) (h₂ : Heap) (tk : Nat), Vals (ys ++ xs) its → Inv X pins σ H { s with heap := h₂, toks := tk } →
      wpAny (model X.prog X.w) X.A (newList ((its.drop i).take ((its.drop i).length - (i + 1 - 1 - i))) >>= fun d => pure (its.take i ++ [d] ++ (its.drop i).drop ((its.drop i).length - (i + 1 - 1 - i))))
        (fun x s1 => wpAny (model X.prog X.w) X.A (assignInOrder ((assignEach es X.env).map (·.2)) x) (fun _ s' => ∃ σ' H', Inv X pins σ' H' s' ∧ Q σ' H') X.xe s1) X.xe { s with heap := h₂, toks := tk } := by
    intro its h₂ tk rv I2
    have e0 : i + 1 - 1 - i = 0 := by omega
    rw [e0, Nat.sub_zero, List.take_length, List.drop_length]
    simp only [List.append_nil]
    have hrx : Vals xs (its.drop i) := by
      have := Vals.drop i rv
      rw [List.drop_append_of_le_length (by omega), List.drop_of_length_le (by omega), List.nil_append] at this
      exact this
    have hry : Vals ys (its.take i) := by
      have := Vals.take i rv
      rw [List.take_append_of_le_length (by omega), List.take_of_length_le (by omega)] at this
      exact this
    have hzx : xs.length ≤ sizeLine := by
      rw [List.length_append] at hz
      exact Nat.le_trans (by omega : xs.length ≤ 16000) (by decide)
    refine wpAny_bind (wpAny_newList ?_ (by rw [← hrx.length]; exact hzx))
    refine wpAny_pure ?_
    have I3 := I2.lnew (t' := tk) hrx hzx
    exact h.run pins _ σ _ (ys ++ [.ref h₂.objs.size]) _ Q I3 (Vals.append hry (.cons (show RelV (.ref h₂.objs.size) (Value.ref h₂.objs.size) from rfl) .nil)) (hw _ I2.fresh)
  rcases hq with hq | hq
  · obtain ⟨its, rv, hl', hz'⟩ := I.tuple hq
    have hsz : its.toArray.size = (ys ++ xs).length := by rw [List.size_toArray, rv.length]
    have hlt : a ≠ s.heap.objs.size := by obtain ⟨o, ho, _⟩ := hl'; exact Nat.ne_of_lt (Heap.lt_size ho)
    unfold unpackItems
    refine wpAny_bind ?_
    unfold notIterableAtAll
    refine wpAny_bind (wpAny_specialOf hl'.typeIs slot_tuple_iter.lookup ?_)
    refine wpAny_pure ?_
    simp only [Bool.false_eq_true, if_false]
    refine wpAny_bind (wpAny_holding (iter_tuple hl' ?_))
    refine wpAny_bind (wpAny_holding (draw_tuple hlt i 0 _ _ ⟨_, Heap.get?_push_size _ rfl, rfl, rfl⟩ (hl'.push _) (by rw [hsz, List.length_append]; omega) fun h₁ hit₁ hs₁ => ?_))
    have hl₁ : IsTup h₁ a its.toArray := (hl'.push _).extBut hs₁.extBut hlt
    rw [Nat.zero_add] at hit₁
    have hit₁' := hit₁
    obtain ⟨oi, hoi, _⟩ := hit₁'
    have hl₁' := hl₁
    obtain ⟨ol, hol, _⟩ := hl₁'
    rw [List.drop_zero]
    have hil : its.length = (ys ++ xs).length := rv.length.symm
    have hfl : (its.toArray.toList.take i).length = i := by rw [List.length_take, Array.length_toList, hsz, List.length_append]; omega
    rw [if_neg (show ¬ ((its.toArray.toList.take i).length < i) by rw [hfl]; omega)]
    refine wpAny_bind (wpAny_holding (PySem.W.kun_collect (s := { s with heap := h₁ }) (T := "tuple_iterator") (.inr (.inr (.inr rfl))) (Walks.tuple (A := X.A.in1) (I.ok.hd hc) s.heap.objs.size a hlt its.toArray) (fun j u st => st.1.typeIs) (k := i) (by rw [hsz, List.length_append]; omega) ⟨hit₁, hl₁⟩ (Heap.lt_size hoi) (Heap.lt_size hol) (fun h₂ tk hk => ?_) (by rw [hsz]; exact hz')))
    show wpAny _ _ (if (its.drop i).length < i + 1 - 1 - i then _ else _) _ _ _
    rw [if_neg (by omega)]
    have he : Heap.ExtBut s.heap.objs.size s.heap h₂ := fun b o hb e => hk b o hb (hs₁.extBut b o hb (Heap.get?_push_of_some _ e))
    exact fin its h₂ tk rv (I.kept fun b o e => he b o (Nat.ne_of_lt (Heap.lt_size e)) e)
  · obtain ⟨its, rv, hl', hz'⟩ := I.list hq
    have hsz : its.toArray.size = (ys ++ xs).length := by rw [List.size_toArray, rv.length]
    have hlI : s.heap.IsList a its.toArray := hl'.isList
    have hlt : a ≠ s.heap.objs.size := by obtain ⟨o, ho, _⟩ := hlI; exact Nat.ne_of_lt (Heap.lt_size ho)
    unfold unpackItems
    refine wpAny_bind ?_
    unfold notIterableAtAll
    refine wpAny_bind (wpAny_specialOf hlI.typeIs slot_list_iter.lookup ?_)
    refine wpAny_pure ?_
    simp only [Bool.false_eq_true, if_false]
    refine wpAny_bind (wpAny_holding (wpAny_pyIter_list hlI ?_))
    refine wpAny_bind (wpAny_holding (PySem.W.kun_draw hlt i 0 _ _ ⟨_, Heap.get?_push_size _ rfl, rfl, rfl⟩ (hlI.push _) (by rw [hsz, List.length_append]; omega) fun h₁ hit₁ hs₁ => ?_))
    have hl₁ : h₁.IsList a its.toArray := (hlI.push _).extBut hs₁.extBut hlt
    rw [Nat.zero_add] at hit₁
    have hit₁' := hit₁
    obtain ⟨oi, hoi, _⟩ := hit₁'
    have hl₁' := hl₁
    obtain ⟨ol, hol, _⟩ := hl₁'
    rw [List.drop_zero]
    have hfl : (its.toArray.toList.take i).length = i := by rw [List.length_take, Array.length_toList, hsz, List.length_append]; omega
    rw [if_neg (show ¬ ((its.toArray.toList.take i).length < i) by rw [hfl]; omega)]
    refine wpAny_bind (wpAny_holding (PySem.W.kun_collect (s := { s with heap := h₁ }) (T := "list_iterator") (.inr (.inr (.inl rfl))) (Walks.list (A := X.A.in1) (I.ok.hd hc) s.heap.objs.size a hlt its.toArray) (fun j u st => st.1.typeIs) (k := i) (by rw [hsz, List.length_append]; omega) ⟨hit₁, hl₁⟩ (Heap.lt_size hoi) (Heap.lt_size hol) (fun h₂ tk hk => ?_) (by rw [hsz]; exact Nat.le_trans hz (by decide))))
    show wpAny _ _ (if (its.drop i).length < i + 1 - 1 - i then _ else _) _ _ _
    rw [if_neg (by omega)]
    have he : Heap.ExtBut s.heap.objs.size s.heap h₂ := fun b o hb e => hk b o hb (hs₁.extBut b o hb (Heap.get?_push_of_some _ e))
    exact fin its h₂ tk rv (I.kept fun b o e => he b o (Nat.ne_of_lt (Heap.lt_size e)) e)
end
end L2
namespace DL
open PySem L2
mutual
def D.py : D → PyData
  | .non => .none
  | .bl b => .bool b
  | .int i => .int i
  | .str x => .str x
  | .tup xs => .tuple (pyL xs)
  | .lst xs => .list (pyL xs)
  | .obj _ _ => .dict []
  | .ty _ => .dict []
  | .raw _ => .dict []
  | .scr _ => .dict []
def pyL : List D → List PyData
  | [] => []
  | d :: ds => d.py :: pyL ds
end
mutual
def D.okP : D → Bool
  | .non => true
  | .bl _ => true
  | .int _ => true
  | .str _ => true
  | .tup xs => okL xs
  | .lst xs => okL xs
  | .obj _ _ => false
  | .ty _ => false
  | .raw _ => false
  | .scr _ => false
def okL : List D → Bool
  | [] => true
  | d :: ds => d.okP && okL ds
end
mutual
theorem Rep.dp {K : Fg} {H : Hp} : ∀ {d : D} {v : V}, d.okP = true → Rep K H v d → Dp K H v d.py
  | _, _, _, .non => .non
  | _, _, _, .bl b => .bl b
  | _, _, _, .int i => .int i
  | _, _, _, .str x => .str x
  | _, _, h, .ty _ => by simp [D.okP] at h
  | _, _, h, .raw _ => by simp [D.okP] at h
  | _, _, h, .scr _ => by simp [D.okP] at h
  | _, _, h, .obj _ _ => by simp [D.okP] at h
  | .tup ds, _, h, .tup s r => by
    rw [D.okP] at h
    exact .tup s (RepL.dp h r)
  | .lst ds, _, h, .lst s r => by
    rw [D.okP] at h
    exact .lst (.inl (.inl s)) (RepL.dp h r)
theorem RepL.dp {K : Fg} {H : Hp} : ∀ {ds : List D} {vs : List V}, okL ds = true → RepL K H vs ds → DpAll K H vs (pyL ds)
  | _, _, _, .nil => .nil
  | _, _, h, .cons a r => by
    rw [okL, Bool.and_eq_true] at h
    exact .cons (Rep.dp h.1 a) (RepL.dp h.2 r)
end
def eqvD (a b : D) : Bool := PyData.eqv a.py b.py
def shapedD (a : D) : Bool := a.okP && SeqAt.shaped a.py
def D.flat : D → Bool
  | .non | .bl _ | .int _ | .str _ => true
  | _ => false
theorem Rep.flat {K : Fg} {H : Hp} {v : V} {d : D} (h : Rep K H v d) (f : d.flat = true) : flatV v = true := by
  cases h <;> first | rfl | (simp [D.flat] at f)
theorem Rep.eqV {K : Fg} {H : Hp} {v u : V} {d e : D} (h : Rep K H v d) (k : Rep K H u e) (f : d.flat = true) (g : e.flat = true) : L2.eqV v u = eqvD d e := by
  cases h <;> first | (simp [D.flat] at f; done) | skip
  all_goals cases k <;> first | (simp [D.flat] at g; done) | (simp [L2.eqV, eqvD, D.py, PyData.eqv])
def OpS (K : Fg) (r : R2) (g : D → D → Option Res) : Prop := ∀ (H Hf : Hp) (x y : V) (a b : D) (c : Res) (Q : VK), (∀ b o, Hf b = some o → H b = some o) → Rep K Hf x a → Rep K Hf y b → g a b = some c →
  (∀ v H' Hf', Ext H H' Hf Hf' → ResOk K H H' Hf' v c → Q v H') → r x y H Q
theorem opR_or {X : Cx} {f : Value → Value → Sem Value} {r r' : R2} (h : OpR X f r) (h' : OpR X f r') : OpR X f (fun x y H Q => r x y H Q ∨ r' x y H Q) := by
  intro pins s σ H x y v u Q I rx ry q
  rcases q with q | q
  · exact h pins s σ H x y v u Q I rx ry q
  · exact h' pins s σ H x y v u Q I rx ry q
theorem ResOk.back {K : Fg} {H H1 H2 Hf2 : Hp} {v : V} {c : Res} (l : ∀ b, H1 b = none → H b = none) (h : ResOk K H1 H2 Hf2 v c) : ResOk K H H2 Hf2 v c := by
  cases c with
  | fz d => exact h
  | fr xs =>
    obtain ⟨a, ys, h1, h2, h3, h4, h5⟩ := h
    exact ⟨a, ys, h1, h2, h3, l _ h4, h5⟩
def tBin (g : D → D → Option Res) (a b : TD) : TD := fun ρ P => a ρ fun x ρ1 => b ρ1 fun y ρ2 => ∃ c, g x.dat y.dat = some c ∧ P c ρ2
section
variable {X : Cx} {a b e : Expr} {τa τb : TD} {pos : Pos} {r : R2} {g : D → D → Option Res}
theorem run2 {ta tb : TE} (hs : OpS X.K r g)
    (sa : ∀ (σ : St) (H Hf : Hp) (ρ : Ev) (P : D → Ev → Prop) (Q : VK), DEnv X.K H Hf σ ρ → τa ρ (fun r ρ' => P r.dat ρ') → (∀ v H' Hf' d ρ', DEnv X.K H' Hf' σ ρ' → Mv σ ρ ρ' H H' Hf Hf' → Rep X.K Hf' v d → P d ρ' → Q v H') → ta σ H Q)
    (sb : ∀ (σ : St) (H Hf : Hp) (ρ : Ev) (P : D → Ev → Prop) (Q : VK), DEnv X.K H Hf σ ρ → τb ρ (fun r ρ' => P r.dat ρ') → (∀ v H' Hf' d ρ', DEnv X.K H' Hf' σ ρ' → Mv σ ρ ρ' H H' Hf Hf' → Rep X.K Hf' v d → P d ρ' → Q v H') → tb σ H Q)
    (σ : St) (H Hf : Hp) (ρ : Ev) (P : Res → Ev → Prop) (Q : VK) (e : DEnv X.K H Hf σ ρ) (q : tBin g τa τb ρ P)
    (k : ∀ v H' Hf' r ρ', DEnv X.K H' Hf' σ ρ' → Mv σ ρ ρ' H H' Hf Hf' → ResOk X.K H H' Hf' v r → P r ρ' → Q v H') : tOp r ta tb σ H Q := by
  refine sa σ H Hf ρ (fun x ρ1 => τb ρ1 fun y ρ2 => ∃ c, g x y.dat = some c ∧ P c ρ2) _ e q fun x H1 Hf1 dx ρ1 e1 m1 r1 q1 => ?_
  refine sb σ H1 Hf1 ρ1 (fun y ρ2 => ∃ c, g dx y = some c ∧ P c ρ2) _ e1 q1 fun y H2 Hf2 dy ρ2 e2 m2 r2 q2 => ?_
  obtain ⟨c, hc, p⟩ := q2
  refine hs H2 Hf2 x y dx dy c Q e2.sub (r1.mono m2.grow) r2 hc fun v H3 Hf3 x3 ok => ?_
  exact k v H3 Hf3 c ρ2 (x3.env e2) ((m1.trans m2).trans x3.mv) (ok.back (m1.trans m2).live) p
theorem de_bin {op : Operator} (ho : OpR X (binaryOp op) r) (hs : OpS X.K r g) (ha : DE X a τa) (hb : DE X b τb) : DE X (.BinOp a op b pos) (tBin g τa τb) := by
  obtain ⟨ta, pa, sa⟩ := ha.fz
  obtain ⟨tb, pb, sb⟩ := hb.fz
  exact DE.of (pe_op ho pa pb) (run2 hs sa sb)
theorem de_cmp {op : CmpOp} (ho : OpR X (compareOp op) r) (hs : OpS X.K r g) (ha : DE X a τa) (hb : DE X b τb) (hm : behindInMarks op b = false) : DE X (.Compare a [op] [b] pos) (tBin g τa τb) := by
  obtain ⟨ta, pa, sa⟩ := ha.fz
  obtain ⟨tb, pb, sb⟩ := hb.fz
  exact DE.of (pe_cmpR ho pa pb hm) (run2 hs sa sb)
end
def addD : D → D → Option Res
  | .int i, .int j => some (.fz (.int (i + j)))
  | .str a, .str b => if a.length + b.length ≤ 100000 then some (.fz (.str (a ++ b))) else none
  | .tup a, .tup b => if a.length + b.length ≤ 16000 then some (.fz (.tup (a ++ b))) else none
  | .lst a, .lst b => if a.length + b.length ≤ 16000 then some (.fr (a ++ b)) else none
  | _, _ => none
def addR (K : Fg) : R2 := fun x y H Q => (rI0 (fun i j => .int (i + j)) x y H Q ∨ (∃ i j, x = .str i ∧ y = .str j ∧ i.length + j.length ≤ sizeLine ∧ Q (.str (i ++ j)) H)) ∨ (rCatA K x y H Q ∨ rCat x y H Q)
theorem op_addD {X : Cx} : OpR X (binaryOp .Add) (addR X.K) := opR_or (opR_or op_add op_add_str) (opR_or op_catA op_cat)
theorem lim {n m : Nat} (h : n ≤ m) (hm : m ≤ 100000 := by decide) : n ≤ sizeLine := Nat.le_trans h (Nat.le_trans hm (by decide))
theorem opS_add {K : Fg} : OpS K (addR K) addD := by
  intro H Hf x y a b c Q hf ra rb hg k
  cases ra <;> first | (simp [addD] at hg; done) | skip
  all_goals cases rb <;> first | (simp [addD] at hg; done) | skip
  · rename_i i j
    simp only [addD, Option.some.injEq] at hg
    subst hg
    exact .inl (.inl ⟨i, j, rfl, rfl, k _ _ _ (Ext.refl hf) (.int _)⟩)
  · rename_i i j
    simp only [addD] at hg
    split at hg
    · rename_i hz
      simp only [Option.some.injEq] at hg
      subst hg
      exact .inl (.inr ⟨i, j, rfl, rfl, lim hz, k _ _ _ (Ext.refl hf) (.str _)⟩)
    · cases hg
  · rename_i p xs ds hp rp q ys es hq rq
    simp only [addD] at hg
    split at hg
    · rename_i hz
      simp only [Option.some.injEq] at hg
      subst hg
      have l1 := rp.length
      have l2 := rq.length
      refine .inr (.inl ⟨p, q, xs, ys, rfl, rfl, sqT_same hf hp, sqT_same hf hq, by rw [l1, l2]; exact lim hz, fun z => ?_, fun _ z => ?_, fun _ _ n hn => ?_⟩)
      · subst z
        cases rp
        exact k _ _ _ (Ext.refl hf) (.tup hq rq)
      · subst z
        cases rq
        exact k _ _ _ (Ext.refl hf) (.tup hp (by rw [List.append_nil]; exact rp))
      · have x := Ext.add hf (.tup (xs ++ ys)) hn
        exact k _ _ _ x (.tup (.inl (.inl upd_same)) ((rp.append rq).mono x.grow))
    · cases hg
  · rename_i p xs ds hp rp q ys es hq rq
    simp only [addD] at hg
    split at hg
    · rename_i hz
      simp only [Option.some.injEq] at hg
      subst hg
      have l1 := rp.length
      have l2 := rq.length
      refine .inr (.inr ⟨p, q, xs, ys, rfl, rfl, hf _ _ hp, hf _ _ hq, by rw [l1, l2]; exact lim hz, fun n hn => ?_⟩)
      have x := Ext.add' hf (.lst (xs ++ ys)) hn
      have nn : Hf n = none := by
        cases z : Hf n with
        | none => rfl
        | some o => rw [hf _ _ z] at hn; cases hn
      exact k _ _ _ x ⟨n, xs ++ ys, rfl, upd_same, nn, hn, rp.append rq⟩
    · cases hg
def intD (C : Int → Int → Bool) (f : Int → Int → D) : D → D → Option Res
  | .int i, .int j => if C i j = true then some (.fz (f i j)) else none
  | _, _ => none
theorem opS_int {K : Fg} {C : Int → Int → Prop} {B : Int → Int → Bool} {f : Int → Int → Int} (h : ∀ i j, B i j = true → C i j) : OpS K (rI C fun i j => .int (f i j)) (intD B fun i j => .int (f i j)) := by
  intro H Hf x y a b c Q hf ra rb hg k
  cases ra <;> first | (simp [intD] at hg; done) | skip
  cases rb <;> first | (simp [intD] at hg; done) | skip
  rename_i i j
  simp only [intD] at hg
  split at hg
  · rename_i hz
    simp only [Option.some.injEq] at hg
    subst hg
    exact ⟨i, j, rfl, rfl, h i j hz, k _ _ _ (Ext.refl hf) (.int _)⟩
  · cases hg
theorem opS_intB {K : Fg} {f : Int → Int → Bool} : OpS K (rI0 fun i j => .bl (f i j)) (intD (fun _ _ => true) fun i j => .bl (f i j)) := by
  intro H Hf x y a b c Q hf ra rb hg k
  cases ra <;> first | (simp [intD] at hg; done) | skip
  cases rb <;> first | (simp [intD] at hg; done) | skip
  rename_i i j
  simp only [intD, if_true, Option.some.injEq] at hg
  subst hg
  exact ⟨i, j, rfl, rfl, k _ _ _ (Ext.refl hf) (.bl _)⟩
theorem opS_intI {K : Fg} {f : Int → Int → Int} : OpS K (rI0 fun i j => .int (f i j)) (intD (fun _ _ => true) fun i j => .int (f i j)) := by
  intro H Hf x y a b c Q hf ra rb hg k
  cases ra <;> first | (simp [intD] at hg; done) | skip
  cases rb <;> first | (simp [intD] at hg; done) | skip
  rename_i i j
  simp only [intD, if_true, Option.some.injEq] at hg
  subst hg
  exact ⟨i, j, rfl, rfl, k _ _ _ (Ext.refl hf) (.int _)⟩
def subD := intD (fun _ _ => true) fun i j => .int (i - j)
def fdivD := intD (fun _ j => decide (0 < j ∧ j < 1073741824)) fun i j => .int (i / j)
def modD := intD (fun _ j => decide (0 < j)) fun i j => .int (i % j)
def powD := intD (fun i j => decide (0 ≤ j ∧ j ≤ 1000000 ∧ i.natAbs < 2 ^ 64)) fun i j => .int (i ^ j.toNat)
def ltD := intD (fun _ _ => true) fun i j => .bl (decide (i < j))
def leD := intD (fun _ _ => true) fun i j => .bl (decide (i ≤ j))
def gtD := intD (fun _ _ => true) fun i j => .bl (decide (j < i))
def geD := intD (fun _ _ => true) fun i j => .bl (decide (j ≤ i))
def mulD : D → D → Option Res
  | .int i, .int j => if decide ((-(2 ^ 64) < i ∧ i < 2 ^ 64) ∨ (-(2 ^ 64) < j ∧ j < 2 ^ 64)) = true then some (.fz (.int (i * j))) else none
  | .tup a, .int k => if decide (a ≠ [] ∧ 0 ≤ k ∧ k ≤ 1000 ∧ a.length ≤ 1000) = true then some (.fz (.tup (List.replicate k.toNat a).flatten)) else none
  | .lst a, .int k => if decide (0 ≤ k ∧ k ≤ 1000 ∧ a.length ≤ 10) = true then some (.fr (List.replicate k.toNat a).flatten) else none
  | _, _ => none
end DL
namespace DL
open PySem L2
section
variable {K : Fg} {H Hf : Hp}
theorem free_of (hf : ∀ b o, Hf b = some o → H b = some o) {n : Addr} (hn : H n = none) : Hf n = none := by
  cases z : Hf n with
  | none => rfl
  | some o => rw [hf _ _ z] at hn; cases hn
theorem new_lst (hf : ∀ b o, Hf b = some o → H b = some o) {n : Addr} (hn : H n = none) {xs : List V} {ds : List D} (r : RepL K Hf xs ds) : Ext H (upd H n (.lst xs)) Hf Hf ∧ ResOk K H (upd H n (.lst xs)) Hf (.ref n) (.fr ds) :=
  ⟨Ext.add' hf _ hn, n, xs, rfl, upd_same, free_of hf hn, hn, r⟩
theorem new_tup (hf : ∀ b o, Hf b = some o → H b = some o) {n : Addr} (hn : H n = none) {xs : List V} {ds : List D} (r : RepL K Hf xs ds) :
    Ext H (upd H n (.tup xs)) Hf (upd Hf n (.tup xs)) ∧ ResOk K H (upd H n (.tup xs)) (upd Hf n (.tup xs)) (.ref n) (.fz (.tup ds)) :=
  ⟨Ext.add hf _ hn, .tup (.inl (.inl upd_same)) (r.mono (Ext.add hf _ hn).grow)⟩
end
def mulR (K : Fg) : R2 := fun x y H Q => rI CMul (fun i j => .int (i * j)) x y H Q ∨ (rRepA K x y H Q ∨ rRep x y H Q)
theorem op_mulD {X : Cx} : OpR X (binaryOp .Mult) (mulR X.K) := opR_or op_mul (opR_or op_repA op_rep)
theorem RepL.rep {K : Fg} {H : Hp} {vs : List V} {ds : List D} (r : RepL K H vs ds) : ∀ n, RepL K H (List.replicate n vs).flatten (List.replicate n ds).flatten
  | 0 => .nil
  | n + 1 => by
    rw [List.replicate_succ, List.replicate_succ, List.flatten_cons, List.flatten_cons]
    exact r.append (RepL.rep r n)
theorem opS_mul {K : Fg} : OpS K (mulR K) mulD := by
  intro H Hf x y a b c Q hf ra rb hg k
  cases ra <;> first | (simp [mulD] at hg; done) | skip
  all_goals cases rb <;> first | (simp [mulD] at hg; done) | skip
  · rename_i i j
    simp only [mulD] at hg
    split at hg
    · rename_i hz
      simp only [Option.some.injEq] at hg
      subst hg
      have hz' := of_decide_eq_true hz
      exact .inl ⟨i, j, rfl, rfl, hz', k _ _ _ (Ext.refl hf) (.int _)⟩
    · cases hg
  · rename_i p xs ds hp rp j
    simp only [mulD] at hg
    split at hg
    · rename_i hz
      simp only [Option.some.injEq] at hg
      subst hg
      obtain ⟨h1, h2, h3, h4⟩ := of_decide_eq_true hz
      have l1 := rp.length
      refine .inr (.inl ⟨p, j, xs, rfl, rfl, sqT_same hf hp, fun z => ?_, h2, h3, by omega, fun z => ?_, fun _ n hn => ?_⟩)
      · subst z
        cases rp
        exact h1 rfl
      · subst z
        exact k _ _ _ (Ext.refl hf) (.tup hp (by simpa using rp))
      · obtain ⟨x1, x2⟩ := new_tup hf hn (rp.rep j.toNat)
        exact k _ _ _ x1 x2
    · cases hg
  · rename_i p xs ds hp rp j
    simp only [mulD] at hg
    split at hg
    · rename_i hz
      simp only [Option.some.injEq] at hg
      subst hg
      obtain ⟨h2, h3, h4⟩ := of_decide_eq_true hz
      have l1 := rp.length
      refine .inr (.inr ⟨p, j, xs, rfl, rfl, hf _ _ hp, by omega, by omega, ?_, fun n hn => ?_⟩)
      · have : xs.length * j.toNat ≤ 10 * 1000 := Nat.mul_le_mul (by omega) (by omega)
        exact lim this
      · obtain ⟨x1, x2⟩ := new_lst hf hn (rp.rep j.toNat)
        exact k _ _ _ x1 x2
    · cases hg
def scalD : D → D → Bool
  | .non, .non | .non, .int _ | .int _, .non | .non, .bl _ | .bl _, .non | .non, .str _ | .str _, .non | .int _, .int _ | .bl _, .bl _ | .str _, .str _ | .int _, .str _ | .str _, .int _ | .bl _, .str _ | .str _, .bl _ => true
  | _, _ => false
@[irreducible] def eqS (a b : Str) : Bool := decide (a = b)
theorem eqS_eq (a b : Str) : eqS a b = decide (a = b) := by unfold eqS; rfl
def eqB : D → D → Bool
  | .str a, .str b => eqS a b
  | .int a, .int b => decide (a = b)
  | a, b => eqvD a b
theorem eqB_eq (a b : D) : eqB a b = eqvD a b := by
  unfold eqB
  split
  · rename_i a b
    rw [eqS_eq]
    show decide (a = b) = (a == b)
    by_cases h : a = b
    · simp [h]
    · rw [decide_eq_false h]
      exact (beq_eq_false_iff_ne.mpr h).symm
  · rename_i a b
    show decide (a = b) = (a == b)
    by_cases h : a = b
    · simp [h]
    · rw [decide_eq_false h]
      exact (beq_eq_false_iff_ne.mpr h).symm
  · rfl
def eqD (a b : D) : Option Res := if (scalD a b || (shapedD a && shapedD b)) = true then some (.fz (.bl (eqB a b))) else none
def neD (a b : D) : Option Res := if (scalD a b || (shapedD a && shapedD b)) = true then some (.fz (.bl (!eqB a b))) else none
def eqR (K : Fg) : R2 := fun x y H Q => rEq x y H Q ∨ rEqD K x y H Q
def neR (K : Fg) : R2 := fun x y H Q => rNe x y H Q ∨ rNeD K x y H Q
theorem op_eqD' {X : Cx} (hu : X.A.units + 64 < cLine) : OpR X (compareOp .Eq) (eqR X.K) := opR_or op_eq (op_eqD hu)
theorem op_neD' {X : Cx} (hu : X.A.units + 64 < cLine) : OpR X (compareOp .NotEq) (neR X.K) := opR_or op_ne (op_neD hu)
theorem scal_eqv {K : Fg} {H : Hp} {x y : V} {a b : D} (ra : Rep K H x a) (rb : Rep K H y b) (h : scalD a b = true) : scal x y = true ∧ decide (x = y) = eqvD a b := by
  cases ra <;> cases rb <;> first | (simp [scalD] at h; done) | skip
  all_goals refine ⟨rfl, ?_⟩
  all_goals first
    | (rw [dec_int]; rfl)
    | (rw [dec_bl]; rfl)
    | (rw [dec_str]; rfl)
    | (simp [eqvD, D.py, PyData.eqv]; done)
theorem opS_eq {K : Fg} : OpS K (eqR K) eqD := by
  intro H Hf x y a b c Q hf ra rb hg k
  unfold eqD at hg
  rw [eqB_eq] at hg
  split at hg
  · rename_i hz
    simp only [Option.some.injEq] at hg
    subst hg
    rcases Bool.or_eq_true_iff.mp hz with h | h
    · obtain ⟨h1, h2⟩ := scal_eqv ra rb h
      refine .inl ⟨h1, ?_⟩
      rw [h2]
      exact k _ _ _ (Ext.refl hf) (.bl _)
    · obtain ⟨h1, h2⟩ := Bool.and_eq_true_iff.mp h
      obtain ⟨o1, s1⟩ := Bool.and_eq_true_iff.mp h1
      obtain ⟨o2, s2⟩ := Bool.and_eq_true_iff.mp h2
      exact .inr ⟨_, _, (ra.mono hf).dp o1, (rb.mono hf).dp o2, s1, s2, k _ _ _ (Ext.refl hf) (.bl _)⟩
  · cases hg
theorem opS_ne {K : Fg} : OpS K (neR K) neD := by
  intro H Hf x y a b c Q hf ra rb hg k
  unfold neD at hg
  rw [eqB_eq] at hg
  split at hg
  · rename_i hz
    simp only [Option.some.injEq] at hg
    subst hg
    rcases Bool.or_eq_true_iff.mp hz with h | h
    · obtain ⟨h1, h2⟩ := scal_eqv ra rb h
      refine .inl ⟨h1, ?_⟩
      rw [h2]
      exact k _ _ _ (Ext.refl hf) (.bl _)
    · obtain ⟨h1, h2⟩ := Bool.and_eq_true_iff.mp h
      obtain ⟨o1, s1⟩ := Bool.and_eq_true_iff.mp h1
      obtain ⟨o2, s2⟩ := Bool.and_eq_true_iff.mp h2
      exact .inr ⟨_, _, (ra.mono hf).dp o1, (rb.mono hf).dp o2, s1, s2, k _ _ _ (Ext.refl hf) (.bl _)⟩
  · cases hg
def D.isNon : D → Bool
  | .non => true
  | _ => false
def D.noRaw : D → Bool
  | .raw _ => false
  | _ => true
def isD (a b : D) : Option Res := if (b.isNon && a.noRaw) = true then some (.fz (.bl a.isNon)) else none
theorem Rep.isNon {K : Fg} {H : Hp} {x : V} {a : D} (r : Rep K H x a) (n : a.noRaw = true) : decide (x = .non) = a.isNon := by
  cases r <;> first | (simp [D.noRaw] at n; done) | (simp [D.isNon])
theorem opS_is {K : Fg} : OpS K (fun x y H Q => y = .non ∧ Q (.bl (decide (x = .non))) H) isD := by
  intro H Hf x y a b c Q hf ra rb hg k
  unfold isD at hg
  split at hg
  · rename_i hz
    simp only [Option.some.injEq] at hg
    subst hg
    obtain ⟨h1, h2⟩ := Bool.and_eq_true_iff.mp hz
    cases rb <;> first | (simp [D.isNon] at h1; done) | skip
    refine ⟨rfl, ?_⟩
    rw [ra.isNon h2]
    exact k _ _ _ (Ext.refl hf) (.bl _)
  · cases hg
def inB : D → D → Option Bool
  | .str x, .str z => if x.cps.size = 1 then some (decide ((x.cps.getD 0 0) ∈ z.cps.toList)) else none
  | a, .tup bs => if (a.flat && bs.all D.flat) = true then some (bs.any fun b => eqB b a) else none
  | a, .lst bs => if (a.flat && bs.all D.flat) = true then some (bs.any fun b => eqB b a) else none
  | _, _ => none
def inD (a b : D) : Option Res := (inB a b).map fun k => .fz (.bl k)
def notinD (a b : D) : Option Res := (inB a b).map fun k => .fz (.bl (!k))
def inR (K : Fg) (neg : Bool) : R2 := fun x y H Q => (∃ (c : Nat) (z : Str), x = .str ⟨#[c]⟩ ∧ y = .str z ∧ Q (.bl (if neg then !decide (c ∈ z.cps.toList) else decide (c ∈ z.cps.toList))) H) ∨ rIn K neg x y H Q
theorem op_inD {X : Cx} : OpR X (compareOp .In) (inR X.K false) := opR_or op_in_sign op_in_seq
theorem op_notinD {X : Cx} : OpR X (compareOp .NotIn) (inR X.K true) := opR_or op_notIn_sign op_notIn_seq
theorem RepL.flat {K : Fg} {H : Hp} : ∀ {vs : List V} {ds : List D}, RepL K H vs ds → ds.all D.flat = true → vs.all flatV = true
  | _, _, .nil, _ => rfl
  | _, _, .cons h r, f => by
    rw [List.all_cons, Bool.and_eq_true] at f ⊢
    exact ⟨h.flat f.1, r.flat f.2⟩
theorem RepL.inV {K : Fg} {H : Hp} {x : V} {a : D} (hx : Rep K H x a) (fa : a.flat = true) : ∀ {vs : List V} {ds : List D}, RepL K H vs ds → ds.all D.flat = true → L2.inV x vs = ds.any fun b => eqB b a
  | _, _, .nil, _ => rfl
  | _, _, .cons (v := v) (vs := vs) (d := d) (ds := ds) h r, f => by
    rw [List.all_cons, Bool.and_eq_true] at f
    show (L2.eqV v x || L2.inV x vs) = (eqB d a || ds.any fun b => eqB b a)
    rw [h.eqV hx f.1 fa, r.inV hx fa f.2, eqB_eq]
theorem inB_ok {K : Fg} {neg : Bool} {H Hf : Hp} {x y : V} {a b : D} {k : Bool} {Q : VK} (hf : ∀ b o, Hf b = some o → H b = some o) (ra : Rep K Hf x a) (rb : Rep K Hf y b) (hg : inB a b = some k) (q : Q (.bl (if neg then !k else k)) H) : inR K neg x y H Q := by
  cases rb <;> first | (cases a <;> simp [inB] at hg; done) | skip
  · rename_i z
    cases ra <;> first | (simp [inB] at hg; done) | skip
    rename_i w
    simp only [inB] at hg
    split at hg
    · rename_i hz
      simp only [Option.some.injEq] at hg
      subst hg
      obtain ⟨⟨cs⟩⟩ := w
      match cs, hz with
      | [c], _ => exact .inl ⟨c, z, rfl, rfl, q⟩
    · cases hg
  all_goals
    rename_i p xs ds hp rp
    have hg' : (if (a.flat && ds.all D.flat) = true then some (ds.any fun b => eqB b a) else none) = some k := by
      cases a <;> exact hg
    split at hg'
    · rename_i hz
      simp only [Option.some.injEq] at hg'
      subst hg'
      obtain ⟨h1, h2⟩ := Bool.and_eq_true_iff.mp hz
      refine .inr ⟨p, xs, rfl, ?_, ra.flat h1, rp.flat h2, ?_⟩
      · first | exact .inr (sqT_same hf hp) | exact .inl (.inl (.inl (hf _ _ hp)))
      · rw [rp.inV ra h1 h2]
        exact q
    · cases hg'
theorem opS_in {K : Fg} : OpS K (inR K false) inD := by
  intro H Hf x y a b c Q hf ra rb hg k
  unfold inD at hg
  cases e : inB a b with
  | none => rw [e] at hg; cases hg
  | some z =>
    rw [e] at hg
    cases hg
    exact inB_ok hf ra rb e (k _ _ _ (Ext.refl hf) (.bl _))
theorem opS_notin {K : Fg} : OpS K (inR K true) notinD := by
  intro H Hf x y a b c Q hf ra rb hg k
  unfold notinD at hg
  cases e : inB a b with
  | none => rw [e] at hg; cases hg
  | some z =>
    rw [e] at hg
    cases hg
    exact inB_ok hf ra rb e (k _ _ _ (Ext.refl hf) (.bl _))
end DL
namespace DL
open PySem L2
section
variable {X : Cx} {pos : Pos}
def tK (d : D) : TD := fun ρ P => P (.fz d) ρ
theorem de_tC {e : Expr} {v : V} {d : D} (h : PE X e (tC v)) (r : ∀ H, Rep X.K H v d) : DE X e (tK d) :=
  DE.of h fun σ H Hf ρ P Q e q k => k v H Hf (.fz d) ρ e (Mv.refl ..) (r _) q
theorem de_int {i : Int} {j : Nat} : DE X (.Constant (.int i) j pos) (tK (.int i)) := de_tC pe_int fun _ => .int i
theorem de_str {x : Str} {j : Nat} : DE X (.Constant (.str x) j pos) (tK (.str x)) := de_tC pe_str fun _ => .str x
def tV (i : Nat) : TD := fun ρ P => ∃ d, ρ[i]? = some (some (.fz d)) ∧ P (.fz d) ρ
theorem de_v (i : Nat) {x : Str} (hN : X.N[i]? = some x := by rfl) (hv : Vis X.env.scope x := by first | exact Or.inl rfl | exact Or.inr (Or.inl rfl) | exact Or.inr (Or.inr rfl)) (hd : (x == ("__debug__" : Str)) = false := by decide) (hcd : (x == ("__classdict__" : Str)) = false := by decide) :
    DE X (.Name x pos) (tV i) := DE.of (pe_var hN hv hd hcd) fun σ H Hf ρ P Q e ⟨d, h, q⟩ k => by
  obtain ⟨v, h1, h2⟩ := e.sl i _ h
  exact ⟨v, h1, k v H Hf (.fz d) ρ e (Mv.refl ..) h2 q⟩
theorem set_get {ρ : Ev} {i j : Nat} {s : Option Sl} : (ρ.set i s)[j]? = if i = j then (if i < ρ.length then some s else none) else ρ[j]? := by
  rw [List.getElem?_set]
theorem lt_of {ρ : Ev} {i : Nat} {s : Option Sl} (h : ρ[i]? = some s) : i < ρ.length := by
  rw [List.getElem?_eq_some_iff] at h
  exact h.1
end
abbrev TDT := Ev → (Bool → Ev → Prop) → Prop
def canT (K : Fg) (τ : TDT) : TT := fun σ H Q => ∃ (Hf : Hp) (ρ : Ev) (P : Bool → Ev → Prop), DEnv K H Hf σ ρ ∧ τ ρ P ∧ (∀ b H' Hf' ρ', DEnv K H' Hf' σ ρ' → Mv σ ρ ρ' H H' Hf Hf' → P b ρ' → Q b H')
structure DT (X : Cx) (e : Expr) (τ : TDT) : Prop where
  pt : PT X e (canT X.K τ)
structure DW (X : Cx) (e : Expr) (τ : TDT) : Prop where
  pw : PW X e (canT X.K τ)
section
variable {X : Cx} {pos : Pos} {a b c e : Expr} {rest : List Expr} {τa τb τc : TD} {tA tB : TDT} {op : Operator}
theorem DT.of {τ : TDT} {t : TT} (h : PT X e t) (k : ∀ (σ : St) (H Hf : Hp) (ρ : Ev) (P : Bool → Ev → Prop) (Q : Bool → Hp → Prop), DEnv X.K H Hf σ ρ → τ ρ P → (∀ b H' Hf' ρ', DEnv X.K H' Hf' σ ρ' → Mv σ ρ ρ' H H' Hf Hf' → P b ρ' → Q b H') → t σ H Q) : DT X e τ :=
  ⟨⟨fun pins s σ H Q I ⟨Hf, ρ, P, e, q, kk⟩ => h.run pins s σ H Q I (k σ H Hf ρ P Q e q kk)⟩⟩
theorem DW.of {τ : TDT} {t : TT} (h : PW X e t) (k : ∀ (σ : St) (H Hf : Hp) (ρ : Ev) (P : Bool → Ev → Prop) (Q : Bool → Hp → Prop), DEnv X.K H Hf σ ρ → τ ρ P → (∀ b H' Hf' ρ', DEnv X.K H' Hf' σ ρ' → Mv σ ρ ρ' H H' Hf Hf' → P b ρ' → Q b H') → t σ H Q) : DW X e τ :=
  ⟨⟨fun wh pins s σ H Q I ⟨Hf, ρ, P, e, q, kk⟩ => h.run wh pins s σ H Q I (k σ H Hf ρ P Q e q kk)⟩⟩
theorem DW.dt {τ : TDT} (h : DW X e τ) : DT X e τ := ⟨h.pw.pt⟩
def tT (τ : TD) : TDT := fun ρ P => τ ρ fun r ρ' => ∃ b, r.dat = .bl b ∧ P b ρ'
theorem Rep.bl_inv {K : Fg} {H : Hp} {v : V} {b : Bool} (h : Rep K H v (.bl b)) : v = .bl b := by cases h; rfl
theorem Rep.int_inv {K : Fg} {H : Hp} {v : V} {b : Int} (h : Rep K H v (.int b)) : v = .int b := by cases h; rfl
theorem dt_cmp {cop : CmpOp} {r : R2} {g : D → D → Option Res} (ho : OpR X (compareOp cop) r) (hs : OpS X.K r g) (ha : DE X a τa) (hb : DE X b τb) (hm : behindInMarks cop b = false) : DT X (.Compare a [cop] [b] pos) (tT (tBin g τa τb)) := by
  obtain ⟨ta, pa, sa⟩ := ha.fz
  obtain ⟨tb, pb, sb⟩ := hb.fz
  refine DT.of (pt_cmpR ho pa pb hm) fun σ H Hf ρ P Q e q k => ?_
  refine run2 hs sa sb σ H Hf ρ _ _ e q fun v H' Hf' r ρ' e1 m1 r1 ⟨b, hb, p1⟩ => ?_
  obtain ⟨Hf2, e2, m2, r2⟩ := r1.freeze e e1 m1
  rw [hb] at r2
  exact ⟨b, r2.bl_inv, k b H' Hf2 ρ' e2 m2 p1⟩
def tAndT (a b : TDT) : TDT := fun ρ P => a ρ fun c ρ1 => if c = true then b ρ1 P else P false ρ1
theorem dw_and1 (ha : DT X a tA) : DW X (.BoolOp .And [a] pos) tA := ⟨pw_and1 ha.pt⟩
theorem dw_and (ha : DT X a tA) (hb : DW X (.BoolOp .And (b :: rest) pos) tB) : DW X (.BoolOp .And (a :: b :: rest) pos) (tAndT tA tB) := by
  refine DW.of (pw_and ha.pt hb.pw) fun σ H Hf ρ P Q e q k => ⟨Hf, ρ, _, e, q, fun c H' Hf' ρ' e1 m1 p1 => ?_⟩
  cases c with
  | true => exact ⟨Hf', ρ', P, e1, p1, fun b H2 Hf2 ρ2 e2 m2 p2 => k b H2 Hf2 ρ2 e2 (m1.trans m2) p2⟩
  | false => exact k false H' Hf' ρ' e1 m1 p1
def tAndE (a b : TD) : TD := fun ρ P => a ρ fun x ρ1 => ∃ c, x.dat = .bl c ∧ if c = true then b ρ1 P else P (.fz (.bl false)) ρ1
def tIfE (c : TDT) (a b : TD) : TD := fun ρ P => c ρ fun k ρ1 => if k = true then a ρ1 P else b ρ1 P
theorem de_one {bop : BoolOp} (h : DE X a τa) : DE X (.BoolOp bop [a] pos) τa := ⟨pe_one h.pe⟩
theorem de_and (ha : DE X a τa) (hb : DE X (.BoolOp .And (b :: rest) pos) τb) : DE X (.BoolOp .And (a :: b :: rest) pos) (tAndE τa τb) := by
  obtain ⟨ta, pa, sa⟩ := ha.fz
  obtain ⟨tb, pb, sb⟩ := hb.ex
  refine DE.of (pe_and pa pb) fun σ H Hf ρ P Q e q k => sa σ H Hf ρ (fun d ρ1 => ∃ c, d = .bl c ∧ if c = true then τb ρ1 P else P (.fz (.bl false)) ρ1) _ e q fun v H1 Hf1 d ρ1 e1 m1 r1 ⟨c, hc, p1⟩ => ?_
  subst hc
  refine ⟨c, r1.bl_inv, ?_⟩
  cases c with
  | true => exact sb σ H1 Hf1 ρ1 P Q e1 p1 fun v H2 Hf2 r ρ2 e2 m2 r2 p2 => k v H2 Hf2 r ρ2 e2 (m1.trans m2) (r2.back m1.live) p2
  | false => exact k _ H1 Hf1 (.fz (.bl false)) ρ1 e1 m1 (.bl false) p1
theorem de_if (hc : DT X c tA) (ha : DE X a τa) (hb : DE X b τb) : DE X (.IfExp c a b pos) (tIfE tA τa τb) := by
  refine DE.of (pe_ifExp hc.pt ha.pe hb.pe) fun σ H Hf ρ P Q e q k => ⟨Hf, ρ, _, e, q, fun c H1 Hf1 ρ1 e1 m1 p1 => ?_⟩
  cases c with
  | true => exact ⟨Hf1, ρ1, P, e1, p1, fun v H2 Hf2 r ρ2 e2 m2 r2 p2 => k v H2 Hf2 r ρ2 e2 (m1.trans m2) (r2.back m1.live) p2⟩
  | false => exact ⟨Hf1, ρ1, P, e1, p1, fun v H2 Hf2 r ρ2 e2 m2 r2 p2 => k v H2 Hf2 r ρ2 e2 (m1.trans m2) (r2.back m1.live) p2⟩
def tChn (g g' : D → D → Option Res) (a b c : TD) : TD := fun ρ P => a ρ fun x ρ1 => b ρ1 fun y ρ2 => ∃ z k, g x.dat y.dat = some z ∧ z.dat = .bl k ∧ if k = true then c ρ2 (fun w ρ3 => ∃ z', g' y.dat w.dat = some z' ∧ P z' ρ3) else P (.fz (.bl false)) ρ2
theorem run3 {cop cop' : CmpOp} {r r' : R2} {g g' : D → D → Option Res} {ta tb tc : TE} (hs : OpS X.K r g) (hs' : OpS X.K r' g')
    (sa : ∀ (σ : St) (H Hf : Hp) (ρ : Ev) (P : D → Ev → Prop) (Q : VK), DEnv X.K H Hf σ ρ → τa ρ (fun r ρ' => P r.dat ρ') → (∀ v H' Hf' d ρ', DEnv X.K H' Hf' σ ρ' → Mv σ ρ ρ' H H' Hf Hf' → Rep X.K Hf' v d → P d ρ' → Q v H') → ta σ H Q)
    (sb : ∀ (σ : St) (H Hf : Hp) (ρ : Ev) (P : D → Ev → Prop) (Q : VK), DEnv X.K H Hf σ ρ → τb ρ (fun r ρ' => P r.dat ρ') → (∀ v H' Hf' d ρ', DEnv X.K H' Hf' σ ρ' → Mv σ ρ ρ' H H' Hf Hf' → Rep X.K Hf' v d → P d ρ' → Q v H') → tb σ H Q)
    (sc : ∀ (σ : St) (H Hf : Hp) (ρ : Ev) (P : D → Ev → Prop) (Q : VK), DEnv X.K H Hf σ ρ → τc ρ (fun r ρ' => P r.dat ρ') → (∀ v H' Hf' d ρ', DEnv X.K H' Hf' σ ρ' → Mv σ ρ ρ' H H' Hf Hf' → Rep X.K Hf' v d → P d ρ' → Q v H') → tc σ H Q)
    (σ : St) (H Hf : Hp) (ρ : Ev) (P : Res → Ev → Prop) (Q : VK) (e : DEnv X.K H Hf σ ρ) (q : tChn g g' τa τb τc ρ P)
    (k : ∀ v H' Hf' r ρ', DEnv X.K H' Hf' σ ρ' → Mv σ ρ ρ' H H' Hf Hf' → ResOk X.K H H' Hf' v r → P r ρ' → Q v H') : tChain r r' ta tb tc σ H Q := by
  refine sa σ H Hf ρ (fun x ρ1 => τb ρ1 fun y ρ2 => ∃ z k, g x y.dat = some z ∧ z.dat = .bl k ∧ if k = true then τc ρ2 (fun w ρ3 => ∃ z', g' y.dat w.dat = some z' ∧ P z' ρ3) else P (.fz (.bl false)) ρ2) _ e q fun x H1 Hf1 dx ρ1 e1 m1 r1 q1 => ?_
  refine sb σ H1 Hf1 ρ1 (fun y ρ2 => ∃ z k, g dx y = some z ∧ z.dat = .bl k ∧ if k = true then τc ρ2 (fun w ρ3 => ∃ z', g' y w.dat = some z' ∧ P z' ρ3) else P (.fz (.bl false)) ρ2) _ e1 q1 fun y H2 Hf2 dy ρ2 e2 m2 r2 q2 => ?_
  obtain ⟨c, kk, hc, hd, p⟩ := q2
  refine hs H2 Hf2 x y dx dy c _ e2.sub (r1.mono m2.grow) r2 hc fun v H3 Hf3 x3 ok => ?_
  obtain ⟨Hf4, e4, m4, r4⟩ := ok.freeze e2 (x3.env e2) x3.mv
  rw [hd] at r4
  refine ⟨kk, r4.bl_inv, ?_⟩
  have m5 := (m1.trans m2).trans m4
  cases kk with
  | false => exact k _ H3 Hf4 (.fz (.bl false)) ρ2 e4 m5 (.bl false) p
  | true =>
    refine sc σ H3 Hf4 ρ2 (fun w ρ3 => ∃ z', g' dy w = some z' ∧ P z' ρ3) _ e4 p fun w H5 Hf5 dw ρ5 e5 m6 r6 q6 => ?_
    obtain ⟨z', hz, p6⟩ := q6
    refine hs' H5 Hf5 y w dy dw z' Q e5.sub ((r2.mono m4.grow).mono m6.grow) r6 hz fun v H7 Hf7 x7 ok7 => ?_
    exact k v H7 Hf7 z' ρ5 (x7.env e5) ((m5.trans m6).trans x7.mv) (ok7.back (m5.trans m6).live) p6
end
abbrev TDA := Ev → (List D → Ev → Prop) → Prop
def canA (K : Fg) (n : Nat) (τ : TDA) : TA := fun σ H Q => ∃ (Hf : Hp) (ρ : Ev) (P : List D → Ev → Prop), DEnv K H Hf σ ρ ∧ τ ρ P ∧ (∀ vs H' Hf' ds ρ', DEnv K H' Hf' σ ρ' → Mv σ ρ ρ' H H' Hf Hf' → RepL K Hf' vs ds → ds.length = n → P ds ρ' → Q vs H')
structure DA (X : Cx) (es : List Expr) (τ : TDA) : Prop where
  pa : PA X es (canA X.K es.length τ)
section
variable {X : Cx} {pos : Pos} {e : Expr} {es : List Expr} {τ : TD} {τs : TDA}
theorem DA.of {t : TA} (h : PA X es t) (k : ∀ (σ : St) (H Hf : Hp) (ρ : Ev) (P : List D → Ev → Prop) (Q : List V → Hp → Prop), DEnv X.K H Hf σ ρ → τs ρ P → (∀ vs H' Hf' ds ρ', DEnv X.K H' Hf' σ ρ' → Mv σ ρ ρ' H H' Hf Hf' → RepL X.K Hf' vs ds → ds.length = es.length → P ds ρ' → Q vs H') → t σ H Q) : DA X es τs :=
  ⟨⟨fun pos pins s σ H Q I ⟨Hf, ρ, P, e, q, kk⟩ => h.run pos pins s σ H Q I (k σ H Hf ρ P Q e q kk)⟩⟩
def tANil : TDA := fun ρ P => P [] ρ
def tACons (a : TD) (r : TDA) : TDA := fun ρ P => a ρ fun x ρ1 => r ρ1 fun xs ρ2 => P (x.dat :: xs) ρ2
theorem da_nil : DA X [] tANil := DA.of pa_nil fun σ H Hf ρ P Q e q k => k [] H Hf [] ρ e (Mv.refl ..) .nil rfl q
theorem da_cons (ha : DE X e τ) (hr : DA X es τs) (hs : starEach (e :: es) X.env = (false, eval e X.env) :: starEach es X.env := by rfl) : DA X (e :: es) (tACons τ τs) := by
  obtain ⟨ta, pa, sa⟩ := ha.fz
  refine DA.of (pa_cons pa hr.pa hs) fun σ H Hf ρ P Q e q k => sa σ H Hf ρ (fun d ρ1 => τs ρ1 fun xs ρ2 => P (d :: xs) ρ2) _ e q fun v H1 Hf1 d ρ1 e1 m1 r1 p1 => ?_
  exact ⟨Hf1, ρ1, _, e1, p1, fun vs H2 Hf2 ds ρ2 e2 m2 r2 l2 p2 => k (v :: vs) H2 Hf2 (d :: ds) ρ2 e2 (m1.trans m2) (.cons (r1.mono m2.grow) r2) (by rw [List.length_cons, l2, List.length_cons]) p2⟩
def tTupD (τ : TDA) : TD := fun ρ P => τ ρ fun ds ρ1 => ds.length ≤ 16000 ∧ P (.fz (.tup ds)) ρ1
def tLstD (τ : TDA) : TD := fun ρ P => τ ρ fun ds ρ1 => ds.length ≤ 16000 ∧ P (.fr ds) ρ1
theorem de_tup {x1 : Nat} (h : DA X es τs) : DE X (.Tuple es x1 pos) (tTupD τs) := by
  refine DE.of (pe_tup h.pa) fun σ H Hf ρ P Q e q k => ⟨Hf, ρ, _, e, q, fun vs H1 Hf1 ds ρ1 e1 m1 r1 _ ⟨hz, p1⟩ => ⟨by rw [r1.length]; exact lim hz, fun n hn => ?_⟩⟩
  obtain ⟨x1, x2⟩ := new_tup e1.sub hn r1
  exact k _ _ _ _ ρ1 (x1.env e1) (m1.trans x1.mv) (x2.back m1.live) p1
theorem de_lst (h : DA X es τs) : DE X (.List es pos) (tLstD τs) := by
  refine DE.of (pe_lst h.pa) fun σ H Hf ρ P Q e q k => ⟨Hf, ρ, _, e, q, fun vs H1 Hf1 ds ρ1 e1 m1 r1 _ ⟨hz, p1⟩ => ⟨by rw [r1.length]; exact lim hz, fun n hn => ?_⟩⟩
  obtain ⟨x1, x2⟩ := new_lst e1.sub hn r1
  exact k _ _ _ _ ρ1 (x1.env e1) (m1.trans x1.mv) (x2.back m1.live) p1
end
def ixD : D → D → Option Res
  | .tup xs, .int i => (atI xs i).map .fz
  | .lst xs, .int i => (atI xs i).map .fz
  | .scr ns, .int i => (atI ns i).map fun n => .fz (.int n)
  | .str z, .int i => if z.length ≤ 100000 then (atI z.cps.toList i).map fun c => .fz (.str ⟨#[c]⟩) else none
  | _, _ => none
theorem RepL.atI {K : Fg} {H : Hp} {vs : List V} {ds : List D} {i : Int} {d : D} (r : RepL K H vs ds) (h : L2.atI ds i = some d) : ∃ v, L2.atI vs i = some v ∧ Rep K H v d := by
  unfold L2.atI at h ⊢
  rw [r.length]
  cases e : ixN ds.length i with
  | none => rw [e] at h; cases h
  | some j =>
    rw [e] at h
    exact r.get h
theorem opS_ix {K : Fg} : OpS K (rIx K) ixD := by
  intro H Hf x y a b c Q hf ra rb hg k
  cases rb <;> first | (cases a <;> simp [ixD] at hg; done) | skip
  rename_i i
  cases ra <;> first | (simp [ixD] at hg; done) | skip
  · rename_i z
    simp only [ixD] at hg
    split at hg
    · rename_i hz
      cases e : atI z.cps.toList i with
      | none => rw [e] at hg; cases hg
      | some ch =>
        rw [e] at hg
        cases hg
        exact .inr (.inr ⟨z, i, ch, rfl, rfl, lim hz, e, k _ _ _ (Ext.refl hf) (.str _)⟩)
    · cases hg
  · rename_i p ns hp
    simp only [ixD] at hg
    cases e : atI ns i with
    | none => rw [e] at hg; cases hg
    | some n =>
      rw [e] at hg
      cases hg
      refine .inl ⟨p, _, i, .int n, rfl, rfl, sqL_same hf hp, ?_, k _ _ _ (Ext.refl hf) (.int n)⟩
      unfold atI at e ⊢
      rw [List.length_map]
      cases e2 : ixN ns.length i with
      | none => rw [e2] at e; cases e
      | some j =>
        rw [e2] at e
        show (ns.map V.int)[j]? = _
        rw [List.getElem?_map]
        have e3 : ns[j]? = some n := e
        rw [e3]
        rfl
  · rename_i p xs ds hp rp
    simp only [ixD] at hg
    cases e : atI ds i with
    | none => rw [e] at hg; cases hg
    | some d =>
      rw [e] at hg
      cases hg
      obtain ⟨v, h1, h2⟩ := rp.atI e
      exact .inr (.inl ⟨p, xs, i, v, rfl, rfl, sqT_same hf hp, h1, k _ _ _ (Ext.refl hf) h2⟩)
  · rename_i p xs ds hp rp
    simp only [ixD] at hg
    cases e : atI ds i with
    | none => rw [e] at hg; cases hg
    | some d =>
      rw [e] at hg
      cases hg
      obtain ⟨v, h1, h2⟩ := rp.atI e
      exact .inl ⟨p, xs, i, v, rfl, rfl, .inl (.inl (hf _ _ hp)), h1, k _ _ _ (Ext.refl hf) h2⟩
theorem de_ix {X : Cx} {a b : Expr} {τa τb : TD} {pos : Pos} (ha : DE X a τa) (hb : DE X b τb) (hs : PlainIx b) : DE X (.Subscript a b pos) (tBin ixD τa τb) := by
  obtain ⟨ta, pa, sa⟩ := ha.fz
  obtain ⟨tb, pb, sb⟩ := hb.fz
  exact DE.of (pe_ix ix_seq pa pb hs) (run2 opS_ix sa sb)
end DL
namespace L2
open PySem PySem.Spec PyProof.Rows
theorem call_list_txt {X : Cx} (hc : X.calm = true) : CallR X (.type "list") (fun xs H Q => ∃ z : Str, xs = [.str z] ∧ z.length ≤ sizeLine ∧ ∀ l, H l = none → Q (.ref l) (upd H l (.lst (z.cps.toList.map fun c => V.str ⟨#[c]⟩)))) := by
  intro pins s σ H xs us Q I r h
  obtain ⟨z, rfl, hz, q⟩ := h
  obtain ⟨u, rfl, t, rfl⟩ := vals1 r
  refine call_list_str (I.ok.hd hc) z t (hn := hz) fun h' tk acc' c' hk hS' hacc => ?_
  have hv : Vals (z.cps.toList.map fun c => V.str ⟨#[c]⟩) acc'.toList := by
    have key : ∀ (cs : List Nat) (as : List Value), as.length = cs.length → (∀ (j : Nat) (v : Value), as[j]? = some v → ∃ c u, cs[j]? = some c ∧ v = .str ⟨#[c]⟩ u) → Vals (cs.map fun c => V.str ⟨#[c]⟩) as := by
      intro cs
      induction cs with
      | nil =>
        intro as hl _
        cases as with
        | nil => exact .nil
        | cons _ _ => simp at hl
      | cons c cs ih =>
        intro as hl hj
        cases as with
        | nil => simp at hl
        | cons a as =>
          obtain ⟨c0, u0, e1, e2⟩ := hj 0 a rfl
          cases e1
          refine .cons ⟨u0, e2⟩ (ih as (by simpa using hl) fun j v hv => ?_)
          exact hj (j + 1) v (by simpa using hv)
    refine key _ _ (by rw [Array.length_toList, Array.length_toList, hacc.1]) fun j v hv => ?_
    obtain ⟨c, u, hc', rfl⟩ := hacc.2 j v (by simpa using hv)
    exact ⟨c, u, by simpa using hc', rfl⟩
  have hl : (z.cps.toList.map fun c => V.str ⟨#[c]⟩).length ≤ sizeLine := by rw [List.length_map, Array.length_toList]; exact hz
  refine ⟨.ref s.heap.objs.size, _, I.laid (t' := tk) (o := .lst (z.cps.toList.map fun c => V.str ⟨#[c]⟩)) hk (Nat.le_refl _) ⟨hl, acc'.toList, c', hv, by simpa using hS'⟩, rfl, q _ (I.hok.fresh (Nat.le_refl _))⟩
end L2
namespace DL
open PySem L2
abbrev TDO := Ev → (Option Int → Ev → Prop) → Prop
def canO (K : Fg) (τ : TDO) : TO := fun σ H Q => ∃ (Hf : Hp) (ρ : Ev) (P : Option Int → Ev → Prop), DEnv K H Hf σ ρ ∧ τ ρ P ∧ (∀ o H' Hf' ρ', DEnv K H' Hf' σ ρ' → Mv σ ρ ρ' H H' Hf Hf' → P o ρ' → Q o H')
structure DO (X : Cx) (e : Option Expr) (τ : TDO) : Prop where
  po : PO X e (canO X.K τ)
def tONone : TDO := fun ρ P => P none ρ
def tOSome (τ : TD) : TDO := fun ρ P => τ ρ fun r ρ1 => ∃ i, r.dat = .int i ∧ P (some i) ρ1
def cutD (xs : List D) (lo hi : Option Int) : List D := (xs.drop (HT.sIx xs.length 0 lo)).take (HT.sIx xs.length xs.length hi - HT.sIx xs.length 0 lo)
def slD : D → Option Int → Option Int → Option Res
  | .tup xs, lo, hi => some (.fz (.tup (cutD xs lo hi)))
  | .lst xs, lo, hi => some (.fr (cutD xs lo hi))
  | .str z, lo, hi => if z.length ≤ 100000 then some (.fz (.str (cutS z lo hi))) else none
  | _, _, _ => none
def tSlD (a : TD) (l h : TDO) : TD := fun ρ P => a ρ fun x ρ1 => l ρ1 fun lo ρ2 => h ρ2 fun hi ρ3 => ∃ c, slD x.dat lo hi = some c ∧ P c ρ3
def slR (K : Fg) : V → Option Int → Option Int → Hp → VK → Prop := fun x lo hi H Q => rSlA K x lo hi H Q ∨ (rSlL K x lo hi H Q ∨ rSlS x lo hi H Q)
theorem RepL.cut {K : Fg} {H : Hp} {vs : List V} {ds : List D} (r : RepL K H vs ds) (lo hi : Option Int) : RepL K H (cutV vs lo hi) (cutD ds lo hi) := by
  unfold cutV cutD
  rw [r.length]
  exact (r.drop _).take _
theorem slS {K : Fg} {H Hf : Hp} {x : V} {a : D} {lo hi : Option Int} {c : Res} {Q : VK} (hf : ∀ b o, Hf b = some o → H b = some o) (ra : Rep K Hf x a) (hg : slD a lo hi = some c)
    (k : ∀ v H' Hf', Ext H H' Hf Hf' → ResOk K H H' Hf' v c → Q v H') : slR K x lo hi H Q := by
  cases ra <;> first | (simp [slD] at hg; done) | skip
  · rename_i z
    simp only [slD] at hg
    split at hg
    · rename_i hz
      cases hg
      exact .inr (.inr ⟨z, rfl, lim hz, k _ _ _ (Ext.refl hf) (.str _)⟩)
    · cases hg
  · rename_i p xs ds hp rp
    simp only [slD] at hg
    cases hg
    refine .inl ⟨p, xs, rfl, sqT_same hf hp, fun z => ?_, fun _ n hn => ?_⟩
    · refine k _ _ _ (Ext.refl hf) (.tup hp ?_)
      have e : cutD ds lo hi = ds := by
        unfold cutD
        rw [← rp.length, z.1, z.2, List.drop_zero, Nat.sub_zero, rp.length]
        exact List.take_length
      rw [e]
      exact rp
    · obtain ⟨x1, x2⟩ := new_tup hf hn (rp.cut lo hi)
      exact k _ _ _ x1 x2
  · rename_i p xs ds hp rp
    simp only [slD] at hg
    cases hg
    refine .inr (.inl ⟨p, xs, rfl, .inl (.inl (hf _ _ hp)), fun n hn => ?_⟩)
    obtain ⟨x1, x2⟩ := new_lst hf hn (rp.cut lo hi)
    exact k _ _ _ x1 x2
section
variable {X : Cx} {pos p2 : Pos} {a e : Expr} {es : List Expr} {τa τ : TD} {τs : TDA}
theorem do_none : DO X none tONone := ⟨⟨fun pins s σ H Q I ⟨Hf, ρ, P, e, q, k⟩ => po_none.run pins s σ H Q I (k none H Hf ρ e (Mv.refl ..) q)⟩⟩
theorem do_some (h : DE X e τ) : DO X (some e) (tOSome τ) := by
  obtain ⟨t, p, sa⟩ := h.fz
  refine ⟨⟨fun pins s σ H Q I ⟨Hf, ρ, P, e, q, k⟩ => (po_some p).run pins s σ H Q I (sa σ H Hf ρ (fun d ρ1 => ∃ i, d = .int i ∧ P (some i) ρ1) _ e q fun v H1 Hf1 d ρ1 e1 m1 r1 ⟨i, hi, p1⟩ => ?_)⟩⟩
  subst hi
  exact ⟨i, r1.int_inv, k _ H1 Hf1 ρ1 e1 m1 p1⟩
theorem de_sl {lo hi : Option Expr} {τl τh : TDO} (ha : DE X a τa) (hl : DO X lo τl) (hh : DO X hi τh) : DE X (.Subscript a (.Slice lo hi none p2) pos) (tSlD τa τl τh) := by
  obtain ⟨ta, pa, sa⟩ := ha.fz
  refine DE.of (pe_slice (SlR.or sl_tupA (SlR.or sl_list sl_str)) pa hl.po hh.po) fun σ H Hf ρ P Q e q k => ?_
  refine sa σ H Hf ρ (fun d ρ1 => τl ρ1 fun lo ρ2 => τh ρ2 fun hi ρ3 => ∃ c, slD d lo hi = some c ∧ P c ρ3) _ e q fun v H1 Hf1 d ρ1 e1 m1 r1 p1 => ?_
  refine ⟨Hf1, ρ1, _, e1, p1, fun lo H2 Hf2 ρ2 e2 m2 p2 => ⟨Hf2, ρ2, _, e2, p2, fun hi H3 Hf3 ρ3 e3 m3 p3 => ?_⟩⟩
  obtain ⟨c, hc, p4⟩ := p3
  have m := (m1.trans m2).trans m3
  exact slS (Q := Q) e3.sub ((r1.mono m2.grow).mono m3.grow) hc fun v H4 Hf4 x4 ok => k v H4 Hf4 c ρ3 (x4.env e3) (m.trans x4.mv) (ok.back m.live) p4
def CallS (K : Fg) (r : List V → Hp → VK → Prop) (g : List D → Option Res) : Prop := ∀ (H Hf : Hp) (xs : List V) (ds : List D) (c : Res) (Q : VK), (∀ b o, Hf b = some o → H b = some o) → RepL K Hf xs ds → g ds = some c →
  (∀ v H' Hf', Ext H H' Hf Hf' → ResOk K H H' Hf' v c → Q v H') → r xs H Q
def tCallG (g : List D → Option Res) (τ : TDA) : TD := fun ρ P => τ ρ fun ds ρ1 => ∃ c, g ds = some c ∧ P c ρ1
theorem runC {n : Nat} {r : List V → Hp → VK → Prop} {g : List D → Option Res} (hs : CallS X.K r g) (σ : St) (H Hf : Hp) (ρ : Ev) (P : Res → Ev → Prop) (Q : VK) (e : DEnv X.K H Hf σ ρ) (q : tCallG g τs ρ P)
    (k : ∀ v H' Hf' r ρ', DEnv X.K H' Hf' σ ρ' → Mv σ ρ ρ' H H' Hf Hf' → ResOk X.K H H' Hf' v r → P r ρ' → Q v H') : tCB r (canA X.K n τs) σ H Q := by
  refine ⟨Hf, ρ, _, e, q, fun vs H1 Hf1 ds ρ1 e1 m1 r1 _ ⟨c, hc, p1⟩ => ?_⟩
  exact hs H1 Hf1 vs ds c Q e1.sub r1 hc fun v H2 Hf2 x2 ok => k v H2 Hf2 c ρ1 (x2.env e1) (m1.trans x2.mv) (ok.back m1.live) p1
theorem de_callB {x : Str} {id : String} {p : Pos} {r : List V → Hp → VK → Prop} {g : List D → Option Res} (hc : CallR X (.builtin id) r) (hs : CallS X.K r g) (hg : Gl X x) (hm : X.mg x = none) (hv : bootBuiltins x = some (.builtin id)) (ha : DA X (e :: es) τs)
    (hn : x ≠ "__name__" := by decide) (hdb : (x == ("__debug__" : Str)) = false := by decide) (he : starEach (e :: es) X.env = (false, eval e X.env) :: starEach es X.env := by rfl) (hpl : (backTo pos (starEach es X.env)).any (·.1) = false := by rfl) :
    DE X (.Call (.Name x p) (e :: es) [] pos) (tCallG g τs) := DE.of (pe_callB hc hg hm hv ha.pa hn hdb he hpl) (runC hs)
theorem de_callTy {x : Str} {T : String} {p : Pos} {r : List V → Hp → VK → Prop} {g : List D → Option Res} (hc : CallR X (.type T) r) (hs : CallS X.K r g) (hg : Gl X x) (hm : X.mg x = none) (hv : bootBuiltins x = some (.type T)) (ha : DA X (e :: es) τs)
    (hn : x ≠ "__name__" := by decide) (hdb : (x == ("__debug__" : Str)) = false := by decide) (he : starEach (e :: es) X.env = (false, eval e X.env) :: starEach es X.env := by rfl) (hpl : (backTo pos (starEach es X.env)).any (·.1) = false := by rfl) :
    DE X (.Call (.Name x p) (e :: es) [] pos) (tCallG g τs) := DE.of (pe_callTy hc hg hm hv ha.pa hn hdb he hpl) (runC hs)
theorem callR_or {f : Value} {r r' : List V → Hp → VK → Prop} (h : CallR X f r) (h' : CallR X f r') : CallR X f (fun xs H Q => r xs H Q ∨ r' xs H Q) := by
  intro pins s σ H xs us Q I r q
  rcases q with q | q
  · exact h pins s σ H xs us Q I r q
  · exact h' pins s σ H xs us Q I r q
end
def lenD : List D → Option Res
  | [.str z] => if z.length ≤ 100000 then some (.fz (.int z.length)) else none
  | [.tup xs] => some (.fz (.int xs.length))
  | [.lst xs] => some (.fz (.int xs.length))
  | [.scr ns] => some (.fz (.int ns.length))
  | _ => none
theorem callS_len {K : Fg} : CallS K (fun xs H Q => ∃ x n, xs = [x] ∧ LenV K x H n ∧ Q (.int n) H) lenD := by
  intro H Hf xs ds c Q hf r hg k
  cases r with
  | nil => simp [lenD] at hg
  | cons ra rs =>
    cases rs with
    | cons _ _ => cases ra <;> simp [lenD] at hg
    | nil =>
      cases ra <;> first | (simp [lenD] at hg; done) | skip
      · rename_i z
        simp only [lenD] at hg
        split at hg
        · rename_i hz
          cases hg
          exact ⟨_, z.length, rfl, ⟨lim hz, rfl⟩, k _ _ _ (Ext.refl hf) (.int _)⟩
        · cases hg
      · rename_i p ns hp
        simp only [lenD] at hg
        cases hg
        exact ⟨_, ns.length, rfl, .inl ⟨_, sqL_same hf hp, (List.length_map _).symm⟩, k _ _ _ (Ext.refl hf) (.int _)⟩
      · rename_i p xs ds hp rp
        simp only [lenD] at hg
        cases hg
        exact ⟨_, ds.length, rfl, .inr ⟨xs, sqT_same hf hp, rp.length.symm⟩, k _ _ _ (Ext.refl hf) (.int _)⟩
      · rename_i p xs ds hp rp
        simp only [lenD] at hg
        cases hg
        exact ⟨_, ds.length, rfl, .inl ⟨xs, .inl (.inl (hf _ _ hp)), rp.length.symm⟩, k _ _ _ (Ext.refl hf) (.int _)⟩
def blsOf : List D → Option (List Bool)
  | [] => some []
  | .bl i :: r => (blsOf r).map (i :: ·)
  | _ => none
def strsOf : List D → Option (List Str)
  | [] => some []
  | .str i :: r => (strsOf r).map (i :: ·)
  | _ => none
theorem RepL.bls {K : Fg} {H : Hp} : ∀ {vs : List V} {ds : List D} {ns : List Bool}, RepL K H vs ds → blsOf ds = some ns → vs = ns.map V.bl
  | _, _, ns, .nil, h => by
    simp only [blsOf, Option.some.injEq] at h
    subst h
    rfl
  | _, _, ns, .cons (d := d) (ds := ds) a r, h => by
    cases d <;> first | (simp [blsOf] at h; done) | skip
    simp only [blsOf] at h
    cases e : blsOf ds with
    | none => rw [e] at h; cases h
    | some ms =>
      rw [e] at h
      cases h
      cases a
      rw [r.bls e]
      rfl
theorem RepL.strs {K : Fg} {H : Hp} : ∀ {vs : List V} {ds : List D} {ns : List Str}, RepL K H vs ds → strsOf ds = some ns → vs = ns.map V.str
  | _, _, ns, .nil, h => by
    simp only [strsOf, Option.some.injEq] at h
    subst h
    rfl
  | _, _, ns, .cons (d := d) (ds := ds) a r, h => by
    cases d <;> first | (simp [strsOf] at h; done) | skip
    simp only [strsOf] at h
    cases e : strsOf ds with
    | none => rw [e] at h; cases h
    | some ms =>
      rw [e] at h
      cases h
      cases a
      rw [r.strs e]
      rfl
def allD : List D → Option Res
  | [.lst ds] => (blsOf ds).map fun ns => .fz (.bl (ns.all id))
  | _ => none
def anyD : List D → Option Res
  | [.lst ds] => (blsOf ds).map fun ns => .fz (.bl (ns.any id))
  | _ => none
theorem callS_all {K : Fg} : CallS K (rAll K) allD := by
  intro H Hf xs ds c Q hf r hg k
  match ds, hg with
  | [.lst es], hg =>
    cases r with
    | cons ra rs =>
      cases rs
      cases ra with
      | lst hp rp =>
        simp only [allD] at hg
        cases e : blsOf es with
        | none => rw [e] at hg; cases hg
        | some ns =>
          rw [e] at hg
          cases hg
          have z := rp.bls e
          subst z
          exact ⟨_, ns, rfl, .inl (.inl (hf _ _ hp)), k _ _ _ (Ext.refl hf) (.bl _)⟩
theorem callS_any {K : Fg} : CallS K (rAny K) anyD := by
  intro H Hf xs ds c Q hf r hg k
  match ds, hg with
  | [.lst es], hg =>
    cases r with
    | cons ra rs =>
      cases rs
      cases ra with
      | lst hp rp =>
        simp only [anyD] at hg
        cases e : blsOf es with
        | none => rw [e] at hg; cases hg
        | some ns =>
          rw [e] at hg
          cases hg
          have z := rp.bls e
          subst z
          exact ⟨_, ns, rfl, .inl (.inl (hf _ _ hp)), k _ _ _ (Ext.refl hf) (.bl _)⟩
def signsD (z : Str) : List D := z.cps.toList.map fun c => .str ⟨#[c]⟩
def listD : List D → Option Res
  | [.lst ds] => some (.fr ds)
  | [.tup ds] => some (.fr ds)
  | [.str z] => if z.length ≤ 100000 then some (.fr (signsD z)) else none
  | _ => none
def tupleD : List D → Option Res
  | [.lst ds] => some (.fz (.tup ds))
  | [.tup ds] => some (.fz (.tup ds))
  | _ => none
theorem repL_signs {K : Fg} {H : Hp} : ∀ cs : List Nat, RepL K H (cs.map fun c => V.str ⟨#[c]⟩) (cs.map fun c => D.str ⟨#[c]⟩)
  | [] => .nil
  | c :: cs => .cons (.str _) (repL_signs cs)
def listR (K : Fg) : List V → Hp → VK → Prop := fun xs H Q => (∃ p ys, xs = [V.ref p] ∧ (SqL K H p ys ∨ SqT K H p ys) ∧ ∀ l, H l = none → Q (.ref l) (upd H l (.lst ys))) ∨
  (∃ z : Str, xs = [V.str z] ∧ z.length ≤ sizeLine ∧ ∀ l, H l = none → Q (.ref l) (upd H l (.lst (z.cps.toList.map fun c => V.str ⟨#[c]⟩))))
theorem callR_list {X : Cx} (hc : X.calm = true) : CallR X (.type "list") (listR X.K) := callR_or call_list_of (call_list_txt hc)
theorem callS_list {K : Fg} : CallS K (listR K) listD := by
  intro H Hf xs ds c Q hf r hg k
  match ds, hg with
  | [.lst es], hg =>
    cases r with
    | cons ra rs =>
      cases rs
      cases ra with
      | lst hp rp =>
        cases hg
        refine .inl ⟨_, _, rfl, .inl (.inl (.inl (hf _ _ hp))), fun n hn => ?_⟩
        obtain ⟨x1, x2⟩ := new_lst hf hn rp
        exact k _ _ _ x1 x2
  | [.tup es], hg =>
    cases r with
    | cons ra rs =>
      cases rs
      cases ra with
      | tup hp rp =>
        cases hg
        refine .inl ⟨_, _, rfl, .inr (sqT_same hf hp), fun n hn => ?_⟩
        obtain ⟨x1, x2⟩ := new_lst hf hn rp
        exact k _ _ _ x1 x2
  | [.str z], hg =>
    cases r with
    | cons ra rs =>
      cases rs
      cases ra
      simp only [listD] at hg
      split at hg
      · rename_i hz
        cases hg
        refine .inr ⟨z, rfl, lim hz, fun n hn => ?_⟩
        obtain ⟨x1, x2⟩ := new_lst (K := K) hf hn (repL_signs z.cps.toList)
        exact k _ _ _ x1 x2
      · cases hg
theorem callS_tuple {K : Fg} : CallS K (fun xs H Q => ∃ p ys, xs = [.ref p] ∧ ((SqL K H p ys ∧ ∀ l, H l = none → Q (.ref l) (upd H l (.tup ys))) ∨ (SqT K H p ys ∧ Q (.ref p) H))) tupleD := by
  intro H Hf xs ds c Q hf r hg k
  match ds, hg with
  | [.lst es], hg =>
    cases r with
    | cons ra rs =>
      cases rs
      cases ra with
      | lst hp rp =>
        cases hg
        refine ⟨_, _, rfl, .inl ⟨.inl (.inl (hf _ _ hp)), fun n hn => ?_⟩⟩
        obtain ⟨x1, x2⟩ := new_tup hf hn rp
        exact k _ _ _ x1 x2
  | [.tup es], hg =>
    cases r with
    | cons ra rs =>
      cases rs
      cases ra with
      | tup hp rp =>
        cases hg
        exact ⟨_, _, rfl, .inr ⟨sqT_same hf hp, k _ _ _ (Ext.refl hf) (.tup hp rp)⟩⟩
def intOfD : List D → Option Res
  | [.int i] => some (.fz (.int i))
  | [.bl b] => some (.fz (.int (if b then 1 else 0)))
  | _ => none
theorem callS_int {K : Fg} : CallS K (fun xs H Q => (∃ i, xs = [.int i] ∧ Q (.int i) H) ∨ ∃ k, xs = [.bl k] ∧ Q (.int (if k then 1 else 0)) H) intOfD := by
  intro H Hf xs ds c Q hf r hg k
  match ds, hg with
  | [.int i], hg =>
    cases r with
    | cons ra rs =>
      cases rs
      cases ra
      cases hg
      exact .inl ⟨i, rfl, k _ _ _ (Ext.refl hf) (.int _)⟩
  | [.bl b], hg =>
    cases r with
    | cons ra rs =>
      cases rs
      cases ra
      cases hg
      exact .inr ⟨b, rfl, k _ _ _ (Ext.refl hf) (.int _)⟩
def joinD : D → D → Option Res
  | .str s, .lst ds => match strsOf ds with
    | some ys => if (ys.map (·.length)).sum + ys.length * s.length ≤ 100000 then some (.fz (.str (Txt.join s ys))) else none
    | none => none
  | .str s, .tup ds => match strsOf ds with
    | some ys => if (ys.map (·.length)).sum + ys.length * s.length ≤ 100000 then some (.fz (.str (Txt.join s ys))) else none
    | none => none
  | _, _ => none
theorem de_join {X : Cx} {o e : Expr} {τo τe : TD} {apos pos : Pos} (ho : DE X o τo) (he : DE X e τe) (hs : starEach [e] X.env = [(false, eval e X.env)] := by rfl) (hbase : attributeBase o "join" X.env (eval o X.env) = eval o X.env := by rfl) (hline : (apos.endLine == pos.line) = true := by rfl) :
    DE X (.Call (.Attribute o "join" apos) [e] [] pos) (fun ρ P => τo ρ fun x ρ1 => (∃ z, x.dat = .str z) ∧ τe ρ1 fun y ρ2 => ∃ c, joinD x.dat y.dat = some c ∧ P c ρ2) := by
  obtain ⟨to, po, so⟩ := ho.fz
  obtain ⟨te, pe, se⟩ := he.fz
  refine DE.of (pe_join po pe hs hbase hline) fun σ H Hf ρ P Q e q k => ?_
  refine so σ H Hf ρ (fun x ρ1 => (∃ z, x = .str z) ∧ τe ρ1 fun y ρ2 => ∃ c, joinD x y.dat = some c ∧ P c ρ2) _ e q fun x H1 Hf1 dx ρ1 e1 m1 r1 q1 => ?_
  obtain ⟨⟨z, rfl⟩, q1⟩ := q1
  cases r1
  refine ⟨⟨_, rfl⟩, ?_⟩
  refine se σ H1 Hf1 ρ1 (fun y ρ2 => ∃ c, joinD (.str z) y = some c ∧ P c ρ2) _ e1 q1 fun y H2 Hf2 dy ρ2 e2 m2 r2 q2 => ?_
  obtain ⟨c, hc, p⟩ := q2
  have fin : ∀ ys : List Str, (if (ys.map (·.length)).sum + ys.length * z.length ≤ 100000 then some (Res.fz (.str (Txt.join z ys))) else none) = some c → (ys.map (·.length)).sum + ys.length * z.length ≤ 16777216 ∧ Q (.str (Txt.join z ys)) H2 := by
    intro ys h
    split at h
    · rename_i hz
      cases h
      exact ⟨Nat.le_trans hz (by decide), k _ H2 Hf2 (.fz (.str (Txt.join z ys))) ρ2 e2 (m1.trans m2) (Rep.str _) p⟩
    · cases h
  cases r2 <;> first | (simp [joinD] at hc; done) | skip
  · rename_i p xs ds hp rp
    simp only [joinD] at hc
    cases e : strsOf ds with
    | none => rw [e] at hc; cases hc
    | some ys =>
      rw [e] at hc
      have zz := rp.strs e
      subst zz
      exact ⟨z, p, ys, rfl, rfl, .inr (sqT_same e2.sub hp), fin ys hc⟩
  · rename_i p xs ds hp rp
    simp only [joinD] at hc
    cases e : strsOf ds with
    | none => rw [e] at hc; cases hc
    | some ys =>
      rw [e] at hc
      have zz := rp.strs e
      subst zz
      exact ⟨z, p, ys, rfl, rfl, .inl (.inl (.inl (e2.sub _ _ hp))), fin ys hc⟩
end DL
namespace DL
open PySem L2
abbrev FS0 := List D → (Res → Prop) → Prop
abbrev FS1 := List D → List D → (Res → List D → Prop) → Prop
def sp0 (K : Fg) (n : Nat) (f : FS0) : Sp := fun vs H Q _ => ∃ (Hf : Hp) (ds : List D) (P : Res → Prop), (∀ b o, Hf b = some o → H b = some o) ∧ RepL K Hf vs ds ∧ ds.length = n ∧ f ds P ∧
  ∀ v H' Hf' r, Ext H H' Hf Hf' → ResOk K H H' Hf' v r → P r → Q v H'
structure ExtB (a : Addr) (H H' Hf Hf' : Hp) : Prop where
  same : ∀ b o, H b = some o → b ≠ a → H' b = some o
  live : ∀ b, H' b = none → H b = none
  sub : ∀ b o, Hf' b = some o → H' b = some o
  grow : ∀ b o, Hf b = some o → Hf' b = some o
  new : ∀ b o, Hf' b = some o → Hf b = some o ∨ H b = none
def sp1 (K : Fg) (n : Nat) (f : FS1) : Sp := fun vs H Q _ => ∃ (Hf : Hp) (a : Addr) (us ys : List V) (xs ds : List D) (P : Res → List D → Prop), vs = .ref a :: us ∧ (∀ b o, Hf b = some o → H b = some o) ∧ H a = some (.lst ys) ∧ Hf a = none ∧ RepL K Hf ys xs ∧
  RepL K Hf us ds ∧ ds.length + 1 = n ∧ f xs ds P ∧ ∀ v H' Hf' r ys' xs', ExtB a H H' Hf Hf' → H' a = some (.lst ys') → Hf' a = none → RepL K Hf' ys' xs' → ResOk K H H' Hf' v r → P r xs' → Q v H'
section
variable {X : Cx} {pos p : Pos} {e : Expr} {es : List Expr} {τ : TD} {τs : TDA} {x : Str} {f : Addr} {fd : FuncData} {ps : List Str} {k n : Nat}
def tCall0 (g : FS0) (τ : TDA) : TD := fun ρ P => τ ρ fun ds ρ1 => g ds fun r => P r ρ1
theorem de_call0 {g : FS0} (F : FnOk X.prog X.w X.K X.mg X.base CX0 k f fd ps (sp0 X.K n g)) (hr : Room k X.A) (hg : Gl X x) (hm : X.mg x = some (.ref f)) (hk : PySem.W.keepIn X.K (.ref f) = true) (hb : Binds X.K fd ps [])
    (ha : DA X (e :: es) τs) (hl : (e :: es).length = n := by rfl) (hdb : (x == ("__debug__" : Str)) = false := by decide) (he : starEach (e :: es) X.env = (false, eval e X.env) :: starEach es X.env := by rfl) (hpl : (backTo pos (starEach es X.env)).any (·.1) = false := by rfl) :
    DE X (.Call (.Name x p) (e :: es) [] pos) (tCall0 g τs) := by
  refine DE.of (pe_call F hr hg hm hk hb .nil pass0 ha.pa hdb he hpl) fun σ H Hf ρ P Q e q k => ⟨Hf, ρ, _, e, q, fun vs H1 Hf1 ds ρ1 e1 m1 r1 hds p1 => ?_⟩
  show sp0 X.K n g (vs ++ []) H1 Q _
  rw [List.append_nil]
  exact ⟨Hf1, ds, _, e1.sub, r1, hds.trans hl, p1, fun v H2 Hf2 r x2 ok p2 => k v H2 Hf2 r ρ1 (x2.env e1) (m1.trans x2.mv) (ok.back m1.live) p2⟩
end
theorem own_upd {K : Fg} {H Hf : Hp} {σ : St} {ρ : Ev} {i : Nat} {p : Bool} {xs xs' : List D} {a : Addr} {ys' : List V} (e : DEnv K H Hf σ ρ) (h : ρ[i]? = some (some (.ow p xs))) (ha : σ[i]? = some (some (.ref a))) (r : RepL K Hf ys' xs') :
    DEnv K (upd H a (.lst ys')) Hf σ (ρ.set i (some (.ow p xs'))) ∧ Mv σ ρ (ρ.set i (some (.ow p xs'))) H (upd H a (.lst ys')) Hf Hf := by
  obtain ⟨b, ys, h1, h2, h3, h4⟩ := e.sl i _ h
  rw [ha] at h1
  cases h1
  have hlt := lt_of h
  refine ⟨⟨fun b o q => ?_, fun j s q => ?_, fun j k b pj us pk zs q1 q2 q3 q4 => ?_, by rw [List.length_set]; exact e.len⟩, ⟨fun b o q hn => ?_, fun b q => ?_, fun _ _ q => q, fun b o q => .inl q, fun j p' us q => ?_, fun j us q => ?_⟩⟩
  · rw [upd_ne (ne_of_none q h3)]
    exact e.sub b o q
  · rw [set_get] at q
    by_cases hj : i = j
    · subst hj
      rw [if_pos rfl, if_pos hlt] at q
      cases q
      exact ⟨a, ys', ha, upd_same, h3, r⟩
    · rw [if_neg hj] at q
      have z := e.sl j s q
      cases s with
      | fz d => exact z
      | ow pp us =>
        obtain ⟨b, zs, z1, z2, z3, z4⟩ := z
        have hb : b ≠ a := fun w => by
          subst w
          exact hj (e.sep i j b _ _ _ _ h q ha z1)
        exact ⟨b, zs, z1, by rw [upd_ne hb]; exact z2, z3, z4⟩
  · have back : ∀ {m : Nat} {pp : Bool} {vs : List D}, (ρ.set i (some (.ow p xs')))[m]? = some (some (.ow pp vs)) → ∃ p2 vs2, ρ[m]? = some (some (.ow p2 vs2)) := by
      intro m pp vs q
      rw [set_get] at q
      by_cases hm : i = m
      · subst hm
        exact ⟨_, _, h⟩
      · rw [if_neg hm] at q
        exact ⟨_, _, q⟩
    obtain ⟨_, _, w1⟩ := back q1
    obtain ⟨_, _, w2⟩ := back q2
    exact e.sep j k b _ _ _ _ w1 w2 q3 q4
  · rw [upd_ne (fun z => hn ⟨i, p, xs, h, by rw [z]; exact ha⟩)]
    exact q
  · by_cases hb : b = a
    · subst hb
      rw [upd_same] at q
      cases q
    · rw [upd_ne hb] at q
      exact q
  · rw [set_get] at q
    by_cases hj : i = j
    · subst hj
      rw [if_pos rfl, if_pos hlt] at q
      cases q
      exact ⟨xs, h⟩
    · rw [if_neg hj] at q
      exact ⟨us, q⟩
  · by_cases hj : i = j
    · subst hj
      rw [h] at q
      cases q
      exact ⟨xs', by rw [set_get, if_pos rfl, if_pos hlt]⟩
    · exact ⟨us, by rw [set_get, if_neg hj]; exact q⟩
section
variable {X : Cx} {pos p apos : Pos} {b e : Expr} {es : List Expr} {τ τb : TD} {τs : TDA} {x : Str}
def tIxO (i : Nat) (τb : TD) : TD := fun ρ P => (∃ p xs, ρ[i]? = some (some (.ow p xs))) ∧ τb ρ fun y ρ1 => ∃ p xs k d, ρ1[i]? = some (some (.ow p xs)) ∧ y.dat = .int k ∧ atI xs k = some d ∧ P (.fz d) ρ1
theorem de_ixO (i : Nat) (hb : DE X b τb) (hs : PlainIx b) (hN : X.N[i]? = some x := by rfl) (hv : Vis X.env.scope x := by first | exact Or.inl rfl | exact Or.inr (Or.inl rfl) | exact Or.inr (Or.inr rfl)) (hd : (x == ("__debug__" : Str)) = false := by decide) (hcd : (x == ("__classdict__" : Str)) = false := by decide) :
    DE X (.Subscript (.Name x p) b pos) (tIxO i τb) := by
  obtain ⟨tb, pb, sb⟩ := hb.fz
  refine DE.of (pe_ix ix_seq (pe_var hN hv hd hcd) pb hs) fun σ H Hf ρ P Q e ⟨⟨p0, xs0, h0⟩, q⟩ k => ?_
  obtain ⟨a, ys, h1, _⟩ := e.sl i _ h0
  refine ⟨.ref a, h1, sb σ H Hf ρ (fun y ρ1 => ∃ p xs k d, ρ1[i]? = some (some (.ow p xs)) ∧ y = .int k ∧ atI xs k = some d ∧ P (.fz d) ρ1) _ e q fun y H1 Hf1 dy ρ1 e1 m1 r1 ⟨p1, xs, kk, d, g1, g2, g3, g4⟩ => ?_⟩
  subst g2
  obtain ⟨a', ys1, z1, z2, z3, z4⟩ := e1.sl i _ g1
  rw [h1] at z1
  cases z1
  obtain ⟨v, w1, w2⟩ := z4.atI g3
  cases r1
  exact .inl ⟨a, ys1, kk, v, rfl, rfl, .inl (.inl z2), w1, k v H1 Hf1 (.fz d) ρ1 e1 m1 w2 g4⟩
def tLenO (i : Nat) : TD := fun ρ P => ∃ p xs, ρ[i]? = some (some (.ow p xs)) ∧ P (.fz (.int (List.length xs : Int))) ρ
theorem de_lenO (i : Nat) (hg : Gl X "len") (hm : X.mg "len" = none) (hN : X.N[i]? = some x := by rfl) (hv : Vis X.env.scope x := by first | exact Or.inl rfl | exact Or.inr (Or.inl rfl) | exact Or.inr (Or.inr rfl)) (hd : (x == ("__debug__" : Str)) = false := by decide) (hcd : (x == ("__classdict__" : Str)) = false := by decide) :
    DE X (.Call (.Name "len" p) [.Name x apos] [] pos) (tLenO i) := by
  refine DE.of (pe_callB call_len hg hm PySem.boot_len (pa_cons (pe_var hN hv hd hcd) pa_nil)) fun σ H Hf ρ P Q e ⟨p0, xs, h0, q⟩ k => ?_
  obtain ⟨a, ys, h1, h2, h3, h4⟩ := e.sl i _ h0
  refine ⟨.ref a, h1, .ref a, xs.length, rfl, .inl ⟨ys, .inl (.inl h2), h4.length.symm⟩, ?_⟩
  exact k _ H Hf (.fz (.int xs.length)) ρ e (Mv.refl ..) (Rep.int _) q
def tPopO (i : Nat) (τ : TDA) : TD := fun ρ P => (∃ p xs, ρ[i]? = some (some (.ow p xs))) ∧ τ ρ fun ds ρ1 => ∃ p xs k j d, ρ1[i]? = some (some (.ow p xs)) ∧ ds = [.int k] ∧ (-(2 ^ 63) ≤ k ∧ k < 2 ^ 63) ∧ seqIndex? k xs.length = some j ∧ xs[j]? = some d ∧ P (.fz d) (ρ1.set i (some (.ow p (xs.eraseIdx j))))
theorem de_popO (i : Nat) (ha : DA X [e] τs) (hN : X.N[i]? = some x := by rfl) (hv : Vis X.env.scope x := by first | exact Or.inl rfl | exact Or.inr (Or.inl rfl) | exact Or.inr (Or.inr rfl)) (hd : (x == ("__debug__" : Str)) = false := by decide) (hcd : (x == ("__classdict__" : Str)) = false := by decide)
    (he : starEach [e] X.env = (false, eval e X.env) :: starEach [] X.env := by rfl) (hbase : attributeBase (.Name x p) "pop" X.env (eval (.Name x p) X.env) = eval (.Name x p) X.env := by rfl) (hfew : ((backTo pos (starEach [e] X.env)).all (fun x => !x.1) && (backToKw pos (keywordEach [] X.env)).all (fun x => x.1.isSome) && decide ([e].length + ([] : List Keyword).length + (if ([] : List Keyword).isEmpty then 0 else 1) < 30)) = true := by rfl) (hline : (apos.endLine == pos.line) = true := by rfl) :
    DE X (.Call (.Attribute (.Name x p) "pop" apos) [e] [] pos) (tPopO i τs) := by
  refine DE.of (pe_bm PySem.F.plainAttrs_list PySem.F.slot_list_pop PySem.F.type_list_pop mt_popAt (pe_var hN hv hd hcd) ha.pa hbase hfew hline he rfl) fun σ H Hf ρ P Q e ⟨⟨p0, xs0, h0⟩, q⟩ k => ?_
  obtain ⟨a, ys, h1, h2, h3, h4⟩ := e.sl i _ h0
  refine ⟨.ref a, h1, .inl ⟨rfl, ys, .inl (.inl h2)⟩, ⟨Hf, ρ, _, e, q, fun vs H1 Hf1 ds ρ1 e1 m1 r1 _ ⟨p1, xs, kk, j, d, g1, g2, g3, g4, g5, g6⟩ => ?_⟩⟩
  subst g2
  cases r1 with
  | cons ra rr =>
    cases rr
    cases ra
    obtain ⟨a', ys1, z1, z2, z3, z4⟩ := e1.sl i _ g1
    rw [h1] at z1
    cases z1
    obtain ⟨v, w1, w2⟩ := z4.get g5
    obtain ⟨e2, m2⟩ := own_upd e1 g1 h1 (z4.eraseIdx j)
    refine ⟨a, ys1, kk, j, v, rfl, rfl, z2, g3.1, g3.2, by rw [z4.length]; exact g4, w1, ?_⟩
    exact k v _ Hf1 (.fz d) _ e2 (m1.trans m2) w2 g6
end
end DL
namespace DL
open PySem PySem.Spec PyProof.Rows L2
structure FunA (K : PySem.W.Frag) (x qual : Str) (st : Stmt) (f : Addr) (fd : FuncData) : Prop where
  ex : ∃ dvs kws, FunD K x qual (defArgs st) (defBody st) (defScope st) dvs kws f fd
section
variable {P : Program} {w : World} {K : PySem.W.Frag} {mg : Str → Option Value} {base : Heap} {x qual : Str} {st : Stmt} {f : Addr} {fd : FuncData} {N ps : List Str} {k : Nat} {sp : Sp} {dvs : List V} {kws : List (Str × V)}
theorem FunA.of (F : FunD K x qual (defArgs st) (defBody st) (defScope st) dvs kws f fd) : FunA K x qual st f fd := ⟨⟨_, _, F⟩⟩
theorem FunA.kp (F : FunA K x qual st f fd) : PySem.W.keepIn K (.ref f) = true := let ⟨_, _, F⟩ := F.ex; F.kp
theorem FunA.ok (F : FunA K x qual st f fd) (S : FnScope N ps (defScope st)) (len : ∀ vs H Q E, sp vs H Q E → vs.length = ps.length)
    (hbody : ∀ (cdv : Value) (A : Around) (outer : List Env) (s : Shared) (H : Hp) (vs : List V) (Q : VK) (E : XK), Room k (A.deeper (envOfC qual (defScope st) s.heap.objs.size f cdv)) → sp vs H Q E →
      ∃ t, PSs (cxOf CX0 P w K mg base N qual (defScope st) f cdv A outer s H E).nox (defBody st) t ∧ t { nx := fun _ H' => Q .non H', rt := Q } (start N vs) H) : FnOk P w K mg base CX0 (k + 1) f fd ps sp := by
  obtain ⟨_, _, F⟩ := F.ex
  refine F.ok S len fun cdv A outer s H vs Q E hr hsp => ?_
  obtain ⟨t, h, q⟩ := hbody cdv A outer s H vs Q E hr hsp
  exact ⟨t, h.nox, q⟩
theorem FunA.okX (F : FunA K x qual st f fd) (S : FnScope N ps (defScope st)) (len : ∀ vs H Q E, sp vs H Q E → vs.length = ps.length)
    (hbody : ∀ (cdv : Value) (A : Around) (outer : List Env) (s : Shared) (H : Hp) (vs : List V) (Q : VK) (E : XK), Room k (A.deeper (envOfC qual (defScope st) s.heap.objs.size f cdv)) → sp vs H Q E →
      ∃ t, PSs (cxOf (L2.CX P w) P w K mg base N qual (defScope st) f cdv A outer s H E) (defBody st) t ∧ t { nx := fun _ H' => Q .non H', rt := Q } (start N vs) H) : FnOk P w K mg base (L2.CX P w) (k + 1) f fd ps sp := by
  obtain ⟨_, _, F⟩ := F.ex
  exact F.ok S len fun cdv A outer s H vs Q E hr hsp => hbody cdv A outer s H vs Q E hr hsp
end
end DL
namespace DL
open PySem L2
abbrev TDG := D → Ev → (Ev → Prop) → Prop
abbrev TDGs := List D → Ev → (Ev → Prop) → Prop
def pinB (ρ : Ev) (i : Nat) : Bool := match ρ[i]? with
  | some (some (.ow true _)) => true
  | _ => false
structure SetTo (is : List Nat) (σ σ' : St) (ρ ρ' : Ev) : Prop where
  each : ∀ i : Nat, (σ'[i]? = σ[i]? ∧ ρ'[i]? = ρ[i]?) ∨ ((∃ d, ρ'[i]? = some (some (.fz d))) ∧ pinB ρ i = false ∧ i ∈ is)
  len : σ'.length = σ.length
theorem SetTo.refl (is : List Nat) (σ : St) (ρ : Ev) : SetTo is σ σ ρ ρ := ⟨fun _ => .inl ⟨rfl, rfl⟩, rfl⟩
theorem SetTo.trans {is js : List Nat} {σ σ1 σ2 : St} {ρ ρ1 ρ2 : Ev} (a : SetTo is σ σ1 ρ ρ1) (b : SetTo js σ1 σ2 ρ1 ρ2) : SetTo (is ++ js) σ σ2 ρ ρ2 := ⟨fun i => by
  rcases b.each i with ⟨h1, h2⟩ | ⟨h1, h2, h2'⟩
  · rcases a.each i with ⟨h3, h4⟩ | ⟨⟨d, h3⟩, h4, h5⟩
    · exact .inl ⟨h1.trans h3, h2.trans h4⟩
    · exact .inr ⟨⟨d, h2.trans h3⟩, h4, List.mem_append_left _ h5⟩
  · rcases a.each i with ⟨h3, h4⟩ | ⟨h3, h4, h5⟩
    · exact .inr ⟨h1, by unfold pinB at h2 ⊢; rw [h4] at h2; exact h2, List.mem_append_right _ h2'⟩
    · exact .inr ⟨h1, h4, List.mem_append_left _ h5⟩, b.len.trans a.len⟩
def canG (K : Fg) (is : List Nat) (γ : TDG) : TG := fun v σ H Q => ∃ (Hf : Hp) (ρ : Ev) (d : D) (P : Ev → Prop), DEnv K H Hf σ ρ ∧ Rep K Hf v d ∧ γ d ρ P ∧ ∀ σ' H' Hf' ρ', DEnv K H' Hf' σ' ρ' → Ext H H' Hf Hf' → SetTo is σ σ' ρ ρ' → P ρ' → Q σ' H'
def canGs (K : Fg) (is : List Nat) (γ : TDGs) : TGs := fun vs σ H Q => ∃ (Hf : Hp) (ρ : Ev) (ds : List D) (P : Ev → Prop), DEnv K H Hf σ ρ ∧ RepL K Hf vs ds ∧ γ ds ρ P ∧ ∀ σ' H' Hf' ρ', DEnv K H' Hf' σ' ρ' → Ext H H' Hf Hf' → SetTo is σ σ' ρ ρ' → P ρ' → Q σ' H'
structure DG (X : Cx) (tg : Expr) (is : List Nat) (γ : TDG) : Prop where
  pg : PG X tg (canG X.K is γ)
structure DGs (X : Cx) (tgs : List Expr) (is : List Nat) (γ : TDGs) : Prop where
  pgs : PGs X tgs (canGs X.K is γ)
theorem set_slot {K : Fg} {H Hf : Hp} {σ : St} {ρ : Ev} {i : Nat} {v : V} {d : D} (e : DEnv K H Hf σ ρ) (r : Rep K Hf v d) : DEnv K H Hf (σ.set i (some v)) (ρ.set i (some (.fz d))) where
  sub := e.sub
  sl := fun j s h => by
    rw [set_get] at h
    by_cases hj : i = j
    · subst hj
      rw [if_pos rfl] at h
      split at h
      · rename_i hlt
        cases h
        exact ⟨v, by rw [List.getElem?_set, if_pos rfl, if_pos (by rw [e.len]; exact hlt)], r⟩
      · cases h
    · rw [if_neg hj] at h
      have z := e.sl j s h
      have es : (σ.set i (some v))[j]? = σ[j]? := by rw [List.getElem?_set, if_neg hj]
      cases s with
      | fz d => rw [es]; exact z
      | ow p us => rw [es]; exact z
  sep := fun j k a p xs q ys h1 h2 h3 h4 => by
    rw [set_get] at h1 h2
    by_cases hj : i = j
    · rw [if_pos hj] at h1
      split at h1 <;> cases h1
    by_cases hk : i = k
    · rw [if_pos hk] at h2
      split at h2 <;> cases h2
    rw [if_neg hj] at h1
    rw [if_neg hk] at h2
    rw [List.getElem?_set, if_neg hj] at h3
    rw [List.getElem?_set, if_neg hk] at h4
    exact e.sep j k a p xs q ys h1 h2 h3 h4
  len := by rw [List.length_set, List.length_set]; exact e.len
theorem setTo_slot {σ : St} {ρ : Ev} {i : Nat} {v : V} {d : D} (hl : σ.length = ρ.length) (hp : pinB ρ i = false) : SetTo [i] σ (σ.set i (some v)) ρ (ρ.set i (some (.fz d))) := ⟨fun j => by
  by_cases hj : i = j
  · subst hj
    by_cases hlt : i < ρ.length
    · exact .inr ⟨⟨d, by rw [set_get, if_pos rfl, if_pos hlt]⟩, hp, List.mem_singleton.mpr rfl⟩
    · exact .inl ⟨by rw [List.set_eq_of_length_le (by omega)], by rw [List.set_eq_of_length_le (by omega)]⟩
  · exact .inl ⟨by rw [List.getElem?_set, if_neg hj], by rw [set_get, if_neg hj]⟩, by rw [List.length_set]⟩
section
variable {X : Cx} {pos : Pos} {e : Expr} {es : List Expr} {γ : TDG} {γs : TDGs} {is js : List Nat}
def gN (i : Nat) : TDG := fun d ρ P => pinB ρ i = false ∧ P (ρ.set i (some (.fz d)))
theorem DG.of {t : TG} (h : PG X e t) (k : ∀ (v : V) (σ : St) (H Hf : Hp) (ρ : Ev) (d : D) (P : Ev → Prop) (Q : St → Hp → Prop), DEnv X.K H Hf σ ρ → Rep X.K Hf v d → γ d ρ P → (∀ σ' H' Hf' ρ', DEnv X.K H' Hf' σ' ρ' → Ext H H' Hf Hf' → SetTo is σ σ' ρ ρ' → P ρ' → Q σ' H') → t v σ H Q) : DG X e is γ :=
  ⟨⟨fun pins s σ H v u Q I r ⟨Hf, ρ, d, P, e1, r1, q, kk⟩ => h.run pins s σ H v u Q I r (k v σ H Hf ρ d P Q e1 r1 q kk)⟩⟩
theorem DGs.of {t : TGs} (h : PGs X es t) (k : ∀ (vs : List V) (σ : St) (H Hf : Hp) (ρ : Ev) (ds : List D) (P : Ev → Prop) (Q : St → Hp → Prop), DEnv X.K H Hf σ ρ → RepL X.K Hf vs ds → γs ds ρ P → (∀ σ' H' Hf' ρ', DEnv X.K H' Hf' σ' ρ' → Ext H H' Hf Hf' → SetTo is σ σ' ρ ρ' → P ρ' → Q σ' H') → t vs σ H Q) : DGs X es is γs :=
  ⟨⟨fun pins s σ H v u Q I r ⟨Hf, ρ, d, P, e1, r1, q, kk⟩ => h.run pins s σ H v u Q I r (k v σ H Hf ρ d P Q e1 r1 q kk)⟩⟩
theorem dg_n {x : Str} (i : Nat) (hN : X.N.Nodup) (hi : X.N[i]? = some x) (hx : Loc X.env.scope x) (hf : X.fn x = true ∨ X.env.scope.names.lookup x = some .local := by first | exact .inl rfl | exact .inr rfl | assumption) : DG X (.Name x pos) [i] (gN i) :=
  DG.of (pg_name hN hi hx hf) fun v σ H Hf ρ d P Q e r ⟨h1, h2⟩ k => k _ H Hf _ (set_slot e r) (Ext.refl e.sub) (setTo_slot e.len h1) h2
end
structure DEnds where
  nx : Ev → Prop
  rt : Res → Ev → Prop
  bk : Ev → Prop := fun _ => False
  ct : Ev → Prop := fun _ => False
abbrev TDS := DEnds → Ev → Prop
structure Bs where
  H0 : Hp
  Hf0 : Hp
  S : List (Nat × Addr)
structure SEnv (K : Fg) (B : Bs) (H Hf : Hp) (σ : St) (ρ : Ev) : Prop where
  env : DEnv K H Hf σ ρ
  keep : ∀ b o, B.H0 b = some o → (∀ p ∈ B.S, p.2 ≠ b) → H b = some o
  grow : ∀ b o, B.Hf0 b = some o → Hf b = some o
  live : ∀ b, H b = none → B.H0 b = none
  new : ∀ b o, Hf b = some o → B.Hf0 b = some o ∨ B.H0 b = none
  own : ∀ (i : Nat) (a : Addr) (xs : List D), ρ[i]? = some (some (.ow false xs)) → σ[i]? = some (some (.ref a)) → B.H0 a = none
  pin : ∀ (i : Nat) (a : Addr) (xs : List D), ρ[i]? = some (some (.ow true xs)) → σ[i]? = some (some (.ref a)) → (i, a) ∈ B.S
  pins : ∀ p ∈ B.S, σ[p.1]? = some (some (.ref p.2)) ∧ ∃ xs, ρ[p.1]? = some (some (.ow true xs))
section
variable {K : Fg} {B : Bs} {H H1 Hf Hf1 : Hp} {σ σ1 : St} {ρ ρ1 : Ev}
theorem SEnv.mv (s : SEnv K B H Hf σ ρ) (e1 : DEnv K H1 Hf1 σ ρ1) (m : Mv σ ρ ρ1 H H1 Hf Hf1) : SEnv K B H1 Hf1 σ ρ1 where
  env := e1
  keep := fun b o h hn => m.keep b o (s.keep b o h hn) fun ⟨i, p, xs, h1, h2⟩ => by
    cases p with
    | false =>
      have z := s.own i b xs h1 h2
      rw [h] at z
      cases z
    | true => exact hn _ (s.pin i b xs h1 h2) rfl
  grow := fun b o h => m.grow b o (s.grow b o h)
  live := fun b h => s.live b (m.live b h)
  new := fun b o h => by
    rcases m.new b o h with h1 | h1 | ⟨i, p, xs, h1, h2⟩
    · exact s.new b o h1
    · exact .inr (s.live b h1)
    · cases p with
      | false => exact .inr (s.own i b xs h1 h2)
      | true =>
        obtain ⟨ys, h3⟩ := m.pin i xs h1
        obtain ⟨a, zs, z1, _, z3, _⟩ := e1.sl i _ h3
        rw [h2] at z1
        cases z1
        rw [z3] at h
        cases h
  own := fun i a xs h1 h2 => by
    obtain ⟨ys, h3⟩ := m.own i false xs h1
    exact s.own i a ys h3 h2
  pin := fun i a xs h1 h2 => by
    obtain ⟨ys, h3⟩ := m.own i true xs h1
    exact s.pin i a ys h3 h2
  pins := fun p hp => by
    obtain ⟨h1, xs, h2⟩ := s.pins p hp
    exact ⟨h1, m.pin p.1 xs h2⟩
theorem SEnv.setTo (s : SEnv K B H Hf σ ρ) (e1 : DEnv K H1 Hf1 σ1 ρ1) (x : Ext H H1 Hf Hf1) {is : List Nat} (t : SetTo is σ σ1 ρ ρ1) : SEnv K B H1 Hf1 σ1 ρ1 where
  env := e1
  keep := fun b o h hn => x.same b o (s.keep b o h hn)
  grow := fun b o h => x.grow b o (s.grow b o h)
  live := fun b h => s.live b (x.live b h)
  new := fun b o h => by
    rcases x.new b o h with h1 | h1
    · exact s.new b o h1
    · exact .inr (s.live b h1)
  own := fun i a xs h1 h2 => by
    rcases t.each i with ⟨t1, t2⟩ | ⟨⟨d, t1⟩, _⟩
    · rw [t1] at h2
      rw [t2] at h1
      exact s.own i a xs h1 h2
    · rw [t1] at h1
      cases h1
  pin := fun i a xs h1 h2 => by
    rcases t.each i with ⟨t1, t2⟩ | ⟨⟨d, t1⟩, _⟩
    · rw [t1] at h2
      rw [t2] at h1
      exact s.pin i a xs h1 h2
    · rw [t1] at h1
      cases h1
  pins := fun p hp => by
    obtain ⟨h1, xs, h2⟩ := s.pins p hp
    rcases t.each p.1 with ⟨t1, t2⟩ | ⟨_, t2, _⟩
    · rw [t1, t2]
      exact ⟨h1, xs, h2⟩
    · unfold pinB at t2
      rw [h2] at t2
      cases t2
theorem ResOk.base {v : V} {r : Res} {H0 H2 Hf2 : Hp} (s : SEnv K B H Hf σ ρ) (h : ResOk K H H2 Hf2 v r) : ResOk K B.H0 H2 Hf2 v r := h.back s.live
end
structure Links (K : Fg) (B : Bs) (PD : DEnds) (D : Ends) : Prop where
  nx : ∀ σ H Hf ρ, SEnv K B H Hf σ ρ → PD.nx ρ → D.nx σ H
  rt : ∀ v σ H Hf ρ r, SEnv K B H Hf σ ρ → ResOk K B.H0 H Hf v r → PD.rt r ρ → D.rt v H
  bk : ∀ σ H Hf ρ, SEnv K B H Hf σ ρ → PD.bk ρ → D.bk σ H
  ct : ∀ σ H Hf ρ, SEnv K B H Hf σ ρ → PD.ct ρ → D.ct σ H
def canS (K : Fg) (τ : TDS) : TS := fun D σ H => ∃ (B : Bs) (Hf : Hp) (ρ : Ev) (PD : DEnds), SEnv K B H Hf σ ρ ∧ τ PD ρ ∧ Links K B PD D
structure DS (X : Cx) (st : Stmt) (τ : TDS) : Prop where
  ps : PS X st (canS X.K τ)
structure DSs (X : Cx) (sts : List Stmt) (τ : TDS) : Prop where
  pss : PSs X sts (canS X.K τ)
section
variable {X : Cx} {pos pos' : Pos} {st : Stmt} {rest sts sts2 : List Stmt} {e c tg : Expr} {τ τ1 : TDS} {τe : TD} {τc : TDT} {γ : TDG} {x : Str}
theorem DS.of {t : TS} (h : PS X st t) (k : ∀ (D : Ends) (σ : St) (H Hf : Hp) (B : Bs) (ρ : Ev) (PD : DEnds), SEnv X.K B H Hf σ ρ → τ PD ρ → Links X.K B PD D → t D σ H) : DS X st τ :=
  ⟨⟨fun pins s σ H D I ⟨B, Hf, ρ, PD, e, q, l⟩ => h.run pins s σ H D I (k D σ H Hf B ρ PD e q l)⟩⟩
def tNextD : TDS := fun PD ρ => PD.nx ρ
def tSeqD (t u : TDS) : TDS := fun PD ρ => t { PD with nx := u PD } ρ
theorem dss_nil : DSs X [] tNextD := ⟨⟨fun pins s σ H D I ⟨B, Hf, ρ, PD, e, q, l⟩ => pss_nil.run pins s σ H D I (l.nx σ H Hf ρ e q)⟩⟩
theorem dss_one (h : DS X st τ) : DSs X [st] τ := ⟨pss_one h.ps⟩
theorem dss_cons (h : DS X st τ) (h2 : DSs X rest τ1) : DSs X (st :: rest) (tSeqD τ τ1) :=
  ⟨⟨fun pins s σ H D I ⟨B, Hf, ρ, PD, e, q, l⟩ => (pss_cons h.ps h2.pss).run pins s σ H D I ⟨B, Hf, ρ, { PD with nx := τ1 PD }, e, q, ⟨fun σ1 H1 Hf1 ρ1 e1 q1 => ⟨B, Hf1, ρ1, PD, e1, q1, l⟩, l.rt, l.bk, l.ct⟩⟩⟩⟩
theorem inS_fz (B : Bs) {σ : St} {H Hf : Hp} {ρ : Ev} {P : D → Ev → Prop} {Q : VK} (s : SEnv X.K B H Hf σ ρ) (q : τe ρ (fun r ρ' => P r.dat ρ'))
    (k : ∀ v H' Hf' d ρ', SEnv X.K B H' Hf' σ ρ' → Rep X.K Hf' v d → P d ρ' → Q v H') : canE X.K τe σ H Q :=
  ⟨Hf, ρ, _, s.env, q, fun v H' Hf' r ρ' e1 m1 r1 p1 => by
    obtain ⟨Hf2, e2, m2, r2⟩ := r1.freeze s.env e1 m1
    exact k v H' Hf2 r.dat ρ' (s.mv e2 m2) r2 p1⟩
def tSetD (i : Nat) (τe : TD) : TDS := fun PD ρ => τe ρ fun r ρ1 => pinB ρ1 i = false ∧ PD.nx (ρ1.set i (some (.fz r.dat)))
theorem ds_set (i : Nat) (hN : X.N.Nodup) (hi : X.N[i]? = some x) (hx : Loc X.env.scope x) (he : DE X e τe) (hs : swapsWith e (some (.Name x pos')) pos.line X.env = pure false := by rfl) (hf : X.fn x = true ∨ X.env.scope.names.lookup x = some .local := by first | exact .inl rfl | exact .inr rfl | assumption) :
    DS X (.Assign [.Name x pos'] e pos) (tSetD i τe) :=
  DS.of (ps_set hN hi hx he.pe hs hf) fun D σ H Hf B ρ PD s q l => inS_fz B s (P := fun d ρ1 => pinB ρ1 i = false ∧ PD.nx (ρ1.set i (some (.fz d)))) q fun v H1 Hf1 d ρ1 s1 r1 ⟨p1, p2⟩ =>
    l.nx _ H1 Hf1 _ (s1.setTo (set_slot s1.env r1) (Ext.refl s1.env.sub) (setTo_slot s1.env.len p1)) p2
def tSetO (i : Nat) (τe : TD) : TDS := fun PD ρ => τe ρ fun r ρ1 => ∃ xs, r = .fr xs ∧ pinB ρ1 i = false ∧ PD.nx (ρ1.set i (some (.ow false xs)))
theorem SEnv.setOwn {K : Fg} {B : Bs} {H Hf : Hp} {σ : St} {ρ : Ev} {i : Nat} {a : Addr} {ys : List V} {xs : List D} (s : SEnv K B H Hf σ ρ) (hp : pinB ρ i = false) (h0 : B.H0 a = none) (h1 : H a = some (.lst ys)) (h2 : Hf a = none) (h3 : RepL K Hf ys xs) (hn : ¬ Own σ ρ a) :
    SEnv K B H Hf (σ.set i (some (.ref a))) (ρ.set i (some (.ow false xs))) where
  env := {
    sub := s.env.sub
    sl := fun j t h => by
      rw [set_get] at h
      by_cases hj : i = j
      · subst hj
        rw [if_pos rfl] at h
        split at h
        · rename_i hlt
          cases h
          exact ⟨a, ys, by rw [List.getElem?_set, if_pos rfl, if_pos (by rw [s.env.len]; exact hlt)], h1, h2, h3⟩
        · cases h
      · rw [if_neg hj] at h
        have z := s.env.sl j t h
        have es : (σ.set i (some (.ref a)))[j]? = σ[j]? := by rw [List.getElem?_set, if_neg hj]
        cases t with
        | fz d => rw [es]; exact z
        | ow p us => rw [es]; exact z
    sep := fun j k b p us q zs q1 q2 q3 q4 => by
      have key : ∀ {m m' : Nat} {pp : Bool} {vs : List D} {pp' : Bool} {vs' : List D}, i = m → ¬ i = m' → (σ.set i (some (.ref a)))[m]? = some (some (.ref b)) → (ρ.set i (some (.ow false xs)))[m']? = some (some (.ow pp' vs')) → (σ.set i (some (.ref a)))[m']? = some (some (.ref b)) → False := by
        intro m m' pp vs pp' vs' hm hm' w1 w2 w3
        subst hm
        rw [set_get, if_neg hm'] at w2
        rw [List.getElem?_set, if_neg hm'] at w3
        rw [List.getElem?_set, if_pos rfl] at w1
        split at w1
        · cases w1
          exact hn ⟨m', _, _, w2, w3⟩
        · cases w1
      by_cases hj : i = j
      · by_cases hk : i = k
        · exact hj.symm.trans hk
        · exact (key (pp := p) (vs := us) hj hk q3 q2 q4).elim
      · by_cases hk : i = k
        · exact (key (pp := p) (vs := us) hk hj q4 q1 q3).elim
        · rw [set_get, if_neg hj] at q1
          rw [set_get, if_neg hk] at q2
          rw [List.getElem?_set, if_neg hj] at q3
          rw [List.getElem?_set, if_neg hk] at q4
          exact s.env.sep j k b p us q zs q1 q2 q3 q4
    len := by rw [List.length_set, List.length_set]; exact s.env.len }
  keep := s.keep
  grow := s.grow
  live := s.live
  new := s.new
  own := fun j b us q1 q2 => by
    by_cases hj : i = j
    · subst hj
      rw [List.getElem?_set, if_pos rfl] at q2
      split at q2
      · cases q2
        exact h0
      · cases q2
    · rw [set_get, if_neg hj] at q1
      rw [List.getElem?_set, if_neg hj] at q2
      exact s.own j b us q1 q2
  pin := fun j b us q1 q2 => by
    by_cases hj : i = j
    · subst hj
      rw [set_get, if_pos rfl] at q1
      split at q1 <;> cases q1
    · rw [set_get, if_neg hj] at q1
      rw [List.getElem?_set, if_neg hj] at q2
      exact s.pin j b us q1 q2
  pins := fun p hp' => by
    obtain ⟨w1, us, w2⟩ := s.pins p hp'
    have hj : ¬ i = p.1 := fun z => by
      unfold pinB at hp
      rw [z, w2] at hp
      cases hp
    exact ⟨by rw [List.getElem?_set, if_neg hj]; exact w1, us, by rw [set_get, if_neg hj]; exact w2⟩
theorem own_fresh {K : Fg} {B : Bs} {H H1 Hf Hf1 : Hp} {σ : St} {ρ ρ1 : Ev} {a : Addr} (s : SEnv K B H Hf σ ρ) (m : Mv σ ρ ρ1 H H1 Hf Hf1) (h : H a = none) : ¬ Own σ ρ1 a := fun z => not_own s.env h (m.ow z)
theorem setO_reading {t : TE} (i : Nat) {D : Ends} {σ : St} {H Hf : Hp} {B : Bs} {ρ : Ev} {PD : DEnds} (s : SEnv X.K B H Hf σ ρ) (q : tSetO i τe PD ρ) (l : Links X.K B PD D) : tAsg (canE X.K τe) (gName i) D σ H := by
  refine ⟨Hf, ρ, _, s.env, q, fun v H1 Hf1 r ρ1 e1 m1 r1 ⟨xs, hr, p1, p2⟩ => ?_⟩
  subst hr
  obtain ⟨a, ys, rfl, h1, h2, h3, h4⟩ := r1
  have s1 := s.mv e1 m1
  exact l.nx _ H1 Hf1 _ (s1.setOwn p1 (s.live a h3) h1 h2 h4 (own_fresh s m1 h3)) p2
theorem ds_setO (i : Nat) (hN : X.N.Nodup) (hi : X.N[i]? = some x) (hx : Loc X.env.scope x) (he : DE X e τe) (hs : swapsWith e (some (.Name x pos')) pos.line X.env = pure false := by rfl) (hf : X.fn x = true ∨ X.env.scope.names.lookup x = some .local := by first | exact .inl rfl | exact .inr rfl | assumption) :
    DS X (.Assign [.Name x pos'] e pos) (tSetO i τe) :=
  DS.of (ps_set hN hi hx he.pe hs hf) fun D σ H Hf B ρ PD s q l => setO_reading (t := canE X.K τe) i s q l
def tIfD (c : TDT) (t u : TDS) : TDS := fun PD ρ => c ρ fun b ρ1 => if b = true then t PD ρ1 else u PD ρ1
theorem ds_if (hc : DT X c τc) (ha : DSs X sts τ) (hb : DSs X sts2 τ1) : DS X (.If c sts sts2 pos) (tIfD τc τ τ1) :=
  DS.of (ps_if hc.pt ha.pss hb.pss) fun D σ H Hf B ρ PD s q l => ⟨Hf, ρ, _, s.env, q, fun b H1 Hf1 ρ1 e1 m1 p1 => by
    cases b with
    | true => exact ⟨B, Hf1, ρ1, PD, s.mv e1 m1, p1, l⟩
    | false => exact ⟨B, Hf1, ρ1, PD, s.mv e1 m1, p1, l⟩⟩
def tRetD (τe : TD) : TDS := fun PD ρ => τe ρ PD.rt
theorem ds_ret (he : DE X e τe) : DS X (.Return (some e) pos) (tRetD τe) :=
  DS.of (ps_ret he.pe) fun D σ H Hf B ρ PD s q l => ⟨Hf, ρ, _, s.env, q, fun v H1 Hf1 r ρ1 e1 m1 r1 p1 => l.rt v σ H1 Hf1 ρ1 r (s.mv e1 m1) (r1.back s.live) p1⟩
theorem DEnv.drop {K : Fg} {H Hf : Hp} {σ : St} {ρ : Ev} (i : Nat) (e : DEnv K H Hf σ ρ) : DEnv K H Hf σ (ρ.set i none) where
  sub := e.sub
  sl := fun j s h => by
    rw [set_get] at h
    by_cases hj : i = j
    · rw [if_pos hj] at h
      split at h <;> cases h
    · rw [if_neg hj] at h
      exact e.sl j s h
  sep := fun j k a p xs q ys h1 h2 h3 h4 => by
    rw [set_get] at h1 h2
    by_cases hj : i = j
    · rw [if_pos hj] at h1
      split at h1 <;> cases h1
    by_cases hk : i = k
    · rw [if_pos hk] at h2
      split at h2 <;> cases h2
    rw [if_neg hj] at h1
    rw [if_neg hk] at h2
    exact e.sep j k a p xs q ys h1 h2 h3 h4
  len := by rw [List.length_set]; exact e.len
def tSubO (i : Nat) (τe τk : TD) : TDS := fun PD ρ => τe ρ fun r ρ1 => (∃ p xs, ρ1[i]? = some (some (.ow p xs))) ∧ τk ρ1 fun y ρ2 => ∃ p xs k j, ρ2[i]? = some (some (.ow p xs)) ∧ y.dat = .int k ∧ ixN (List.length xs) k = some j ∧ PD.nx (ρ2.set i (some (.ow p (xs.set j r.dat))))
theorem ds_subO (i : Nat) {k : Expr} {τk : TD} {p p2 : Pos} (he : DE X e τe) (hk : DE X k τk) (hN : X.N[i]? = some x := by rfl) (hv : Vis X.env.scope x := by first | exact Or.inl rfl | exact Or.inr (Or.inl rfl) | exact Or.inr (Or.inr rfl)) (hd : (x == ("__debug__" : Str)) = false := by decide) (hcd : (x == ("__classdict__" : Str)) = false := by decide)
    (ha : ∀ v, assign (.Subscript (.Name x p) k p2) X.env v = (do
      let ov ← holding [v] (eval (.Name x p) X.env)
      let iv ← holding [v, ov] (eval k X.env)
      standAt p2
      holding [v, ov, iv] (setItem ov iv v)
      release [v, ov, iv] []) := by intro _; rfl)
    (hs : swapsWithSole [.Subscript (.Name x p) k p2] e pos.line X.env = pure false := by rfl) (hw : swappedStores [.Subscript (.Name x p) k p2] e X.env = pure none := by rfl) :
    DS X (.Assign [.Subscript (.Name x p) k p2] e pos) (tSubO i τe τk) := by
  refine DS.of (ps_asg he.pe (pg_sub (pe_var hN hv hd hcd) hk.pe set_list ha) hs hw) fun D σ H Hf B ρ PD s q l => ?_
  refine inS_fz B s (P := fun d ρ1 => (∃ p xs, ρ1[i]? = some (some (.ow p xs))) ∧ τk ρ1 fun y ρ2 => ∃ p xs k j, ρ2[i]? = some (some (.ow p xs)) ∧ y.dat = .int k ∧ ixN (List.length xs) k = some j ∧ PD.nx (ρ2.set i (some (.ow p (xs.set j d))))) q fun v H1 Hf1 d ρ1 s1 r1 ⟨⟨p0, xs0, h0⟩, q1⟩ => ?_
  obtain ⟨a, ys, h1, h2, h3, h4⟩ := s1.env.sl i _ h0
  refine ⟨.ref a, h1, ⟨Hf1, ρ1, _, s1.env, q1, fun y H2 Hf2 ry ρ2 e2 m2 r2 ⟨p3, xs, kk, j, g1, g2, g3, g4⟩ => ?_⟩⟩
  obtain ⟨Hf3, e3, m3, r3⟩ := r2.freeze s1.env e2 m2
  rw [g2] at r3
  obtain ⟨a', ys1, z1, z2, z3, z4⟩ := e3.sl i _ g1
  rw [h1] at z1
  cases z1
  obtain ⟨e4, m4⟩ := own_upd e3 g1 h1 (z4.set (r1.mono m3.grow) j)
  have s3 := s1.mv e3 m3
  refine ⟨a, ys1, kk, j, rfl, r3.int_inv, z2, by rw [z4.length]; exact g3, ?_⟩
  exact l.nx σ _ _ _ (s3.mv e4 m4) g4
end
def startD (n : Nat) (ds : List D) : Ev := ds.map (fun d => some (.fz d)) ++ List.replicate (n - ds.length) none
def startD1 (n : Nat) (xs ds : List D) : Ev := some (.ow true xs) :: (ds.map (fun d => some (.fz d)) ++ List.replicate (n - (ds.length + 1)) none)
theorem start_len (N : List Str) (vs : List V) (h : vs.length ≤ N.length) : (L2.start N vs).length = N.length := by
  unfold L2.start
  rw [List.length_append, List.length_map, List.length_replicate]
  omega
theorem startD_get {n : Nat} {ds : List D} {i : Nat} {s : Sl} (h : (startD n ds)[i]? = some (some s)) : ∃ d, ds[i]? = some d ∧ s = .fz d := by
  unfold startD at h
  by_cases hi : i < ds.length
  · rw [List.getElem?_append_left (by rw [List.length_map]; exact hi), List.getElem?_map] at h
    cases e : ds[i]? with
    | none => rw [e] at h; cases h
    | some d =>
      rw [e] at h
      cases h
      exact ⟨d, rfl, rfl⟩
  · rw [List.getElem?_append_right (by rw [List.length_map]; omega)] at h
    rw [List.getElem?_replicate] at h
    split at h <;> cases h
theorem start_get {N : List Str} {vs : List V} {i : Nat} {v : V} (h : vs[i]? = some v) : (L2.start N vs)[i]? = some (some v) := by
  unfold L2.start
  have hi : i < vs.length := (List.getElem?_eq_some_iff.mp h).1
  rw [List.getElem?_append_left (by rw [List.length_map]; exact hi), List.getElem?_map, h]
  rfl
section
variable {P : Program} {w : World} {K : Fg} {mg : Str → Option Value} {base : Heap} {x qual : Str} {st : Stmt} {f : Addr} {fd : FuncData} {N ps : List Str} {k : Nat}
theorem okD0 {g : FS0} {τ : TDS} (F : FunA K x qual st f fd) (S : FnScope N ps (defScope st)) (hps : ps.length ≤ N.length)
    (hb : ∀ (cdv : Value) (A : Around) (outer : List Env) (s : Shared) (H : Hp) (E : XK), Room k (A.deeper (PyProof.Rows.envOfC qual (defScope st) s.heap.objs.size f cdv)) → DSs (cxOf CX0 P w K mg base N qual (defScope st) f cdv A outer s H E).nox (defBody st) τ)
    (hq : ∀ ds Q, ds.length = ps.length → g ds Q → τ { nx := fun _ => Q (.fz .non), rt := fun r _ => Q r } (startD N.length ds)) : FnOk P w K mg base CX0 (k + 1) f fd ps (sp0 K ps.length g) := by
  refine F.ok S (fun vs H Q E h => ?_) (fun cdv A outer s H vs Q E hr h => ?_)
  · obtain ⟨Hf, ds, P, _, r, hl, _⟩ := h
    exact r.length.trans hl
  obtain ⟨Hf, ds, PQ, hf, r, hl, hg, kk⟩ := h
  have hvl := r.length
  refine ⟨_, (hb cdv A outer s H E hr).pss, ⟨⟨H, Hf, []⟩, Hf, startD N.length ds, _, ?_, hq ds PQ hl hg, ?_⟩⟩
  · refine ⟨⟨hf, fun i t h => ?_, fun i j a p us q zs h1 => ?_, ?_⟩, fun b o h _ => h, fun b o h => h, fun b h => h, fun b o h => .inl h, fun i a us h => ?_, fun i a us h => ?_, fun p hp => nomatch hp⟩
    · obtain ⟨d, h1, rfl⟩ := startD_get h
      obtain ⟨v, h2, h3⟩ := r.get h1
      exact ⟨v, start_get h2, h3⟩
    · obtain ⟨d, _, h2⟩ := startD_get h1
      cases h2
    · rw [start_len N vs (by omega)]
      unfold startD
      rw [List.length_append, List.length_map, List.length_replicate]
      omega
    · obtain ⟨d, _, h2⟩ := startD_get h
      cases h2
    · obtain ⟨d, _, h2⟩ := startD_get h
      cases h2
  · refine ⟨fun σ H1 Hf1 ρ e q => ?_, fun v σ H1 Hf1 ρ r1 e ok q => ?_, fun _ _ _ _ _ z => z.elim, fun _ _ _ _ _ z => z.elim⟩
    · exact kk .non H1 Hf1 (.fz .non) ⟨fun b o h => e.keep b o h (fun _ z => nomatch z), e.env.sub, e.grow, e.new⟩ Rep.non q
    · exact kk v H1 Hf1 r1 ⟨fun b o h => e.keep b o h (fun _ z => nomatch z), e.env.sub, e.grow, e.new⟩ ok q
theorem okD1 {g : FS1} {τ : TDS} (F : FunA K x qual st f fd) (S : FnScope N ps (defScope st)) (hps : ps.length ≤ N.length)
    (hb : ∀ (cdv : Value) (A : Around) (outer : List Env) (s : Shared) (H : Hp) (E : XK), Room k (A.deeper (PyProof.Rows.envOfC qual (defScope st) s.heap.objs.size f cdv)) → DSs (cxOf CX0 P w K mg base N qual (defScope st) f cdv A outer s H E).nox (defBody st) τ)
    (hq : ∀ xs ds Q, ds.length + 1 = ps.length → g xs ds Q → τ { nx := fun ρ => ∃ xs', ρ[0]? = some (some (.ow true xs')) ∧ Q (.fz .non) xs', rt := fun r ρ => ∃ xs', ρ[0]? = some (some (.ow true xs')) ∧ Q r xs' } (startD1 N.length xs ds)) : FnOk P w K mg base CX0 (k + 1) f fd ps (sp1 K ps.length g) := by
  refine F.ok S (fun vs H Q E h => ?_) (fun cdv A outer s H vs Q E hr h => ?_)
  · obtain ⟨Hf, a, us, ys, xs, ds, P, rfl, _, _, _, _, r, hl, _⟩ := h
    rw [List.length_cons, r.length]
    exact hl
  obtain ⟨Hf, a, us, ys, xs, ds, PQ, rfl, hf, ha, hfa, rx, r, hl, hg, kk⟩ := h
  have hvl := r.length
  have e0 : startD1 N.length xs ds = some (.ow true xs) :: startD (N.length - 1) ds := by
    unfold startD1 startD
    rw [show N.length - (ds.length + 1) = N.length - 1 - ds.length by omega]
  have es : L2.start N (.ref a :: us) = some (.ref a) :: (us.map some ++ List.replicate (N.length - (us.length + 1)) none) := rfl
  have gs : ∀ (i : Nat) (s : Sl), (startD1 N.length xs ds)[i + 1]? = some (some s) → ∃ d v, s = .fz d ∧ (L2.start N (.ref a :: us))[i + 1]? = some (some v) ∧ Rep K Hf v d := by
    intro i s h
    rw [e0, List.getElem?_cons_succ] at h
    obtain ⟨d, h1, rfl⟩ := startD_get h
    obtain ⟨v, h2, h3⟩ := r.get h1
    exact ⟨d, v, rfl, start_get (by rw [List.getElem?_cons_succ]; exact h2), h3⟩
  refine ⟨_, (hb cdv A outer s H E hr).pss, ⟨⟨H, Hf, [(0, a)]⟩, Hf, startD1 N.length xs ds, _, ?_, hq xs ds PQ hl hg, ?_⟩⟩
  · refine ⟨⟨hf, fun i t h => ?_, fun i j b p us' q zs h1 h2 h3 h4 => ?_, ?_⟩, fun b o h _ => h, fun b o h => h, fun b h => h, fun b o h => .inl h, fun i b us' h h2 => ?_, fun i b us' h h2 => ?_, fun p hp => ?_⟩
    · cases i with
      | zero =>
        cases h
        exact ⟨a, ys, rfl, ha, hfa, rx⟩
      | succ i =>
        obtain ⟨d, v, rfl, h1, h2⟩ := gs i t h
        exact ⟨v, h1, h2⟩
    · cases i with
      | zero =>
        cases j with
        | zero => rfl
        | succ j =>
          obtain ⟨d, v, z, _⟩ := gs j _ h2
          cases z
      | succ i =>
        obtain ⟨d, v, z, _⟩ := gs i _ h1
        cases z
    · rw [start_len N _ (by rw [List.length_cons]; omega), e0, List.length_cons]
      unfold startD
      rw [List.length_append, List.length_map, List.length_replicate]
      omega
    · cases i with
      | zero => cases h
      | succ i =>
        obtain ⟨d, v, z, _⟩ := gs i _ h
        cases z
    · cases i with
      | zero =>
        cases h2
        exact List.mem_cons_self ..
      | succ i =>
        obtain ⟨d, v, z, _⟩ := gs i _ h
        cases z
    · rw [List.mem_singleton.mp hp]
      exact ⟨rfl, xs, rfl⟩
  · have fin : ∀ v σ H1 Hf1 ρ r1, SEnv K ⟨H, Hf, [(0, a)]⟩ H1 Hf1 σ ρ → ResOk K H H1 Hf1 v r1 → (∃ xs', ρ[0]? = some (some (.ow true xs')) ∧ PQ r1 xs') → Q v H1 := by
      intro v σ H1 Hf1 ρ r1 e ok ⟨xs', h1, q⟩
      obtain ⟨w1, _⟩ := e.pins (0, a) (List.mem_cons_self ..)
      obtain ⟨b, ys', z1, z2, z3, z4⟩ := e.env.sl 0 _ h1
      have w1' : σ[0]? = some (some (.ref a)) := w1
      rw [w1'] at z1
      cases z1
      exact kk v H1 Hf1 r1 ys' xs' ⟨fun b o h hb => e.keep b o h (fun p hp => by rw [List.mem_singleton.mp hp]; exact fun z => hb z.symm), e.live, e.env.sub, e.grow, e.new⟩ z2 z3 z4 ok q
    exact ⟨fun σ H1 Hf1 ρ e q => fin .non σ H1 Hf1 ρ (.fz .non) e Rep.non q, fun v σ H1 Hf1 ρ r1 e ok q => fin v σ H1 Hf1 ρ r1 e ok q, fun _ _ _ _ _ z => z.elim, fun _ _ _ _ _ z => z.elim⟩
end
end DL
namespace L2
open PySem PySem.Spec PyProof.Rows
def iSeq (K : PySem.W.Frag) (te : TE) : TI := fun σ H R => te σ H fun x H1 => (∃ a, x = .ref a ∧ (∃ xs, SqL K H1 a xs) ∧ R (Itl K a) H1) ∨ (∃ a, x = .ref a ∧ (∃ xs, SqT K H1 a xs) ∧ R (Itt K a) H1) ∨ (∃ z, x = .str z ∧ R (Its z) H1)
theorem pi_seq {X : Cx} {tg l : Expr} {tl : TE} (hl : PE X l tl) : PI X tg l (iSeq X.K tl) := by
  refine ⟨fun pins s σ H R I h => ?_⟩
  refine thn (hl.run pins s σ H _ I h) fun v s1 ⟨x, H1, I1, r1, q1⟩ => ?_
  rcases q1 with ⟨a, e, ⟨xs, hq⟩, q⟩ | ⟨a, e, ⟨xs, hq⟩, q⟩ | ⟨z, e, q⟩
  · subst e
    cases r1
    obtain ⟨its, rv, p, hz⟩ := I1.list hq
    refine wpAny_pyIter_list p.isList ?_
    refine ⟨s1.heap.objs.size, [s1.heap.objs.size], _, _, H1, rfl, I1.kept (t' := s1.toks) fun b o e => Heap.get?_push_of_some _ e, turn_list a _, ⟨_, Heap.get?_push_size _ rfl, rfl, rfl⟩, fun b hb => ?_, q⟩
    have e : b = s1.heap.objs.size := by simpa using hb
    subst e
    exact I1.fpOk (Nat.le_refl _) (I1.hok.fresh (Nat.le_refl _))
  · subst e
    cases r1
    obtain ⟨its, rv, p, hz⟩ := I1.tuple hq
    refine wpAny_pyIter_tuple (show s1.heap.IsTuple a its.toArray from p) ?_
    refine ⟨s1.heap.objs.size, [s1.heap.objs.size], _, _, H1, rfl, I1.kept (t' := s1.toks) fun b o e => Heap.get?_push_of_some _ e, turn_tuple a _, ⟨_, Heap.get?_push_size _ rfl, rfl, rfl⟩, fun b hb => ?_, q⟩
    have e : b = s1.heap.objs.size := by simpa using hb
    subst e
    exact I1.fpOk (Nat.le_refl _) (I1.hok.fresh (Nat.le_refl _))
  · subst e
    obtain ⟨t, rfl⟩ := r1
    cases ha : z.cps.all (· < 128)
    · exact wpAny_pyIter_wide ha (pi_one (tk := s1.toks) I1 _ (turn_str _ z t "str_iterator" (.inr rfl)) ⟨_, Heap.get?_push_size _ rfl, rfl, rfl⟩ q)
    · exact wpAny_pyIter_ascii ha (pi_one (tk := s1.toks) I1 _ (turn_str _ z t "str_ascii_iterator" (.inl rfl)) ⟨_, Heap.get?_push_size _ rfl, rfl, rfl⟩ q)
end L2
namespace DL
open PySem L2
structure DIt (K : Fg) (J : It) (Hf : Hp) (ds : List D) : Prop where
  item : ∀ (i : Nat) (d : D) (H' Hf' : Hp), (∀ b o, Hf' b = some o → H' b = some o) → (∀ b o, Hf b = some o → Hf' b = some o) → ds[i]? = some d → J.go i H' ∧ ∀ x H'', J.yld i H' x H'' → ∃ Hf'', Ext H' H'' Hf' Hf'' ∧ Rep K Hf'' x d
  stop : ∀ (i : Nat) (H' Hf' : Hp), (∀ b o, Hf' b = some o → H' b = some o) → (∀ b o, Hf b = some o → Hf' b = some o) → ds.length ≤ i → i ≤ ds.length → J.stop i H'
abbrev TDI := Ev → (List D → Ev → Prop) → Prop
def canI (K : Fg) (τ : TDI) : TI := fun σ H R => ∃ (Hf : Hp) (ρ : Ev) (P : List D → Ev → Prop), DEnv K H Hf σ ρ ∧ τ ρ P ∧ ∀ J H' Hf' ds ρ', DEnv K H' Hf' σ ρ' → Mv σ ρ ρ' H H' Hf Hf' → DIt K J Hf' ds → P ds ρ' → R J H'
structure DI (X : Cx) (tg iter : Expr) (τ : TDI) : Prop where
  pi : PI X tg iter (canI X.K τ)
def itemsD : D → Option (List D)
  | .lst ds => some ds
  | .tup ds => some ds
  | .str z => some (signsD z)
  | .scr ns => some (ns.map .int)
  | _ => none
section
variable {X : Cx} {tg e : Expr} {τe : TD} {τs : TDA} {p pos : Pos}
theorem DI.of {iter : Expr} {τ : TDI} {t : TI} (h : PI X tg iter t) (k : ∀ (σ : St) (H Hf : Hp) (ρ : Ev) (P : List D → Ev → Prop) (R : It → Hp → Prop), DEnv X.K H Hf σ ρ → τ ρ P → (∀ J H' Hf' ds ρ', DEnv X.K H' Hf' σ ρ' → Mv σ ρ ρ' H H' Hf Hf' → DIt X.K J Hf' ds → P ds ρ' → R J H') → t σ H R) : DI X tg iter τ :=
  ⟨⟨fun pins s σ H R I ⟨Hf, ρ, P, e, q, kk⟩ => h.run pins s σ H R I (k σ H Hf ρ P R e q kk)⟩⟩
def tSeqI (τe : TD) : TDI := fun ρ P => τe ρ fun r ρ1 => ∃ ds, itemsD r.dat = some ds ∧ P ds ρ1
theorem itl_it {K : Fg} {Hf : Hp} {a : Addr} {vs : List V} {ds : List D} (hs : SqL K Hf a vs) (r : RepL K Hf vs ds) : DIt K (Itl K a) Hf ds where
  item := fun i d H' Hf' sub grow hd => by
    obtain ⟨v, h1, h2⟩ := r.get hd
    have q : SqL K H' a vs := sqL_same (fun b o h => sub b o (grow b o h)) hs
    refine ⟨⟨vs, v, q, h1⟩, fun x H'' y => ?_⟩
    obtain ⟨rfl, y⟩ := y
    have e := y vs q
    rw [h1] at e
    cases e
    exact ⟨Hf', Ext.refl sub, h2.mono grow⟩
  stop := fun i H' Hf' sub grow hl _ => ⟨vs, sqL_same (fun b o h => sub b o (grow b o h)) hs, by rw [r.length]; exact hl⟩
theorem itt_it {K : Fg} {Hf : Hp} {a : Addr} {vs : List V} {ds : List D} (hs : SqT K Hf a vs) (r : RepL K Hf vs ds) : DIt K (Itt K a) Hf ds where
  item := fun i d H' Hf' sub grow hd => by
    obtain ⟨v, h1, h2⟩ := r.get hd
    have q : SqT K H' a vs := sqT_same (fun b o h => sub b o (grow b o h)) hs
    refine ⟨⟨vs, v, q, h1⟩, fun x H'' y => ?_⟩
    obtain ⟨rfl, y⟩ := y
    have e := y vs q
    rw [h1] at e
    cases e
    exact ⟨Hf', Ext.refl sub, h2.mono grow⟩
  stop := fun i H' Hf' sub grow hl _ => ⟨vs, sqT_same (fun b o h => sub b o (grow b o h)) hs, by rw [r.length]; exact hl⟩
theorem its_it {K : Fg} {Hf : Hp} {z : Str} : DIt K (Its z) Hf (signsD z) where
  item := fun i d H' Hf' sub grow hd => by
    unfold signsD at hd
    rw [List.getElem?_map] at hd
    cases e : z.cps.toList[i]? with
    | none => rw [e] at hd; cases hd
    | some c =>
      rw [e] at hd
      cases hd
      have hlt : i < z.cps.toList.length := (List.getElem?_eq_some_iff.mp e).1
      rw [Array.length_toList] at hlt
      refine ⟨hlt, fun x H'' y => ?_⟩
      obtain ⟨rfl, c', h1, rfl⟩ := y
      rw [Array.getElem?_toList, h1] at e
      cases e
      exact ⟨Hf', Ext.refl sub, .str _⟩
  stop := fun i H' Hf' sub grow hl _ => by
    unfold signsD at hl
    rw [List.length_map, Array.length_toList] at hl
    exact hl
theorem repL_ints {K : Fg} {H : Hp} : ∀ ns : List Int, RepL K H (ns.map V.int) (ns.map D.int)
  | [] => .nil
  | n :: ns => .cons (.int n) (repL_ints ns)
theorem di_seq (he : DE X e τe) : DI X tg e (tSeqI τe) := by
  obtain ⟨t, pe, se⟩ := he.fz
  refine DI.of (pi_seq pe) fun σ H Hf ρ P R e q k => se σ H Hf ρ (fun d ρ1 => ∃ ds, itemsD d = some ds ∧ P ds ρ1) _ e q fun v H1 Hf1 d ρ1 e1 m1 r1 zz => ?_
  obtain ⟨ds, hd, p1⟩ := zz
  cases r1 <;> first | (simp [itemsD] at hd; done) | skip
  · rename_i z
    simp only [itemsD, Option.some.injEq] at hd
    subst hd
    exact .inr (.inr ⟨z, rfl, k _ H1 Hf1 _ ρ1 e1 m1 its_it p1⟩)
  · rename_i a ns hp
    simp only [itemsD, Option.some.injEq] at hd
    subst hd
    exact .inl ⟨a, rfl, ⟨_, sqL_same e1.sub hp⟩, k _ H1 Hf1 _ ρ1 e1 m1 (itl_it hp (repL_ints ns)) p1⟩
  · rename_i a vs es hp rp
    simp only [itemsD, Option.some.injEq] at hd
    subst hd
    exact .inr (.inl ⟨a, rfl, ⟨_, sqT_same e1.sub hp⟩, k _ H1 Hf1 _ ρ1 e1 m1 (itt_it hp rp) p1⟩)
  · rename_i a vs es hp rp
    simp only [itemsD, Option.some.injEq] at hd
    subst hd
    exact .inl ⟨a, rfl, ⟨_, .inl (.inl (e1.sub _ _ hp))⟩, k _ H1 Hf1 _ ρ1 e1 m1 (itl_it (.inl (.inl hp)) rp) p1⟩
def rangeD (lo : Int) (n : Nat) : List D := (List.range n).map fun (i : Nat) => D.int (lo + i)
theorem itr_it {K : Fg} {Hf : Hp} {lo : Int} {n : Nat} : DIt K (Itr lo n) Hf (rangeD lo n) where
  item := fun i d H' Hf' sub grow hd => by
    unfold rangeD at hd
    rw [List.getElem?_map] at hd
    by_cases hi : i < n
    · rw [List.getElem?_range hi] at hd
      cases hd
      refine ⟨hi, fun x H'' y => ?_⟩
      obtain ⟨rfl, rfl⟩ := y
      exact ⟨Hf', Ext.refl sub, .int _⟩
    · rw [List.getElem?_eq_none (by rw [List.length_range]; omega)] at hd
      cases hd
  stop := fun i H' Hf' sub grow hl _ => by
    unfold rangeD at hl
    rw [List.length_map, List.length_range] at hl
    exact hl
def tRng1 (τ : TDA) : TDI := fun ρ P => τ ρ fun ds ρ1 => ∃ j : Int, ds = [.int j] ∧ (-(2 ^ 62) ≤ j ∧ j < 2 ^ 62) ∧ P (rangeD 0 j.toNat) ρ1
theorem di_range1 {a : Expr} (hg : Gl X "range") (hm : X.mg "range" = none) (ha : DA X [a] τs) (hs : starEach [a] X.env = [(false, eval a X.env)] := by rfl) : DI X tg (.Call (.Name "range" p) [a] [] pos) (tRng1 τs) :=
  DI.of (pi_range1 hg hm ha.pa hs) fun σ H Hf ρ P R e q k => ⟨Hf, ρ, _, e, q, fun vs H1 Hf1 ds ρ1 e1 m1 r1 _ ⟨j, hd, hj, p1⟩ => by
    subst hd
    cases r1 with
    | cons ra rr =>
      cases rr
      cases ra
      exact ⟨j, rfl, hj.1, hj.2, k _ H1 Hf1 _ ρ1 e1 m1 itr_it p1⟩⟩
end
theorem SEnv.re {K : Fg} {B : Bs} {H Hf : Hp} {σ : St} {ρ : Ev} (s : SEnv K B H Hf σ ρ) : SEnv K { B with Hf0 := Hf } H Hf σ ρ := ⟨s.env, s.keep, fun _ _ h => h, s.live, fun _ _ h => .inl h, s.own, s.pin, s.pins⟩
theorem SEnv.un {K : Fg} {B : Bs} {H H1 Hf Hf1 : Hp} {σ σ1 : St} {ρ ρ1 : Ev} (s : SEnv K B H Hf σ ρ) (s1 : SEnv K { B with Hf0 := Hf } H1 Hf1 σ1 ρ1) : SEnv K B H1 Hf1 σ1 ρ1 := ⟨s1.env, s1.keep, fun b o h => s1.grow b o (s.grow b o h), s1.live, fun b o h => by
  rcases s1.new b o h with h | h
  · exact s.new b o h
  · exact .inr h, s1.own, s1.pin, s1.pins⟩
end DL
namespace DL
open PySem L2
def wipeD (ρ : Ev) : List Nat → Ev
  | [] => ρ
  | v :: vs => (wipeD ρ vs).set v none
theorem wipeD_len (ρ : Ev) : ∀ vs, (wipeD ρ vs).length = ρ.length
  | [] => rfl
  | v :: vs => by unfold wipeD; rw [List.length_set, wipeD_len ρ vs]
theorem wipeD_out (ρ : Ev) {i : Nat} : ∀ {vs : List Nat}, i ∉ vs → (wipeD ρ vs)[i]? = ρ[i]?
  | [], _ => rfl
  | v :: vs, h => by
    unfold wipeD
    rw [set_get, if_neg (fun z => h (by rw [z]; exact List.mem_cons_self ..)), wipeD_out ρ (fun z => h (List.mem_cons_of_mem _ z))]
theorem wipeD_in (ρ : Ev) {i : Nat} {s : Sl} : ∀ {vs : List Nat}, i ∈ vs → (wipeD ρ vs)[i]? = some (some s) → False
  | v :: vs, h, q => by
    unfold wipeD at q
    rw [set_get] at q
    by_cases hv : v = i
    · rw [if_pos hv] at q
      split at q <;> cases q
    · rw [if_neg hv] at q
      rcases List.mem_cons.mp h with e | e
      · exact hv e.symm
      · exact wipeD_in ρ e q
theorem wipe_out (σ : St) {i : Nat} : ∀ {vs : List Nat}, i ∉ vs → (wipe σ vs)[i]? = σ[i]?
  | [], _ => rfl
  | v :: vs, h => by
    unfold wipe
    rw [List.getElem?_set, if_neg (fun z => h (by rw [z]; exact List.mem_cons_self ..)), wipe_out σ (fun z => h (List.mem_cons_of_mem _ z))]
theorem wipe_eq {σ σ2 : St} (hl : σ2.length = σ.length) : ∀ {vs : List Nat}, (∀ i, i ∉ vs → σ2[i]? = σ[i]?) → wipe σ2 vs = wipe σ vs := fun {vs} h => by
  apply List.ext_getElem?
  intro i
  by_cases hi : i ∈ vs
  · have key : ∀ (σ : St) (vs : List Nat), i ∈ vs → (wipe σ vs)[i]? = if i < σ.length then some none else none := by
      intro σ vs
      induction vs with
      | nil => intro h; cases h
      | cons v vs ih =>
        intro h
        unfold wipe
        rw [List.getElem?_set, wipe_length]
        by_cases hv : v = i
        · rw [if_pos hv, hv]
        · rw [if_neg hv]
          rcases List.mem_cons.mp h with e | e
          · exact absurd e.symm hv
          · exact ih e
    rw [key σ2 vs hi, key σ vs hi, hl]
  · rw [wipe_out _ hi, wipe_out _ hi]
    exact h i hi
def resto (ρ1 ρ2 : Ev) : List Nat → Ev
  | [] => ρ2
  | v :: vs => (resto ρ1 ρ2 vs).set v (ρ1.getD v none)
theorem resto_len (ρ1 ρ2 : Ev) : ∀ vs, (resto ρ1 ρ2 vs).length = ρ2.length
  | [] => rfl
  | v :: vs => by unfold resto; rw [List.length_set, resto_len ρ1 ρ2 vs]
theorem resto_out (ρ1 ρ2 : Ev) {i : Nat} : ∀ {vs : List Nat}, i ∉ vs → (resto ρ1 ρ2 vs)[i]? = ρ2[i]?
  | [], _ => rfl
  | v :: vs, h => by
    unfold resto
    rw [set_get, if_neg (fun z => h (by rw [z]; exact List.mem_cons_self ..)), resto_out ρ1 ρ2 (fun z => h (List.mem_cons_of_mem _ z))]
theorem resto_in (ρ1 ρ2 : Ev) {i : Nat} {s : Sl} (hl : ρ1.length = ρ2.length) : ∀ {vs : List Nat}, i ∈ vs → (resto ρ1 ρ2 vs)[i]? = some (some s) → ρ1[i]? = some (some s)
  | v :: vs, h, q => by
    unfold resto at q
    rw [set_get] at q
    by_cases hv : v = i
    · subst hv
      rw [if_pos rfl, resto_len] at q
      split at q
      · rename_i hlt
        rw [List.getElem?_eq_getElem (by omega)]
        rw [List.getD_eq_getElem?_getD, List.getElem?_eq_getElem (by omega)] at q
        simpa using q
      · cases q
    · rw [if_neg hv] at q
      rcases List.mem_cons.mp h with e | e
      · exact absurd e.symm hv
      · exact resto_in ρ1 ρ2 hl e q
def notOw (ρ : Ev) (i : Nat) : Bool := match ρ[i]? with
  | some (some (.ow _ _)) => false
  | _ => true
theorem notOw_no {ρ : Ev} {i : Nat} {p : Bool} {xs : List D} (h : notOw ρ i = true) : ρ[i]? ≠ some (some (.ow p xs)) := fun z => by
  unfold notOw at h
  rw [z] at h
  cases h
def lcD (vs : List Nat) (γ : TDG) (τt : TDT) (τe : TD) : List D → Ev → List D → (List D → Ev → Prop) → Prop
  | [], ρ, acc, P => P acc ρ
  | d :: ds, ρ, acc, P => γ d ρ fun ρ1 => τt ρ1 fun b ρ2 => if b = true then τe ρ2 fun r ρ3 => acc.length < 16000 ∧ lcD vs γ τt τe ds (wipeD ρ3 vs) (acc ++ [r.dat]) P else lcD vs γ τt τe ds (wipeD ρ2 vs) acc P
def tLcD (τi : TDI) (γ : TDG) (τt : TDT) (τe : TD) (vs : List Nat) : TD := fun ρ P => τi ρ fun ds ρ1 => vs.all (notOw ρ1) = true ∧ lcD vs γ τt τe ds (wipeD ρ1 vs) [] fun acc ρ2 => P (.fr acc) (resto ρ1 ρ2 vs)
structure MvO (O : Addr → Prop) (H H' Hf Hf' : Hp) : Prop where
  keep : ∀ b o, H b = some o → ¬ O b → H' b = some o
  live : ∀ b, H' b = none → H b = none
  grow : ∀ b o, Hf b = some o → Hf' b = some o
  new : ∀ b o, Hf' b = some o → Hf b = some o ∨ H b = none ∨ O b
theorem MvO.refl (O : Addr → Prop) (H Hf : Hp) : MvO O H H Hf Hf := ⟨fun _ _ h _ => h, fun _ h => h, fun _ _ h => h, fun _ _ h => .inl h⟩
theorem MvO.trans {O : Addr → Prop} {H H1 H2 Hf Hf1 Hf2 : Hp} (m : MvO O H H1 Hf Hf1) (n : MvO O H1 H2 Hf1 Hf2) : MvO O H H2 Hf Hf2 :=
  ⟨fun b o h ho => n.keep b o (m.keep b o h ho) ho, fun b h => m.live b (n.live b h), fun b o h => n.grow b o (m.grow b o h), fun b o h => by
    rcases n.new b o h with h | h | h
    · exact m.new b o h
    · exact .inr (.inl (m.live b h))
    · exact .inr (.inr h)⟩
theorem Ext.mvO {O : Addr → Prop} {H H1 Hf Hf1 : Hp} (x : Ext H H1 Hf Hf1) : MvO O H H1 Hf Hf1 := ⟨fun b o h _ => x.same b o h, x.live, x.grow, fun b o h => (x.new b o h).imp id .inl⟩
theorem Mv.mvO {O : Addr → Prop} {σ : St} {ρ ρ1 : Ev} {H H1 Hf Hf1 : Hp} (m : Mv σ ρ ρ1 H H1 Hf Hf1) (h : ∀ a, Own σ ρ a → O a) : MvO O H H1 Hf Hf1 :=
  ⟨fun b o q hn => m.keep b o q fun z => hn (h b z), m.live, m.grow, fun b o q => (m.new b o q).imp id fun z => z.imp id (h b)⟩
structure Ix (a b : Ev) : Prop where
  own : ∀ (i : Nat) (p : Bool) (xs : List D), b[i]? = some (some (.ow p xs)) → ∃ ys, a[i]? = some (some (.ow p ys))
  pin : ∀ (i : Nat) (xs : List D), a[i]? = some (some (.ow true xs)) → ∃ ys, b[i]? = some (some (.ow true ys))
theorem Ix.refl (a : Ev) : Ix a a := ⟨fun _ _ xs h => ⟨xs, h⟩, fun _ xs h => ⟨xs, h⟩⟩
theorem Ix.trans {a b c : Ev} (x : Ix a b) (y : Ix b c) : Ix a c := ⟨fun i p xs h => let ⟨ys, h1⟩ := y.own i p xs h; x.own i p ys h1, fun i xs h => let ⟨ys, h1⟩ := x.pin i xs h; y.pin i ys h1⟩
theorem Mv.ix {σ : St} {ρ ρ1 : Ev} {H H1 Hf Hf1 : Hp} (m : Mv σ ρ ρ1 H H1 Hf Hf1) : Ix ρ ρ1 := ⟨m.own, m.pin⟩
theorem SetTo.ix {is : List Nat} {σ σ1 : St} {ρ ρ1 : Ev} (t : SetTo is σ σ1 ρ ρ1) : Ix ρ ρ1 where
  own := fun i p xs h => by
    rcases t.each i with ⟨_, h2⟩ | ⟨⟨d, h2⟩, _⟩
    · exact ⟨xs, by rw [← h2]; exact h⟩
    · rw [h2] at h
      cases h
  pin := fun i xs h => by
    rcases t.each i with ⟨_, h2⟩ | ⟨_, h2, _⟩
    · exact ⟨xs, by rw [h2]; exact h⟩
    · unfold pinB at h2
      rw [h] at h2
      cases h2
theorem DEnv.updFree {K : Fg} {H Hf : Hp} {σ : St} {ρ : Ev} {a : Addr} {o : HO} (e : DEnv K H Hf σ ρ) (hf : Hf a = none) (hn : ¬ Own σ ρ a) : DEnv K (upd H a o) Hf σ ρ where
  sub := fun b u h => by rw [upd_ne (ne_of_none h hf)]; exact e.sub b u h
  sl := fun i s h => by
    have z := e.sl i s h
    cases s with
    | fz d => exact z
    | ow p xs =>
      obtain ⟨b, ys, z1, z2, z3, z4⟩ := z
      exact ⟨b, ys, z1, by rw [upd_ne (fun w => hn ⟨i, p, xs, h, by rw [← w]; exact z1⟩)]; exact z2, z3, z4⟩
  sep := e.sep
  len := e.len
theorem DEnv.wipe {K : Fg} {H Hf : Hp} {σ σ' : St} {ρ : Ev} (vs : List Nat) (e : DEnv K H Hf σ ρ) (hs : ∀ i, i ∉ vs → σ'[i]? = σ[i]?) (hl : σ'.length = σ.length) : DEnv K H Hf σ' (wipeD ρ vs) where
  sub := e.sub
  sl := fun i s h => by
    have hi : i ∉ vs := fun z => wipeD_in ρ z h
    rw [wipeD_out ρ hi] at h
    rw [hs i hi]
    exact e.sl i s h
  sep := fun i j a p xs q ys h1 h2 h3 h4 => by
    have hi : i ∉ vs := fun z => wipeD_in ρ z h1
    have hj : j ∉ vs := fun z => wipeD_in ρ z h2
    rw [wipeD_out ρ hi] at h1
    rw [wipeD_out ρ hj] at h2
    rw [hs i hi] at h3
    rw [hs j hj] at h4
    exact e.sep i j a p xs q ys h1 h2 h3 h4
  len := by rw [wipeD_len, hl]; exact e.len
theorem ix_wipe {ρ : Ev} {vs : List Nat} (h : ∀ v ∈ vs, ∀ p xs, ρ[v]? ≠ some (some (.ow p xs))) : Ix ρ (wipeD ρ vs) := ⟨fun i p xs q => by
  have hi : i ∉ vs := fun z => wipeD_in ρ z q
  rw [wipeD_out ρ hi] at q
  exact ⟨xs, q⟩, fun i xs q => by
  have hi : i ∉ vs := fun z => h i z true xs q
  exact ⟨xs, by rw [wipeD_out ρ hi]; exact q⟩⟩
section
variable {X : Cx} {pos : Pos}
structure DTs (X : Cx) (ifs : List Expr) (τ : TDT) : Prop where
  pts : PTs X ifs (canT X.K τ)
def tYesD : TDT := fun ρ P => P true ρ
theorem dts_nil : DTs X [] tYesD := ⟨⟨fun pins s σ H Q I ⟨Hf, ρ, P, e, q, k⟩ => pts_nil.run pins s σ H Q I (k true H Hf ρ e (Mv.refl ..) q)⟩⟩
theorem lc_reading {K : Fg} {is : List Nat} {τi : TDI} {γ : TDG} {τt : TDT} {τe : TD} {vs : List Nat} (hv : ∀ i ∈ is, i ∈ vs) {σ : St} {H Hf : Hp} {ρ : Ev} {P : Res → Ev → Prop} {Q : VK} (e : DEnv K H Hf σ ρ) (q : tLcD τi γ τt τe vs ρ P)
    (k : ∀ v H' Hf' r ρ', DEnv K H' Hf' σ ρ' → Mv σ ρ ρ' H H' Hf Hf' → ResOk K H H' Hf' v r → P r ρ' → Q v H') : tLc (canI K τi) (canG K is γ) (canT K τt) (canE K τe) vs σ H Q := by
  refine ⟨Hf, ρ, _, e, q, fun J H1 Hf1 ds ρ1 e1 m1 it ⟨hno, p1⟩ n hn => ?_⟩
  have hno' : ∀ v ∈ vs, ∀ p xs, ρ1[v]? ≠ some (some (.ow p xs)) := fun v hv' p xs => notOw_no (List.all_eq_true.mp hno v hv')
  have nfree : Hf1 n = none := free_of e1.sub hn
  have nown : ¬ Own σ ρ1 n := not_own e1 hn
  let O : Addr → Prop := Own σ ρ1
  let σw := wipe σ vs
  have hσw : ∀ i, i ∉ vs → σw[i]? = σ[i]? := fun i hi => wipe_out σ hi
  have hlw : σw.length = σ.length := wipe_length σ vs
  have x0 : Ext H1 (upd H1 n (.lst [])) Hf1 Hf1 := Ext.add' e1.sub _ hn
  have ownO : ∀ {ρ' : Ev} {σ' : St}, Ix (wipeD ρ1 vs) ρ' → (∀ i, i ∉ vs → σ'[i]? = σ[i]?) → ∀ a, Own σ' ρ' a → O a := by
    intro ρ' σ' ix hs a ⟨i, p, xs, h1, h2⟩
    obtain ⟨ys, h3⟩ := ix.own i p xs h1
    have hi : i ∉ vs := fun z => wipeD_in ρ1 z h3
    rw [wipeD_out ρ1 hi] at h3
    exact ⟨i, p, ys, h3, by rw [← hs i hi]; exact h2⟩
  refine ⟨fun i m H' => ∃ Hf' ρ' accV acc, DEnv K H' Hf' σw ρ' ∧ Ix (wipeD ρ1 vs) ρ' ∧ MvO O H1 H' Hf1 Hf' ∧ H' n = some (.lst accV) ∧ Hf' n = none ∧ RepL K Hf' accV acc ∧ lcD vs γ τt τe (ds.drop i) ρ' acc (fun acc ρ2 => P (.fr acc) (resto ρ1 ρ2 vs)) ∧ m = ds.length - i ∧ i ≤ ds.length,
    ⟨ds.length, Hf1, wipeD ρ1 vs, [], [], (x0.env e1).wipe vs hσw hlw, Ix.refl _, x0.mvO, upd_same, nfree, .nil, by rw [List.drop_zero]; exact p1, by omega, Nat.zero_le _⟩, ?_⟩
  rintro i m H2 ⟨Hf2, ρ2, accV, acc, e2, ix2, mv2, hD, fD, rD, q2, hm, hil⟩
  have On : ¬ O n := nown
  by_cases hlt : i < ds.length
  · have hd : ds[i]? = some ds[i] := List.getElem?_eq_getElem hlt
    obtain ⟨go, yl⟩ := it.item i ds[i] H2 Hf2 e2.sub mv2.grow hd
    rw [List.drop_eq_getElem_cons hlt] at q2
    let Nx : Hp → Prop := fun H' => ∃ Hf' ρ' accV acc, DEnv K H' Hf' σw ρ' ∧ Ix (wipeD ρ1 vs) ρ' ∧ MvO O H1 H' Hf1 Hf' ∧ H' n = some (.lst accV) ∧ Hf' n = none ∧ RepL K Hf' accV acc ∧ lcD vs γ τt τe (ds.drop (i + 1)) ρ' acc (fun acc ρ2 => P (.fr acc) (resto ρ1 ρ2 vs))
    refine .inr ⟨go, Nx, fun H' ⟨a1, a2, a3, a4, b1, b2, b3, b4, b5, b6, b7⟩ => ⟨ds.length - (i + 1), by omega, a1, a2, a3, a4, b1, b2, b3, b4, b5, b6, b7, rfl, hlt⟩, fun x H3 y => ?_⟩
    obtain ⟨Hf3, x3, r3⟩ := yl x H3 y
    have e3 := x3.env e2
    refine ⟨Hf3, ρ2, ds[i], _, e3, r3, q2, fun σ4 H4 Hf4 ρ4 e4 x4 t4 p4 => ?_⟩
    have hs4 : ∀ j, j ∉ vs → σ4[j]? = σw[j]? := fun j hj => by
      rcases t4.each j with ⟨t, _⟩ | ⟨_, _, t⟩
      · exact t
      · exact absurd (hv j t) hj
    have hs4' : ∀ j, j ∉ vs → σ4[j]? = σ[j]? := fun j hj => (hs4 j hj).trans (hσw j hj)
    have hl4 : σ4.length = σw.length := t4.len
    refine ⟨wipe_eq (hl4.trans hlw) hs4', ?_⟩
    have ix4 : Ix (wipeD ρ1 vs) ρ4 := ix2.trans t4.ix
    have x34 := x3.trans x4
    have mv4 : MvO O H1 H4 Hf1 Hf4 := mv2.trans x34.mvO
    have keepD : ∀ {H5 Hf5 : Hp}, MvO O H4 H5 Hf4 Hf5 → H5 n = some (.lst accV) ∧ Hf5 n = none := fun {H5 Hf5} mm => by
      have d4 : H4 n = some (.lst accV) := x34.same n _ hD
      refine ⟨mm.keep n _ d4 On, ?_⟩
      cases z : Hf5 n with
      | none => rfl
      | some o =>
        rcases mm.new n o z with z | z | z
        · rcases x34.new n o z with z | z
          · rw [fD] at z; cases z
          · rw [hD] at z; cases z
        · rw [d4] at z; cases z
        · exact absurd z On
    have back : ∀ {ρ' : Ev}, Ix (wipeD ρ1 vs) ρ' → ∀ v ∈ vs, ∀ p xs, ρ'[v]? ≠ some (some (.ow p xs)) := fun {ρ'} ix v hv' p xs z => by
      obtain ⟨ys, h⟩ := ix.own v p xs z
      exact wipeD_in ρ1 hv' h
    refine ⟨Hf4, ρ4, _, e4, p4, fun b H5 Hf5 ρ5 e5 m5 p5 => ?_⟩
    have ix5 := ix4.trans m5.ix
    have mm5 : MvO O H4 H5 Hf4 Hf5 := m5.mvO (ownO ix4 hs4')
    cases b with
    | false =>
      have p5' : lcD vs γ τt τe (ds.drop (i + 1)) (wipeD ρ5 vs) acc (fun acc ρ2 => P (.fr acc) (resto ρ1 ρ2 vs)) := p5
      obtain ⟨d5, f5⟩ := keepD mm5
      exact ⟨Hf5, wipeD ρ5 vs, accV, acc, e5.wipe vs (fun j hj => (hs4 j hj).symm) hl4.symm, ix5.trans (ix_wipe (back ix5)), mv4.trans mm5, d5, f5, rD.mono fun b o h => mm5.grow b o (x34.grow b o h), p5'⟩
    | true =>
      refine ⟨Hf5, ρ5, _, e5, p5, fun y H6 Hf6 r ρ6 e6 m6 r6 ⟨hz, p6⟩ => ?_⟩
      obtain ⟨Hf7, e7, m7, r7⟩ := r6.freeze e5 e6 m6
      have ix7 := ix5.trans m7.ix
      have mm7 : MvO O H4 H6 Hf4 Hf7 := mm5.trans (m7.mvO (ownO ix5 hs4'))
      obtain ⟨d7, f7⟩ := keepD mm7
      have rD7 : RepL K Hf7 accV acc := rD.mono fun b o h => mm7.grow b o (x34.grow b o h)
      have nown7 : ¬ Own σ4 ρ6 n := fun z => On (ownO ix7 hs4' n z)
      refine ⟨accV, d7, by rw [rD7.length]; exact Nat.lt_of_lt_of_le hz (by decide), ?_⟩
      have mm8 : MvO O H1 H6 Hf1 Hf7 := mv4.trans mm7
      refine ⟨Hf7, wipeD ρ6 vs, accV ++ [y], acc ++ [r.dat], (e7.updFree f7 nown7).wipe vs (fun j hj => (hs4 j hj).symm) hl4.symm, ix7.trans (ix_wipe (back ix7)), ⟨fun b o h hb => ?_, fun b h => ?_, mm8.grow, mm8.new⟩, upd_same, f7, rD7.append (.cons r7 .nil), p6⟩
      · rw [upd_ne (ne_of_none h hn)]
        exact mm8.keep b o h hb
      · by_cases hb : b = n
        · subst hb
          exact hn
        · rw [upd_ne hb] at h
          exact mm8.live b h
  · have ei : i = ds.length := by omega
    subst ei
    rw [List.drop_length] at q2
    refine .inl ⟨it.stop _ H2 Hf2 e2.sub mv2.grow (Nat.le_refl _) (Nat.le_refl _), ?_⟩
    have hl12 : ρ1.length = ρ2.length := by rw [← e1.len, ← e2.len, hlw]
    have eo : DEnv K H2 Hf2 σ (resto ρ1 ρ2 vs) := {
      sub := e2.sub
      sl := fun j s h => by
        by_cases hj : j ∈ vs
        · have h1 := resto_in ρ1 ρ2 hl12 hj h
          cases s with
          | fz d =>
            obtain ⟨v, z1, z2⟩ := e1.sl j _ h1
            exact ⟨v, z1, z2.mono mv2.grow⟩
          | ow p xs => exact absurd h1 (hno' j hj p xs)
        · rw [resto_out ρ1 ρ2 hj] at h
          rw [← hσw j hj]
          exact e2.sl j s h
      sep := fun j k a p xs q ys h1 h2 h3 h4 => by
        have hj : j ∉ vs := fun z => hno' j z p xs (resto_in ρ1 ρ2 hl12 z h1)
        have hk : k ∉ vs := fun z => hno' k z q ys (resto_in ρ1 ρ2 hl12 z h2)
        rw [resto_out ρ1 ρ2 hj] at h1
        rw [resto_out ρ1 ρ2 hk] at h2
        rw [← hσw j hj] at h3
        rw [← hσw k hk] at h4
        exact e2.sep j k a p xs q ys h1 h2 h3 h4
      len := by rw [resto_len, ← e2.len, hlw] }
    have mo : Mv σ ρ1 (resto ρ1 ρ2 vs) H1 H2 Hf1 Hf2 := {
      keep := mv2.keep
      live := mv2.live
      grow := mv2.grow
      new := mv2.new
      own := fun j p xs h => by
        have hj : j ∉ vs := fun z => hno' j z p xs (resto_in ρ1 ρ2 hl12 z h)
        rw [resto_out ρ1 ρ2 hj] at h
        obtain ⟨ys, h1⟩ := ix2.own j p xs h
        rw [wipeD_out ρ1 hj] at h1
        exact ⟨ys, h1⟩
      pin := fun j xs h => by
        have hj : j ∉ vs := fun z => hno' j z true xs h
        obtain ⟨ys, h1⟩ := ix2.pin j xs (by rw [wipeD_out ρ1 hj]; exact h)
        exact ⟨ys, by rw [resto_out ρ1 ρ2 hj]; exact h1⟩ }
    exact k _ H2 Hf2 (.fr acc) _ eo (m1.trans mo) ⟨n, accV, rfl, hD, fD, m1.live n hn, rD⟩ q2
theorem de_lc {elt tg iter : Expr} {ifs : List Expr} {scope : Scope} {own : List (Str × Nat)} {is : List Nat} {τi : TDI} {γ : TDG} {τt : TDT} {τe : TD} (hc : X.calm = true) (hN : X.N.Nodup) (hi : DI X tg iter τi) (ok : BlkOk X.N X.env.scope scope own)
    (hg : ∀ (s : Shared) (H : Hp) (C : Addr) (cl : List (Str × Addr)) (fp : List Addr), DG (X.blk s H scope (compEnvC scope cl C X.env) fp) tg is γ) (ht : ∀ (s : Shared) (H : Hp) (C : Addr) (cl : List (Str × Addr)) (fp : List Addr), DTs (X.blk s H scope (compEnvC scope cl C X.env) fp) ifs τt)
    (he : ∀ (s : Shared) (H : Hp) (C : Addr) (cl : List (Str × Addr)) (fp : List Addr), DE (X.blk s H scope (compEnvC scope cl C X.env) fp) elt τe) (hv : ∀ i ∈ is, i ∈ own.map (·.2) := by decide) (hs : ∀ x, foldedSetIterable iter X.env x = pure x := by intro _; rfl) :
    DE X (.ListComp elt [⟨tg, iter, ifs, 0⟩] scope pos) (tLcD τi γ τt τe (own.map (·.2))) :=
  DE.of (pe_lc hc hN hi.pi ok (fun s H C cl fp => (hg s H C cl fp).pg) (fun s H C cl fp => (ht s H C cl fp).pts) (fun s H C cl fp => (he s H C cl fp).pe) hs) fun σ H Hf ρ P Q e q k => lc_reading hv e q k
end
section
variable {X : Cx} {pos p p0 : Pos} {es : List Expr} {τs : TDA} {x y : Str} {f : Addr} {fd : FuncData} {ps : List Str} {k n : Nat}
def tCall1 (g : FS1) (i : Nat) (τ : TDA) : TD := fun ρ P => (∃ p xs, ρ[i]? = some (some (.ow p xs))) ∧ τ ρ fun ds ρ1 => ∃ p xs, ρ1[i]? = some (some (.ow p xs)) ∧ g xs ds fun r xs' => P r (ρ1.set i (some (.ow p xs')))
theorem de_call1 (i : Nat) {g : FS1} (F : FnOk X.prog X.w X.K X.mg X.base CX0 k f fd ps (sp1 X.K n g)) (hr : Room k X.A) (hg : Gl X x) (hm : X.mg x = some (.ref f)) (hk : PySem.W.keepIn X.K (.ref f) = true) (hb : Binds X.K fd ps [])
    (ha : DA X es τs) (hl : es.length + 1 = n := by rfl) (hN : X.N[i]? = some y := by rfl) (hv : Vis X.env.scope y := by first | exact Or.inl rfl | exact Or.inr (Or.inl rfl) | exact Or.inr (Or.inr rfl)) (hd : (y == ("__debug__" : Str)) = false := by decide) (hcd : (y == ("__classdict__" : Str)) = false := by decide)
    (hdb : (x == ("__debug__" : Str)) = false := by decide) (he : starEach (.Name y p0 :: es) X.env = (false, eval (.Name y p0) X.env) :: starEach es X.env := by rfl) (hpl : (backTo pos (starEach es X.env)).any (·.1) = false := by rfl) :
    DE X (.Call (.Name x p) (.Name y p0 :: es) [] pos) (tCall1 g i τs) := by
  refine DE.of (pe_call F hr hg hm hk hb .nil pass0 (pa_cons (pe_var hN hv hd hcd) ha.pa he) hdb he hpl) fun σ H Hf ρ P Q e ⟨⟨p1, xs0, h0⟩, q⟩ kk => ?_
  obtain ⟨a, ys0, h1, _⟩ := e.sl i _ h0
  refine ⟨.ref a, h1, Hf, ρ, _, e, q, fun vs H1 Hf1 ds ρ1 e1 m1 r1 hds ⟨p2, xs, g1, q1⟩ => ?_⟩
  show sp1 X.K n g ((.ref a :: vs) ++ []) H1 Q _
  rw [List.append_nil]
  obtain ⟨a', ys, z1, z2, z3, z4⟩ := e1.sl i _ g1
  rw [h1] at z1
  cases z1
  refine ⟨Hf1, a, vs, ys, xs, ds, _, rfl, e1.sub, z2, z3, z4, r1, by rw [hds]; exact hl, q1, fun v H2 Hf2 r ys' xs' x2 hy' hf' ry ok p3 => ?_⟩
  have hlt := lt_of g1
  have hga : ∀ b, Own σ ρ1 b → Hf2 b = none := fun b ⟨j, pj, us, w1, w2⟩ => by
    obtain ⟨b', zs, w3, w4, w5, _⟩ := e1.sl j _ w1
    rw [w2] at w3
    cases w3
    cases z : Hf2 b with
    | none => rfl
    | some o =>
      rcases x2.new b o z with z | z
      · rw [w5] at z; cases z
      · rw [w4] at z; cases z
  have e2 : DEnv X.K H2 Hf2 σ (ρ1.set i (some (.ow p2 xs'))) := {
    sub := x2.sub
    sl := fun j s h => by
      rw [set_get] at h
      by_cases hj : i = j
      · subst hj
        rw [if_pos rfl, if_pos hlt] at h
        cases h
        exact ⟨a, ys', h1, hy', hf', ry⟩
      · rw [if_neg hj] at h
        have z := e1.sl j s h
        cases s with
        | fz d =>
          obtain ⟨v, w1, w2⟩ := z
          exact ⟨v, w1, w2.mono x2.grow⟩
        | ow pj us =>
          obtain ⟨b, zs, w1, w2, w3, w4⟩ := z
          have hb : b ≠ a := fun w => by
            subst w
            exact hj (e1.sep i j b _ _ _ _ g1 h h1 w1)
          exact ⟨b, zs, w1, x2.same b _ w2 hb, hga b ⟨j, pj, us, h, w1⟩, w4.mono x2.grow⟩
    sep := fun j k b pj us pk zs q1 q2 q3 q4 => by
      have bk : ∀ {m : Nat} {pp : Bool} {vs : List D}, (ρ1.set i (some (.ow p2 xs')))[m]? = some (some (.ow pp vs)) → ∃ p2 vs2, ρ1[m]? = some (some (.ow p2 vs2)) := by
        intro m pp vs q
        rw [set_get] at q
        by_cases hm : i = m
        · subst hm
          exact ⟨_, _, g1⟩
        · rw [if_neg hm] at q
          exact ⟨_, _, q⟩
      obtain ⟨_, _, w1⟩ := bk q1
      obtain ⟨_, _, w2⟩ := bk q2
      exact e1.sep j k b _ _ _ _ w1 w2 q3 q4
    len := by rw [List.length_set]; exact e1.len }
  have m2 : Mv σ ρ1 (ρ1.set i (some (.ow p2 xs'))) H1 H2 Hf1 Hf2 := {
    keep := fun b o q hn => x2.same b o q fun z => hn ⟨i, p2, xs, g1, by rw [z]; exact h1⟩
    live := x2.live
    grow := x2.grow
    new := fun b o q => (x2.new b o q).imp id .inl
    own := fun j pj us q => by
      rw [set_get] at q
      by_cases hj : i = j
      · subst hj
        rw [if_pos rfl, if_pos hlt] at q
        cases q
        exact ⟨xs, g1⟩
      · rw [if_neg hj] at q
        exact ⟨us, q⟩
    pin := fun j us q => by
      by_cases hj : i = j
      · subst hj
        rw [g1] at q
        cases q
        exact ⟨xs', by rw [set_get, if_pos rfl, if_pos hlt]⟩
      · exact ⟨us, by rw [set_get, if_neg hj]; exact q⟩ }
  exact kk v H2 Hf2 r _ e2 (m1.trans m2) (ok.back m1.live) p3
end
end DL
namespace DL
open PySem L2
def Fn0 (P : Program) (w : World) (K : Fg) (mg : Str → Option Value) (base : Heap) (x : Str) (k n : Nat) (g : FS0) : Prop := ∃ f fd ps, FnOk P w K mg base CX0 k f fd ps (sp0 K n g) ∧ mg x = some (.ref f) ∧ PySem.W.keepIn K (.ref f) = true ∧ Binds K fd ps []
def Fn1 (P : Program) (w : World) (K : Fg) (mg : Str → Option Value) (base : Heap) (x : Str) (k n : Nat) (g : FS1) : Prop := ∃ f fd ps, FnOk P w K mg base CX0 k f fd ps (sp1 K n g) ∧ mg x = some (.ref f) ∧ PySem.W.keepIn K (.ref f) = true ∧ Binds K fd ps []
def Gc (K : Fg) (mg : Str → Option Value) (x : Str) (d : D) : Prop := ∃ v u, mg x = some u ∧ RelV v u ∧ ∀ H, Rep K H v d
section
variable {P : Program} {w : World} {K : Fg} {mg : Str → Option Value} {base : Heap} {x qual : Str} {st : Stmt} {f : Addr} {fd : FuncData} {N ps : List Str} {k j n : Nat}
theorem Fn0.mono {g : FS0} (h : Fn0 P w K mg base x j n g) (hj : j ≤ k) : Fn0 P w K mg base x k n g := let ⟨f, fd, ps, a, b⟩ := h; ⟨f, fd, ps, a.mono hj, b⟩
theorem Fn1.mono {g : FS1} (h : Fn1 P w K mg base x j n g) (hj : j ≤ k) : Fn1 P w K mg base x k n g := let ⟨f, fd, ps, a, b⟩ := h; ⟨f, fd, ps, a.mono hj, b⟩
theorem Fn0.imp {g g' : FS0} (h : Fn0 P w K mg base x k n g) (i : ∀ ds Q, g' ds Q → g ds Q) : Fn0 P w K mg base x k n g' := let ⟨f, fd, ps, a, b⟩ := h; ⟨f, fd, ps, a.imp fun vs H Q E ⟨Hf, ds, P, h1, h2, h3, h4, h5⟩ => ⟨Hf, ds, P, h1, h2, h3, i ds P h4, h5⟩, b⟩
theorem Fn1.imp {g g' : FS1} (h : Fn1 P w K mg base x k n g) (i : ∀ xs ds Q, g' xs ds Q → g xs ds Q) : Fn1 P w K mg base x k n g' := let ⟨f, fd, ps, a, b⟩ := h; ⟨f, fd, ps, a.imp fun vs H Q E ⟨Hf, a, us, ys, xs, ds, P, h1, h2, h3, h4, h5, h6, h7, h8, h9⟩ => ⟨Hf, a, us, ys, xs, ds, P, h1, h2, h3, h4, h5, h6, h7, i xs ds P h8, h9⟩, b⟩
structure At (K : Fg) (mg : Str → Option Value) (x : Str) (ps : List Str) (st : Stmt) (f : Addr) (fd : FuncData) : Prop where
  fn : FunA K x x st f fd
  mg : mg x = some (.ref f)
  bd : Binds K fd ps []
theorem At.fn0 {g : FS0} (A : At K mg x ps st f fd) (h : FnOk P w K mg base CX0 k f fd ps (sp0 K n g)) : Fn0 P w K mg base x k n g := ⟨f, fd, ps, h, A.mg, A.fn.kp, A.bd⟩
theorem At.fn1 {g : FS1} (A : At K mg x ps st f fd) (h : FnOk P w K mg base CX0 k f fd ps (sp1 K n g)) : Fn1 P w K mg base x k n g := ⟨f, fd, ps, h, A.mg, A.fn.kp, A.bd⟩
end
section
variable {X : Cx} {pos p p0 apos : Pos} {a b c e : Expr} {es : List Expr} {τa τb τc : TD} {τs : TDA} {x y : Str} {k n : Nat}
theorem de_c0 {g : FS0} (h : Fn0 X.prog X.w X.K X.mg X.base x k n g) (hr : Room k X.A) (hg : Gl X x) (ha : DA X (e :: es) τs) (hl : (e :: es).length = n := by rfl) (hdb : (x == ("__debug__" : Str)) = false := by decide) (he : starEach (e :: es) X.env = (false, eval e X.env) :: starEach es X.env := by rfl) (hpl : (backTo pos (starEach es X.env)).any (·.1) = false := by rfl) :
    DE X (.Call (.Name x p) (e :: es) [] pos) (tCall0 g τs) := let ⟨_, _, _, h1, h2, h3, h4⟩ := h; de_call0 h1 hr hg h2 h3 h4 ha hl hdb he hpl
theorem de_c1 (i : Nat) {g : FS1} (h : Fn1 X.prog X.w X.K X.mg X.base x k n g) (hr : Room k X.A) (hg : Gl X x) (ha : DA X es τs) (hl : es.length + 1 = n := by rfl) (hN : X.N[i]? = some y := by rfl) (hv : Vis X.env.scope y := by first | exact Or.inl rfl | exact Or.inr (Or.inl rfl) | exact Or.inr (Or.inr rfl)) (hd : (y == ("__debug__" : Str)) = false := by decide) (hcd : (y == ("__classdict__" : Str)) = false := by decide)
    (hdb : (x == ("__debug__" : Str)) = false := by decide) (he : starEach (.Name y p0 :: es) X.env = (false, eval (.Name y p0) X.env) :: starEach es X.env := by rfl) (hpl : (backTo pos (starEach es X.env)).any (·.1) = false := by rfl) :
    DE X (.Call (.Name x p) (.Name y p0 :: es) [] pos) (tCall1 g i τs) := let ⟨_, _, _, h1, h2, h3, h4⟩ := h; de_call1 i h1 hr hg h2 h3 h4 ha hl hN hv hd hcd hdb he hpl
theorem opS_sub {K : Fg} : OpS K (rI0 fun i j => .int (i - j)) subD := opS_intI
theorem opS_fdiv {K : Fg} : OpS K (rI CDiv fun i j => .int (i / j)) fdivD := opS_int fun i j h => (show 0 < j ∧ j < 1073741824 from of_decide_eq_true h)
theorem opS_mod {K : Fg} : OpS K (rI (fun _ j => 0 < j) fun i j => .int (i % j)) modD := opS_int fun _ _ h => of_decide_eq_true h
theorem opS_pow {K : Fg} : OpS K (rI CPow fun i j => .int (i ^ j.toNat)) powD := opS_int fun i j h => (show 0 ≤ j ∧ j ≤ 1000000 ∧ i.natAbs < 2 ^ 64 from of_decide_eq_true h)
theorem opS_lt {K : Fg} : OpS K (rI0 fun i j => .bl (decide (i < j))) ltD := opS_intB
theorem opS_le {K : Fg} : OpS K (rI0 fun i j => .bl (decide (i ≤ j))) leD := opS_intB
theorem opS_gt {K : Fg} : OpS K (rI0 fun i j => .bl (decide (j < i))) gtD := opS_intB
theorem opS_ge {K : Fg} : OpS K (rI0 fun i j => .bl (decide (j ≤ i))) geD := opS_intB
theorem de_add (ha : DE X a τa) (hb : DE X b τb) : DE X (.BinOp a .Add b pos) (tBin addD τa τb) := de_bin op_addD opS_add ha hb
theorem de_mul (ha : DE X a τa) (hb : DE X b τb) : DE X (.BinOp a .Mult b pos) (tBin mulD τa τb) := de_bin op_mulD opS_mul ha hb
theorem de_fdiv (ha : DE X a τa) (hb : DE X b τb) : DE X (.BinOp a .FloorDiv b pos) (tBin fdivD τa τb) := de_bin op_fdiv opS_fdiv ha hb
theorem de_mod (ha : DE X a τa) (hb : DE X b τb) : DE X (.BinOp a .Mod b pos) (tBin modD τa τb) := de_bin op_mod opS_mod ha hb
theorem de_pow (ha : DE X a τa) (hb : DE X b τb) : DE X (.BinOp a .Pow b pos) (tBin powD τa τb) := de_bin op_pow opS_pow ha hb
theorem de_notin (ha : DE X a τa) (hb : DE X b τb) (hm : behindInMarks .NotIn b = false := by rfl) : DE X (.Compare a [.NotIn] [b] pos) (tBin notinD τa τb) := de_cmp op_notinD opS_notin ha hb hm
theorem dt_eq (hr : Room k X.A) (ha : DE X a τa) (hb : DE X b τb) : DT X (.Compare a [.Eq] [b] pos) (tT (tBin eqD τa τb)) := dt_cmp (op_eqD' hr.units) opS_eq ha hb (nomark _)
theorem dt_lt (ha : DE X a τa) (hb : DE X b τb) : DT X (.Compare a [.Lt] [b] pos) (tT (tBin ltD τa τb)) := dt_cmp op_lt opS_lt ha hb (nomark _)
theorem dt_gt (ha : DE X a τa) (hb : DE X b τb) : DT X (.Compare a [.Gt] [b] pos) (tT (tBin gtD τa τb)) := dt_cmp op_gt opS_gt ha hb (nomark _)
theorem dt_ge (ha : DE X a τa) (hb : DE X b τb) : DT X (.Compare a [.GtE] [b] pos) (tT (tBin geD τa τb)) := dt_cmp op_ge opS_ge ha hb (nomark _)
variable {he : starEach (e :: es) X.env = (false, eval e X.env) :: starEach es X.env}
theorem de_len (hg : Gl X "len") (hm : X.mg "len" = none) (ha : DA X (e :: es) τs) (he : starEach (e :: es) X.env = (false, eval e X.env) :: starEach es X.env := by rfl) (hpl : (backTo pos (starEach es X.env)).any (·.1) = false := by rfl) : DE X (.Call (.Name "len" p) (e :: es) [] pos) (tCallG lenD τs) := de_callB call_len callS_len hg hm PySem.boot_len ha (he := he) (hpl := hpl)
theorem de_all (hc : X.calm = true) (hg : Gl X "all") (hm : X.mg "all" = none) (ha : DA X (e :: es) τs) (he : starEach (e :: es) X.env = (false, eval e X.env) :: starEach es X.env := by rfl) (hpl : (backTo pos (starEach es X.env)).any (·.1) = false := by rfl) : DE X (.Call (.Name "all" p) (e :: es) [] pos) (tCallG allD τs) := de_callB (cr_all hc) callS_all hg hm (by decide +kernel) ha (he := he) (hpl := hpl)
theorem de_list (hc : X.calm = true) (hg : Gl X "list") (hm : X.mg "list" = none) (ha : DA X (e :: es) τs) (he : starEach (e :: es) X.env = (false, eval e X.env) :: starEach es X.env := by rfl) (hpl : (backTo pos (starEach es X.env)).any (·.1) = false := by rfl) : DE X (.Call (.Name "list" p) (e :: es) [] pos) (tCallG listD τs) := de_callTy (callR_list hc) callS_list hg hm (by decide +kernel) ha (he := he) (hpl := hpl)
end
end DL
namespace DL
open PySem L2
theorem lc_pure {α : Type} {φ : α → D} {v : Nat} {τt : TDT} {τe : TD} {b : α → Bool} {f : α → D} {ρ : Ev} {P : List D → Ev → Prop} (hv : ρ.set v none = ρ) (hp : pinB ρ v = false) : ∀ (l : List α) (acc : List D),
    (∀ a ∈ l, ∀ Q, Q (b a) (ρ.set v (some (.fz (φ a)))) → τt (ρ.set v (some (.fz (φ a)))) Q) → (∀ a ∈ l, b a = true → ∀ Q : Res → Ev → Prop, (∀ r, r.dat = f a → Q r (ρ.set v (some (.fz (φ a))))) → τe (ρ.set v (some (.fz (φ a)))) Q) →
    acc.length + l.length ≤ 16000 → P (acc ++ (l.filter b).map f) ρ → lcD [v] (gN v) τt τe (l.map φ) ρ acc P
  | [], acc, _, _, _, q => by simpa [lcD] using q
  | a :: l, acc, ht, he, hz, q => by
    have hw : wipeD (ρ.set v (some (.fz (φ a)))) [v] = ρ := by
      show (ρ.set v (some (.fz (φ a)))).set v none = ρ
      rw [List.set_set]
      exact hv
    rw [List.length_cons] at hz
    refine ⟨hp, ht a (List.mem_cons_self ..) _ ?_⟩
    cases hb : b a with
    | true =>
      rw [if_pos rfl]
      refine he a (List.mem_cons_self ..) hb _ fun r hr => ⟨by omega, ?_⟩
      rw [hw, hr]
      refine lc_pure hv hp l (acc ++ [f a]) (fun d' hd => ht d' (List.mem_cons_of_mem _ hd)) (fun d' hd => he d' (List.mem_cons_of_mem _ hd)) (by rw [List.length_append, List.length_singleton]; omega) ?_
      rw [List.append_assoc]
      simpa [List.filter_cons, hb] using q
    | false =>
      rw [if_neg (by decide), hw]
      refine lc_pure hv hp l acc (fun d' hd => ht d' (List.mem_cons_of_mem _ hd)) (fun d' hd => he d' (List.mem_cons_of_mem _ hd)) (by omega) ?_
      simpa [List.filter_cons, hb] using q
theorem lc_map {α : Type} {φ : α → D} {v : Nat} {τe : TD} {f : α → D} {ρ : Ev} {P : List D → Ev → Prop} (l : List α) (hv : ρ.set v none = ρ) (hp : pinB ρ v = false)
    (he : ∀ a ∈ l, ∀ Q : Res → Ev → Prop, (∀ r, r.dat = f a → Q r (ρ.set v (some (.fz (φ a))))) → τe (ρ.set v (some (.fz (φ a)))) Q) (hz : l.length ≤ 16000) (q : P (l.map f) ρ) : lcD [v] (gN v) tYesD τe (l.map φ) ρ [] P :=
  lc_pure (b := fun _ => true) hv hp l [] (fun d _ Q h => h) (fun d hd _ Q h => he d hd Q h) (by simpa using hz) (by rw [List.filter_eq_self.mpr (fun _ _ => rfl)]; simpa using q)
theorem ifd {p : Prop} [Decidable p] {c : Bool} {A B : Prop} (hc : c = decide p) (h1 : p → A) (h2 : ¬ p → B) : if c = true then A else B := by
  subst hc
  by_cases h : p
  · rw [if_pos (decide_eq_true h)]
    exact h1 h
  · rw [if_neg (by rw [decide_eq_false h]; decide)]
    exact h2 h
theorem ifT {c : Bool} {A B : Prop} (hc : c = true) (h : A) : if c = true then A else B := by rw [if_pos hc]; exact h
theorem ifF {c : Bool} {A B : Prop} (hc : c = false) (h : B) : if c = true then A else B := by rw [if_neg (by rw [hc]; decide)]; exact h
theorem ifB {c : Bool} {A B : Prop} (h1 : c = true → A) (h2 : c = false → B) : if c = true then A else B := by
  cases c with
  | true => exact ifT rfl (h1 rfl)
  | false => exact ifF rfl (h2 rfl)
theorem blsOf_map {α : Type} (f : α → Bool) : ∀ l : List α, blsOf (l.map fun x => D.bl (f x)) = some (l.map f)
  | [] => rfl
  | x :: l => by
    rw [List.map_cons, blsOf, blsOf_map f l]
    rfl
theorem all_map {α : Type} (p : α → Bool) (l : List α) : allD [.lst (l.map fun d => .bl (p d))] = some (.fz (.bl ((l.map p).all id))) := by
  show (blsOf (l.map fun d => .bl (p d))).map _ = _
  rw [blsOf_map]
  rfl
theorem At.none0 {P : Program} {w : World} {K : Fg} {mg : Str → Option Value} {base : Heap} {x : Str} {ps : List Str} {st : Stmt} {f : Addr} {fd : FuncData} {k n : Nat} {g : FS0} (A : At K mg x ps st f fd) (h : ∀ ds Q, ¬ g ds Q) : Fn0 P w K mg base x k n g :=
  A.fn0 ⟨fun vs H Q E ⟨_, ds, P, _, _, _, hg, _⟩ => absurd hg (h ds P), fun _ _ _ _ _ _ _ _ _ _ _ _ _ ⟨_, ds, P, _, _, _, hg, _⟩ => absurd hg (h ds P)⟩
theorem strsOf_signs : ∀ cs : List Nat, strsOf (cs.map fun c => D.str ⟨#[c]⟩) = some (cs.map fun c => (⟨#[c]⟩ : Str))
  | [] => rfl
  | c :: cs => by
    rw [List.map_cons, strsOf, strsOf_signs cs]
    rfl
abbrev Str.l (s : Str) : List Nat := s.cps.toList
def ofL (cs : List Nat) : Str := ⟨cs.toArray⟩
@[simp] theorem ofL_l (cs : List Nat) : (ofL cs).cps.toList = cs := by simp [ofL]
@[simp] theorem l_ofL (s : Str) : ofL s.cps.toList = s := by cases s; simp [ofL]
theorem str_ext {s t : Str} (h : s.cps.toList = t.cps.toList) : s = t := by rw [← l_ofL s, ← l_ofL t, h]
theorem len_l (s : Str) : s.length = s.cps.toList.length := by simp [Str.length]
theorem l_append (s t : Str) : (s ++ t).cps.toList = s.cps.toList ++ t.cps.toList := by
  show (Str.append s t).cps.toList = _
  simp [Str.append]
theorem sjoin_empty : ∀ ys : List Str, (Str.join Str.empty ys).cps.toList = (ys.map fun y => y.cps.toList).flatten
  | [] => rfl
  | [y] => by simp [Str.join]
  | y :: z :: r => by
    show (y ++ Str.empty ++ Str.join Str.empty (z :: r)).cps.toList = _
    rw [l_append, l_append, sjoin_empty (z :: r)]
    simp [Str.empty]
theorem join_empty (ys : List Str) : (Txt.join Str.empty ys).cps.toList = (ys.map fun y => y.cps.toList).flatten := by
  rw [show Txt.join Str.empty ys = Str.join Str.empty ys from TL.join_eq _ _, sjoin_empty]
theorem join_signs (cs : List Nat) : Txt.join Str.empty (cs.map fun c => (⟨#[c]⟩ : Str)) = ofL cs := by
  apply str_ext
  rw [join_empty, ofL_l, List.map_map]
  induction cs with
  | nil => rfl
  | cons c cs ih => rw [List.map_cons, List.flatten_cons, ih]; rfl
theorem joinD_signs (cs : List Nat) (h : cs.length ≤ 50000) : joinD (.str "") (.lst (cs.map fun c => .str ⟨#[c]⟩)) = some (.fz (.str (ofL cs))) := by
  have e0 : ("" : Str) = Str.empty := by decide +kernel
  have hz : ((cs.map fun c => (⟨#[c]⟩ : Str)).map (fun s : Str => s.length)).sum + (cs.map fun c => (⟨#[c]⟩ : Str)).length * ("" : Str).length ≤ 100000 := by
    rw [e0, show Str.empty.length = 0 from rfl, Nat.mul_zero, Nat.add_zero, List.map_map]
    have : ∀ l : List Nat, (l.map ((fun s : Str => s.length) ∘ fun c => (⟨#[c]⟩ : Str))).sum = l.length := by
      intro l
      induction l with
      | nil => rfl
      | cons c l ih => rw [List.map_cons, List.sum_cons, ih, List.length_cons]; show 1 + l.length = _; omega
    rw [this]
    omega
  show (match strsOf (cs.map fun c => D.str ⟨#[c]⟩) with | some ys => if (ys.map (fun s : Str => s.length)).sum + ys.length * ("" : Str).length ≤ 100000 then some (Res.fz (.str (Txt.join "" ys))) else none | none => none) = _
  rw [strsOf_signs]
  show (if _ then _ else _) = _
  rw [if_pos hz, e0, join_signs]
theorem eqS_eq' (a b : Str) : eqS a b = decide (b = a) := by
  rw [eqS_eq]
  by_cases h : a = b
  · rw [decide_eq_true h, decide_eq_true h.symm]
  · rw [decide_eq_false h, decide_eq_false fun z => h z.symm]
theorem mod_ok {i j : Int} (h : 0 < j) : modD (.int i) (.int j) = some (.fz (.int (i % j))) := by
  show (if _ then _ else _) = _
  rw [if_pos (decide_eq_true h)]
theorem fdiv_ok {i j : Int} (h : 0 < j) (h2 : j < 1073741824) : fdivD (.int i) (.int j) = some (.fz (.int (i / j))) := by
  show (if _ then _ else _) = _
  rw [if_pos (decide_eq_true ⟨h, h2⟩)]
theorem pow_ok {i j : Int} (h : 0 ≤ j) (h2 : j ≤ 1000000) (h3 : i.natAbs < 2 ^ 64) : powD (.int i) (.int j) = some (.fz (.int (i ^ j.toNat))) := by
  show (if _ then _ else _) = _
  rw [if_pos (decide_eq_true ⟨h, h2, h3⟩)]
theorem mul_okR {i j : Int} (h : -(2 ^ 64) < j) (h2 : j < 2 ^ 64) : mulD (.int i) (.int j) = some (.fz (.int (i * j))) := by
  show (if _ then _ else _) = _
  rw [if_pos (decide_eq_true (.inr ⟨h, h2⟩))]
theorem atI_get {α : Type} {xs : List α} {i : Int} (h0 : 0 ≤ i) (h1 : i < (xs.length : Int)) : atI xs i = xs[i.toNat]? := by
  unfold atI ixN
  rw [if_pos h0, if_pos h1]
  rfl
theorem atI_ok {α : Type} {xs : List α} {i : Int} (h0 : 0 ≤ i) (h1 : i < (xs.length : Int)) : ∃ x, atI xs i = some x ∧ x ∈ xs := by
  have hl : i.toNat < xs.length := by omega
  exact ⟨xs[i.toNat], by rw [atI_get h0 h1]; exact List.getElem?_eq_getElem hl, List.getElem_mem hl⟩
theorem ix_lst {xs : List D} {i : Int} {d : D} (h : atI xs i = some d) : ixD (.lst xs) (.int i) = some (.fz d) := by
  show (atI xs i).map _ = _
  rw [h]
  rfl
theorem atI_0 {α : Type} (x : α) (xs : List α) : atI (x :: xs) 0 = some x := by
  unfold atI ixN
  rw [if_pos (by decide), if_pos (by rw [List.length_cons]; omega)]
  rfl
theorem ix_t0 (x : D) (xs : List D) : ixD (.tup (x :: xs)) (.int 0) = some (.fz x) := by
  show (atI (x :: xs) 0).map Res.fz = _
  rw [atI_0]
  rfl
theorem ix_l0 (x : D) (xs : List D) : ixD (.lst (x :: xs)) (.int 0) = some (.fz x) := by
  show (atI (x :: xs) 0).map Res.fz = _
  rw [atI_0]
  rfl
end DL
namespace L2
open PySem PySem.Spec PyProof.Rows PySem.Calls
section
variable {P : Program} {w : World} {A : Around} {E : Value → Shared → Prop} {s : Shared}
abbrev so (w : World) : Obj := { cls := .type "set", dict := none, data := .set #[] 0 (.fresh 0 0 (!w.params.followText "set-order")) }
end
section
variable {X : Cx}
end
end L2
namespace DL
open PySem L2 PySem.Spec PyProof.Rows
section
variable {X : Cx} {pos p p2 q apos : Pos} {a b c e o : Expr} {es : List Expr} {τa τb τe τo : TD} {τs : TDA}
end
end DL
namespace DL
open PySem L2
mutual
def nkD : D → Option NestedKey
  | .non => some .none
  | .int i => some (.num i)
  | .str x => some (.text x)
  | .tup ds => match nkL ds with
    | some ks => some (.tup ks)
    | none => none
  | _ => none
def nkL : List D → Option (List NestedKey)
  | [] => some []
  | d :: ds => match nkD d, nkL ds with
    | some k, some ks => some (k :: ks)
    | _, _ => none
end
section
variable {X : Cx} {pins : List (Addr × Obj)} {σ : St} {H : Hp} {s : Shared}
mutual
theorem nk_is (I : Inv X pins σ H s) : ∀ {v : V} {d : D} {k : NestedKey} {u : Value}, Rep X.K H v d → nkD d = some k → RelV v u → NestedIs s.heap k u
  | _, _, k, u, .non, e, r => by
    rw [nkD] at e; cases e
    rw [show u = Value.none from r]; exact .none
  | _, _, k, u, .bl b, e, r => by rw [nkD] at e <;> first | cases e | (intros; intro z; cases z)
  | _, _, k, u, .int i, e, r => by
    rw [nkD] at e; cases e
    obtain ⟨t, rfl⟩ : ∃ t, u = Value.int i t := r
    exact .int i t
  | _, _, k, u, .str x, e, r => by
    rw [nkD] at e; cases e
    obtain ⟨t, rfl⟩ : ∃ t, u = Value.str x t := r
    exact .text x t
  | _, _, k, u, .ty n, e, r => by rw [nkD] at e <;> first | cases e | (intros; intro z; cases z)
  | _, _, k, u, .raw v, e, r => by rw [nkD] at e <;> first | cases e | (intros; intro z; cases z)
  | _, _, k, u, .scr h, e, r => by rw [nkD] at e <;> first | cases e | (intros; intro z; cases z)
  | _, _, k, u, .lst h t, e, r => by rw [nkD] at e <;> first | cases e | (intros; intro z; cases z)
  | _, _, k, u, .obj h t, e, r => by rw [nkD] at e <;> first | cases e | (intros; intro z; cases z)
  | _, _, k, u, .tup (a := a) (ds := ds) h t, e, r => by
    rw [nkD] at e
    cases el : nkL ds with
    | none => rw [el] at e; cases e
    | some ks =>
      rw [el] at e; cases e
      rw [show u = Value.ref a from r]
      obtain ⟨its, rv, ⟨o, h1, h2, n, h3⟩, _⟩ := I.tuple h
      exact .tup h1 h2 h3 (nk_all I t el rv)
theorem nk_all (I : Inv X pins σ H s) : ∀ {vs : List V} {ds : List D} {ks : List NestedKey} {us : List Value}, RepL X.K H vs ds → nkL ds = some ks → Vals vs us → NestedAll s.heap ks us
  | _, _, ks, us, .nil, e, r => by
    rw [nkL] at e; cases e
    cases r; exact .nil
  | _, _, ks, us, .cons (d := d) (ds := ds) h t, e, r => by
    rw [nkL] at e
    cases e1 : nkD d with
    | none => rw [e1] at e; cases e
    | some k =>
      cases e2 : nkL ds with
      | none => rw [e1, e2] at e; cases e
      | some ks =>
        rw [e1, e2] at e; cases e
        cases r with
        | cons r1 r2 => exact .cons (nk_is I h e1 r1) (nk_all I t e2 r2)
end
end
abbrev NkX := NestedKey × Addr × V
abbrev NkU := NestedKey × Addr × Value
def PN : List NkX → List NkU → Prop := Paired fun p q => p.1 = q.1 ∧ p.2.1 = q.2.1 ∧ RelV p.2.2 q.2.2
def DnR (w : World) (a : Addr) (xs : List NkX) (h : Heap) : Prop := xs.length ≤ sizeLine ∧ (a == sysModules) = false ∧ ∃ us : List NkU, PN xs us ∧
  ∃ o es ep, h.get? a = some o ∧ o.ExactDict ∧ o.data = .dict es ep ∧ es.toList = us.map (fun x => (⟨x.1.hash w, .ref x.2.1, x.2.2⟩ : DictEntry)) ∧ (us.map (·.1)).Nodup
theorem DnR.stay {w : World} {a : Addr} {xs : List NkX} : ∀ h1 h2 : Heap, DnR w a xs h1 → (∀ o, h1.get? a = some o → h2.get? a = some o) → DnR w a xs h2 := fun h1 h2 ⟨y1, y2, us, y3, o, es, ep, y4, y5⟩ e => ⟨y1, y2, us, y3, o, es, ep, e o y4, y5⟩
def DnO (w : World) (a : Addr) (xs : List NkX) : HO := .ext (DnR w a xs)
theorem DnR.ok {P : Program} {w : World} {H : Hp} {h : Heap} {a : Addr} {xs : List NkX} (r : DnR w a xs h) : ObjOk P w H h a (DnO w a xs) := by
  obtain ⟨_, _, us, _, o, _, _, y4, _⟩ := id r
  exact ⟨r, ⟨o, y4⟩, DnR.stay⟩
def KyO (K : Fg) (H : Hp) (x : NkX) : Prop := ∃ d, Rep K H (.ref x.2.1) d ∧ nkD d = some x.1 ∧ x.1.depth ≤ 8
def valN (xs : List NkX) (k : NestedKey) : Option V := match xs with
  | [] => none
  | x :: r => if x.1 = k then some x.2.2 else valN r k
def putN (xs : List NkX) (k : NestedKey) (b : Addr) (v : V) : List NkX := if (valN xs k).isSome = true then xs.map fun x => if x.1 = k then (x.1, x.2.1, v) else x else xs ++ [(k, b, v)]
theorem PN.val {k : NestedKey} : ∀ {xs : List NkX} {us : List NkU}, PN xs us → RelO (valN xs k) ((atKey us k).map (·.2))
  | _, _, .nil => True.intro
  | x :: xs, u :: us, .cons ⟨r1, r2, r3⟩ t => by
    rw [valN]
    by_cases e : x.1 = k
    · rw [if_pos e]
      have : atKey (u :: us) k = some u.2 := by unfold atKey; rw [List.find?_cons_of_pos (by rw [← r1]; exact decide_eq_true e)]; rfl
      rw [this]; exact r3
    · rw [if_neg e]
      have : atKey (u :: us) k = atKey us k := by unfold atKey; rw [List.find?_cons_of_neg (by rw [← r1]; simp [e])]
      rw [this]; exact PN.val t
theorem RelO.is {a : Option V} {b : Option Value} (r : RelO a b) : a.isSome = b.isSome := by
  cases a <;> cases b <;> first | rfl | exact r.elim
theorem PN.repl {k : NestedKey} {v : V} {u : Value} (rv : RelV v u) : ∀ {xs : List NkX} {us : List NkU}, PN xs us → PN (xs.map fun x => if x.1 = k then (x.1, x.2.1, v) else x) (us.map (putAt k u))
  | _, _, .nil => .nil
  | x :: xs, y :: us, .cons ⟨r1, r2, r3⟩ t => by
    rw [List.map_cons, List.map_cons]
    refine .cons ?_ (PN.repl rv t)
    unfold putAt
    by_cases e : x.1 = k
    · rw [if_pos e, if_pos (r1 ▸ e)]; exact ⟨r1, r2, rv⟩
    · rw [if_neg e, if_neg (fun z => e (r1.trans z))]; exact ⟨r1, r2, r3⟩
theorem PN.put {k : NestedKey} {b : Addr} {v : V} {u : Value} (rv : RelV v u) {xs : List NkX} {us : List NkU} (p : PN xs us) : PN (putN xs k b v) (storedH us k b u) := by
  unfold putN storedH
  have e := RelO.is (p.val (k := k))
  rw [Option.isSome_map] at e
  rw [e]
  by_cases z : (atKey us k).isSome = true
  · rw [if_pos z, if_pos z]; exact p.repl rv
  · rw [if_neg z, if_neg z]; exact Paired.snoc p ⟨rfl, rfl, rv⟩
theorem putN_len (xs : List NkX) (k : NestedKey) (b : Addr) (v : V) : (putN xs k b v).length ≤ xs.length + 1 := by
  unfold putN
  split
  · rw [List.length_map]; omega
  · simp
section
variable {X : Cx} {pins : List (Addr × Obj)} {σ : St} {H : Hp} {s : Shared} {a b : Addr} {xs : List NkX} {k : NestedKey} {v : V} {A : Around} {E : Value → Shared → Prop}
theorem ky_is (I : Inv X pins σ H s) {b : Addr} {d : D} (r : Rep X.K H (.ref b) d) (e : nkD d = some k) (l : k.depth ≤ 8) : (nestedKind X.prog X.w).is s.heap k b := ⟨nk_is I r e rfl, l⟩
theorem dn_of (I : Inv X pins σ H s) (e : H a = some (DnO X.w a xs)) (hk : ∀ x ∈ xs, KyO X.K H x) : xs.length ≤ sizeLine ∧ (a == sysModules) = false ∧ ∃ us, PN xs us ∧ s.heap.DictOfH (nestedKind X.prog X.w) a us := by
  obtain ⟨⟨y1, y2, us, y3, o, es, ep, y4, y5, y6, y7, y8⟩, _⟩ := (show ObjOk X.prog X.w H s.heap a (DnO X.w a xs) from I.hok a _ e)
  refine ⟨y1, y2, us, y3, o, es, ep, y4, y5, y6, y7, ?_, y8⟩
  have all : ∀ {l : List NkX} {m : List NkU}, PN l m → (∀ x ∈ l, KyO X.K H x) → ∀ u ∈ m, (nestedKind X.prog X.w).is s.heap u.1 u.2.1 := by
    intro l m p
    induction p with
    | nil => exact fun _ u hu => nomatch hu
    | @cons x u l m r t ih =>
      intro h u' hu
      rcases List.mem_cons.mp hu with z | hu
      · rw [z]
        obtain ⟨d, d1, d2, d3⟩ := h x (List.mem_cons_self ..)
        rw [← r.1, ← r.2.1]
        exact ky_is I d1 d2 d3
      · exact ih (fun x hx => h x (List.mem_cons_of_mem _ hx)) u' hu
  exact all y3 hk
theorem room_n (hu : A.units + 64 < cLine) : (nestedKind X.prog X.w).room A.in1 := by show A.units + 1 + 8 < cLine; omega
theorem dn_get {Q : Value → Shared → Prop} {d : D} (hu : A.units + 64 < cLine) (I : Inv X pins σ H s) (e : H a = some (DnO X.w a xs)) (hk : ∀ x ∈ xs, KyO X.K H x) (r : Rep X.K H (.ref b) d) (hd : nkD d = some k) (l : k.depth ≤ 8) (hv : valN xs k = some v) (h : ∀ w' s', Inv X pins σ H s' → RelV v w' → Q w' s') :
    wpAny (model X.prog X.w) A (getItem (.ref a) (.ref b)) Q E s := by
  obtain ⟨y1, y2, us, y3, y4⟩ := dn_of I e hk
  have z := y3.val (k := k)
  rw [hv] at z
  cases hz : atKey us k with
  | none => rw [hz] at z; exact z.elim
  | some p =>
    rw [hz] at z
    exact wpAny_getItem_heap (room_n hu) (ky_is I r hd l) y4 hz (h _ _ (I.tok _) z)
theorem dn_notin {Q : Value → Shared → Prop} {d : D} (hu : A.units + 64 < cLine) (I : Inv X pins σ H s) (e : H a = some (DnO X.w a xs)) (hk : ∀ x ∈ xs, KyO X.K H x) (r : Rep X.K H (.ref b) d) (hd : nkD d = some k) (l : k.depth ≤ 8) (h : ∀ s', Inv X pins σ H s' → Q (.bool (!(valN xs k).isSome)) s') :
    wpAny (model X.prog X.w) A (compareOp .NotIn (.ref b) (.ref a)) Q E s := by
  obtain ⟨y1, y2, us, y3, y4⟩ := dn_of I e hk
  have z := RelO.is (y3.val (k := k))
  rw [Option.isSome_map] at z
  refine PyProof.Rows.wpAny_notIn_heap (room_n hu) (ky_is I r hd l) y2 y4 ?_
  rw [← z]
  exact h _ (I.tok _)
theorem dn_put {Q : Unit → Shared → Prop} {d : D} {u : Value} (hu : A.units + 64 < cLine) (I : Inv X pins σ H s) (e : H a = some (DnO X.w a xs)) (hk : ∀ x ∈ xs, KyO X.K H x) (r : Rep X.K H (.ref b) d) (hd : nkD d = some k) (l : k.depth ≤ 8) (hl : xs.length < sizeLine) (rv : RelV v u)
    (h : ∀ s', Inv X pins σ (upd H a (DnO X.w a (putN xs k b v))) s' → Q () s') : wpAny (model X.prog X.w) A (setItem (.ref a) (.ref b) u) Q E s := by
  obtain ⟨y1, y2, us, y3, y4⟩ := dn_of I e hk
  refine wpAny_setItem_heap (hsz := by rw [← Paired.length y3]; exact y1) (room_n hu) (ky_is I r hd l) y4 fun h' dd hs => h _ ?_
  obtain ⟨q, es, ep, hq, h2, h3, h4, _, h5⟩ := dd
  have new : DnR X.w a (putN xs k b v) h' := ⟨by have := putN_len xs k b v; omega, y2, _, y3.put rv, q, es, ep, hq, h2, h3, h4, h5⟩
  exact I.write (x := a) (e := a) (by rw [e]; exact True.intro) (.inl rfl) (fun c o hc z => (hs.2 c hc).trans z) ⟨q, hq⟩ new.ok
theorem dn_type (I : Inv X pins σ H s) (e : H a = some (DnO X.w a xs)) (hk : ∀ x ∈ xs, KyO X.K H x) : s.TypeIs (.ref a) "dict" := by
  obtain ⟨y1, y2, us, y3, y4⟩ := dn_of I e hk
  exact y4.typeIs
end
def tDNewN (w : World) : TE := fun _ H Q => ∀ p, H p = none → Q (.ref p) (upd H p (DnO w p []))
def DnAt (K : Fg) (w : World) (H : Hp) (a : Addr) (xs : List NkX) (y : V) (k : NestedKey) (b : Addr) : Prop := H a = some (DnO w a xs) ∧ (∀ x ∈ xs, KyO K H x) ∧ y = .ref b ∧ (∃ d, Rep K H (.ref b) d ∧ nkD d = some k) ∧ k.depth ≤ 8
def tDGetN (K : Fg) (w : World) (td ty : TE) : TE := fun σ H Q => td σ H fun x H1 => ty σ H1 fun y H2 => ∃ a xs k b v, x = .ref a ∧ DnAt K w H2 a xs y k b ∧ valN xs k = some v ∧ Q v H2
def tDInN (K : Fg) (w : World) (neg : Bool) (ty td : TE) : TE := fun σ H Q => ty σ H fun y H1 => td σ H1 fun x H2 => ∃ a xs k b, x = .ref a ∧ DnAt K w H2 a xs y k b ∧ Q (.bl (neg != (valN xs k).isSome)) H2
def sDPutN (K : Fg) (w : World) (td ty tv : TE) : TS := fun D σ H => tv σ H fun v H1 => td σ H1 fun x H2 => ty σ H2 fun y H3 => ∃ a xs k b, x = .ref a ∧ DnAt K w H3 a xs y k b ∧ xs.length < sizeLine ∧ D.nx σ (upd H3 a (DnO w a (putN xs k b v)))
section
variable {X : Cx} {o i e value : Expr} {pos pos' tpos : Pos} {td ty tv : TE}
theorem pe_dnewN : PE X (.Dict [] [] pos) (tDNewN X.w) := ⟨fun pins s σ H Q I h =>
  wpAny_Dict_empty ⟨.ref s.heap.objs.size, _, I.laid (a := s.heap.objs.size) (o := DnO X.w s.heap.objs.size []) (t' := s.toks) (fun _ _ q => Heap.get?_push_of_some _ q) (Nat.le_refl _)
    (DnR.ok ⟨Nat.zero_le _, beq_eq_false_iff_ne.mpr (Ne.symm (Nat.ne_of_lt I.big)), [], .nil, _, #[], 0, Heap.get?_push_size _ rfl, ⟨rfl, rfl, rfl⟩, rfl, rfl, List.nodup_nil⟩), rfl, h _ (I.hok.fresh (Nat.le_refl _))⟩⟩
theorem pe_dgetN (hu : X.A.units + 64 < cLine) (ho : PE X o td) (hi : PE X i ty) (hs : NoSl i) : PE X (.Subscript o i pos) (tDGetN X.K X.w td ty) := by
  refine ⟨fun pins s σ H Q I h => ?_⟩
  refine subD_of PySem.F.slot_dict_getitem.lookup hs (thn (ho.run pins s σ H _ I h) fun u s1 ⟨x, H1, I1, rx, q1⟩ => thn (hi.run pins s1 σ H1 _ I1 q1) fun iv s2 ⟨y, H2, I2, ry, a, xs, k, b, v, ex, ⟨g1, g2, ey, ⟨d, g3, g4⟩, g5⟩, hv, q2⟩ => ?_)
  subst ex ey
  obtain rfl : u = Value.ref a := rx
  obtain rfl : iv = Value.ref b := ry
  exact ⟨dn_type I2 g1 g2, dn_get hu I2 g1 g2 g3 g4 g5 hv fun w' s3 I3 rw' => ⟨v, H2, I3, rw', q2⟩⟩
theorem pc_dnotinN' (hu : X.A.units + 64 < cLine) (hi : PE X i ty) (ho : PE X o td) : PC X .NotIn i o (tDInN X.K X.w true ty td) := by
  refine ⟨fun pins s σ H Q I h => ?_⟩
  refine thn (hi.run pins s σ H _ I h) fun iv s1 ⟨y, H1, I1, ry, q1⟩ => thn (ho.run pins s1 σ H1 _ I1 q1) fun u s2 ⟨x, H2, I2, rx, a, xs, k, b, ex, ⟨g1, g2, ey, ⟨d, g3, g4⟩, g5⟩, q2⟩ => ?_
  subst ex ey
  obtain rfl : u = Value.ref a := rx
  obtain rfl : iv = Value.ref b := ry
  refine dn_notin hu I2 g1 g2 g3 g4 g5 fun s3 I3 => ⟨.bl (!(valN xs k).isSome), H2, I3, rfl, ?_⟩
  rw [show (!(valN xs k).isSome) = (true != (valN xs k).isSome) by cases (valN xs k).isSome <;> rfl]
  exact q2
theorem ps_dputN (hu : X.A.units + 64 < cLine) (ho : PE X o td) (hi : PE X i ty) (hv : PE X value tv) (hs : swapsWith value (some (.Subscript o i pos')) pos.line X.env = pure false) : PS X (.Assign [.Subscript o i pos'] value pos) (sDPutN X.K X.w td ty tv) := by
  refine ⟨fun pins s σ H D I h => ?_⟩
  refine wpAny_Assign_Subscript (thn (hv.run pins s σ H _ I h) fun r s1 ⟨v, H1, I1, rv, q1⟩ => thn (ho.run pins s1 σ H1 _ I1 q1) fun u s2 ⟨x, H2, I2, rx, q2⟩ => thn (hi.run pins s2 σ H2 _ I2 q2) fun iv s3 ⟨y, H3, I3, ry, a, xs, k, b, ex, ⟨g1, g2, ey, ⟨d, g3, g4⟩, g5⟩, hl, q3⟩ => ?_) hs
  subst ex ey
  obtain rfl : u = Value.ref a := rx
  obtain rfl : iv = Value.ref b := ry
  exact dn_put hu I3 g1 g2 g3 g4 g5 hl rv fun s4 I4 => ⟨σ, _, I4, q3⟩
end
end DL
namespace DL
open PySem L2
abbrev LfX := Leaf × V
def DlR (P : Program) (w : World) (a : Addr) (xs : List LfX) (h : Heap) : Prop := xs.length ≤ sizeLine ∧ (a == sysModules) = false ∧ ∃ vs : List (Leaf × Value), KV xs vs ∧ h.DictOf (leafKind P w) a vs
theorem DlR.stay {P : Program} {w : World} {a : Addr} {xs : List LfX} : ∀ h1 h2 : Heap, DlR P w a xs h1 → (∀ o, h1.get? a = some o → h2.get? a = some o) → DlR P w a xs h2 := fun h1 h2 ⟨y1, y2, vs, y3, o, es, ep, y4, y5⟩ e => ⟨y1, y2, vs, y3, o, es, ep, e o y4, y5⟩
def DlO (P : Program) (w : World) (a : Addr) (xs : List LfX) : HO := .ext (DlR P w a xs)
theorem DlR.ok {P P' : Program} {w w' : World} {H : Hp} {h : Heap} {a : Addr} {xs : List LfX} (r : DlR P w a xs h) : ObjOk P' w' H h a (DlO P w a xs) := by
  obtain ⟨_, _, vs, _, o, _, _, y4, _⟩ := id r
  exact ⟨r, ⟨o, y4⟩, DlR.stay⟩
def lfV : V → Option Leaf
  | .non => some .none
  | .int i => some (.num i)
  | .bl b => some (.num (if b = true then 1 else 0))
  | .str z => some (.text z)
  | _ => none
theorem lf_is {v : V} {u : Value} {k : Leaf} (h : lfV v = some k) (r : RelV v u) : Leaf.isOf k u = true := by
  cases v with
  | non => cases h; cases (show u = .none from r); rfl
  | int i => cases h; obtain ⟨t, rfl⟩ := r; exact decide_eq_true rfl
  | bl b => cases h; cases (show u = .bool b from r); exact decide_eq_true rfl
  | str z =>
    cases h
    obtain ⟨t, rfl⟩ := r
    show (z == z) = true
    exact beq_self_eq_true z
  | _ => cases h
section
variable {X : Cx} {pins : List (Addr × Obj)} {σ : St} {H : Hp} {s : Shared} {a : Addr} {A : Around} {E : Value → Shared → Prop}
theorem dl_of {xs : List LfX} (I : Inv X pins σ H s) (e : H a = some (DlO X.prog X.w a xs)) : DlR X.prog X.w a xs s.heap := (show ObjOk X.prog X.w H s.heap a (DlO X.prog X.w a xs) from I.hok a _ e).1
theorem dl_type {xs : List LfX} (I : Inv X pins σ H s) (e : H a = some (DlO X.prog X.w a xs)) : s.TypeIs (.ref a) "dict" ∧ (∀ b, Value.ref a = .ref b → ∃ ob, s.heap.get? b = some ob ∧ ob.dict = none) ∧ (a == sysModules) = false := by
  obtain ⟨_, hd, vs, _, dd⟩ := dl_of I e
  refine ⟨dd.typeIs, fun b q => ?_, hd⟩
  cases q
  obtain ⟨ob, _, _, h1, h2, _⟩ := dd
  exact ⟨ob, h1, h2.2.1⟩
theorem dn_type' {xs : List NkX} (I : Inv X pins σ H s) (e : H a = some (DnO X.w a xs)) (hk : ∀ x ∈ xs, KyO X.K H x) : s.TypeIs (.ref a) "dict" ∧ (∀ b, Value.ref a = .ref b → ∃ ob, s.heap.get? b = some ob ∧ ob.dict = none) ∧ (a == sysModules) = false := by
  obtain ⟨_, hd, vs, _, dd⟩ := dn_of I e hk
  refine ⟨dd.typeIs, fun b q => ?_, hd⟩
  cases q
  obtain ⟨ob, _, _, h1, h2, _⟩ := dd
  exact ⟨ob, h1, h2.2.1⟩
theorem dl_setd {kvs : List LfX} {u r : Value} {y d : V} {k : Leaf} {Q : Value → Shared → Prop} (I : Inv X pins σ H s) (e : H a = some (DlO X.prog X.w a kvs)) (hy : lfV y = some k) (ry : RelV y u) (rd : RelV d r) (hl : kvs.length < sizeLine)
    (h1 : ∀ v, valV kvs k = some v → ∀ (w' : Value) (s' : Shared), Inv X pins σ H s' → RelV v w' → Q w' s') (h2 : valV kvs k = none → ∀ (w' : Value) (s' : Shared), Inv X pins σ (upd H a (DlO X.prog X.w a (putK kvs k d))) s' → RelV d w' → Q w' s') :
    wpAny (model X.prog X.w) A (call (.builtin "dict.setdefault") [.ref a, u, r]) Q E s := by
  obtain ⟨z, hd, vs, rel, dd⟩ := dl_of I e
  have hz : vs.length ≤ sizeLine := by
    rw [← rel.length]
    exact z
  refine call_meetsIn PySem.F.slot_dict_setdefault dd.typeIs PySem.F.entry_dict_setdefault (PySem.F.args_dict_setdefault_3 _ _ _) (kt_meets_setdefault (leafKind X.prog X.w) a (lf_is hy ry) hd r) ⟨vs, dd, hz, fun v hv => ?_, fun hn h' dd' hs => ?_⟩
  · have q := rel.val k
    rw [hv] at q
    cases q0 : valV kvs k with
    | none =>
      rw [q0] at q
      exact (show False from q).elim
    | some v0 =>
      rw [q0] at q
      exact h1 v0 q0 _ _ (I.tok _) q
  · have q := rel.val k
    rw [hn] at q
    cases q0 : valV kvs k with
    | some v0 =>
      rw [q0] at q
      exact (show False from q).elim
    | none =>
      have hl2 : (putK kvs k d).length ≤ sizeLine := by
        have := length_putK kvs k d
        omega
      have he : ∃ q, h'.get? a = some q := let ⟨q, _, _, hq, _⟩ := dd'; ⟨q, hq⟩
      have new : DlR X.prog X.w a (putK kvs k d) h' := ⟨hl2, hd, _, rel.put k rd, dd'⟩
      exact h2 q0 _ _ (I.write (x := a) (e := a) (t' := s.toks + 1) (by rw [e]; exact True.intro) (.inl rfl) (fun c o hc z => (hs.2 c hc).trans z) he new.ok) rd
theorem dn_setd {xs : List NkX} {b : Addr} {d : D} {k : NestedKey} {v : V} {u : Value} {Q : Value → Shared → Prop} (hu : A.units + 64 < cLine) (I : Inv X pins σ H s) (e : H a = some (DnO X.w a xs)) (hk : ∀ x ∈ xs, KyO X.K H x) (r : Rep X.K H (.ref b) d) (hd : nkD d = some k) (l : k.depth ≤ 8) (hl : xs.length < sizeLine) (rv : RelV v u)
    (h1 : ∀ v', valN xs k = some v' → ∀ (w' : Value) (s' : Shared), Inv X pins σ H s' → RelV v' w' → Q w' s') (h2 : valN xs k = none → ∀ s', Inv X pins σ (upd H a (DnO X.w a (putN xs k b v))) s' → Q u s') :
    wpAny (model X.prog X.w) A (call (.builtin "dict.setdefault") [.ref a, .ref b, u]) Q E s := by
  obtain ⟨y1, y2, us, y3, y4⟩ := dn_of I e hk
  have z := y3.val (k := k)
  refine call_setdefault_heap (hsz := by rw [← Paired.length y3]; exact y1) (room_n hu) (ky_is I r hd l) y2 y4 (fun p hp => ?_) fun hn h' dd hs => ?_
  · rw [hp] at z
    cases q0 : valN xs k with
    | none => rw [q0] at z; exact z.elim
    | some v0 => rw [q0] at z; exact h1 v0 q0 _ _ (I.tok _) z
  · rw [hn] at z
    cases q0 : valN xs k with
    | some v0 => rw [q0] at z; exact z.elim
    | none =>
      obtain ⟨q, es, ep, hq, g2, g3, g4, _, g5⟩ := dd
      have new : DnR X.w a (putN xs k b v) h' := ⟨by have := putN_len xs k b v; omega, y2, _, y3.put rv, q, es, ep, hq, g2, g3, g4, g5⟩
      exact h2 q0 _ (I.write (x := a) (e := a) (by rw [e]; exact True.intro) (.inl rfl) (fun c o hc z => (hs.2 c hc).trans z) ⟨q, hq⟩ new.ok)
end
def tDNewL (P : Program) (w : World) : TE := fun _ H Q => ∀ p, H p = none → Q (.ref p) (upd H p (DlO P w p []))
def tDSetdL (P : Program) (w : World) (td ty tx : TE) : TE := fun σ H Q => td σ H fun x H1 => ∃ a kvs0, x = .ref a ∧ H1 a = some (DlO P w a kvs0) ∧ ty σ H1 fun y H2 => tx σ H2 fun z H3 => ∃ (kvs : List LfX) (k : Leaf), H3 a = some (DlO P w a kvs) ∧ lfV y = some k ∧ kvs.length < sizeLine ∧
  (∀ v, valV kvs k = some v → Q v H3) ∧ (valV kvs k = none → Q z (upd H3 a (DlO P w a (putK kvs k z))))
def tDSetdN (K : Fg) (w : World) (td ty tx : TE) : TE := fun σ H Q => td σ H fun x H1 => ∃ a xs0, x = .ref a ∧ H1 a = some (DnO w a xs0) ∧ (∀ x ∈ xs0, KyO K H1 x) ∧ ty σ H1 fun y H2 => tx σ H2 fun z H3 => ∃ (xs : List NkX) (k : NestedKey) (b : Addr), DnAt K w H3 a xs y k b ∧ xs.length < sizeLine ∧
  (∀ v, valN xs k = some v → Q v H3) ∧ (valN xs k = none → Q z (upd H3 a (DnO w a (putN xs k b z))))
def rLenL (P : Program) (w : World) : List V → Hp → VK → Prop := fun xs H Q => ∃ a kvs, xs = [.ref a] ∧ H a = some (DlO P w a kvs) ∧ Q (.int ((kvs.length : Nat) : Int)) H
def rLenN (K : Fg) (w : World) : List V → Hp → VK → Prop := fun xs H Q => ∃ a kvs, xs = [.ref a] ∧ H a = some (DnO w a kvs) ∧ (∀ x ∈ kvs, KyO K H x) ∧ Q (.int ((kvs.length : Nat) : Int)) H
section
variable {X : Cx} {o i e f value : Expr} {pos pos' tpos apos cpos : Pos} {td ty tx tv : TE}
theorem pe_dnewL : PE X (.Dict [] [] pos) (tDNewL X.prog X.w) := ⟨fun pins s σ H Q I h =>
  wpAny_Dict_empty ⟨.ref s.heap.objs.size, _, I.laid (a := s.heap.objs.size) (o := DlO X.prog X.w s.heap.objs.size []) (t' := s.toks) (fun _ _ q => Heap.get?_push_of_some _ q) (Nat.le_refl _)
    (DlR.ok ⟨Nat.zero_le _, beq_eq_false_iff_ne.mpr (Ne.symm (Nat.ne_of_lt I.big)), [], .nil, _, #[], 0, Heap.get?_push_size _ rfl, ⟨rfl, rfl, rfl⟩, rfl, (fun e h => by simp at h), .nil, List.nodup_nil⟩), rfl, h _ (I.hok.fresh (Nat.le_refl _))⟩⟩
theorem pe_dsetdL (ho : PE X o td) (he : PE X e ty) (hf : PE X f tx) (m : M2 X o "setdefault" apos e f cpos) : PE X (.Call (.Attribute o "setdefault" apos) [e, f] [] cpos) (tDSetdL X.prog X.w td ty tx) := by
  refine ⟨fun pins s σ H Q I h => ?_⟩
  refine wpAny_Call_method m.base m.few m.line PySem.F.plainAttrs_dict PySem.F.slot_dict_setdefault PySem.F.type_dict_setdefault (thn (ho.run pins s σ H _ I h) fun u s1 ⟨x, H1, I1, rx, a, kvs0, ex, d, q1⟩ => ?_)
  subst ex
  obtain rfl : u = Value.ref a := rx
  obtain ⟨t1, t2, _⟩ := dl_type I1 d
  refine ⟨t1, t2, ?_⟩
  rw [m.trees]
  refine Calls.callWith_builtin rfl (Calls.evalArgs_plain (Calls.spliced_cons (thn (he.run pins s1 σ H1 _ I1 q1) fun iv s2 ⟨y, H2, I2, ry, q2⟩ =>
    Calls.spliced_cons (thn (hf.run pins s2 σ H2 _ I2 q2) fun fv s3 ⟨z, H3, I3, rz, kvs, k, ea, ey, hl, q3, q4⟩ => Calls.spliced_nil ?_))))
  exact dl_setd I3 ea ey ry rz hl (fun v hv w' s4 I4 rw' => ⟨v, _, I4, rw', q3 v hv⟩) fun hn w' s4 I4 rw' => ⟨z, _, I4, rw', q4 hn⟩
theorem pe_dsetdN (hu : X.A.units + 64 < cLine) (ho : PE X o td) (he : PE X e ty) (hf : PE X f tx) (m : M2 X o "setdefault" apos e f cpos) : PE X (.Call (.Attribute o "setdefault" apos) [e, f] [] cpos) (tDSetdN X.K X.w td ty tx) := by
  refine ⟨fun pins s σ H Q I h => ?_⟩
  refine wpAny_Call_method m.base m.few m.line PySem.F.plainAttrs_dict PySem.F.slot_dict_setdefault PySem.F.type_dict_setdefault (thn (ho.run pins s σ H _ I h) fun u s1 ⟨x, H1, I1, rx, a, kvs0, ex, d, d2, q1⟩ => ?_)
  subst ex
  obtain rfl : u = Value.ref a := rx
  obtain ⟨t1, t2, _⟩ := dn_type' I1 d d2
  refine ⟨t1, t2, ?_⟩
  rw [m.trees]
  refine Calls.callWith_builtin rfl (Calls.evalArgs_plain (Calls.spliced_cons (thn (he.run pins s1 σ H1 _ I1 q1) fun iv s2 ⟨y, H2, I2, ry, q2⟩ =>
    Calls.spliced_cons (thn (hf.run pins s2 σ H2 _ I2 q2) fun fv s3 ⟨z, H3, I3, rz, xs, k, b, ⟨g1, g2, ey, ⟨d3, g3, g4⟩, g5⟩, hl, q3, q4⟩ => Calls.spliced_nil ?_))))
  subst ey
  obtain rfl : iv = Value.ref b := ry
  exact dn_setd hu I3 g1 g2 g3 g4 g5 hl rz (fun v hv w' s4 I4 rw' => ⟨v, _, I4, rw', q3 v hv⟩) fun hn s4 I4 => ⟨z, _, I4, rz, q4 hn⟩
theorem call_lenL : CallR X (.builtin "len") (rLenL X.prog X.w) := by
  intro pins s σ H xs us Q I r h
  obtain ⟨a, kvs, rfl, ha, q⟩ := h
  obtain ⟨u, rfl, ru⟩ := vals1 r
  obtain rfl : u = .ref a := ru
  obtain ⟨z, hd, vs, rel, dd⟩ := dl_of I ha
  refine call_len_dict hd dd (by rw [← rel.length]; rw [sizeLine_eq] at z; omega) ?_
  rw [← rel.length]
  exact ⟨.int ((kvs.length : Nat) : Int), H, I.tok _, ⟨_, rfl⟩, q⟩
theorem call_lenN : CallR X (.builtin "len") (rLenN X.K X.w) := by
  intro pins s σ H xs us Q I r h
  obtain ⟨a, kvs, rfl, ha, hk, q⟩ := h
  obtain ⟨u, rfl, ru⟩ := vals1 r
  obtain rfl : u = .ref a := ru
  obtain ⟨z, hd, ys, rel, dd⟩ := dn_of I ha hk
  have hl : kvs.length = ys.length := Paired.length rel
  refine call_len_dictH hd dd (by rw [← hl]; rw [sizeLine_eq] at z; omega) ?_
  rw [← hl]
  exact ⟨.int ((kvs.length : Nat) : Int), H, I.tok _, ⟨_, rfl⟩, q⟩
end
def tDDispN (K : Fg) (w : World) (ty tv : TE) : TE := fun σ H Q => ∀ p, H p = none → ty σ (upd H p (DnO w p [])) fun y H1 => tv σ H1 fun v H2 => ∃ k b, DnAt K w H2 p [] y k b ∧ Q (.ref p) (upd H2 p (DnO w p [(k, b, v)]))
def tDDispK (ty tv : TE) : TE := fun σ H Q => ∀ p, H p = none → ty σ (upd H p (.dK [])) fun y H1 => tv σ H1 fun v H2 => ∃ k, H2 p = some (.dK []) ∧ y = kV k ∧ Q (.ref p) (upd H2 p (.dK [(k, v)]))
section
variable {X : Cx} {e f : Expr} {pos : Pos} {ty tv : TE}
theorem pe_ddispN (hu : X.A.units + 64 < cLine) (he : PE X e ty) (hf : PE X f tv) : PE X (.Dict [some e] [f] pos) (tDDispN X.K X.w ty tv) := by
  refine ⟨fun pins s σ H Q I h => ?_⟩
  have I0 := I.laid (a := s.heap.objs.size) (o := DnO X.w s.heap.objs.size []) (h' := s.heap.push { cls := .type "dict", data := .dict #[] }) (t' := s.toks) (fun _ _ q => Heap.get?_push_of_some _ q) (Nat.le_refl _)
    (DnR.ok ⟨Nat.zero_le _, beq_eq_false_iff_ne.mpr (Ne.symm (Nat.ne_of_lt I.big)), [], .nil, _, #[], 0, Heap.get?_push_size _ rfl, ⟨rfl, rfl, rfl⟩, rfl, rfl, List.nodup_nil⟩)
  refine wpAny_Dict_any rfl rfl (by simp) (by simp) ?_
  show wpAny _ _ (evalPairs [(eval e X.env, do let x ← eval f X.env; standAt pos; pure x)]) _ _ _
  unfold evalPairs
  refine wpAny_bind (thn (he.run pins _ σ _ _ I0 (h _ (I.hok.fresh (Nat.le_refl _)))) fun kv s1 ⟨y, H1, I1, ry, q1⟩ => ?_)
  refine wpAny_bind (wpAny_holding (wpAny_bind (thn (hf.run pins s1 σ H1 _ I1 q1) fun vv s2 ⟨v, H2, I2, rv, k, b, ⟨g1, g2, ey, ⟨d3, g3, g4⟩, g5⟩, q2⟩ => wpAny_bind (wpAny_standAt (wpAny_pure ?_)))))
  refine wpAny_bind (wpAny_holding ?_)
  unfold evalPairs
  refine wpAny_pure (wpAny_pure ?_)
  subst ey
  obtain rfl : kv = Value.ref b := ry
  unfold storeAll
  rw [List.forIn_cons]
  obtain ⟨y1, y2, us, y3, y4⟩ := dn_of I2 g1 g2
  refine wpAny_bind (wpAny_bind (wpAny_dictSet_heap (hsz := by rw [← Paired.length y3]; exact y1) (by show X.A.units + 8 < cLine; omega) (ky_is I2 g3 g4 g5) y4 fun h' dd hs => wpAny_pure ?_))
  dsimp only
  rw [List.forIn_nil]
  refine wpAny_pure ?_
  obtain ⟨q, es, ep, hq, z2, z3, z4, _, z5⟩ := dd
  have new : DnR X.w s.heap.objs.size [(k, b, v)] h' := ⟨by rw [sizeLine_eq]; simp, y2, _, y3.put (k := k) (b := b) rv, q, es, ep, hq, z2, z3, z4, z5⟩
  exact ⟨.ref _, _, I2.write (x := s.heap.objs.size) (e := s.heap.objs.size) (by rw [g1]; exact True.intro) (.inl rfl) (fun c o hc z => (hs.2 c hc).trans z) ⟨q, hq⟩ new.ok, rfl, q2⟩
theorem pe_ddispK (he : PE X e ty) (hf : PE X f tv) : PE X (.Dict [some e] [f] pos) (tDDispK ty tv) := by
  refine ⟨fun pins s σ H Q I h => ?_⟩
  have I0 := I.laid (a := s.heap.objs.size) (o := .dK []) (h' := s.heap.push { cls := .type "dict", data := .dict #[] }) (t' := s.toks) (fun _ _ q => Heap.get?_push_of_some _ q) (Nat.le_refl _) (dk_empty s.heap I.big)
  refine wpAny_Dict_any rfl rfl (by simp) (by simp) ?_
  show wpAny _ _ (evalPairs [(eval e X.env, do let x ← eval f X.env; standAt pos; pure x)]) _ _ _
  unfold evalPairs
  refine wpAny_bind (thn (he.run pins _ σ _ _ I0 (h _ (I.hok.fresh (Nat.le_refl _)))) fun kv s1 ⟨y, H1, I1, ry, q1⟩ => ?_)
  refine wpAny_bind (wpAny_holding (wpAny_bind (thn (hf.run pins s1 σ H1 _ I1 q1) fun vv s2 ⟨v, H2, I2, rv, k, g1, ey, q2⟩ => wpAny_bind (wpAny_standAt (wpAny_pure ?_)))))
  refine wpAny_bind (wpAny_holding ?_)
  unfold evalPairs
  refine wpAny_pure (wpAny_pure ?_)
  subst ey
  unfold storeAll
  rw [List.forIn_cons]
  obtain ⟨z, hd, vs, rel, dd⟩ := dk_of I2.hok g1
  cases rel
  refine wpAny_bind (wpAny_bind (wpAny_dictSet_pairs (knd := mixKind X.prog X.w) (k := k) (kV_is ry) dd (fun h' dd' hs => wpAny_pure ?_) (by decide)))
  dsimp only
  rw [List.forIn_nil]
  refine wpAny_pure ?_
  have he' : ∃ q, h'.get? s.heap.objs.size = some q := let ⟨q, _, _, hq, _⟩ := dd'; ⟨q, hq⟩
  exact ⟨.ref _, _, d_write I2 (by rw [g1]; exact True.intro) hs he' (dk_new (kvs := [(k, v)]) (by rw [sizeLine_eq]; simp) hd (.cons ⟨rfl, rv⟩ .nil) dd'), rfl, q2⟩
end
end DL
namespace ML
open PySem L2 DL
inductive Ob where
  | lst (xs : List D) | ins (C : Addr) (fs : List (Str × D)) | dic (kvs : List (Key × D)) | dcn (w : World) (kvs : List (NestedKey × D)) | dcl (P : Program) (w : World) (kvs : List (Leaf × D))
abbrev Hd := Addr → Option Ob
def put (h : Hd) (a : Addr) (o : Ob) : Hd := fun b => if b = a then some o else h b
def off (h : Hd) (a : Addr) : Hd := fun b => if b = a then none else h b
theorem put_same {h : Hd} {a : Addr} {o : Ob} : put h a o a = some o := if_pos rfl
theorem put_ne {h : Hd} {a b : Addr} {o : Ob} (e : b ≠ a) : put h a o b = h b := if_neg e
theorem off_same {h : Hd} {a : Addr} : off h a a = none := if_pos rfl
theorem off_ne {h : Hd} {a b : Addr} (e : b ≠ a) : off h a b = h b := if_neg e
theorem put_put {h : Hd} {a : Addr} {o u : Ob} : put (put h a o) a u = put h a u := by
  funext b; unfold put; split <;> rfl
theorem hd_ne {h : Hd} {a b : Addr} {o : Ob} (h1 : h a = some o) (h2 : h b = none) : a ≠ b := fun z => by rw [z, h2] at h1; cases h1
theorem off_put {h : Hd} {a : Addr} {o : Ob} (e : h a = none) : off (put h a o) a = h := by
  funext b; unfold off put; split
  · rename_i z; rw [z, e]
  · rfl
abbrev Me := List (Option D)
structure Ex where
  C : Addr
  fs : List (Str × D)
def RepK (K : Fg) (Hf : Hp) (kws : List (Key × V)) (kvs : List (Key × D)) : Prop := kws.map (·.1) = kvs.map (·.1) ∧ RepL K Hf (kws.map (·.2)) (kvs.map (·.2))
def RepN (K : Fg) (Hf : Hp) : List NkX → List (NestedKey × D) → Prop := Paired fun x p => x.1 = p.1 ∧ KyO K Hf x ∧ Rep K Hf x.2.2 p.2
theorem RepN.mono {K : Fg} {H H' : Hp} (g : ∀ b u, H b = some u → H' b = some u) {xs : List NkX} {kvs : List (NestedKey × D)} (h : RepN K H xs kvs) : RepN K H' xs kvs := Paired.mapP h fun x p ⟨h1, ⟨d, h2, h3⟩, h4⟩ => ⟨h1, ⟨d, h2.mono g, h3⟩, h4.mono g⟩
def RepLf (K : Fg) (Hf : Hp) : List LfX → List (Leaf × D) → Prop := Paired fun x p => x.1 = p.1 ∧ Rep K Hf x.2 p.2
theorem RepLf.mono {K : Fg} {H H' : Hp} (g : ∀ b u, H b = some u → H' b = some u) {xs : List LfX} {kvs : List (Leaf × D)} (h : RepLf K H xs kvs) : RepLf K H' xs kvs := Paired.mapP h fun x p ⟨h1, h2⟩ => ⟨h1, h2.mono g⟩
def ObOk (K : Fg) (H Hf : Hp) (a : Addr) : Ob → Prop
  | .lst xs => ∃ ys, H a = some (.lst ys) ∧ RepL K Hf ys xs
  | .ins C fs => ∃ dx gs, H a = some (.ins C dx gs) ∧ RepF K Hf gs fs
  | .dic kvs => ∃ kws, H a = some (.dK kws) ∧ RepK K Hf kws kvs
  | .dcn w kvs => ∃ xs, H a = some (DnO w a xs) ∧ RepN K Hf xs kvs
  | .dcl P w kvs => ∃ xs, H a = some (DlO P w a xs) ∧ RepLf K Hf xs kvs
theorem ObOk.at {K : Fg} {H Hf : Hp} {a : Addr} {o : Ob} (h : ObOk K H Hf a o) : ∃ u, H a = some u := by
  cases o with
  | lst xs => obtain ⟨ys, e, _⟩ := h; exact ⟨_, e⟩
  | ins C fs => obtain ⟨dx, gs, e, _⟩ := h; exact ⟨_, e⟩
  | dic kvs => obtain ⟨kws, e, _⟩ := h; exact ⟨_, e⟩
  | dcn w kvs => obtain ⟨xs, e, _⟩ := h; exact ⟨_, e⟩
  | dcl P w kvs => obtain ⟨xs, e, _⟩ := h; exact ⟨_, e⟩
theorem ObOk.mono {K : Fg} {H H' Hf Hf' : Hp} {a : Addr} {o : Ob} (h : ObOk K H Hf a o) (e : ∀ u, H a = some u → H' a = some u) (g : ∀ b u, Hf b = some u → Hf' b = some u) : ObOk K H' Hf' a o := by
  cases o with
  | lst xs => obtain ⟨ys, h1, h2⟩ := h; exact ⟨ys, e _ h1, h2.mono g⟩
  | ins C fs => obtain ⟨dx, gs, h1, h2⟩ := h; exact ⟨dx, gs, e _ h1, h2.mono g⟩
  | dic kvs => obtain ⟨kws, h1, h2, h3⟩ := h; exact ⟨kws, e _ h1, h2, h3.mono g⟩
  | dcn w kvs => obtain ⟨xs, h1, h2⟩ := h; exact ⟨xs, e _ h1, h2.mono g⟩
  | dcl P w kvs => obtain ⟨xs, h1, h2⟩ := h; exact ⟨xs, e _ h1, h2.mono g⟩
structure Hs (K : Fg) (H Hf : Hp) (h : Hd) : Prop where
  sub : ∀ b o, Hf b = some o → H b = some o
  hp : ∀ a o, h a = some o → Hf a = none ∧ ObOk K H Hf a o
structure Mo (h h' : Hd) (H H' Hf Hf' : Hp) : Prop where
  keep : ∀ b o, H b = some o → h b = none → H' b = some o
  live : ∀ b, H' b = none → H b = none
  grow : ∀ b o, Hf b = some o → Hf' b = some o
  new : ∀ b o, Hf' b = some o → Hf b = some o ∨ H b = none ∨ ∃ u, h b = some u
  own : ∀ b u, h' b = some u → (∃ u', h b = some u') ∨ H b = none
section
variable {K : Fg} {h h1 h2 : Hd} {H H1 H2 Hf Hf1 Hf2 : Hp}
theorem Mo.refl (h : Hd) (H Hf : Hp) : Mo h h H H Hf Hf := ⟨fun _ _ q _ => q, fun _ q => q, fun _ _ q => q, fun _ _ q => .inl q, fun _ u q => .inl ⟨u, q⟩⟩
theorem Mo.trans (m : Mo h h1 H H1 Hf Hf1) (n : Mo h1 h2 H1 H2 Hf1 Hf2) : Mo h h2 H H2 Hf Hf2 where
  keep := fun b o q z => n.keep b o (m.keep b o q z) (by
    cases e : h1 b with
    | none => rfl
    | some u =>
      rcases m.own b u e with ⟨u', w⟩ | w
      · rw [z] at w; cases w
      · rw [q] at w; cases w)
  live := fun b q => m.live b (n.live b q)
  grow := fun b o q => n.grow b o (m.grow b o q)
  new := fun b o q => by
    rcases n.new b o q with q | q | ⟨u, q⟩
    · exact m.new b o q
    · exact .inr (.inl (m.live b q))
    · rcases m.own b u q with q | q
      · exact .inr (.inr q)
      · exact .inr (.inl q)
  own := fun b u q => by
    rcases n.own b u q with ⟨u', q⟩ | q
    · exact m.own b u' q
    · exact .inr (m.live b q)
theorem Hs.free (s : Hs K H Hf h) {a : Addr} (n : H a = none) : h a = none := by
  cases e : h a with
  | none => rfl
  | some o =>
    obtain ⟨u, z⟩ := (s.hp a o e).2.at
    rw [n] at z; cases z
theorem Hs.freeF (s : Hs K H Hf h) {a : Addr} (n : H a = none) : Hf a = none := by
  cases e : Hf a with
  | none => rfl
  | some o => rw [s.sub a o e] at n; cases n
theorem Hs.ext (s : Hs K H Hf h) (x : Ext H H1 Hf Hf1) : Hs K H1 Hf1 h where
  sub := x.sub
  hp := fun a o q => by
    obtain ⟨z1, z2⟩ := s.hp a o q
    refine ⟨?_, z2.mono (x.same a) x.grow⟩
    cases e : Hf1 a with
    | none => rfl
    | some u =>
      obtain ⟨w, hw⟩ := z2.at
      rcases x.new a u e with e | e
      · rw [z1] at e; cases e
      · rw [hw] at e; cases e
theorem Mo.ext (x : Ext H H1 Hf Hf1) : Mo h h H H1 Hf Hf1 := ⟨fun b o q _ => x.same b o q, x.live, x.grow, fun b o q => (x.new b o q).imp id .inl, fun _ u q => .inl ⟨u, q⟩⟩
theorem Hs.less (s : Hs K H Hf h) (l : ∀ a o, h1 a = some o → h a = some o) : Hs K H Hf h1 := ⟨s.sub, fun a o q => s.hp a o (l a o q)⟩
theorem Mo.less (m : Mo h h1 H H1 Hf Hf1) (l : ∀ a o, h2 a = some o → h1 a = some o) : Mo h h2 H H1 Hf Hf1 := ⟨m.keep, m.live, m.grow, m.new, fun b u q => m.own b u (l b u q)⟩
theorem Hs.upd (s : Hs K H Hf h) {a : Addr} {o : Ob} {u : HO} (q : (∃ o', h a = some o') ∨ H a = none) (ok : ∀ H' : Hp, H' a = some u → ObOk K H' Hf a o) : Hs K (upd H a u) Hf (put h a o) := by
  have nf : Hf a = none := by
    rcases q with ⟨o', q⟩ | q
    · exact (s.hp a o' q).1
    · exact s.freeF q
  refine ⟨fun b v z => ?_, fun b v z => ?_⟩
  · rw [upd_ne (ne_of_none z nf)]; exact s.sub b v z
  · by_cases hb : b = a
    · subst hb
      rw [put_same] at z; cases z
      exact ⟨nf, ok _ upd_same⟩
    · rw [put_ne hb] at z
      obtain ⟨z1, z2⟩ := s.hp b v z
      exact ⟨z1, z2.mono (fun w hw => by rw [upd_ne hb]; exact hw) fun _ _ w => w⟩
theorem Mo.upd {a : Addr} {o : Ob} {u : HO} (q : (∃ o', h a = some o') ∨ H a = none) : Mo h (put h a o) H (upd H a u) Hf Hf where
  keep := fun b v z n => by
    have hb : b ≠ a := fun e => by
      subst e
      rcases q with ⟨o', q⟩ | q
      · rw [n] at q; cases q
      · rw [z] at q; cases q
    rw [upd_ne hb]; exact z
  live := fun b z => by
    by_cases hb : b = a
    · subst hb; rw [upd_same] at z; cases z
    · rw [upd_ne hb] at z; exact z
  grow := fun _ _ z => z
  new := fun _ _ z => .inl z
  own := fun b v z => by
    by_cases hb : b = a
    · subst hb; exact q
    · rw [put_ne hb] at z; exact .inl ⟨v, z⟩
end
structure Rg where
  H0 : Hp
  Hf0 : Hp
  h0 : Hd
  ω : Ex → Me → Hd → Prop
abbrev Wω := Ex → Me → Hd → Prop
def XRep (K : Fg) (Hf : Hp) (d : Option Addr) (fs : List (Str × D)) : Prop := (d = none ∧ fs = []) ∨ ∃ a gs, d = some a ∧ Hf a = some (.xd gs) ∧ RepF K Hf gs fs
structure Sd (K : Fg) (Hf : Hp) (σ : St) (ρ : Me) : Prop where
  at_ : ∀ (i : Nat) (d : D), ρ[i]? = some (some d) → ∃ v, σ[i]? = some (some v) ∧ Rep K Hf v d
  len : σ.length = ρ.length
theorem Sd.mono {K : Fg} {Hf Hf' : Hp} {σ : St} {ρ : Me} (s : Sd K Hf σ ρ) (g : ∀ b o, Hf b = some o → Hf' b = some o) : Sd K Hf' σ ρ := ⟨fun i d h => let ⟨v, h1, h2⟩ := s.at_ i d h; ⟨v, h1, h2.mono g⟩, s.len⟩
def wishM (K : Fg) (R : Rg) : WX := fun cls d σ H => ∃ C fs Hf ρ h, cls = .ref C ∧ XRep K Hf d fs ∧ Sd K Hf σ ρ ∧ Hs K H Hf h ∧ Mo R.h0 h R.H0 H R.Hf0 Hf ∧ R.ω ⟨C, fs⟩ ρ h
structure Wd where
  x : WX
  g : Hp → Prop
  mono : ∀ Hf Hf', (∀ b o, Hf b = some o → Hf' b = some o) → g Hf → g Hf'
abbrev wd (x : WX) : Wd := ⟨x, fun _ => True, fun _ _ _ h => h⟩
structure RE (K : Fg) (W : Wd) (R : Rg) (H Hf : Hp) (σ : St) (ρ : Me) (h : Hd) : Prop where
  ok : ∀ cls d σ H, wishM K R cls d σ H → W.x cls d σ H
  gh : W.g Hf
  sl : Sd K Hf σ ρ
  hs : Hs K H Hf h
  mv : Mo R.h0 h R.H0 H R.Hf0 Hf
def RO (K : Fg) (H H' Hf' : Hp) (h' : Hd) (v : V) : Res → Prop
  | .fz d => Rep K Hf' v d
  | .fr xs => ∃ a ys, v = .ref a ∧ H' a = some (.lst ys) ∧ Hf' a = none ∧ h' a = none ∧ H a = none ∧ RepL K Hf' ys xs
section
variable {K : Fg} {W : Wd} {R : Rg} {h h1 h2 : Hd} {H H1 H2 Hf Hf1 Hf2 : Hp} {σ : St} {ρ : Me}
theorem RE.step (e : RE K W R H Hf σ ρ h) (s : Hs K H1 Hf1 h1) (m : Mo h h1 H H1 Hf Hf1) : RE K W R H1 Hf1 σ ρ h1 := ⟨e.ok, W.mono _ _ m.grow e.gh, e.sl.mono m.grow, s, e.mv.trans m⟩
theorem RE.ext (e : RE K W R H Hf σ ρ h) (x : Ext H H1 Hf Hf1) : RE K W R H1 Hf1 σ ρ h := e.step (e.hs.ext x) (Mo.ext x)
theorem RO.of (s : Hs K H Hf h) (x : Ext H H1 Hf Hf1) {v : V} {r : Res} (k : ResOk K H H1 Hf1 v r) : RO K H H1 Hf1 h v r := by
  cases r with
  | fz d => exact k
  | fr xs =>
    obtain ⟨a, ys, e1, e2, e3, e4, e5⟩ := k
    exact ⟨a, ys, e1, e2, e3, s.free e4, e4, e5⟩
theorem RO.back {v : V} {r : Res} (l : ∀ b, H1 b = none → H b = none) (k : RO K H1 H2 Hf2 h2 v r) : RO K H H2 Hf2 h2 v r := by
  cases r with
  | fz d => exact k
  | fr xs =>
    obtain ⟨a, ys, e1, e2, e3, e4, e5, e6⟩ := k
    exact ⟨a, ys, e1, e2, e3, e4, l _ e5, e6⟩
theorem RO.freeze {v : V} {r : Res} (s : Hs K H1 Hf1 h1) (m : Mo h h1 H H1 Hf Hf1) (k : RO K H H1 Hf1 h1 v r) : ∃ Hf2, Hs K H1 Hf2 h1 ∧ Mo h h1 H H1 Hf Hf2 ∧ Rep K Hf2 v r.dat := by
  cases r with
  | fz d => exact ⟨Hf1, s, m, k⟩
  | fr xs =>
    obtain ⟨a, ys, rfl, e2, e3, e4, e5, e6⟩ := k
    have g : ∀ b o, Hf1 b = some o → upd Hf1 a (.lst ys) b = some o := fun b o q => by rw [upd_ne (ne_of_none q e3)]; exact q
    refine ⟨upd Hf1 a (.lst ys), ⟨fun b o q => ?_, fun b o q => ?_⟩, ⟨m.keep, m.live, fun b o q => g b o (m.grow b o q), fun b o q => ?_, m.own⟩, .lst upd_same (e6.mono g)⟩
    · by_cases hb : b = a
      · subst hb; rw [upd_same] at q; rw [e2]; exact q
      · rw [upd_ne hb] at q; exact s.sub b o q
    · obtain ⟨z1, z2⟩ := s.hp b o q
      have hb : b ≠ a := hd_ne q e4
      exact ⟨by rw [upd_ne hb]; exact z1, z2.mono (fun _ w => w) g⟩
    · by_cases hb : b = a
      · subst hb; exact .inr (.inl e5)
      · rw [upd_ne hb] at q; exact m.new b o q
theorem RO.take {v : V} {xs : List D} (s : Hs K H1 Hf1 h1) (m : Mo h h1 H H1 Hf Hf1) (k : RO K H H1 Hf1 h1 v (.fr xs)) : ∃ a, v = .ref a ∧ h1 a = none ∧ H a = none ∧ Hs K H1 Hf1 (put h1 a (.lst xs)) ∧ Mo h (put h1 a (.lst xs)) H H1 Hf Hf1 := by
  obtain ⟨a, ys, rfl, e2, e3, e4, e5, e6⟩ := k
  refine ⟨a, rfl, e4, e5, ⟨s.sub, fun b o q => ?_⟩, ⟨m.keep, m.live, m.grow, m.new, fun b o q => ?_⟩⟩
  · by_cases hb : b = a
    · subst hb; rw [put_same] at q; cases q; exact ⟨e3, ys, e2, e6⟩
    · rw [put_ne hb] at q; exact s.hp b o q
  · by_cases hb : b = a
    · subst hb; exact .inr e5
    · rw [put_ne hb] at q; exact m.own b o q
end
abbrev TM := Wω → Me → Hd → (Res → Hd → Prop) → Prop
def SndE (K : Fg) (W : Wd) (t : TE) (τ : TM) : Prop := ∀ (σ : St) (H Hf : Hp) (ρ : Me) (h : Hd) (R : Rg) (P : Res → Hd → Prop) (Q : VK), RE K W R H Hf σ ρ h → τ R.ω ρ h P →
  (∀ v H' Hf' r h', RE K W R H' Hf' σ ρ h' → Mo h h' H H' Hf Hf' → RO K H H' Hf' h' v r → P r h' → Q v H') → t σ H Q
def SndF (K : Fg) (W : Wd) (t : TE) (τ : TM) : Prop := ∀ (σ : St) (H Hf : Hp) (ρ : Me) (h : Hd) (R : Rg) (P : D → Hd → Prop) (Q : VK), RE K W R H Hf σ ρ h → τ R.ω ρ h (fun r h' => P r.dat h') →
  (∀ v H' Hf' d h', RE K W R H' Hf' σ ρ h' → Mo h h' H H' Hf Hf' → Rep K Hf' v d → P d h' → Q v H') → t σ H Q
def canM (K : Fg) (W : Wd) (τ : TM) : TE := fun σ H Q => ∃ (R : Rg) (Hf : Hp) (ρ : Me) (h : Hd) (P : Res → Hd → Prop), RE K W R H Hf σ ρ h ∧ τ R.ω ρ h P ∧
  ∀ v H' Hf' r h', RE K W R H' Hf' σ ρ h' → Mo h h' H H' Hf Hf' → RO K H H' Hf' h' v r → P r h' → Q v H'
structure ME (X : Cx) (W : Wd) (e : Expr) (τ : TM) : Prop where
  pe : PE X e (canM X.K W τ)
section
variable {X : Cx} {W : Wd} {e : Expr} {τ : TM}
theorem ME.of {t : TE} (h : PE X e t) (k : SndE X.K W t τ) : ME X W e τ :=
  ⟨⟨fun pins s σ H Q I ⟨R, Hf, ρ, hd, P, e, q, kk⟩ => h.run pins s σ H Q I (k σ H Hf ρ hd R P Q e q kk)⟩⟩
theorem ME.ex (h : ME X W e τ) : ∃ t, PE X e t ∧ SndE X.K W t τ := ⟨_, h.pe, fun σ H Hf ρ hd R P Q e q k => ⟨R, Hf, ρ, hd, P, e, q, k⟩⟩
theorem SndE.fz {K : Fg} {t : TE} (s : SndE K W t τ) : SndF K W t τ := fun σ H Hf ρ h R P Q e q k => s σ H Hf ρ h R _ Q e q fun v H' Hf' r h' e1 m1 r1 p1 => by
  obtain ⟨Hf2, s2, m2, r2⟩ := r1.freeze e1.hs m1
  exact k v H' Hf2 r.dat h' (e.step s2 m2) m2 r2 p1
theorem ME.fz (h : ME X W e τ) : ∃ t, PE X e t ∧ SndF X.K W t τ := let ⟨t, p, s⟩ := h.ex; ⟨t, p, s.fz⟩
end
section
variable {X : Cx} {W : Wd} {pos : Pos}
def mK (d : D) : TM := fun _ _ h P => P (.fz d) h
theorem me_tC {e : Expr} {v : V} {d : D} (h : PE X e (tC v)) (r : ∀ H, Rep X.K H v d) : ME X W e (mK d) := ME.of h fun σ H Hf ρ h R P Q e q k => k v H Hf (.fz d) h e (Mo.refl ..) (r _) q
theorem me_int {i : Int} {j : Nat} : ME X W (.Constant (.int i) j pos) (mK (.int i)) := me_tC pe_int fun _ => .int i
theorem me_bl {b : Bool} {j : Nat} : ME X W (.Constant (.bool b) j pos) (mK (.bl b)) := me_tC pe_bl fun _ => .bl b
theorem me_non {j : Nat} : ME X W (.Constant .none j pos) (mK .non) := me_tC pe_non fun _ => .non
theorem me_str {x : Str} {j : Nat} : ME X W (.Constant (.str x) j pos) (mK (.str x)) := me_tC pe_str fun _ => .str x
theorem me_g {x : Str} {d : D} (h : Gc X.K X.mg x d) (hg : Gl X x) (hd : (x == ("__debug__" : Str)) = false := by decide) : ME X W (.Name x pos) (mK d) := let ⟨_, _, h1, h2, h3⟩ := h; me_tC (pe_glob hg h1 h2 hd) h3
def mV (i : Nat) : TM := fun _ ρ h P => ∃ d, ρ[i]? = some (some d) ∧ P (.fz d) h
theorem me_v (i : Nat) {x : Str} (hN : X.N[i]? = some x := by rfl) (hv : Vis X.env.scope x := by first | exact Or.inl rfl | exact Or.inr (Or.inl rfl) | exact Or.inr (Or.inr rfl)) (hd : (x == ("__debug__" : Str)) = false := by decide) (hcd : (x == ("__classdict__" : Str)) = false := by decide) :
    ME X W (.Name x pos) (mV i) := ME.of (pe_var hN hv hd hcd) fun σ H Hf ρ h R P Q e ⟨d, hi, q⟩ k => by
  obtain ⟨v, h1, h2⟩ := e.sl.at_ i _ hi
  exact ⟨v, h1, k v H Hf (.fz d) h e (Mo.refl ..) h2 q⟩
end
def vw (h : Hd) : D → D
  | .raw (.ref a) => match h a with
    | some (.lst xs) => .lst xs
    | _ => .raw (.ref a)
  | d => d
def hfv (H Hf : Hp) (h : Hd) : Hp := fun b => match Hf b with
  | some o => some o
  | none => match h b with
    | some (.lst _) => H b
    | _ => none
section
variable {K : Fg} {H H1 Hf Hf1 : Hp} {h : Hd}
theorem hfv_sub (s : Hs K H Hf h) : ∀ b o, hfv H Hf h b = some o → H b = some o := fun b o q => by
  unfold hfv at q
  cases e : Hf b with
  | some u => rw [e] at q; cases q; exact s.sub b _ e
  | none =>
    rw [e] at q
    cases e2 : h b with
    | none => rw [e2] at q; cases q
    | some u =>
      rw [e2] at q
      cases u with
      | lst xs => exact q
      | ins C fs => cases q
      | dic kvs => cases q
      | dcn w kvs => cases q
      | dcl P w kvs => cases q
theorem hfv_grow : ∀ b o, Hf b = some o → hfv H Hf h b = some o := fun b o q => by unfold hfv; rw [q]
theorem Rep.vw (s : Hs K H Hf h) {v : V} {d : D} (r : Rep K Hf v d) : Rep K (hfv H Hf h) v (vw h d) := by
  cases r with
  | raw v =>
    cases v with
    | ref a =>
      unfold ML.vw
      cases e : h a with
      | none => simp only [e]; exact .raw _
      | some o =>
        cases o with
        | lst xs =>
          simp only [e]
          obtain ⟨z1, ys, z2, z3⟩ := s.hp a _ e
          refine .lst ?_ (z3.mono hfv_grow)
          unfold hfv
          rw [z1, e]
          exact z2
        | ins C fs => simp only [e]; exact .raw _
        | dic kvs => simp only [e]; exact .raw _
        | dcn w kvs => simp only [e]; exact .raw _
        | dcl P w kvs => simp only [e]; exact .raw _
    | _ => exact .raw _
  | non => exact .non
  | bl b => exact .bl b
  | int i => exact .int i
  | str x => exact .str x
  | ty n => exact .ty n
  | scr q => exact .scr (sqL_same hfv_grow q)
  | tup q r => exact .tup (sqT_same hfv_grow q) (r.mono hfv_grow)
  | lst q r => exact .lst (hfv_grow _ _ q) (r.mono hfv_grow)
  | obj q r => exact .obj (hfv_grow _ _ q) (r.mono hfv_grow)
theorem RepL.vw (s : Hs K H Hf h) : ∀ {vs : List V} {ds : List D}, RepL K Hf vs ds → RepL K (hfv H Hf h) vs (ds.map (ML.vw h))
  | _, _, .nil => .nil
  | _, _, .cons a r => .cons (Rep.vw s a) (RepL.vw s r)
theorem Rep.flat_any {v : V} {d : D} (r : Rep K Hf v d) (f : d.flat = true) (Hf' : Hp) : Rep K Hf' v d := by
  cases r <;> first | (simp [D.flat] at f; done) | constructor
theorem ext_seen (s : Hs K H Hf h) (x : Ext H H1 (hfv H Hf h) Hf1) : Ext H H1 Hf Hf := ⟨x.same, fun b o q => x.same b o (s.sub b o q), fun _ _ q => q, fun _ _ q => .inl q⟩
end
end ML
namespace ML
open PySem L2 DL
def mBin (g : D → D → Option Res) (a b : TM) : TM := fun ω ρ h P => a ω ρ h fun x h1 => b ω ρ h1 fun y h2 => ∃ c, g x.dat y.dat = some c ∧ P c h2
section
variable {X : Cx} {W : Wd} {a b c e : Expr} {rest : List Expr} {τa τb τc : TM} {pos : Pos} {r r' : R2} {g g' : D → D → Option Res}
theorem run2 {K : Fg} {ta tb : TE} (hs : OpS K r g) (sa : SndF K W ta τa) (sb : SndF K W tb τb) : SndE K W (tOp r ta tb) (mBin g τa τb) := fun σ H Hf ρ h R P Q e q k => by
  refine sa σ H Hf ρ h R (fun x h1 => τb R.ω ρ h1 fun y h2 => ∃ c, g x y.dat = some c ∧ P c h2) _ e q fun x H1 Hf1 dx h1 e1 m1 r1 q1 => ?_
  refine sb σ H1 Hf1 ρ h1 R (fun y h2 => ∃ c, g dx y = some c ∧ P c h2) _ e1 q1 fun y H2 Hf2 dy h2 e2 m2 r2 ⟨c, hc, p⟩ => ?_
  refine hs H2 Hf2 x y dx dy c Q e2.hs.sub (r1.mono m2.grow) r2 hc fun v H3 Hf3 x3 ok => ?_
  exact k v H3 Hf3 c h2 (e2.ext x3) ((m1.trans m2).trans (Mo.ext x3)) ((RO.of e2.hs x3 ok).back (m1.trans m2).live) p
theorem me_bin {op : Operator} (ho : OpR X (binaryOp op) r) (hs : OpS X.K r g) (ha : ME X W a τa) (hb : ME X W b τb) : ME X W (.BinOp a op b pos) (mBin g τa τb) := by
  obtain ⟨ta, pa, sa⟩ := ha.fz
  obtain ⟨tb, pb, sb⟩ := hb.fz
  exact ME.of (pe_op ho pa pb) (run2 hs sa sb)
theorem me_cmp {op : CmpOp} (ho : OpR X (compareOp op) r) (hs : OpS X.K r g) (ha : ME X W a τa) (hb : ME X W b τb) (hm : behindInMarks op b = false) : ME X W (.Compare a [op] [b] pos) (mBin g τa τb) := by
  obtain ⟨ta, pa, sa⟩ := ha.fz
  obtain ⟨tb, pb, sb⟩ := hb.fz
  exact ME.of (pe_cmpR ho pa pb hm) (run2 hs sa sb)
end
abbrev TMT := Wω → Me → Hd → (Bool → Hd → Prop) → Prop
def SndT (K : Fg) (W : Wd) (t : TT) (τ : TMT) : Prop := ∀ (σ : St) (H Hf : Hp) (ρ : Me) (h : Hd) (R : Rg) (P : Bool → Hd → Prop) (Q : Bool → Hp → Prop), RE K W R H Hf σ ρ h → τ R.ω ρ h P →
  (∀ b H' Hf' h', RE K W R H' Hf' σ ρ h' → Mo h h' H H' Hf Hf' → P b h' → Q b H') → t σ H Q
def canMT (K : Fg) (W : Wd) (τ : TMT) : TT := fun σ H Q => ∃ (R : Rg) (Hf : Hp) (ρ : Me) (h : Hd) (P : Bool → Hd → Prop), RE K W R H Hf σ ρ h ∧ τ R.ω ρ h P ∧ (∀ b H' Hf' h', RE K W R H' Hf' σ ρ h' → Mo h h' H H' Hf Hf' → P b h' → Q b H')
structure MT (X : Cx) (W : Wd) (e : Expr) (τ : TMT) : Prop where
  pt : PT X e (canMT X.K W τ)
structure MW (X : Cx) (W : Wd) (e : Expr) (τ : TMT) : Prop where
  pw : PW X e (canMT X.K W τ)
section
variable {X : Cx} {W : Wd} {pos : Pos} {a b c e : Expr} {rest : List Expr} {τa τb τc : TM} {tA tB : TMT} {op : Operator}
theorem MT.of {τ : TMT} {t : TT} (h : PT X e t) (k : SndT X.K W t τ) : MT X W e τ := ⟨⟨fun pins s σ H Q I ⟨R, Hf, ρ, hd, P, e, q, kk⟩ => h.run pins s σ H Q I (k σ H Hf ρ hd R P Q e q kk)⟩⟩
theorem MW.of {τ : TMT} {t : TT} (h : PW X e t) (k : SndT X.K W t τ) : MW X W e τ := ⟨⟨fun wh pins s σ H Q I ⟨R, Hf, ρ, hd, P, e, q, kk⟩ => h.run wh pins s σ H Q I (k σ H Hf ρ hd R P Q e q kk)⟩⟩
theorem MW.mt {τ : TMT} (h : MW X W e τ) : MT X W e τ := ⟨h.pw.pt⟩
def mT (τ : TM) : TMT := fun ω ρ h P => τ ω ρ h fun r h' => ∃ b, r.dat = .bl b ∧ P b h'
theorem mt_val (h : ME X W e τa) (he : ∀ whole, isTrue e X.env whole = (do let v ← whole; standAt e.pos; holding [v] (truthy v)) := by intro _; rfl) : MT X W e (mT τa) := by
  obtain ⟨t, p, s⟩ := h.fz
  refine MT.of (pt_val p he) fun σ H Hf ρ h R P Q e q k => s σ H Hf ρ h R (fun d h' => ∃ b, d = .bl b ∧ P b h') _ e q fun v H' Hf' d h' e1 m1 r1 ⟨b, hb, p1⟩ => ?_
  subst hb
  exact ⟨b, r1.bl_inv, k b H' Hf' h' e1 m1 p1⟩
theorem cmpT {ta tb : TE} {r : R2} {τ : TM} (s : SndE X.K W (tOp r ta tb) τ) : SndT X.K W (L2.tB (tOp r ta tb)) (mT τ) := fun σ H Hf ρ h R P Q e q k => s.fz σ H Hf ρ h R (fun d h' => ∃ b, d = .bl b ∧ P b h') _ e q fun v H' Hf' d h' e1 m1 r1 ⟨b, hb, p1⟩ => by
  subst hb
  exact ⟨b, r1.bl_inv, k b H' Hf' h' e1 m1 p1⟩
theorem mt_cmp {cop : CmpOp} {r : R2} {g : D → D → Option Res} (ho : OpR X (compareOp cop) r) (hs : OpS X.K r g) (ha : ME X W a τa) (hb : ME X W b τb) (hm : behindInMarks cop b = false) : MT X W (.Compare a [cop] [b] pos) (mT (mBin g τa τb)) := by
  obtain ⟨ta, pa, sa⟩ := ha.fz
  obtain ⟨tb, pb, sb⟩ := hb.fz
  exact MT.of (pt_cmpR ho pa pb hm) (cmpT (run2 hs sa sb))
def mAndT (a b : TMT) : TMT := fun ω ρ h P => a ω ρ h fun c h1 => if c = true then b ω ρ h1 P else P false h1
theorem mw_and1 (ha : MT X W a tA) : MW X W (.BoolOp .And [a] pos) tA := ⟨pw_and1 ha.pt⟩
theorem mw_and (ha : MT X W a tA) (hb : MW X W (.BoolOp .And (b :: rest) pos) tB) : MW X W (.BoolOp .And (a :: b :: rest) pos) (mAndT tA tB) := by
  refine MW.of (pw_and ha.pt hb.pw) fun σ H Hf ρ h R P Q e q k => ⟨R, Hf, ρ, h, _, e, q, fun c H' Hf' h' e1 m1 p1 => ?_⟩
  cases c with
  | true => exact ⟨R, Hf', ρ, h', P, e1, p1, fun b H2 Hf2 h2 e2 m2 p2 => k b H2 Hf2 h2 e2 (m1.trans m2) p2⟩
  | false => exact k false H' Hf' h' e1 m1 p1
def mNotE (a : TM) : TM := fun ω ρ h P => a ω ρ h fun x h1 => ∃ c, x.dat = .bl c ∧ P (.fz (.bl (!c))) h1
def mIfE (c : TMT) (a b : TM) : TM := fun ω ρ h P => c ω ρ h fun k h1 => if k = true then a ω ρ h1 P else b ω ρ h1 P
theorem me_not (ha : ME X W a τa) : ME X W (.UnaryOp .Not a pos) (mNotE τa) := by
  obtain ⟨ta, pa, sa⟩ := ha.fz
  refine ME.of (pe_not pa) fun σ H Hf ρ h R P Q e q k => sa σ H Hf ρ h R (fun d h1 => ∃ c, d = .bl c ∧ P (.fz (.bl (!c))) h1) _ e q fun v H1 Hf1 d h1 e1 m1 r1 ⟨c, hc, p1⟩ => ?_
  subst hc
  exact ⟨c, r1.bl_inv, k _ H1 Hf1 (.fz (.bl (!c))) h1 e1 m1 (.bl _) p1⟩
theorem me_if (hc : MT X W c tA) (ha : ME X W a τa) (hb : ME X W b τb) : ME X W (.IfExp c a b pos) (mIfE tA τa τb) := by
  refine ME.of (pe_ifExp hc.pt ha.pe hb.pe) fun σ H Hf ρ h R P Q e q k => ⟨R, Hf, ρ, h, _, e, q, fun c H1 Hf1 h1 e1 m1 p1 => ?_⟩
  cases c with
  | true => exact ⟨R, Hf1, ρ, h1, P, e1, p1, fun v H2 Hf2 r h2 e2 m2 r2 p2 => k v H2 Hf2 r h2 e2 (m1.trans m2) (r2.back m1.live) p2⟩
  | false => exact ⟨R, Hf1, ρ, h1, P, e1, p1, fun v H2 Hf2 r h2 e2 m2 r2 p2 => k v H2 Hf2 r h2 e2 (m1.trans m2) (r2.back m1.live) p2⟩
def mChn (g g' : D → D → Option Res) (a b c : TM) : TM := fun ω ρ h P => a ω ρ h fun x h1 => b ω ρ h1 fun y h2 => ∃ z k, g x.dat y.dat = some (.fz z) ∧ z = .bl k ∧ if k = true then c ω ρ h2 (fun w h3 => ∃ z', g' y.dat w.dat = some z' ∧ P z' h3) else P (.fz (.bl false)) h2
theorem run3 {r r' : R2} {g g' : D → D → Option Res} {ta tb tc : TE} {K : Fg} (hs : OpS K r g) (hs' : OpS K r' g') (sa : SndF K W ta τa) (sb : SndF K W tb τb) (sc : SndF K W tc τc) : SndE K W (tChain r r' ta tb tc) (mChn g g' τa τb τc) := fun σ H Hf ρ h R P Q e q k => by
  refine sa σ H Hf ρ h R (fun x h1 => τb R.ω ρ h1 fun y h2 => ∃ z k, g x y.dat = some (.fz z) ∧ z = .bl k ∧ if k = true then τc R.ω ρ h2 (fun w h3 => ∃ z', g' y.dat w.dat = some z' ∧ P z' h3) else P (.fz (.bl false)) h2) _ e q fun x H1 Hf1 dx h1 e1 m1 r1 q1 => ?_
  refine sb σ H1 Hf1 ρ h1 R (fun y h2 => ∃ z k, g dx y = some (.fz z) ∧ z = .bl k ∧ if k = true then τc R.ω ρ h2 (fun w h3 => ∃ z', g' y w.dat = some z' ∧ P z' h3) else P (.fz (.bl false)) h2) _ e1 q1 fun y H2 Hf2 dy h2 e2 m2 r2 q2 => ?_
  obtain ⟨z, kk, hc, hd, p⟩ := q2
  subst hd
  refine hs H2 Hf2 x y dx dy _ _ e2.hs.sub (r1.mono m2.grow) r2 hc fun v H3 Hf3 x3 ok => ?_
  refine ⟨kk, Rep.bl_inv ok, ?_⟩
  have e3 := e2.ext x3
  have m3 := (m1.trans m2).trans (Mo.ext x3)
  cases kk with
  | false => exact k _ H3 Hf3 (.fz (.bl false)) h2 e3 m3 (.bl false) p
  | true =>
    refine sc σ H3 Hf3 ρ h2 R (fun w h3 => ∃ z', g' dy w = some z' ∧ P z' h3) _ e3 p fun w H5 Hf5 dw h5 e5 m6 r6 ⟨z', hz, p6⟩ => ?_
    refine hs' H5 Hf5 y w dy dw z' Q e5.hs.sub ((r2.mono x3.grow).mono m6.grow) r6 hz fun v H7 Hf7 x7 ok7 => ?_
    exact k v H7 Hf7 z' h5 (e5.ext x7) ((m3.trans m6).trans (Mo.ext x7)) ((RO.of e5.hs x7 ok7).back (m3.trans m6).live) p6
theorem mt_chn {cop cop' : CmpOp} {r r' : R2} {g g' : D → D → Option Res} (ho : OpR X (compareOp cop) r) (hs : OpS X.K r g) (ho' : OpR X (compareOp cop') r') (hs' : OpS X.K r' g') (ha : ME X W a τa) (hb : ME X W b τb) (hc : ME X W c τc)
    (hm : lastMarks [cop, cop'] [b, c] = false := by with_unfolding_all rfl) : MT X W (.Compare a [cop, cop'] [b, c] pos) (mT (mChn g g' τa τb τc)) := by
  obtain ⟨ta, pa, sa⟩ := ha.fz
  obtain ⟨tb, pb, sb⟩ := hb.fz
  obtain ⟨tc, pc, sc⟩ := hc.fz
  refine MT.of (pt_chain ho ho' pa pb pc hm) fun σ H Hf ρ h R P Q e q k => (run3 hs hs' sa sb sc).fz σ H Hf ρ h R (fun d h' => ∃ b, d = .bl b ∧ P b h') _ e q fun v H' Hf' d h' e1 m1 r1 ⟨b, hb, p1⟩ => ?_
  subst hb
  exact ⟨b, r1.bl_inv, k b H' Hf' h' e1 m1 p1⟩
end
abbrev TMA := Wω → Me → Hd → (List D → Hd → Prop) → Prop
def canMA (K : Fg) (W : Wd) (n : Nat) (τ : TMA) : TA := fun σ H Q => ∃ (R : Rg) (Hf : Hp) (ρ : Me) (h : Hd) (P : List D → Hd → Prop), RE K W R H Hf σ ρ h ∧ τ R.ω ρ h P ∧ (∀ vs H' Hf' ds h', RE K W R H' Hf' σ ρ h' → Mo h h' H H' Hf Hf' → RepL K Hf' vs ds → ds.length = n → P ds h' → Q vs H')
structure MA (X : Cx) (W : Wd) (es : List Expr) (τ : TMA) : Prop where
  pa : PA X es (canMA X.K W es.length τ)
section
variable {X : Cx} {W : Wd} {pos : Pos} {e : Expr} {es : List Expr} {τ : TM} {τs : TMA}
theorem MA.of {t : TA} (h : PA X es t) (k : ∀ (σ : St) (H Hf : Hp) (ρ : Me) (h : Hd) (R : Rg) (P : List D → Hd → Prop) (Q : List V → Hp → Prop), RE X.K W R H Hf σ ρ h → τs R.ω ρ h P → (∀ vs H' Hf' ds h', RE X.K W R H' Hf' σ ρ h' → Mo h h' H H' Hf Hf' → RepL X.K Hf' vs ds → ds.length = es.length → P ds h' → Q vs H') → t σ H Q) : MA X W es τs :=
  ⟨⟨fun pos pins s σ H Q I ⟨R, Hf, ρ, hd, P, e, q, kk⟩ => h.run pos pins s σ H Q I (k σ H Hf ρ hd R P Q e q kk)⟩⟩
def mANil : TMA := fun _ _ h P => P [] h
def mACons (a : TM) (r : TMA) : TMA := fun ω ρ h P => a ω ρ h fun x h1 => r ω ρ h1 fun xs h2 => P (x.dat :: xs) h2
theorem ma_nil : MA X W [] mANil := MA.of pa_nil fun σ H Hf ρ h R P Q e q k => k [] H Hf [] h e (Mo.refl ..) .nil rfl q
theorem ma_cons (ha : ME X W e τ) (hr : MA X W es τs) (hs : starEach (e :: es) X.env = (false, eval e X.env) :: starEach es X.env := by rfl) : MA X W (e :: es) (mACons τ τs) := by
  obtain ⟨ta, pa, sa⟩ := ha.fz
  refine MA.of (pa_cons pa hr.pa hs) fun σ H Hf ρ h R P Q e q k => sa σ H Hf ρ h R (fun d h1 => τs R.ω ρ h1 fun xs h2 => P (d :: xs) h2) _ e q fun v H1 Hf1 d h1 e1 m1 r1 p1 => ?_
  exact ⟨R, Hf1, ρ, h1, _, e1, p1, fun vs H2 Hf2 ds h2 e2 m2 r2 l2 p2 => k (v :: vs) H2 Hf2 (d :: ds) h2 e2 (m1.trans m2) (.cons (r1.mono m2.grow) r2) (by rw [List.length_cons, l2, List.length_cons]) p2⟩
def mTup (τ : TMA) : TM := fun ω ρ h P => τ ω ρ h fun ds h1 => ds.length ≤ 16000 ∧ P (.fz (.tup ds)) h1
def mLst (τ : TMA) : TM := fun ω ρ h P => τ ω ρ h fun ds h1 => ds.length ≤ 16000 ∧ P (.fr ds) h1
theorem me_tup {x1 : Nat} (h : MA X W es τs) : ME X W (.Tuple es x1 pos) (mTup τs) := by
  refine ME.of (pe_tup h.pa) fun σ H Hf ρ h R P Q e q k => ⟨R, Hf, ρ, h, _, e, q, fun vs H1 Hf1 ds h1 e1 m1 r1 _ ⟨hz, p1⟩ => ⟨by rw [r1.length]; exact lim hz, fun n hn => ?_⟩⟩
  obtain ⟨x1, x2⟩ := new_tup e1.hs.sub hn r1
  exact k _ _ _ _ h1 (e1.ext x1) (m1.trans (Mo.ext x1)) ((RO.of e1.hs x1 x2).back m1.live) p1
theorem me_lst (h : MA X W es τs) : ME X W (.List es pos) (mLst τs) := by
  refine ME.of (pe_lst h.pa) fun σ H Hf ρ h R P Q e q k => ⟨R, Hf, ρ, h, _, e, q, fun vs H1 Hf1 ds h1 e1 m1 r1 _ ⟨hz, p1⟩ => ⟨by rw [r1.length]; exact lim hz, fun n hn => ?_⟩⟩
  obtain ⟨x1, x2⟩ := new_lst e1.hs.sub hn r1
  exact k _ _ _ _ h1 (e1.ext x1) (m1.trans (Mo.ext x1)) ((RO.of e1.hs x1 x2).back m1.live) p1
end
section
variable {X : Cx} {W : Wd} {a b e : Expr} {τa τb τ : TM} {pos p2 : Pos}
theorem me_ix (ha : ME X W a τa) (hb : ME X W b τb) (hs : PlainIx b) : ME X W (.Subscript a b pos) (mBin ixD τa τb) := by
  obtain ⟨ta, pa, sa⟩ := ha.fz
  obtain ⟨tb, pb, sb⟩ := hb.fz
  exact ME.of (pe_ix ix_seq pa pb hs) (run2 opS_ix sa sb)
def mIxO (a b : TM) : TM := fun ω ρ h P => a ω ρ h fun x h1 => b ω ρ h1 fun y h2 => ∃ p xs i d, x.dat = .raw (.ref p) ∧ h2 p = some (.lst xs) ∧ y.dat = .int i ∧ atI xs i = some d ∧ P (.fz d) h2
theorem me_ixO (ha : ME X W a τa) (hb : ME X W b τb) (hs : PlainIx b) : ME X W (.Subscript a b pos) (mIxO τa τb) := by
  obtain ⟨ta, pa, sa⟩ := ha.fz
  obtain ⟨tb, pb, sb⟩ := hb.fz
  refine ME.of (pe_ix ix_seq pa pb hs) fun σ H Hf ρ h R P Q e q k => ?_
  refine sa σ H Hf ρ h R (fun x h1 => τb R.ω ρ h1 fun y h2 => ∃ p xs i d, x = .raw (.ref p) ∧ h2 p = some (.lst xs) ∧ y.dat = .int i ∧ atI xs i = some d ∧ P (.fz d) h2) _ e q fun x H1 Hf1 dx h1 e1 m1 r1 q1 => ?_
  refine sb σ H1 Hf1 ρ h1 R (fun y h2 => ∃ p xs i d, dx = .raw (.ref p) ∧ h2 p = some (.lst xs) ∧ y = .int i ∧ atI xs i = some d ∧ P (.fz d) h2) _ e1 q1 fun y H2 Hf2 dy h2 e2 m2 r2 ⟨p, xs, i, d, g1, g2, g3, g4, g5⟩ => ?_
  subst g1 g3
  cases r1
  cases r2
  obtain ⟨z1, ys, z2, z3⟩ := e2.hs.hp p _ g2
  obtain ⟨v, w1, w2⟩ := z3.atI g4
  exact .inl ⟨p, ys, i, v, rfl, rfl, .inl (.inl z2), w1, k v H2 Hf2 (.fz d) h2 e2 (m1.trans m2) w2 g5⟩
abbrev TMO := Wω → Me → Hd → (Option Int → Hd → Prop) → Prop
def canMO (K : Fg) (W : Wd) (τ : TMO) : TO := fun σ H Q => ∃ (R : Rg) (Hf : Hp) (ρ : Me) (h : Hd) (P : Option Int → Hd → Prop), RE K W R H Hf σ ρ h ∧ τ R.ω ρ h P ∧ (∀ o H' Hf' h', RE K W R H' Hf' σ ρ h' → Mo h h' H H' Hf Hf' → P o h' → Q o H')
structure MO (X : Cx) (W : Wd) (e : Option Expr) (τ : TMO) : Prop where
  po : PO X e (canMO X.K W τ)
end
section
variable {X : Cx} {W : Wd} {pos : Pos} {e : Expr} {es : List Expr} {τs : TMA}
def mCallG (g : List D → Option Res) (τ : TMA) : TM := fun ω ρ h P => τ ω ρ h fun ds h1 => ∃ c, g ds = some c ∧ P c h1
def mCallGV (g : List D → Option Res) (τ : TMA) : TM := fun ω ρ h P => τ ω ρ h fun ds h1 => ∃ c, g (ds.map (vw h1)) = some (.fz c) ∧ c.flat = true ∧ P (.fz c) h1
theorem runC {K : Fg} {n : Nat} {r : List V → Hp → VK → Prop} {g : List D → Option Res} (hs : CallS K r g) : SndE K W (tCB r (canMA K W n τs)) (mCallG g τs) := fun σ H Hf ρ h R P Q e q k => by
  refine ⟨R, Hf, ρ, h, _, e, q, fun vs H1 Hf1 ds h1 e1 m1 r1 _ ⟨c, hc, p1⟩ => ?_⟩
  exact hs H1 Hf1 vs ds c Q e1.hs.sub r1 hc fun v H2 Hf2 x2 ok => k v H2 Hf2 c h1 (e1.ext x2) (m1.trans (Mo.ext x2)) ((RO.of e1.hs x2 ok).back m1.live) p1
theorem runCV {K : Fg} {n : Nat} {r : List V → Hp → VK → Prop} {g : List D → Option Res} (hs : CallS K r g) : SndE K W (tCB r (canMA K W n τs)) (mCallGV g τs) := fun σ H Hf ρ h R P Q e q k => by
  refine ⟨R, Hf, ρ, h, _, e, q, fun vs H1 Hf1 ds h1 e1 m1 r1 _ ⟨c, hc, hf, p1⟩ => ?_⟩
  refine hs H1 (hfv H1 Hf1 h1) vs _ _ Q (hfv_sub e1.hs) (RepL.vw e1.hs r1) hc fun v H2 Hf2 x2 ok => ?_
  have x4 := ext_seen e1.hs x2
  exact k v H2 Hf1 (.fz c) h1 (e1.ext x4) (m1.trans (Mo.ext x4)) (Rep.flat_any ok hf _) p1
theorem me_callB {x : Str} {id : String} {p : Pos} {r : List V → Hp → VK → Prop} {g : List D → Option Res} (hc : CallR X (.builtin id) r) (hs : CallS X.K r g) (hg : Gl X x) (hm : X.mg x = none) (hv : bootBuiltins x = some (.builtin id)) (ha : MA X W (e :: es) τs)
    (hn : x ≠ "__name__" := by decide) (hdb : (x == ("__debug__" : Str)) = false := by decide) (he : starEach (e :: es) X.env = (false, eval e X.env) :: starEach es X.env := by rfl) (hpl : (backTo pos (starEach es X.env)).any (·.1) = false := by rfl) :
    ME X W (.Call (.Name x p) (e :: es) [] pos) (mCallG g τs) := ME.of (pe_callB hc hg hm hv ha.pa hn hdb he hpl) (runC hs)
theorem me_callTy {x : Str} {T : String} {p : Pos} {r : List V → Hp → VK → Prop} {g : List D → Option Res} (hc : CallR X (.type T) r) (hs : CallS X.K r g) (hg : Gl X x) (hm : X.mg x = none) (hv : bootBuiltins x = some (.type T)) (ha : MA X W (e :: es) τs)
    (hn : x ≠ "__name__" := by decide) (hdb : (x == ("__debug__" : Str)) = false := by decide) (he : starEach (e :: es) X.env = (false, eval e X.env) :: starEach es X.env := by rfl) (hpl : (backTo pos (starEach es X.env)).any (·.1) = false := by rfl) :
    ME X W (.Call (.Name x p) (e :: es) [] pos) (mCallG g τs) := ME.of (pe_callTy hc hg hm hv ha.pa hn hdb he hpl) (runC hs)
theorem me_callBV {x : Str} {id : String} {p : Pos} {r : List V → Hp → VK → Prop} {g : List D → Option Res} (hc : CallR X (.builtin id) r) (hs : CallS X.K r g) (hg : Gl X x) (hm : X.mg x = none) (hv : bootBuiltins x = some (.builtin id)) (ha : MA X W (e :: es) τs)
    (hn : x ≠ "__name__" := by decide) (hdb : (x == ("__debug__" : Str)) = false := by decide) (he : starEach (e :: es) X.env = (false, eval e X.env) :: starEach es X.env := by rfl) (hpl : (backTo pos (starEach es X.env)).any (·.1) = false := by rfl) :
    ME X W (.Call (.Name x p) (e :: es) [] pos) (mCallGV g τs) := ME.of (pe_callB hc hg hm hv ha.pa hn hdb he hpl) (runCV hs)
end
end ML
namespace ML
open PySem L2 DL
abbrev FM := List D → Hd → (Res → Hd → Prop) → (Ex → Hd → Prop) → Prop
def spM (K : Fg) (n : Nat) (g : FM) : Sp := fun vs H Q E => ∃ (Hf : Hp) (h : Hd) (ds : List D) (P : Res → Hd → Prop) (PE : Ex → Hd → Prop), Hs K H Hf h ∧ RepL K Hf vs ds ∧ ds.length = n ∧ g ds h P PE ∧
  (∀ v H' Hf' r h', Hs K H' Hf' h' → Mo h h' H H' Hf Hf' → RO K H H' Hf' h' v r → P r h' → Q v H') ∧
  (∀ C d fs H' Hf' h', Hs K H' Hf' h' → Mo h h' H H' Hf Hf' → XRep K Hf' d fs → PE ⟨C, fs⟩ h' → E (.ref C) d H')
theorem spM.imp {K : Fg} {n : Nat} {g g' : FM} (i : ∀ ds h P E, g' ds h P E → g ds h P E) {vs : List V} {H : Hp} {Q : VK} {E : XK} (h : spM K n g' vs H Q E) : spM K n g vs H Q E := by
  obtain ⟨Hf, h, ds, P, PE, h1, h2, h3, h4, h5, h6⟩ := h
  exact ⟨Hf, h, ds, P, PE, h1, h2, h3, i _ _ _ _ h4, h5, h6⟩
theorem RE.out {K : Fg} {W : Wd} {R : Rg} {H H' Hf Hf' : Hp} {σ : St} {ρ : Me} {h h' : Hd} (e : RE K W R H Hf σ ρ h) (s : Hs K H' Hf' h') (m : Mo h h' H H' Hf Hf') {C : Addr} {d : Option Addr} {fs : List (Str × D)} (x : XRep K Hf' d fs) (q : R.ω ⟨C, fs⟩ ρ h') : W.x (.ref C) d σ H' :=
  e.ok _ _ _ _ ⟨C, fs, Hf', ρ, h', rfl, x, e.sl.mono m.grow, s, e.mv.trans m, q⟩
theorem spM_run {K : Fg} {W : Wd} {R : Rg} {H Hf : Hp} {σ : St} {ρ : Me} {h : Hd} {n : Nat} {g : FM} {vs : List V} {ds : List D} {P : Res → Hd → Prop} {Q : VK} (e : RE K W R H Hf σ ρ h) (r : RepL K Hf vs ds) (hl : ds.length = n) (q : g ds h P (fun x h2 => R.ω x ρ h2))
    (k : ∀ v H' Hf' r h', RE K W R H' Hf' σ ρ h' → Mo h h' H H' Hf Hf' → RO K H H' Hf' h' v r → P r h' → Q v H') : spM K n g vs H Q (WE W.x σ) :=
  ⟨Hf, h, ds, P, _, e.hs, r, hl, q, fun v H' Hf' r h' s m ok p => k v H' Hf' r h' (e.step s m) m ok p, fun C d fs H' Hf' h' s m x p => e.out s m x p⟩
section
variable {X : Cx} {W : Wd} {pos p apos : Pos} {e o : Expr} {es : List Expr} {τ τo : TM} {τs : TMA} {x m : Str} {f C : Addr} {fd : FuncData} {ps : List Str} {k n : Nat}
def mCall0 (g : FS0) (τ : TMA) : TM := fun ω ρ h P => τ ω ρ h fun ds h1 => g ds fun r => P r h1
theorem me_c0 {g : FS0} (F : Fn0 X.prog X.w X.K X.mg X.base x k n g) (hr : Room k X.A) (hg : Gl X x) (ha : MA X W (e :: es) τs) (hl : (e :: es).length = n := by rfl) (hdb : (x == ("__debug__" : Str)) = false := by decide) (he : starEach (e :: es) X.env = (false, eval e X.env) :: starEach es X.env := by rfl) (hpl : (backTo pos (starEach es X.env)).any (·.1) = false := by rfl) :
    ME X W (.Call (.Name x p) (e :: es) [] pos) (mCall0 g τs) := by
  obtain ⟨f, fd, ps, F, hm, hk, hb⟩ := F
  refine ME.of (pe_call F hr hg hm hk hb .nil pass0 ha.pa hdb he hpl) fun σ H Hf ρ h R P Q e q k => ⟨R, Hf, ρ, h, _, e, q, fun vs H1 Hf1 ds h1 e1 m1 r1 hds p1 => ?_⟩
  show sp0 X.K n g (vs ++ []) H1 Q _
  rw [List.append_nil]
  exact ⟨Hf1, ds, _, e1.hs.sub, r1, hds.trans hl, p1, fun v H2 Hf2 r x2 ok p2 => k v H2 Hf2 r h1 (e1.ext x2) (m1.trans (Mo.ext x2)) ((RO.of e1.hs x2 ok).back m1.live) p2⟩
def mCall1 (g : FS1) (τ : TMA) : TM := fun ω ρ h P => τ ω ρ h fun ds h1 => ∃ a es xs, ds = .raw (.ref a) :: es ∧ h1 a = some (.lst xs) ∧ g xs es fun r xs' => P r (put h1 a (.lst xs'))
theorem me_c1 {g : FS1} (F : Fn1 X.prog X.w X.K X.mg X.base x k n g) (hr : Room k X.A) (hg : Gl X x) (ha : MA X W (e :: es) τs) (hl : (e :: es).length = n := by rfl) (hdb : (x == ("__debug__" : Str)) = false := by decide) (he : starEach (e :: es) X.env = (false, eval e X.env) :: starEach es X.env := by rfl) (hpl : (backTo pos (starEach es X.env)).any (·.1) = false := by rfl) :
    ME X W (.Call (.Name x p) (e :: es) [] pos) (mCall1 g τs) := by
  obtain ⟨f, fd, ps, F, hm, hk, hb⟩ := F
  refine ME.of (pe_call F hr hg hm hk hb .nil pass0 ha.pa hdb he hpl) fun σ H Hf ρ h R P Q e q k => ⟨R, Hf, ρ, h, _, e, q, fun vs H1 Hf1 ds h1 e1 m1 r1 hds ⟨a, es', xs, hd, ha1, p1⟩ => ?_⟩
  show sp1 X.K n g (vs ++ []) H1 Q _
  rw [List.append_nil]
  subst hd
  cases r1 with
  | cons ra rr =>
    cases ra
    obtain ⟨z1, ys, z2, z3⟩ := e1.hs.hp a _ ha1
    refine ⟨Hf1, a, _, ys, xs, es', _, rfl, e1.hs.sub, z2, z1, z3, rr, by rw [List.length_cons] at hds; omega, p1, fun v H2 Hf2 r ys' xs' x2 hy' hf' ry ok p3 => ?_⟩
    have s2 : Hs X.K H2 Hf2 (put h1 a (.lst xs')) := ⟨x2.sub, fun b o q => by
      by_cases hb : b = a
      · subst hb
        rw [put_same] at q; cases q
        exact ⟨hf', ys', hy', ry⟩
      · rw [put_ne hb] at q
        obtain ⟨w1, w2⟩ := e1.hs.hp b o q
        obtain ⟨u, hu⟩ := w2.at
        refine ⟨?_, w2.mono (fun u hu => x2.same b u hu hb) x2.grow⟩
        cases z : Hf2 b with
        | none => rfl
        | some o' =>
          rcases x2.new b o' z with z | z
          · rw [w1] at z; cases z
          · rw [hu] at z; cases z⟩
    have m2 : Mo h1 (put h1 a (.lst xs')) H1 H2 Hf1 Hf2 := ⟨fun b o q n => x2.same b o q fun z => (by rw [z, ha1] at n; cases n), x2.live, x2.grow, fun b o q => (x2.new b o q).imp id .inl, fun b u q => by
      by_cases hb : b = a
      · rw [hb]; exact .inl ⟨_, ha1⟩
      · rw [put_ne hb] at q; exact .inl ⟨u, q⟩⟩
    refine k v H2 Hf2 r _ (e1.step s2 m2) (m1.trans m2) (RO.back m1.live ?_) p3
    cases r with
    | fz d => exact ok
    | fr us =>
      obtain ⟨b, vs, q1, q2, q3, q4, q5⟩ := ok
      exact ⟨b, vs, q1, q2, q3, by rw [put_ne (ne_of_none z2 q4).symm]; exact e1.hs.free q4, q4, q5⟩
def FnM (P : Program) (w : World) (K : Fg) (mg : Str → Option Value) (base : Heap) (x : Str) (k n : Nat) (g : FM) : Prop := ∃ f fd ps, FnOk P w K mg base (L2.CX P w) k f fd ps (spM K n g) ∧ mg x = some (.ref f) ∧ PySem.W.keepIn K (.ref f) = true ∧ Binds K fd ps []
theorem FnM.mono {P : Program} {w : World} {K : Fg} {mg : Str → Option Value} {base : Heap} {j : Nat} {g : FM} (h : FnM P w K mg base x j n g) (hj : j ≤ k) : FnM P w K mg base x k n g := let ⟨f, fd, ps, a, b⟩ := h; ⟨f, fd, ps, a.mono hj, b⟩
theorem FnM.imp {P : Program} {w : World} {K : Fg} {mg : Str → Option Value} {base : Heap} {g g' : FM} (h : FnM P w K mg base x k n g) (i : ∀ ds h P E, g' ds h P E → g ds h P E) : FnM P w K mg base x k n g' := let ⟨f, fd, ps, a, b⟩ := h; ⟨f, fd, ps, a.imp fun vs H Q E q => q.imp i, b⟩
def mCallM (g : FM) (τ : TMA) : TM := fun ω ρ h P => τ ω ρ h fun ds h1 => g ds h1 P fun x h2 => ω x ρ h2
theorem me_cM {g : FM} (F : FnM X.prog X.w X.K X.mg X.base x k n g) (tk : Takes X W.x) (hr : Room k X.A) (hg : Gl X x) (ha : MA X W (e :: es) τs) (hl : (e :: es).length = n := by rfl) (hdb : (x == ("__debug__" : Str)) = false := by decide) (he : starEach (e :: es) X.env = (false, eval e X.env) :: starEach es X.env := by rfl) (hpl : (backTo pos (starEach es X.env)).any (·.1) = false := by rfl) :
    ME X W (.Call (.Name x p) (e :: es) [] pos) (mCallM g τs) := by
  obtain ⟨f, fd, ps, F, hm, hk, hb⟩ := F
  refine ME.of (pe_callS F hr hg hm hk hb (passAt tk) ha.pa hdb he hpl) fun σ H Hf ρ h R P Q e q k => ⟨R, Hf, ρ, h, _, e, q, fun vs H1 Hf1 ds h1 e1 m1 r1 hds p1 => ?_⟩
  exact spM_run e1 r1 (hds.trans hl) p1 fun v H2 Hf2 r h2 e2 m2 ok p2 => k v H2 Hf2 r h2 e2 (m1.trans m2) (ok.back m1.live) p2
def isI (h : Hd) (d : D) (C : Addr) (fs : List (Str × D)) : Prop := (∃ a, d = .raw (.ref a) ∧ h a = some (.ins C fs)) ∨ d = .obj C fs
theorem RepF.get {K : Fg} {H : Hp} {f : Str} : ∀ {gs : List (Str × V)} {fs : List (Str × D)}, RepF K H gs fs → (∀ d, fs.lookup f = some d → ∃ v, gs.lookup f = some v ∧ Rep K H v d) ∧ (fs.lookup f = none → gs.lookup f = none)
  | _, _, .nil => ⟨fun d h => (nomatch h), fun _ => rfl⟩
  | _, _, .cons (f := g) a r => by
    obtain ⟨i1, i2⟩ := RepF.get (f := f) r
    simp only [List.lookup]
    cases e : f == g with
    | true => exact ⟨fun d h => ⟨_, rfl, by cases h; exact a⟩, fun h => nomatch h⟩
    | false => exact ⟨i1, i2⟩
def putD (f : Str) (v : D) : List (Str × D) → List (Str × D)
  | [] => [(f, v)]
  | (g, x) :: r => if g = f then (g, v) :: r else (g, x) :: putD f v r
theorem RepF.put {K : Fg} {H : Hp} {f : Str} {v : V} {d : D} (q : Rep K H v d) : ∀ {gs : List (Str × V)} {fs : List (Str × D)}, RepF K H gs fs → RepF K H (putF f v gs) (putD f d fs)
  | _, _, .nil => .cons q .nil
  | _, _, .cons (f := g) a r => by
    unfold putF putD
    split
    · exact .cons q r
    · exact .cons a (RepF.put q r)
theorem RepF.length {K : Fg} {H : Hp} : ∀ {gs : List (Str × V)} {fs : List (Str × D)}, RepF K H gs fs → gs.length = fs.length
  | _, _, .nil => rfl
  | _, _, .cons _ r => congrArg (· + 1) (RepF.length r)
theorem isI.at {K : Fg} {H Hf : Hp} {h : Hd} {v : V} {d : D} {C : Addr} {fs : List (Str × D)} (s : Hs K H Hf h) (r : Rep K Hf v d) (i : isI h d C fs) : ∃ a dx gs, v = .ref a ∧ H a = some (.ins C dx gs) ∧ RepF K Hf gs fs := by
  rcases i with ⟨a, rfl, e⟩ | rfl
  · cases r
    obtain ⟨_, dx, gs, z1, z2⟩ := s.hp a _ e
    exact ⟨a, dx, gs, rfl, z1, z2⟩
  · cases r with
    | obj q r => exact ⟨_, _, _, rfl, s.sub _ _ q, r⟩
def Fo (K : Fg) (C : Addr) (f : Str) : Prop := Cls K C ∧ NoAttr K C f
def mFld (C : Addr) (f : Str) (τ : TM) : TM := fun ω ρ h P => τ ω ρ h fun x h1 => ∃ fs d, isI h1 x.dat C fs ∧ fs.lookup f = some d ∧ P (.fz d) h1
theorem me_fld {f : Str} (fo : Fo X.K C f) (he : ME X W e τ) (hb : attributeBase e f X.env (eval e X.env) = eval e X.env := by rfl) : ME X W (.Attribute e f pos) (mFld C f τ) := by
  obtain ⟨t, pe, se⟩ := he.fz
  refine ME.of (pe_fld pe hb) fun σ H Hf ρ h R P Q e q k => se σ H Hf ρ h R (fun x h1 => ∃ fs d, isI h1 x C fs ∧ fs.lookup f = some d ∧ P (.fz d) h1) _ e q fun v H1 Hf1 dx h1 e1 m1 r1 ⟨fs, d, i1, l, p1⟩ => ?_
  obtain ⟨a, dx', gs, ev, z1, z2⟩ := isI.at e1.hs r1 i1
  obtain ⟨w, l1, rw'⟩ := (RepF.get z2).1 d l
  exact ⟨a, C, dx', gs, w, ev, z1, fo.1, fo.2, l1, k w H1 Hf1 (.fz d) h1 e1 m1 rw' p1⟩
def tMethD (C : Addr) (m : Str) (sp : Sp) (E : St → XK) (ta : TE) (t : TA) : TE := fun σ H Q => ta σ H fun x H1 => ∃ a dx fs, x = .ref a ∧ H1 a = some (.ins C dx fs) ∧ fs.lookup m = none ∧ t σ H1 fun vs H2 => sp (x :: vs) H2 Q (E σ)
theorem pe_methD {pl : Sem Bool} {CX : CXT} {sp : Sp} {E : St → XK} {ta : TE} {t : TA} (he : PE X o ta) (c : Cls X.K C) (hm : Meth X.K C m f) (F : FnOk X.prog X.w X.K X.mg X.base CX k f fd ps sp) (hr : Room k X.A) (hb : Binds X.K fd ps []) (hx : ∀ σ, PassesAt CX X σ (E σ)) (ha : PA X (e :: es) t)
    (hst : starEach (e :: es) X.env = (false, eval e X.env) :: starEach es X.env) (hpl : (backTo pos (starEach es X.env)).any (·.1) = false)
    (ht : eval (.Call (.Attribute o m apos) (e :: es) [] pos) X.env = (do let ov ← eval o X.env; standAt apos.atName; let (f, first) ← holding [ov] (getMethod ov m pl); callWith pos f first (backTo pos (starEach (e :: es) X.env)) (backToKw pos (keywordEach [] X.env)))) :
    PE X (.Call (.Attribute o m apos) (e :: es) [] pos) (tMethD C m sp E ta t) := ⟨fun pins s σ H Q I q0 => PySem.W.methodCall_KW (pl := pl) (thn (he.run pins s σ H _ I q0) fun u s1 ⟨x, H1, I1, rx, a, dx, fs, ex, ea, l, q⟩ => by
  subst ex
  cases (show u = Value.ref a from rx)
  exact getmeth_ok I1 ea c hm l (PySem.W.callWith_K (first := [.ref a]) (h₀ := X.base) I.ok.mod.kin hm.kp (thn (ha.run pos pins s1 σ H1 _ I1 q) fun us s2 ⟨vs, H2, I2, r, q2⟩ => ⟨I2.kIn, run_fnS (us := .ref a :: us) (vs := .ref a :: vs) F hr hb (hx σ) I2 (.cons rfl r) q2⟩) hst hpl)) ht⟩
theorem pe_methD0 {pl : Sem Bool} {CX : CXT} {sp : Sp} {E : St → XK} {ta : TE} (he : PE X o ta) (c : Cls X.K C) (hm : Meth X.K C m f) (F : FnOk X.prog X.w X.K X.mg X.base CX k f fd ps sp) (hr : Room k X.A) (hb : Binds X.K fd ps []) (hx : ∀ σ, PassesAt CX X σ (E σ))
    (ht : eval (.Call (.Attribute o m apos) [] [] pos) X.env = (do let ov ← eval o X.env; standAt apos.atName; let (f, first) ← holding [ov] (getMethod ov m pl); callWith pos f first (backTo pos (starEach [] X.env)) (backToKw pos (keywordEach [] X.env)))) :
    PE X (.Call (.Attribute o m apos) [] [] pos) (tMethD C m sp E ta tNil) := ⟨fun pins s σ H Q I q0 => PySem.W.methodCall_KW (pl := pl) (thn (he.run pins s σ H _ I q0) fun u s1 ⟨x, H1, I1, rx, a, dx, fs, ex, ea, l, q⟩ => by
  subst ex
  cases (show u = Value.ref a from rx)
  exact getmeth_ok I1 ea c hm l (PySem.W.callWith_K0 (first := [.ref a]) I1.kIn hm.kp (run_fnS (us := [.ref a]) (vs := [.ref a]) F hr hb (hx σ) I1 (.cons rfl .nil) q))) ht⟩
def MthM (P : Program) (w : World) (K : Fg) (mg : Str → Option Value) (base : Heap) (C : Addr) (m : Str) (k n : Nat) (g : FM) : Prop := ∃ f fd ps, FnOk P w K mg base (L2.CX P w) k f fd ps (spM K n g) ∧ Cls K C ∧ Meth K C m f ∧ Binds K fd ps []
theorem MthM.mono {P : Program} {w : World} {K : Fg} {mg : Str → Option Value} {base : Heap} {j : Nat} {g : FM} (h : MthM P w K mg base C m j n g) (hj : j ≤ k) : MthM P w K mg base C m k n g := let ⟨f, fd, ps, a, b⟩ := h; ⟨f, fd, ps, a.mono hj, b⟩
theorem MthM.imp {P : Program} {w : World} {K : Fg} {mg : Str → Option Value} {base : Heap} {g g' : FM} (h : MthM P w K mg base C m k n g) (i : ∀ ds h P E, g' ds h P E → g ds h P E) : MthM P w K mg base C m k n g' := let ⟨f, fd, ps, a, b⟩ := h; ⟨f, fd, ps, a.imp fun vs H Q E q => q.imp i, b⟩
def mMeth (C : Addr) (m : Str) (g : FM) (τo : TM) (τs : TMA) : TM := fun ω ρ h P => τo ω ρ h fun x h1 => (∃ fs, isI h1 x.dat C fs ∧ fs.lookup m = none) ∧ τs ω ρ h1 fun ds h2 => g (x.dat :: ds) h2 P fun x h3 => ω x ρ h3
theorem me_mM {pl : Sem Bool} {g : FM} (F : MthM X.prog X.w X.K X.mg X.base C m k n g) (tk : Takes X W.x) (hr : Room k X.A) (ho : ME X W o τo) (ha : MA X W (e :: es) τs) (hl : (e :: es).length + 1 = n := by rfl)
    (hst : starEach (e :: es) X.env = (false, eval e X.env) :: starEach es X.env := by rfl) (hpl : (backTo pos (starEach es X.env)).any (·.1) = false := by rfl)
    (ht : eval (.Call (.Attribute o m apos) (e :: es) [] pos) X.env = (do let ov ← eval o X.env; standAt apos.atName; let (f, first) ← holding [ov] (getMethod ov m pl); callWith pos f first (backTo pos (starEach (e :: es) X.env)) (backToKw pos (keywordEach [] X.env))) := by rfl) :
    ME X W (.Call (.Attribute o m apos) (e :: es) [] pos) (mMeth C m g τo τs) := by
  obtain ⟨f, fd, ps, F, hc, hm, hb⟩ := F
  obtain ⟨t, po, so⟩ := ho.fz
  refine ME.of (pe_methD po hc hm F hr hb (passAt tk) ha.pa hst hpl ht) fun σ H Hf ρ h R P Q e q k => so σ H Hf ρ h R (fun x h1 => (∃ fs, isI h1 x C fs ∧ fs.lookup m = none) ∧ τs R.ω ρ h1 fun ds h2 => g (x :: ds) h2 P fun x h3 => R.ω x ρ h3) _ e q fun v H1 Hf1 dv h1 e1 m1 r1 ⟨⟨fs, i1, l1⟩, p1⟩ => ?_
  obtain ⟨a, dx, gs, ev, z1, z2⟩ := isI.at e1.hs r1 i1
  refine ⟨a, dx, gs, ev, z1, (RepF.get z2).2 l1, R, Hf1, ρ, h1, _, e1, p1, fun vs H2 Hf2 ds h2 e2 m2 r2 hds p2 => ?_⟩
  have m12 := m1.trans m2
  exact spM_run e2 (.cons (r1.mono m2.grow) r2) (by rw [List.length_cons, hds]; exact hl) p2 fun v H3 Hf3 r h3 e3 m3 ok p3 => k v H3 Hf3 r h3 e3 (m12.trans m3) (ok.back m12.live) p3
theorem me_mM0 {pl : Sem Bool} {g : FM} (F : MthM X.prog X.w X.K X.mg X.base C m k 1 g) (tk : Takes X W.x) (hr : Room k X.A) (ho : ME X W o τo)
    (ht : eval (.Call (.Attribute o m apos) [] [] pos) X.env = (do let ov ← eval o X.env; standAt apos.atName; let (f, first) ← holding [ov] (getMethod ov m pl); callWith pos f first (backTo pos (starEach [] X.env)) (backToKw pos (keywordEach [] X.env))) := by rfl) :
    ME X W (.Call (.Attribute o m apos) [] [] pos) (mMeth C m g τo mANil) := by
  obtain ⟨f, fd, ps, F, hc, hm, hb⟩ := F
  obtain ⟨t, po, so⟩ := ho.fz
  refine ME.of (pe_methD0 po hc hm F hr hb (passAt tk) ht) fun σ H Hf ρ h R P Q e q k => so σ H Hf ρ h R (fun x h1 => (∃ fs, isI h1 x C fs ∧ fs.lookup m = none) ∧ mANil R.ω ρ h1 fun ds h2 => g (x :: ds) h2 P fun x h3 => R.ω x ρ h3) _ e q fun v H1 Hf1 dv h1 e1 m1 r1 ⟨⟨fs, i1, l1⟩, p1⟩ => ?_
  obtain ⟨a, dx, gs, ev, z1, z2⟩ := isI.at e1.hs r1 i1
  refine ⟨a, dx, gs, ev, z1, (RepF.get z2).2 l1, ?_⟩
  exact spM_run e1 (.cons r1 .nil) rfl p1 fun v H3 Hf3 r h3 e3 m3 ok p3 => k v H3 Hf3 r h3 e3 (m1.trans m3) (ok.back m1.live) p3
end
end ML
namespace ML
open PySem L2 DL
section
variable {X : Cx} {W : Wd} {pos p apos : Pos} {e o : Expr} {es : List Expr} {τ τo : TM} {τs : TMA} {x m : Str} {f C : Addr} {fd : FuncData} {ps : List Str} {k n : Nat}
def tMakeD (C : Addr) (sp : Sp) (E : St → XK) (t : TA) : TE := fun σ H Q => t σ H fun vs H1 => ∀ x dx, H1 x = none → H1 dx = none → dx ≠ x → sp (.ref x :: vs) (upd (upd H1 dx (.own x)) x (.ins C dx [])) (fun v H2 => v = .non ∧ Q (.ref x) H2) (E σ)
theorem run_mkD {CX : CXT} {sp : Sp} {E : St → XK} {pins : List (Addr × Obj)} {σ : St} {H : Hp} {s : Shared} {Q : VK} {us : List Value} {vs : List V} (M : Mk X.K C f) (F : FnOk X.prog X.w X.K X.mg X.base CX k f fd ps sp) (hr : Room (k + 1) X.A) (hb : Binds X.K fd ps [])
    (hx : PassesAt CX X σ (E σ)) (I : Inv X pins σ H s) (r : Vals vs us) (q0 : ∀ x dx, H x = none → H dx = none → dx ≠ x → sp (.ref x :: vs) (upd (upd H dx (.own x)) x (.ins C dx [])) (fun v H2 => v = .non ∧ Q (.ref x) H2) (E σ)) :
    wpAny (model X.prog X.w) X.A (call (.ref C) us) (EP X pins σ Q) X.xe s := by
  have J := Inv.made (C := C) I
  have hq := q0 (s.heap.objs.size + 1) s.heap.objs.size (I.hok.fresh (Nat.le_succ _)) (I.hok.fresh (Nat.le_refl _)) (Nat.ne_of_lt (Nat.lt_succ_self _))
  have rr : Vals (V.ref (s.heap.objs.size + 1) :: vs) (Value.ref (s.heap.objs.size + 1) :: us) := .cons rfl r
  have hl : (Value.ref (s.heap.objs.size + 1) :: us).length = ps.length := rr.length.symm.trans (F.len _ _ _ _ hq)
  have b := hb { s with heap := (s.heap.push PySem.W.emptyDict).push (PySem.W.instObj C s.heap.objs.size) } (Value.ref (s.heap.objs.size + 1) :: us) J.kIn (by rw [List.append_nil]; exact hl)
  rw [List.append_nil] at b
  refine wpAny_call (make_map (f := f) I.kIn M.makes M.init (beq_iff_eq.mp M.fn) (codeAny_mono (F.run _ X.stack _ _ ⟨Value.ref (s.heap.objs.size + 1) :: us, []⟩ _ _ _ (E σ) (hr.make C us []) (J.env0.make C us []) b rr hq) fun res s' z => ?_))
  match res, z with
  | .error e, z => exact hx pins _ _ e s' J z
  | .ok (.ret u), z =>
    obtain ⟨v, H', I3, rv, ev, q3⟩ := J.after z
    subst ev
    exact ⟨rv, V.ref (s.heap.objs.size + 1), H', I3, rfl, q3⟩
  | .ok .next, z => exact z.elim
  | .ok .brk, z => exact z.elim
  | .ok .cont, z => exact z.elim
theorem pe_mkD {CX : CXT} {sp : Sp} {E : St → XK} {t : TA} (M : Mk X.K C f) (F : FnOk X.prog X.w X.K X.mg X.base CX k f fd ps sp) (hr : Room (k + 1) X.A) (hg : Gl X x) (hm : X.mg x = some (.ref C)) (hb : Binds X.K fd ps []) (hx : ∀ σ, PassesAt CX X σ (E σ))
    (ha : PA X (e :: es) t) (hdb : (x == ("__debug__" : Str)) = false) (he : starEach (e :: es) X.env = (false, eval e X.env) :: starEach es X.env) (hpl : (backTo pos (starEach es X.env)).any (·.1) = false) :
    PE X (.Call (.Name x p) (e :: es) [] pos) (tMakeD C sp E t) := ⟨fun pins s σ H Q I q0 =>
  wpAny_Call_Name_kw (ld_glob I hg hm (PySem.W.callWith_K (h₀ := X.base) I.ok.mod.kin M.kp (thn (ha.run pos pins s σ H _ I q0) fun us s1 ⟨vs, H1, I1, r, q⟩ => ⟨I1.kIn, run_mkD M F hr hb (hx σ) I1 r q⟩) he hpl) hdb)⟩
def MkM (P : Program) (w : World) (K : Fg) (mg : Str → Option Value) (base : Heap) (x : Str) (C : Addr) (k n : Nat) (g : FM) : Prop := ∃ f fd ps, FnOk P w K mg base (L2.CX P w) k f fd ps (spM K n g) ∧ Mk K C f ∧ mg x = some (.ref C) ∧ Binds K fd ps []
theorem MkM.mono {P : Program} {w : World} {K : Fg} {mg : Str → Option Value} {base : Heap} {j : Nat} {g : FM} (h : MkM P w K mg base x C j n g) (hj : j ≤ k) : MkM P w K mg base x C k n g := let ⟨f, fd, ps, a, b⟩ := h; ⟨f, fd, ps, a.mono hj, b⟩
theorem MkM.imp {P : Program} {w : World} {K : Fg} {mg : Str → Option Value} {base : Heap} {g g' : FM} (h : MkM P w K mg base x C k n g) (i : ∀ ds h P E, g' ds h P E → g ds h P E) : MkM P w K mg base x C k n g' := let ⟨f, fd, ps, a, b⟩ := h; ⟨f, fd, ps, a.imp fun vs H Q E q => q.imp i, b⟩
def mMake (C : Addr) (g : FM) (τs : TMA) : TM := fun ω ρ h P => τs ω ρ h fun ds h1 => ∀ a, h1 a = none → g (.raw (.ref a) :: ds) (put h1 a (.ins C [])) (fun r h2 => r.dat = .non ∧ P (.fz (.raw (.ref a))) h2) fun x h2 => ω x ρ h2
theorem make_run {K : Fg} {R : Rg} {H Hf : Hp} {σ : St} {ρ : Me} {h : Hd} {g : FM} {vs : List V} {ds : List D} {P : Res → Hd → Prop} {Q : VK} (e : RE K W R H Hf σ ρ h) (r : RepL K Hf vs ds) (hl : ds.length + 1 = n)
    (q : ∀ a, h a = none → g (.raw (.ref a) :: ds) (put h a (.ins C [])) (fun r h2 => r.dat = .non ∧ P (.fz (.raw (.ref a))) h2) fun x h2 => R.ω x ρ h2)
    (k : ∀ v H' Hf' r h', RE K W R H' Hf' σ ρ h' → Mo h h' H H' Hf Hf' → RO K H H' Hf' h' v r → P r h' → Q v H') (x dx : Addr) (hx : H x = none) (hd : H dx = none) (hne : dx ≠ x) :
    spM K n g (.ref x :: vs) (upd (upd H dx (.own x)) x (.ins C dx [])) (fun v H2 => v = .non ∧ Q (.ref x) H2) (WE W.x σ) := by
  have x1 := Ext.add' e.hs.sub (.own x) hd
  have hx1 : upd H dx (.own x) x = none := by rw [upd_ne (Ne.symm hne)]; exact hx
  have s1 := e.hs.ext x1
  have s2 : Hs K (upd (upd H dx (.own x)) x (.ins C dx [])) Hf (put h x (.ins C [])) := s1.upd (o := .ins C []) (u := .ins C dx []) (.inr hx1) fun H' hq => ⟨dx, [], hq, .nil⟩
  have m2 : Mo h (put h x (.ins C [])) H (upd (upd H dx (.own x)) x (.ins C dx [])) Hf Hf := (Mo.ext x1).trans (Mo.upd (.inr hx1))
  have e2 := e.step s2 m2
  refine spM_run e2 (.cons (.raw _) r) (by rw [List.length_cons]; exact hl) (q x (e.hs.free hx)) fun v H3 Hf3 r3 h3 e3 m3 ok ⟨hn, p3⟩ => ?_
  obtain ⟨Hf4, s4, m4, r4⟩ := ok.freeze e3.hs m3
  rw [hn] at r4
  refine ⟨by cases r4; rfl, k _ H3 Hf3 (.fz (.raw (.ref x))) h3 e3 (m2.trans m3) (Rep.raw _) p3⟩
theorem me_mk {g : FM} (F : MkM X.prog X.w X.K X.mg X.base x C k n g) (tk : Takes X W.x) (hr : Room (k + 1) X.A) (hg : Gl X x) (ha : MA X W (e :: es) τs) (hl : (e :: es).length + 1 = n := by rfl) (hdb : (x == ("__debug__" : Str)) = false := by decide) (he : starEach (e :: es) X.env = (false, eval e X.env) :: starEach es X.env := by rfl) (hpl : (backTo pos (starEach es X.env)).any (·.1) = false := by rfl) :
    ME X W (.Call (.Name x p) (e :: es) [] pos) (mMake C g τs) := by
  obtain ⟨f, fd, ps, F, M, hm, hb⟩ := F
  refine ME.of (pe_mkD M F hr hg hm hb (passAt tk) ha.pa hdb he hpl) fun σ H Hf ρ h R P Q e q k => ⟨R, Hf, ρ, h, _, e, q, fun vs H1 Hf1 ds h1 e1 m1 r1 hds p1 => ?_⟩
  exact make_run e1 r1 (by rw [hds]; exact hl) p1 fun v H2 Hf2 r h2 e2 m2 ok p2 => k v H2 Hf2 r h2 e2 (m1.trans m2) (ok.back m1.live) p2
def mOwn (τ : TM) : TM := fun ω ρ h P => τ ω ρ h fun r h1 => ∃ xs, r = .fr xs ∧ ∀ a, h1 a = none → P (.fz (.raw (.ref a))) (put h1 a (.lst xs))
theorem me_own (he : ME X W e τ) : ME X W e (mOwn τ) := by
  obtain ⟨t, pe, se⟩ := he.ex
  refine ME.of pe fun σ H Hf ρ h R P Q e q k => se σ H Hf ρ h R _ Q e q fun v H1 Hf1 r h1 e1 m1 r1 ⟨xs, hr, p1⟩ => ?_
  subst hr
  obtain ⟨a, ev, n1, n2, s2, m2⟩ := r1.take e1.hs m1
  subst ev
  exact k _ H1 Hf1 (.fz (.raw (.ref a))) _ (e.step s2 m2) m2 (Rep.raw _) (p1 a n1)
end
mutual
inductive Fz (h : Hd) (A : Addr → Prop) : D → D → Prop
  | same (d : D) : Fz h A d d
  | lst {a : Addr} {xs ys : List D} : h a = some (.lst xs) → A a → FzL h A xs ys → Fz h A (.raw (.ref a)) (.lst ys)
  | ins {a C : Addr} {fs gs : List (Str × D)} : h a = some (.ins C fs) → A a → FzF h A fs gs → Fz h A (.raw (.ref a)) (.obj C gs)
  | tup {xs ys : List D} : FzL h A xs ys → Fz h A (.tup xs) (.tup ys)
  | lis {xs ys : List D} : FzL h A xs ys → Fz h A (.lst xs) (.lst ys)
inductive FzL (h : Hd) (A : Addr → Prop) : List D → List D → Prop
  | nil : FzL h A [] []
  | cons {d e : D} {xs ys : List D} : Fz h A d e → FzL h A xs ys → FzL h A (d :: xs) (e :: ys)
inductive FzF (h : Hd) (A : Addr → Prop) : List (Str × D) → List (Str × D) → Prop
  | nil : FzF h A [] []
  | cons {f : Str} {d e : D} {xs ys : List (Str × D)} : Fz h A d e → FzF h A xs ys → FzF h A ((f, d) :: xs) ((f, e) :: ys)
end
open Classical in
noncomputable def hfz (H Hf : Hp) (h : Hd) (A : Addr → Prop) : Hp := fun b => match Hf b with
  | some o => some o
  | none => if A b ∧ (h b).isSome = true then H b else none
section
variable {K : Fg} {W : Wd} {R : Rg} {H Hf : Hp} {h h' : Hd} {A : Addr → Prop} {σ : St} {ρ ρ' : Me}
theorem hfz_grow : ∀ b o, Hf b = some o → hfz H Hf h A b = some o := fun b o q => by unfold hfz; rw [q]
theorem hfz_sub (s : Hs K H Hf h) : ∀ b o, hfz H Hf h A b = some o → H b = some o := fun b o q => by
  unfold hfz at q
  cases e : Hf b with
  | some u => rw [e] at q; cases q; exact s.sub b _ e
  | none =>
    rw [e] at q
    dsimp only at q
    split at q
    · exact q
    · cases q
theorem hfz_at {a : Addr} {o : Ob} (s : Hs K H Hf h) (e : h a = some o) (ha : A a) : hfz H Hf h A a = H a := by
  unfold hfz
  rw [(s.hp a o e).1]
  dsimp only
  rw [if_pos ⟨ha, by rw [e]; rfl⟩]
mutual
theorem Fz.rep (s : Hs K H Hf h) : ∀ {d e : D} {v : V}, Fz h A d e → Rep K Hf v d → Rep K (hfz H Hf h A) v e
  | _, _, _, .same d, r => r.mono hfz_grow
  | _, _, _, .lst q ha l, .raw _ => by
    obtain ⟨_, ys, z1, z2⟩ := s.hp _ _ q
    exact .lst ((hfz_at s q ha).trans z1) (FzL.rep s l z2)
  | _, _, _, .ins q ha l, .raw _ => by
    obtain ⟨_, dx, gs, z1, z2⟩ := s.hp _ _ q
    exact .obj ((hfz_at s q ha).trans z1) (FzF.rep s l z2)
  | _, _, _, .tup l, .tup q r => .tup (sqT_same hfz_grow q) (FzL.rep s l r)
  | _, _, _, .lis l, .lst q r => .lst (hfz_grow _ _ q) (FzL.rep s l r)
theorem FzL.rep (s : Hs K H Hf h) : ∀ {ds es : List D} {vs : List V}, FzL h A ds es → RepL K Hf vs ds → RepL K (hfz H Hf h A) vs es
  | _, _, _, .nil, .nil => .nil
  | _, _, _, .cons a l, .cons r t => .cons (Fz.rep s a r) (FzL.rep s l t)
theorem FzF.rep (s : Hs K H Hf h) : ∀ {ds es : List (Str × D)} {vs : List (Str × V)}, FzF h A ds es → RepF K Hf vs ds → RepF K (hfz H Hf h A) vs es
  | _, _, _, .nil, .nil => .nil
  | _, _, _, .cons a l, .cons r t => .cons (Fz.rep s a r) (FzF.rep s l t)
end
def Cut (h h' : Hd) (A : Addr → Prop) : Prop := ∀ a o, h' a = some o → h a = some o ∧ ¬ A a
theorem Hs.fz (s : Hs K H Hf h) (c : Cut h h' A) : Hs K H (hfz H Hf h A) h' := ⟨hfz_sub s, fun b o q => by
  obtain ⟨q1, q2⟩ := c b o q
  obtain ⟨z1, z2⟩ := s.hp b o q1
  refine ⟨?_, z2.mono (fun _ w => w) hfz_grow⟩
  unfold hfz
  rw [z1]
  dsimp only
  rw [if_neg fun z => q2 z.1]⟩
theorem Mo.fz (c : Cut h h' A) : Mo h h' H H Hf (hfz H Hf h A) := ⟨fun _ _ q _ => q, fun _ q => q, hfz_grow, (fun b o q => by
  unfold hfz at q
  cases e : Hf b with
  | some u => rw [e] at q; cases q; exact .inl rfl
  | none =>
    rw [e] at q
    dsimp only at q
    split at q
    · rename_i z
      exact .inr (.inr (Option.isSome_iff_exists.mp z.2))
    · cases q), fun b u q => .inl ⟨u, (c b u q).1⟩⟩
def FzE (h : Hd) (A : Addr → Prop) (ρ ρ' : Me) : Prop := ρ'.length = ρ.length ∧ ∀ (i : Nat) (e : D), ρ'[i]? = some (some e) → ∃ d, ρ[i]? = some (some d) ∧ Fz h A d e
theorem FzE.refl (h : Hd) (A : Addr → Prop) (ρ : Me) : FzE h A ρ ρ := ⟨rfl, fun i e q => ⟨e, q, .same e⟩⟩
theorem FzE.set {i : Nat} {d e : D} (q : ρ[i]? = some (some d)) (z : Fz h A d e) : FzE h A ρ (ρ.set i (some e)) := ⟨by rw [List.length_set], fun j u w => by
  rw [List.getElem?_set] at w
  by_cases hj : i = j
  · subst hj
    rw [if_pos rfl] at w
    split at w
    · cases w; exact ⟨d, q, z⟩
    · cases w
  · rw [if_neg hj] at w
    exact ⟨u, w, .same u⟩⟩
theorem RE.fz (e : RE K W R H Hf σ ρ h) (c : Cut h h' A) (z : FzE h A ρ ρ') : RE K W R H (hfz H Hf h A) σ ρ' h' where
  ok := e.ok
  gh := W.mono _ _ hfz_grow e.gh
  sl := ⟨fun i d q => by
    obtain ⟨d0, q0, f⟩ := z.2 i d q
    obtain ⟨v, h1, h2⟩ := e.sl.at_ i d0 q0
    exact ⟨v, h1, f.rep e.hs h2⟩, by rw [z.1]; exact e.sl.len⟩
  hs := e.hs.fz c
  mv := e.mv.trans (Mo.fz c)
end
section
variable {X : Cx} {W : Wd} {e : Expr} {τ : TM}
def mFz (τ : TM) : TM := fun ω ρ h P => τ ω ρ h fun r h1 => ∃ A d h2, Fz h1 A r.dat d ∧ Cut h1 h2 A ∧ P (.fz d) h2
theorem me_fz (he : ME X W e τ) : ME X W e (mFz τ) := by
  obtain ⟨t, pe, se⟩ := he.fz
  refine ME.of pe fun σ H Hf ρ h R P Q e q k => se σ H Hf ρ h R (fun r h1 => ∃ A d h2, Fz h1 A r d ∧ Cut h1 h2 A ∧ P (.fz d) h2) Q e q fun v H1 Hf1 d1 h1 e1 m1 r1 ⟨A, d, h2, f, c, p1⟩ => ?_
  exact k v H1 _ (.fz d) h2 (e1.fz c (FzE.refl ..)) (m1.trans (Mo.fz c)) (f.rep e1.hs r1) p1
end
abbrev TMG := D → Me → (Me → Prop) → Prop
abbrev TMGs := List D → Me → (Me → Prop) → Prop
theorem set_getM {ρ : Me} {i j : Nat} {s : Option D} : (ρ.set i s)[j]? = if i = j then (if i < ρ.length then some s else none) else ρ[j]? := by rw [List.getElem?_set]
structure StM (is : List Nat) (σ σ' : St) (ρ ρ' : Me) : Prop where
  sl : ∀ i, i ∉ is → σ'[i]? = σ[i]? ∧ ρ'[i]? = ρ[i]?
  len : σ'.length = σ.length
  lenR : ρ'.length = ρ.length
theorem StM.refl (is : List Nat) (σ : St) (ρ : Me) : StM is σ σ ρ ρ := ⟨fun _ _ => ⟨rfl, rfl⟩, rfl, rfl⟩
theorem StM.trans {is js : List Nat} {σ σ1 σ2 : St} {ρ ρ1 ρ2 : Me} (a : StM is σ σ1 ρ ρ1) (b : StM js σ1 σ2 ρ1 ρ2) : StM (is ++ js) σ σ2 ρ ρ2 := ⟨fun i h => by
  obtain ⟨a1, a2⟩ := a.sl i fun z => h (List.mem_append_left _ z)
  obtain ⟨b1, b2⟩ := b.sl i fun z => h (List.mem_append_right _ z)
  exact ⟨b1.trans a1, b2.trans a2⟩, b.len.trans a.len, b.lenR.trans a.lenR⟩
def canMG (K : Fg) (is : List Nat) (γ : TMG) : TG := fun v σ H Q => ∃ (Hf : Hp) (ρ : Me) (d : D) (P : Me → Prop), (∀ b o, Hf b = some o → H b = some o) ∧ Sd K Hf σ ρ ∧ Rep K Hf v d ∧ γ d ρ P ∧ ∀ σ' H' Hf' ρ', Sd K Hf' σ' ρ' → Ext H H' Hf Hf' → StM is σ σ' ρ ρ' → P ρ' → Q σ' H'
def canMGs (K : Fg) (is : List Nat) (γ : TMGs) : TGs := fun vs σ H Q => ∃ (Hf : Hp) (ρ : Me) (ds : List D) (P : Me → Prop), (∀ b o, Hf b = some o → H b = some o) ∧ Sd K Hf σ ρ ∧ RepL K Hf vs ds ∧ γ ds ρ P ∧ ∀ σ' H' Hf' ρ', Sd K Hf' σ' ρ' → Ext H H' Hf Hf' → StM is σ σ' ρ ρ' → P ρ' → Q σ' H'
structure MG (X : Cx) (tg : Expr) (is : List Nat) (γ : TMG) : Prop where
  pg : PG X tg (canMG X.K is γ)
structure MGs (X : Cx) (tgs : List Expr) (is : List Nat) (γ : TMGs) : Prop where
  pgs : PGs X tgs (canMGs X.K is γ)
theorem Sd.set {K : Fg} {Hf : Hp} {σ : St} {ρ : Me} (s : Sd K Hf σ ρ) (i : Nat) {v : V} {d : D} (r : Rep K Hf v d) : Sd K Hf (σ.set i (some v)) (ρ.set i (some d)) := ⟨fun j e q => by
  rw [set_getM] at q
  by_cases hj : i = j
  · subst hj
    rw [if_pos rfl] at q
    split at q
    · rename_i hlt
      cases q
      exact ⟨v, by rw [List.getElem?_set, if_pos rfl, if_pos (by rw [s.len]; exact hlt)], r⟩
    · cases q
  · rw [if_neg hj] at q
    rw [List.getElem?_set, if_neg hj]
    exact s.at_ j e q, by rw [List.length_set, List.length_set]; exact s.len⟩
theorem stM_slot {σ : St} {ρ : Me} {i : Nat} {v : Option V} {d : Option D} : StM [i] σ (σ.set i v) ρ (ρ.set i d) := ⟨fun j h => by
  have hj : ¬ i = j := fun z => h (by rw [z]; exact List.mem_singleton.mpr rfl)
  exact ⟨by rw [List.getElem?_set, if_neg hj], by rw [set_getM, if_neg hj]⟩, by rw [List.length_set], by rw [List.length_set]⟩
section
variable {X : Cx} {pos : Pos} {e : Expr} {es : List Expr} {γ : TMG} {γs : TMGs} {is js : List Nat}
def gM (i : Nat) : TMG := fun d ρ P => P (ρ.set i (some d))
theorem MG.of {t : TG} (h : PG X e t) (k : ∀ (v : V) (σ : St) (H Hf : Hp) (ρ : Me) (d : D) (P : Me → Prop) (Q : St → Hp → Prop), (∀ b o, Hf b = some o → H b = some o) → Sd X.K Hf σ ρ → Rep X.K Hf v d → γ d ρ P → (∀ σ' H' Hf' ρ', Sd X.K Hf' σ' ρ' → Ext H H' Hf Hf' → StM is σ σ' ρ ρ' → P ρ' → Q σ' H') → t v σ H Q) : MG X e is γ :=
  ⟨⟨fun pins s σ H v u Q I r ⟨Hf, ρ, d, P, e1, e2, r1, q, kk⟩ => h.run pins s σ H v u Q I r (k v σ H Hf ρ d P Q e1 e2 r1 q kk)⟩⟩
theorem MGs.of {t : TGs} (h : PGs X es t) (k : ∀ (vs : List V) (σ : St) (H Hf : Hp) (ρ : Me) (ds : List D) (P : Me → Prop) (Q : St → Hp → Prop), (∀ b o, Hf b = some o → H b = some o) → Sd X.K Hf σ ρ → RepL X.K Hf vs ds → γs ds ρ P → (∀ σ' H' Hf' ρ', Sd X.K Hf' σ' ρ' → Ext H H' Hf Hf' → StM is σ σ' ρ ρ' → P ρ' → Q σ' H') → t vs σ H Q) : MGs X es is γs :=
  ⟨⟨fun pins s σ H v u Q I r ⟨Hf, ρ, d, P, e1, e2, r1, q, kk⟩ => h.run pins s σ H v u Q I r (k v σ H Hf ρ d P Q e1 e2 r1 q kk)⟩⟩
theorem mg_n {x : Str} (i : Nat) (hN : X.N.Nodup) (hi : X.N[i]? = some x) (hx : Loc X.env.scope x) (hf : X.fn x = true ∨ X.env.scope.names.lookup x = some .local := by first | exact .inl rfl | exact .inr rfl | assumption) : MG X (.Name x pos) [i] (gM i) :=
  MG.of (pg_name hN hi hx hf) fun v σ H Hf ρ d P Q sub e r h2 k => k _ H Hf _ (e.set i r) (Ext.refl sub) stM_slot h2
def gNilM : TMGs := fun ds ρ P => ds = [] ∧ P ρ
def gConsM (a : TMG) (r : TMGs) : TMGs := fun ds ρ P => ∃ d es, ds = d :: es ∧ a d ρ fun ρ1 => r es ρ1 P
theorem mgs_nil : MGs X [] [] gNilM := MGs.of pgs_nil fun vs σ H Hf ρ ds P Q sub e r ⟨h1, h2⟩ k => by
  subst h1
  cases r
  exact ⟨rfl, k σ H Hf ρ e (Ext.refl sub) (StM.refl ..) h2⟩
theorem mgs_cons (h1 : MG X e is γ) (h2 : MGs X es js γs) (hs : (assignEach (e :: es) X.env).map (·.2) = assign e X.env :: (assignEach es X.env).map (·.2) := by rfl) : MGs X (e :: es) (is ++ js) (gConsM γ γs) :=
  MGs.of (pgs_cons h1.pg h2.pgs hs) fun vs σ H Hf ρ ds P Q sub e r ⟨d, es, hd, q⟩ k => by
  subst hd
  cases r with
  | cons ra rr => exact ⟨_, _, rfl, Hf, ρ, d, _, sub, e, ra, q, fun σ1 H1 Hf1 ρ1 e1 x1 s1 p1 => ⟨Hf1, ρ1, es, P, x1.sub, e1, rr.mono x1.grow, p1, fun σ2 H2 Hf2 ρ2 e2 x2 s2 p2 => k σ2 H2 Hf2 ρ2 e2 (x1.trans x2) (s1.trans s2) p2⟩⟩
def gTupM (n : Nat) (γ : TMGs) : TMG := fun d ρ P => ∃ ds, d = .tup ds ∧ ds.length = n ∧ γ ds ρ P
theorem mg_tup {k n : Nat} (hc : X.calm = true) (h : MGs X es is γs) (hn : (assignEach es X.env).length = n := by rfl) (hst : (assignEach es X.env).findIdx? (·.1) = none := by rfl) : MG X (.Tuple es k pos) is (gTupM n γs) :=
  MG.of (pg_tup hc h.pgs hn hst) fun v σ H Hf ρ d P Q sub e r ⟨ds, hd, hl, q⟩ k => by
    subst hd
    cases r with
    | tup hp rp => exact ⟨_, _, rfl, sqT_same sub hp, rp.length.trans hl, Hf, ρ, ds, P, sub, e, rp, q, k⟩
def gStarM (n : Nat) (γ : TMGs) : TMG := fun d ρ P => ∃ ds es, (d = .tup (ds ++ es) ∨ d = .lst (ds ++ es)) ∧ ds.length = n ∧ (ds ++ es).length ≤ 16000 ∧ γ (ds ++ [.lst es]) ρ P
theorem mgs_star {p : Pos} (h1 : MG X e is γ) : MGs X [.Starred e p] is (gConsM γ gNilM) :=
  MGs.of (pgs_star h1.pg) fun vs σ H Hf ρ ds P Q sub e r ⟨d, es, hd, q⟩ k => by
    subst hd
    cases r with
    | cons ra rr =>
      refine ⟨_, _, rfl, Hf, ρ, d, _, sub, e, ra, q, fun σ1 H1 Hf1 ρ1 e1 x1 s1 ⟨p0, p1⟩ => ?_⟩
      subst p0
      cases rr
      exact ⟨rfl, k σ1 H1 Hf1 ρ1 e1 x1 s1 p1⟩
theorem mg_star {k i : Nat} (hc : X.calm = true) (h : MGs X es is γs) (hn : (assignEach es X.env).length = i + 1 := by rfl) (hst : (assignEach es X.env).findIdx? (·.1) = some i := by rfl) : MG X (.Tuple es k pos) is (gStarM i γs) :=
  MG.of (pg_star hc h.pgs hn hst) fun v σ H Hf ρ d P Q sub e r ⟨ds, es, hd, hl, hz, q⟩ k => by
    have fin : ∀ {a : Addr} {vs : List V}, v = .ref a → (SqT X.K H a vs ∨ SqL X.K H a vs) → RepL X.K Hf vs (ds ++ es) → gStar X.K i (canMGs X.K is γs) v σ H Q := by
      intro a vs hv hs rp
      obtain ⟨us, ws, e1, r1, r2⟩ := rp.split
      subst e1
      refine ⟨a, us, ws, hv, hs, r1.length.trans hl, by rw [rp.length]; exact hz, fun n hn => ?_⟩
      have x1 := Ext.add sub (.lst ws) hn
      refine ⟨upd Hf n (.lst ws), ρ, ds ++ [.lst es], P, x1.sub, e.mono x1.grow, (r1.mono x1.grow).append (.cons (.lst upd_same (r2.mono x1.grow)) .nil), q, fun σ2 H2 Hf2 ρ2 e2 x2 s2 p2 => k σ2 H2 Hf2 ρ2 e2 (x1.trans x2) s2 p2⟩
    rcases hd with hd | hd
    · subst hd
      cases r with
      | tup hp rp => exact fin rfl (.inl (sqT_same sub hp)) rp
    · subst hd
      cases r with
      | lst hp rp => exact fin rfl (.inr (.inl (.inl (sub _ _ hp)))) rp
end
end ML
namespace ML
open PySem L2 DL
structure MEnds where
  nx : Me → Hd → Prop
  rt : Res → Hd → Prop
  bk : Me → Hd → Prop := fun _ _ => False
  ct : Me → Hd → Prop := fun _ _ => False
abbrev TMS := Wω → MEnds → Me → Hd → Prop
structure LkM (K : Fg) (W : Wd) (R : Rg) (PD : MEnds) (D : Ends) : Prop where
  nx : ∀ σ H Hf ρ h, RE K W R H Hf σ ρ h → PD.nx ρ h → D.nx σ H
  rt : ∀ v σ H Hf ρ h r, RE K W R H Hf σ ρ h → RO K R.H0 H Hf h v r → PD.rt r h → D.rt v H
  bk : ∀ σ H Hf ρ h, RE K W R H Hf σ ρ h → PD.bk ρ h → D.bk σ H
  ct : ∀ σ H Hf ρ h, RE K W R H Hf σ ρ h → PD.ct ρ h → D.ct σ H
def canMS (K : Fg) (W : Wd) (τ : TMS) : TS := fun D σ H => ∃ (R : Rg) (Hf : Hp) (ρ : Me) (h : Hd) (PD : MEnds), RE K W R H Hf σ ρ h ∧ τ R.ω PD ρ h ∧ LkM K W R PD D
structure MS (X : Cx) (W : Wd) (st : Stmt) (τ : TMS) : Prop where
  ps : PS X st (canMS X.K W τ)
structure MSs (X : Cx) (W : Wd) (sts : List Stmt) (τ : TMS) : Prop where
  pss : PSs X sts (canMS X.K W τ)
theorem RE.setTo {K : Fg} {W : Wd} {R : Rg} {H H1 Hf Hf1 : Hp} {σ σ1 : St} {ρ ρ1 : Me} {h : Hd} (e : RE K W R H Hf σ ρ h) (s : Sd K Hf1 σ1 ρ1) (x : Ext H H1 Hf Hf1) : RE K W R H1 Hf1 σ1 ρ1 h := ⟨e.ok, W.mono _ _ x.grow e.gh, s, e.hs.ext x, e.mv.trans (Mo.ext x)⟩
theorem RE.set {K : Fg} {W : Wd} {R : Rg} {H Hf : Hp} {σ : St} {ρ : Me} {h : Hd} (e : RE K W R H Hf σ ρ h) (i : Nat) {v : V} {d : D} (r : Rep K Hf v d) : RE K W R H Hf (σ.set i (some v)) (ρ.set i (some d)) h := ⟨e.ok, e.gh, e.sl.set i r, e.hs, e.mv⟩
section
variable {X : Cx} {W : Wd} {pos pos' : Pos} {st : Stmt} {rest sts sts2 : List Stmt} {e c o tg : Expr} {τ τ1 : TMS} {τe τo : TM} {τc : TMT} {γ : TMG} {x : Str}
theorem MS.of {t : TS} (h : PS X st t) (k : ∀ (D : Ends) (σ : St) (H Hf : Hp) (R : Rg) (ρ : Me) (hd : Hd) (PD : MEnds), RE X.K W R H Hf σ ρ hd → τ R.ω PD ρ hd → LkM X.K W R PD D → t D σ H) : MS X W st τ :=
  ⟨⟨fun pins s σ H D I ⟨R, Hf, ρ, hd, PD, e, q, l⟩ => h.run pins s σ H D I (k D σ H Hf R ρ hd PD e q l)⟩⟩
def mNext : TMS := fun _ PD ρ h => PD.nx ρ h
def mSeq (t u : TMS) : TMS := fun ω PD ρ h => t ω { PD with nx := u ω PD } ρ h
theorem mss_nil : MSs X W [] mNext := ⟨⟨fun pins s σ H D I ⟨R, Hf, ρ, hd, PD, e, q, l⟩ => pss_nil.run pins s σ H D I (l.nx σ H Hf ρ hd e q)⟩⟩
theorem mss_one (h : MS X W st τ) : MSs X W [st] τ := ⟨pss_one h.ps⟩
theorem mss_cons (h : MS X W st τ) (h2 : MSs X W rest τ1) : MSs X W (st :: rest) (mSeq τ τ1) :=
  ⟨⟨fun pins s σ H D I ⟨R, Hf, ρ, hd, PD, e, q, l⟩ => (pss_cons h.ps h2.pss).run pins s σ H D I ⟨R, Hf, ρ, hd, { PD with nx := τ1 R.ω PD }, e, q, ⟨fun σ1 H1 Hf1 ρ1 hd1 e1 q1 => ⟨R, Hf1, ρ1, hd1, PD, e1, q1, l⟩, l.rt, l.bk, l.ct⟩⟩⟩⟩
def mRe (τ : TMS) : TMS := fun ω PD ρ h => ∃ A ρ' h', FzE h A ρ ρ' ∧ Cut h h' A ∧ τ ω PD ρ' h'
theorem ms_re (h : MS X W st τ) : MS X W st (mRe τ) := ⟨⟨fun pins s σ H D I ⟨R, Hf, ρ, hd, PD, e, ⟨A, ρ', h', f, c, q⟩, l⟩ => h.ps.run pins s σ H D I ⟨R, _, ρ', h', PD, e.fz c f, q, l⟩⟩⟩
def mFzS (i : Nat) (τ : TMS) : TMS := fun ω PD ρ h => ∃ a xs, ρ[i]? = some (some (.raw (.ref a))) ∧ h a = some (.lst xs) ∧ τ ω PD (ρ.set i (some (.lst xs))) (off h a)
theorem FzL.same {h : Hd} {A : Addr → Prop} : ∀ xs, FzL h A xs xs
  | [] => .nil
  | d :: xs => .cons (.same d) (FzL.same xs)
theorem FzF.same {h : Hd} {A : Addr → Prop} : ∀ xs, FzF h A xs xs
  | [] => .nil
  | (f, d) :: xs => .cons (.same d) (FzF.same xs)
theorem cut_off {h : Hd} {a : Addr} : Cut h (off h a) (· = a) := fun b o q => by
  by_cases hb : b = a
  · rw [hb, off_same] at q; cases q
  · rw [off_ne hb] at q; exact ⟨q, hb⟩
theorem ms_fzs (i : Nat) (h : MS X W st τ) : MS X W st (mFzS i τ) := ⟨⟨fun pins s σ H D I ⟨R, Hf, ρ, hd, PD, e, ⟨a, xs, q1, q2, q⟩, l⟩ => (ms_re h).ps.run pins s σ H D I ⟨R, Hf, ρ, hd, PD, e, ⟨(· = a), _, _, FzE.set q1 (.lst q2 rfl (FzL.same xs)), cut_off, q⟩, l⟩⟩⟩
def mSet (i : Nat) (τe : TM) : TMS := fun ω PD ρ h => τe ω ρ h fun r h1 => PD.nx (ρ.set i (some r.dat)) h1
theorem ms_set (i : Nat) (hN : X.N.Nodup) (hi : X.N[i]? = some x) (hx : Loc X.env.scope x) (he : ME X W e τe) (hs : swapsWith e (some (.Name x pos')) pos.line X.env = pure false := by rfl) (hf : X.fn x = true ∨ X.env.scope.names.lookup x = some .local := by first | exact .inl rfl | exact .inr rfl | assumption) :
    MS X W (.Assign [.Name x pos'] e pos) (mSet i τe) := by
  obtain ⟨t, pe, se⟩ := he.fz
  exact MS.of (ps_set hN hi hx pe hs hf) fun D σ H Hf R ρ h PD s q l => se σ H Hf ρ h R (fun d h1 => PD.nx (ρ.set i (some d)) h1) _ s q fun v H1 Hf1 d h1 e1 m1 r1 p1 => l.nx _ H1 Hf1 _ h1 (e1.set i r1) p1
def mAsg (τe : TM) (γ : TMG) : TMS := fun ω PD ρ h => τe ω ρ h fun r h1 => γ r.dat ρ fun ρ1 => PD.nx ρ1 h1
theorem ms_asg (he : ME X W e τe) {is : List Nat} (hg : MG X tg is γ) (hs : swapsWithSole [tg] e pos.line X.env = pure false := by rfl) (hw : swappedStores [tg] e X.env = pure none := by rfl) (h1 : (assignEach [tg] X.env).map (·.2) = [assign tg X.env] := by rfl) : MS X W (.Assign [tg] e pos) (mAsg τe γ) := by
  obtain ⟨t, pe, se⟩ := he.fz
  exact MS.of (ps_asg pe hg.pg hs hw h1) fun D σ H Hf R ρ h PD s q l => se σ H Hf ρ h R (fun d h1 => γ d ρ fun ρ1 => PD.nx ρ1 h1) _ s q fun v H1 Hf1 d h1 e1 m1 r1 p1 =>
    ⟨Hf1, ρ, d, _, e1.hs.sub, e1.sl, r1, p1, fun σ2 H2 Hf2 ρ2 s2 x2 t2 p2 => l.nx σ2 H2 Hf2 ρ2 h1 (e1.setTo s2 x2) p2⟩
def mIf (c : TMT) (t u : TMS) : TMS := fun ω PD ρ h => c ω ρ h fun b h1 => if b = true then t ω PD ρ h1 else u ω PD ρ h1
theorem ms_if (hc : MT X W c τc) (ha : MSs X W sts τ) (hb : MSs X W sts2 τ1) : MS X W (.If c sts sts2 pos) (mIf τc τ τ1) :=
  MS.of (ps_if hc.pt ha.pss hb.pss) fun D σ H Hf R ρ h PD s q l => ⟨R, Hf, ρ, h, _, s, q, fun b H1 Hf1 h1 e1 m1 p1 => by
    cases b with
    | true => exact ⟨R, Hf1, ρ, h1, PD, e1, p1, l⟩
    | false => exact ⟨R, Hf1, ρ, h1, PD, e1, p1, l⟩⟩
def mRet (τe : TM) : TMS := fun ω PD ρ h => τe ω ρ h PD.rt
theorem ms_ret (he : ME X W e τe) : MS X W (.Return (some e) pos) (mRet τe) :=
  MS.of (ps_ret he.pe) fun D σ H Hf R ρ h PD s q l => ⟨R, Hf, ρ, h, _, s, q, fun v H1 Hf1 r h1 e1 m1 r1 p1 => l.rt v σ H1 Hf1 ρ h1 r e1 (r1.back s.mv.live) p1⟩
def mRetO (i : Nat) : TMS := fun _ PD ρ h => ∃ a xs, ρ[i]? = some (some (.raw (.ref a))) ∧ h a = some (.lst xs) ∧ PD.rt (.fz (.lst xs)) (off h a)
theorem ms_retO (i : Nat) {p : Pos} (hN : X.N[i]? = some x := by rfl) (hv : Vis X.env.scope x := by first | exact Or.inl rfl | exact Or.inr (Or.inl rfl) | exact Or.inr (Or.inr rfl)) (hd : (x == ("__debug__" : Str)) = false := by decide) (hcd : (x == ("__classdict__" : Str)) = false := by decide) :
    MS X W (.Return (some (.Name x p)) pos) (mRetO i) :=
  MS.of (ps_ret (pe_var hN hv hd hcd)) fun D σ H Hf R ρ h PD s ⟨a, xs, h1, h2, q⟩ l => by
    obtain ⟨v, w1, w2⟩ := s.sl.at_ i _ h1
    have f : Fz h (· = a) (.raw (.ref a)) (.lst xs) := .lst h2 rfl (FzL.same xs)
    exact ⟨v, w1, l.rt v σ H _ ρ _ (.fz (.lst xs)) (s.fz cut_off (FzE.refl ..)) (f.rep s.hs w2) q⟩
def mDrop (τe : TM) : TMS := fun ω PD ρ h => τe ω ρ h fun _ h1 => PD.nx ρ h1
theorem ms_expr (he : ME X W e τe) (hs : swapsWith e none pos.line X.env = pure false := by rfl) : MS X W (.Expr e pos) (mDrop τe) :=
  MS.of (ps_expr he.pe hs) fun D σ H Hf R ρ h PD s q l => ⟨R, Hf, ρ, h, _, s, q, fun v H1 Hf1 r h1 e1 m1 r1 p1 => l.nx σ H1 Hf1 ρ h1 e1 p1⟩
def mFldS (C : Addr) (f : Str) (τo τe : TM) : TMS := fun ω PD ρ h => τe ω ρ h fun y h1 => τo ω ρ h1 fun x h2 => ∃ a fs, x.dat = .raw (.ref a) ∧ h2 a = some (.ins C fs) ∧ fs.length < 1000 ∧ PD.nx ρ (put h2 a (.ins C (putD f y.dat fs)))
theorem ms_fld {f : Str} {C : Addr} {p' : Pos} (g3 : Fo X.K C f) (ho : ME X W o τo) (he : ME X W e τe) (hs : swapsWith e (some (.Attribute o f p')) pos.line X.env = pure false := by rfl) : MS X W (.Assign [.Attribute o f p'] e pos) (mFldS C f τo τe) := by
  obtain ⟨t, pe, se⟩ := he.fz
  obtain ⟨t2, po, so⟩ := ho.fz
  refine MS.of (ps_fld po pe hs) fun D σ H Hf R ρ h PD s q l => ?_
  refine se σ H Hf ρ h R (fun y h1 => τo R.ω ρ h1 fun x h2 => ∃ a fs, x.dat = .raw (.ref a) ∧ h2 a = some (.ins C fs) ∧ fs.length < 1000 ∧ PD.nx ρ (put h2 a (.ins C (putD f y fs)))) _ s q fun y H1 Hf1 dy h1 e1 m1 r1 q1 => ?_
  refine so σ H1 Hf1 ρ h1 R (fun x h2 => ∃ a fs, x = .raw (.ref a) ∧ h2 a = some (.ins C fs) ∧ fs.length < 1000 ∧ PD.nx ρ (put h2 a (.ins C (putD f dy fs)))) _ e1 q1 fun x H2 Hf2 dx h2 e2 m2 r2 ⟨a, fs, g1, g2, g4, g5⟩ => ?_
  subst g1
  cases r2
  obtain ⟨z0, dx, gs, z1, z2⟩ := e2.hs.hp a _ g2
  refine ⟨a, C, dx, gs, rfl, z1, g3.1, g3.2, by rw [RepF.length z2]; exact g4, ?_⟩
  have s3 := e2.hs.upd (a := a) (o := .ins C (putD f dy fs)) (u := .ins C dx (putF f y gs)) (.inl ⟨_, g2⟩) fun H' hq => ⟨dx, _, hq, RepF.put (r1.mono m2.grow) z2⟩
  exact l.nx σ _ Hf2 ρ _ (e2.step s3 (Mo.upd (.inl ⟨_, g2⟩))) g5
def mPar (i j : Nat) (τ : TMA) : TMS := fun ω PD ρ h => τ ω ρ h fun ds h1 => ∃ d d', ds = [d, d'] ∧ PD.nx ((ρ.set i (some d)).set j (some d')) h1
theorem ms_par {i j : Nat} {x y : Str} {a b : Expr} {τs : TMA} {px py pt : Pos} {kt k2 : Nat} {pt2 : Pos} (hc : X.calm = true) (hN : X.N.Nodup) (hi : X.N[i]? = some x) (hj : X.N[j]? = some y) (hij : i ≠ j)
    (hx : X.env.scope.names.lookup x = some .local) (hy : X.env.scope.names.lookup y = some .local) (ha : MA X W [a, b] τs)
    (hw : swappedStores [.Tuple [.Name x px, .Name y py] kt pt] (.Tuple [a, b] k2 pt2) X.env = pure (some [x, y]))
    (hs : swapsWithSole [.Tuple [.Name x px, .Name y py] kt pt] (.Tuple [a, b] k2 pt2) pos.line X.env = pure false := by rfl) :
    MS X W (.Assign [.Tuple [.Name x px, .Name y py] kt pt] (.Tuple [a, b] k2 pt2) pos) (mPar i j τs) :=
  MS.of (ps_par hc hN hi hj hij hx hy ha.pa hw hs) fun D σ H Hf R ρ h PD s q l => ⟨R, Hf, ρ, h, _, s, q, fun vs H1 Hf1 ds h1 e1 m1 r1 _ ⟨d, d', hd, p3⟩ => by
    subst hd
    cases r1 with
    | cons ra rr =>
      cases rr with
      | cons rb rr =>
        cases rr
        exact ⟨_, _, rfl, l.nx _ H1 Hf1 _ h1 ((e1.set i ra).set j rb) p3⟩⟩
def mWhile (c : TMT) (tb : TMS) : TMS := fun ω PD ρ h => ∃ J : Nat → Me → Hd → Prop, (∃ m, J m ρ h) ∧ ∀ m ρ h, J m ρ h → c ω ρ h fun b h1 => if b = true then tb ω { PD with nx := fun ρ' h' => ∃ m', m' < m ∧ J m' ρ' h', ct := fun ρ' h' => ∃ m', m' < m ∧ J m' ρ' h', bk := PD.nx } ρ h1 else PD.nx ρ h1
theorem ms_while (hp : PassesOwn (model X.prog X.w) X.A X.env X.xe) (hc : MT X W c τc) (hb : MSs X W sts τ) : MS X W (.While c sts [] pos) (mWhile τc τ) :=
  MS.of (ps_while hp hc.pt hb.pss) fun D σ H Hf R ρ h PD s ⟨J, ⟨m0, j0⟩, turn⟩ l => by
    refine ⟨fun m σ' H' => ∃ Hf' ρ' h', RE X.K W R H' Hf' σ' ρ' h' ∧ J m ρ' h', ⟨m0, Hf, ρ, h, s, j0⟩, ?_⟩
    rintro m σ1 H1 ⟨Hf1, ρ1, h1, e1, j1⟩
    refine ⟨R, Hf1, ρ1, h1, _, e1, turn m ρ1 h1 j1, fun b H2 Hf2 h2 e2 m2 p2 => ?_⟩
    cases b with
    | false => exact l.nx σ1 H2 Hf2 ρ1 h2 e2 p2
    | true =>
      refine ⟨fun σ' H' => ∃ Hf' ρ' h', RE X.K W R H' Hf' σ' ρ' h' ∧ ∃ m', m' < m ∧ J m' ρ' h', fun σ' H' ⟨Hf', ρ', h', e', m', hm, j'⟩ => ⟨m', hm, Hf', ρ', h', e', j'⟩, ?_⟩
      exact ⟨R, Hf2, ρ1, h2, _, e2, p2, ⟨fun σ5 H5 Hf5 ρ5 h5 e5 q5 => ⟨Hf5, ρ5, h5, e5, q5⟩, l.rt, fun σ5 H5 Hf5 ρ5 h5 e5 q5 => l.nx σ5 H5 Hf5 ρ5 h5 e5 q5, fun σ5 H5 Hf5 ρ5 h5 e5 q5 => ⟨Hf5, ρ5, h5, e5, q5⟩⟩⟩
end
abbrev TMI := Wω → Me → Hd → (List D → Hd → Prop) → Prop
def canMI (K : Fg) (W : Wd) (τ : TMI) : TI := fun σ H Q => ∃ (R : Rg) (Hf : Hp) (ρ : Me) (h : Hd) (P : List D → Hd → Prop), RE K W R H Hf σ ρ h ∧ τ R.ω ρ h P ∧ ∀ J H' Hf' ds h', RE K W R H' Hf' σ ρ h' → Mo h h' H H' Hf Hf' → DIt K J Hf' ds → P ds h' → Q J H'
structure MI (X : Cx) (W : Wd) (tg iter : Expr) (τ : TMI) : Prop where
  pi : PI X tg iter (canMI X.K W τ)
section
variable {X : Cx} {W : Wd} {tg e : Expr} {τe : TM} {τs : TMA} {p pos : Pos}
theorem MI.of {iter : Expr} {τ : TMI} {t : TI} (h : PI X tg iter t) (k : ∀ (σ : St) (H Hf : Hp) (ρ : Me) (h : Hd) (R : Rg) (P : List D → Hd → Prop) (Q : It → Hp → Prop), RE X.K W R H Hf σ ρ h → τ R.ω ρ h P → (∀ J H' Hf' ds h', RE X.K W R H' Hf' σ ρ h' → Mo h h' H H' Hf Hf' → DIt X.K J Hf' ds → P ds h' → Q J H') → t σ H Q) : MI X W tg iter τ :=
  ⟨⟨fun pins s σ H Q I ⟨R, Hf, ρ, hd, P, e, q, kk⟩ => h.run pins s σ H Q I (k σ H Hf ρ hd R P Q e q kk)⟩⟩
def mSeqI (τe : TM) : TMI := fun ω ρ h P => τe ω ρ h fun r h1 => ∃ ds, itemsD r.dat = some ds ∧ P ds h1
theorem mi_seq (he : ME X W e τe) : MI X W tg e (mSeqI τe) := by
  obtain ⟨t, pe, se⟩ := he.fz
  refine MI.of (pi_seq pe) fun σ H Hf ρ h R P Q e q k => se σ H Hf ρ h R (fun d h1 => ∃ ds, itemsD d = some ds ∧ P ds h1) _ e q fun v H1 Hf1 d h1 e1 m1 r1 zz => ?_
  obtain ⟨ds, hd, p1⟩ := zz
  cases r1 <;> first | (simp [itemsD] at hd; done) | skip
  · rename_i z
    simp only [itemsD, Option.some.injEq] at hd
    subst hd
    exact .inr (.inr ⟨z, rfl, k _ H1 Hf1 _ h1 e1 m1 its_it p1⟩)
  · rename_i a ns hp
    simp only [itemsD, Option.some.injEq] at hd
    subst hd
    exact .inl ⟨a, rfl, ⟨_, sqL_same e1.hs.sub hp⟩, k _ H1 Hf1 _ h1 e1 m1 (itl_it hp (repL_ints ns)) p1⟩
  · rename_i a vs es hp rp
    simp only [itemsD, Option.some.injEq] at hd
    subst hd
    exact .inr (.inl ⟨a, rfl, ⟨_, sqT_same e1.hs.sub hp⟩, k _ H1 Hf1 _ h1 e1 m1 (itt_it hp rp) p1⟩)
  · rename_i a vs es hp rp
    simp only [itemsD, Option.some.injEq] at hd
    subst hd
    exact .inl ⟨a, rfl, ⟨_, .inl (.inl (e1.hs.sub _ _ hp))⟩, k _ H1 Hf1 _ h1 e1 m1 (itl_it (.inl (.inl hp)) rp) p1⟩
def mRng1 (τ : TMA) : TMI := fun ω ρ h P => τ ω ρ h fun ds h1 => ∃ j : Int, ds = [.int j] ∧ (-(2 ^ 62) ≤ j ∧ j < 2 ^ 62) ∧ P (rangeD 0 j.toNat) h1
def mRng2 (τ : TMA) : TMI := fun ω ρ h P => τ ω ρ h fun ds h1 => ∃ i j : Int, ds = [.int i, .int j] ∧ (-(2 ^ 62) ≤ i ∧ i < 2 ^ 62 ∧ -(2 ^ 62) ≤ j ∧ j < 2 ^ 62) ∧ P (rangeD i (j - i).toNat) h1
theorem mi_range1 {a : Expr} (hg : Gl X "range") (hm : X.mg "range" = none) (ha : MA X W [a] τs) (hs : starEach [a] X.env = [(false, eval a X.env)] := by rfl) : MI X W tg (.Call (.Name "range" p) [a] [] pos) (mRng1 τs) :=
  MI.of (pi_range1 hg hm ha.pa hs) fun σ H Hf ρ h R P Q e q k => ⟨R, Hf, ρ, h, _, e, q, fun vs H1 Hf1 ds h1 e1 m1 r1 _ ⟨j, hd, hj, p1⟩ => by
    subst hd
    cases r1 with
    | cons ra rr =>
      cases rr
      cases ra
      exact ⟨j, rfl, hj.1, hj.2, k _ H1 Hf1 _ h1 e1 m1 itr_it p1⟩⟩
theorem mi_range2 {a b : Expr} (hg : Gl X "range") (hm : X.mg "range" = none) (ha : MA X W [a, b] τs) (hs : starEach [a, b] X.env = [(false, eval a X.env), (false, eval b X.env)] := by rfl) (hs2 : starEach [b] X.env = [(false, eval b X.env)] := by rfl) : MI X W tg (.Call (.Name "range" p) [a, b] [] pos) (mRng2 τs) :=
  MI.of (pi_range2 hg hm ha.pa hs hs2) fun σ H Hf ρ h R P Q e q k => ⟨R, Hf, ρ, h, _, e, q, fun vs H1 Hf1 ds h1 e1 m1 r1 _ ⟨i, j, hd, hj, p1⟩ => by
    subst hd
    cases r1 with
    | cons ra rr =>
      cases rr with
      | cons rb rr =>
        cases rr
        cases ra
        cases rb
        exact ⟨i, j, rfl, hj, k _ H1 Hf1 _ h1 e1 m1 itr_it p1⟩⟩
end
def loop0 (ω : Wω) (γ : TMG) (τb : TMS) (PD : MEnds) : List D → Me → Hd → Prop
  | [], ρ, h => PD.nx ρ h
  | d :: ds, ρ, h => γ d ρ fun ρ1 => τb ω { PD with nx := loop0 ω γ τb PD ds, ct := loop0 ω γ τb PD ds, bk := PD.nx } ρ1 h
@[irreducible] def loopM (ω : Wω) (γ : TMG) (τb : TMS) (PD : MEnds) (ds : List D) (ρ : Me) (h : Hd) : Prop := loop0 ω γ τb PD ds ρ h
theorem loopM_nil (ω : Wω) (γ : TMG) (τb : TMS) (PD : MEnds) (ρ : Me) (h : Hd) : loopM ω γ τb PD [] ρ h = PD.nx ρ h := by unfold loopM; rfl
theorem loopM_cons (ω : Wω) (γ : TMG) (τb : TMS) (PD : MEnds) (d : D) (ds : List D) (ρ : Me) (h : Hd) : loopM ω γ τb PD (d :: ds) ρ h = γ d ρ fun ρ1 => τb ω { PD with nx := loopM ω γ τb PD ds, ct := loopM ω γ τb PD ds, bk := PD.nx } ρ1 h := by unfold loopM; rfl
def mFor (τi : TMI) (γ : TMG) (τb : TMS) : TMS := fun ω PD ρ h => τi ω ρ h fun ds h1 => loopM ω γ τb PD ds ρ h1
def Rg.at (R : Rg) (H Hf : Hp) (h : Hd) : Rg := ⟨H, Hf, h, R.ω⟩
theorem RE.re {K : Fg} {W : Wd} {R : Rg} {H Hf : Hp} {σ : St} {ρ : Me} {h : Hd} (e : RE K W R H Hf σ ρ h) : RE K W (R.at H Hf h) H Hf σ ρ h := ⟨fun cls d σ' H' ⟨C, fs, Hf', ρ', h', a1, a2, a3, a4, a5, a6⟩ => e.ok cls d σ' H' ⟨C, fs, Hf', ρ', h', a1, a2, a3, a4, e.mv.trans a5, a6⟩, e.gh, e.sl, e.hs, Mo.refl ..⟩
theorem RE.un {K : Fg} {W : Wd} {R : Rg} {H H1 Hf Hf1 : Hp} {σ σ1 : St} {ρ ρ1 : Me} {h h1 : Hd} (e : RE K W R H Hf σ ρ h) (e1 : RE K W (R.at H Hf h) H1 Hf1 σ1 ρ1 h1) : RE K W R H1 Hf1 σ1 ρ1 h1 := ⟨e.ok, e1.gh, e1.sl, e1.hs, e.mv.trans e1.mv⟩
theorem ms_for {X : Cx} {W : Wd} {tg iter : Expr} {body : List Stmt} {is : List Nat} {τi : TMI} {γ : TMG} {τb : TMS} {pos : Pos} (hp : PassesOwn (model X.prog X.w) X.A X.env X.xe) (hc : X.calm = true) (hi : MI X W tg iter τi) (hg : MG X tg is γ) (hb : MSs X W body τb)
    (hs : ∀ x, foldedSetIterable iter X.env x = pure x := by intro _; rfl) : MS X W (.For tg iter body [] pos) (mFor τi γ τb) := by
  refine MS.of (ps_for hp hc hi.pi hg.pg hb.pss hs) fun D σ H Hf R ρ h PD s q l => ⟨R, Hf, ρ, h, _, s, q, fun J H1 Hf1 ds h1 e1 m1 it p1 => ?_⟩
  refine ⟨fun i m σ' H' => ∃ Hf' ρ' h', RE X.K W (R.at H1 Hf1 h1) H' Hf' σ' ρ' h' ∧ loopM R.ω γ τb PD (ds.drop i) ρ' h' ∧ m = ds.length - i ∧ i ≤ ds.length, ⟨ds.length, Hf1, ρ, h1, e1.re, by rw [List.drop_zero]; exact p1, by omega, Nat.zero_le _⟩, ?_⟩
  rintro i m σ2 H2 ⟨Hf2, ρ2, h2, s2, q2, hm, hil⟩
  by_cases hlt : i < ds.length
  · have hd : ds[i]? = some ds[i] := List.getElem?_eq_getElem hlt
    obtain ⟨go, yl⟩ := it.item i ds[i] H2 Hf2 s2.hs.sub s2.mv.grow hd
    rw [List.drop_eq_getElem_cons hlt, loopM_cons] at q2
    refine .inr ⟨go, fun σ' H' => ∃ Hf' ρ' h', RE X.K W (R.at H1 Hf1 h1) H' Hf' σ' ρ' h' ∧ loopM R.ω γ τb PD (ds.drop (i + 1)) ρ' h', fun σ' H' ⟨Hf', ρ', h', a1, a2⟩ => ⟨ds.length - (i + 1), by omega, Hf', ρ', h', a1, a2, rfl, hlt⟩, fun x H3 y => ?_⟩
    obtain ⟨Hf3, x3, r3⟩ := yl x H3 y
    refine ⟨Hf3, ρ2, ds[i], _, x3.sub, s2.sl.mono x3.grow, r3, q2, fun σ4 H4 Hf4 ρ4 e4 x4 t4 p4 => ?_⟩
    have s4 : RE X.K W (R.at H1 Hf1 h1) H4 Hf4 σ4 ρ4 h2 := s2.setTo e4 (x3.trans x4)
    refine ⟨R.at H1 Hf1 h1, Hf4, ρ4, h2, _, s4, p4, ⟨fun σ5 H5 Hf5 ρ5 h5 e5 q5 => ⟨Hf5, ρ5, h5, e5, q5⟩, fun v σ5 H5 Hf5 ρ5 h5 r e5 ok q5 => l.rt v σ5 H5 Hf5 ρ5 h5 r (e1.un e5) (ok.back e1.mv.live) q5, fun σ5 H5 Hf5 ρ5 h5 e5 q5 => l.nx σ5 H5 Hf5 ρ5 h5 (e1.un e5) q5, fun σ5 H5 Hf5 ρ5 h5 e5 q5 => ⟨Hf5, ρ5, h5, e5, q5⟩⟩⟩
  · have e : i = ds.length := by omega
    subst e
    rw [List.drop_length, loopM_nil] at q2
    exact .inl ⟨it.stop _ H2 Hf2 s2.hs.sub s2.mv.grow (Nat.le_refl _) (Nat.le_refl _), l.nx σ2 H2 Hf2 ρ2 h2 (e1.un s2) q2⟩
def startM (n : Nat) (ds : List D) : Me := ds.map some ++ List.replicate (n - ds.length) none
theorem startM_get {n : Nat} {ds : List D} {i : Nat} {d : D} (h : (startM n ds)[i]? = some (some d)) : ds[i]? = some d := by
  unfold startM at h
  by_cases hi : i < ds.length
  · rw [List.getElem?_append_left (by rw [List.length_map]; exact hi), List.getElem?_map] at h
    cases e : ds[i]? with
    | none => rw [e] at h; cases h
    | some d => rw [e] at h; cases h; rfl
  · rw [List.getElem?_append_right (by rw [List.length_map]; omega), List.getElem?_replicate] at h
    split at h <;> cases h
section
variable {P : Program} {w : World} {K : Fg} {mg : Str → Option Value} {base : Heap} {x qual : Str} {st : Stmt} {f : Addr} {fd : FuncData} {N ps : List Str} {k : Nat}
theorem okM {g : FM} {τ : TMS} (F : FunA K x qual st f fd) (S : FnScope N ps (defScope st)) (hps : ps.length ≤ N.length)
    (hb : ∀ (cdv : Value) (A : Around) (outer : List Env) (s : Shared) (H : Hp) (E : XK), Room k (A.deeper (PyProof.Rows.envOfC qual (defScope st) s.heap.objs.size f cdv)) → Takes (cxOf (L2.CX P w) P w K mg base N qual (defScope st) f cdv A outer s H E) (fun cls d _ H => E cls d H) →
      PassesOwn (model P w) (cxOf (L2.CX P w) P w K mg base N qual (defScope st) f cdv A outer s H E).A (cxOf (L2.CX P w) P w K mg base N qual (defScope st) f cdv A outer s H E).env (cxOf (L2.CX P w) P w K mg base N qual (defScope st) f cdv A outer s H E).xe →
      MSs (cxOf (L2.CX P w) P w K mg base N qual (defScope st) f cdv A outer s H E) (wd fun cls d _ H => E cls d H) (defBody st) τ)
    (hq : ∀ ds h Q E, ds.length = ps.length → g ds h Q E → τ (fun x _ h => E x h) { nx := fun _ h => Q (.fz .non) h, rt := fun r h => Q r h } (startM N.length ds) h) : FnOk P w K mg base (L2.CX P w) (k + 1) f fd ps (spM K ps.length g) := by
  refine F.okX S (fun vs H Q E h => ?_) (fun cdv A outer s H vs Q E hr h => ?_)
  · obtain ⟨Hf, h, ds, P, PE, _, r, hl, _⟩ := h
    exact r.length.trans hl
  obtain ⟨Hf, h, ds, PQ, PX, hs, r, hl, hg, kk, kx⟩ := h
  have hvl := r.length
  refine ⟨_, (hb cdv A outer s H E hr (takes_of rfl rfl rfl rfl) (passes_of rfl)).pss, ⟨⟨H, Hf, h, fun x _ h => PX x h⟩, Hf, startM N.length ds, h, _, ⟨?_, trivial, ⟨fun i d q => ?_, ?_⟩, hs, Mo.refl ..⟩, hq ds h PQ PX hl hg, ?_⟩⟩
  · rintro cls d σ H' ⟨C, fs, Hf', ρ', h', rfl, a2, a3, a4, a5, a6⟩
    exact kx C d fs H' Hf' h' a4 a5 a2 a6
  · obtain ⟨v, h2, h3⟩ := r.get (startM_get q)
    exact ⟨v, start_get h2, h3⟩
  · rw [start_len N vs (by omega)]
    unfold startM
    rw [List.length_append, List.length_map, List.length_replicate]
    omega
  · exact ⟨fun σ H1 Hf1 ρ h1 e q => kk .non H1 Hf1 (.fz .non) h1 e.hs e.mv Rep.non q, fun v σ H1 Hf1 ρ h1 r1 e ok q => kk v H1 Hf1 r1 h1 e.hs e.mv ok q, fun _ _ _ _ _ _ z => z.elim, fun _ _ _ _ _ _ z => z.elim⟩
end
end ML
namespace ML
open PySem L2 DL
abbrev WF : Wd := wd fun _ _ _ _ => False
abbrev ωF : Wω := fun _ _ _ => False
structure MTs (X : Cx) (W : Wd) (ifs : List Expr) (τ : TMT) : Prop where
  pts : PTs X ifs (canMT X.K W τ)
def mYes : TMT := fun _ _ h P => P true h
theorem mts_nil {X : Cx} {W : Wd} : MTs X W [] mYes := ⟨⟨fun pins s σ H Q I ⟨R, Hf, ρ, hd, P, e, q, k⟩ => pts_nil.run pins s σ H Q I (k true H Hf hd e (Mo.refl ..) q)⟩⟩
theorem mts_one {X : Cx} {W : Wd} {c : Expr} {τ : TMT} (h : MT X W c τ) : MTs X W [c] τ := ⟨pts_one h.pt⟩
def wipeM (ρ : Me) : List Nat → Me
  | [] => ρ
  | v :: vs => (wipeM ρ vs).set v none
theorem wipeM_len (ρ : Me) : ∀ vs, (wipeM ρ vs).length = ρ.length
  | [] => rfl
  | v :: vs => by unfold wipeM; rw [List.length_set, wipeM_len ρ vs]
theorem wipeM_get (ρ : Me) {i : Nat} {d : D} : ∀ {vs : List Nat}, (wipeM ρ vs)[i]? = some (some d) → i ∉ vs ∧ ρ[i]? = some (some d)
  | [], q => ⟨(fun h => nomatch h), q⟩
  | v :: vs, q => by
    unfold wipeM at q
    rw [set_getM] at q
    by_cases hv : v = i
    · rw [if_pos hv] at q
      split at q <;> cases q
    · rw [if_neg hv] at q
      obtain ⟨h1, h2⟩ := wipeM_get ρ q
      exact ⟨fun h => by rcases List.mem_cons.mp h with e | e; exact hv e.symm; exact h1 e, h2⟩
theorem Sd.wipe {K : Fg} {Hf : Hp} {σ : St} {ρ : Me} (s : Sd K Hf σ ρ) (vs : List Nat) : Sd K Hf (L2.wipe σ vs) (wipeM ρ vs) := ⟨fun i d q => by
  obtain ⟨h1, h2⟩ := wipeM_get ρ q
  rw [wipe_out σ h1]
  exact s.at_ i d h2, by rw [wipe_length, wipeM_len]; exact s.len⟩
def lc0 (γ : TMG) (τt : TMT) (τe : TM) (ρ : Me) (P : List D → Hd → Prop) : List D → Hd → List D → Prop
  | [], h, acc => P acc h
  | d :: ds, h, acc => γ d ρ fun ρ1 => τt ωF ρ1 h fun b h1 => if b = true then τe ωF ρ1 h1 fun r h2 => acc.length < 16000 ∧ lc0 γ τt τe ρ P ds h2 (acc ++ [r.dat]) else lc0 γ τt τe ρ P ds h1 acc
@[irreducible] def lcM (γ : TMG) (τt : TMT) (τe : TM) (ρ : Me) (P : List D → Hd → Prop) (ds : List D) (h : Hd) (acc : List D) : Prop := lc0 γ τt τe ρ P ds h acc
theorem lcM_nil (γ : TMG) (τt : TMT) (τe : TM) (ρ : Me) (P : List D → Hd → Prop) (h : Hd) (acc : List D) : lcM γ τt τe ρ P [] h acc = P acc h := by unfold lcM; rfl
theorem lcM_cons (γ : TMG) (τt : TMT) (τe : TM) (ρ : Me) (P : List D → Hd → Prop) (d : D) (ds : List D) (h : Hd) (acc : List D) : lcM γ τt τe ρ P (d :: ds) h acc = γ d ρ fun ρ1 => τt ωF ρ1 h fun b h1 => if b = true then τe ωF ρ1 h1 fun r h2 => acc.length < 16000 ∧ lcM γ τt τe ρ P ds h2 (acc ++ [r.dat]) else lcM γ τt τe ρ P ds h1 acc := by unfold lcM; rfl
def mLc (τi : TMI) (γ : TMG) (τt : TMT) (τe : TM) (vs : List Nat) : TM := fun ω ρ h P => τi ω ρ h fun ds h1 => lcM γ τt τe (wipeM ρ vs) (fun acc h2 => P (.fr acc) h2) ds h1 []
theorem Mo.apart {h h1 : Hd} {H H1 Hf Hf1 : Hp} (m : Mo h h1 H H1 Hf Hf1) {n : Addr} {o : HO} (q1 : H n = some o) (q2 : Hf n = none) (q3 : h n = none) : H1 n = some o ∧ Hf1 n = none ∧ h1 n = none := by
  refine ⟨m.keep n o q1 q3, ?_, ?_⟩
  · cases e : Hf1 n with
    | none => rfl
    | some u =>
      rcases m.new n u e with e | e | ⟨u', e⟩
      · rw [q2] at e; cases e
      · rw [q1] at e; cases e
      · rw [q3] at e; cases e
  · cases e : h1 n with
    | none => rfl
    | some u =>
      rcases m.own n u e with ⟨u', e⟩ | e
      · rw [q3] at e; cases e
      · rw [q1] at e; cases e
theorem Hs.aside {K : Fg} {H Hf : Hp} {h : Hd} (s : Hs K H Hf h) {n : Addr} {u : HO} (q2 : Hf n = none) (q3 : h n = none) : Hs K (L2.upd H n u) Hf h := ⟨fun b o q => by rw [upd_ne (ne_of_none q q2)]; exact s.sub b o q, fun b o q => by
  have hb : b ≠ n := hd_ne q q3
  obtain ⟨z1, z2⟩ := s.hp b o q
  exact ⟨z1, z2.mono (fun w hw => by rw [upd_ne hb]; exact hw) fun _ _ w => w⟩⟩
section
variable {X : Cx} {W : Wd} {pos : Pos}
theorem lc_readingM {K : Fg} {vs is : List Nat} {τi : TMI} {γ : TMG} {τt : TMT} {τe : TM} (hv : ∀ i ∈ is, i ∈ vs) : SndE K W (tLc (canMI K W τi) (canMG K is γ) (canMT K WF τt) (canM K WF τe) vs) (mLc τi γ τt τe vs) := fun σ H Hf ρ h R P Q e q k => by
  refine ⟨R, Hf, ρ, h, _, e, q, fun J H1 Hf1 ds h1 e1 m1 it p1 n hn => ?_⟩
  have x0 := Ext.add' e1.hs.sub (.lst []) hn
  let R' : Rg := ⟨H1, Hf1, h1, ωF⟩
  have okF : ∀ cls d σ H, wishM K R' cls d σ H → WF.x cls d σ H := fun cls d σ H ⟨_, _, _, _, _, _, _, _, _, _, z⟩ => z
  refine ⟨fun i m H' => ∃ Hf' h' accV acc, Hs K H' Hf' h' ∧ Mo h1 h' H1 H' Hf1 Hf' ∧ H' n = some (.lst accV) ∧ Hf' n = none ∧ h' n = none ∧ RepL K Hf' accV acc ∧ lcM γ τt τe (wipeM ρ vs) (fun acc h2 => P (.fr acc) h2) (ds.drop i) h' acc ∧ m = ds.length - i ∧ i ≤ ds.length,
    ⟨ds.length, Hf1, h1, [], [], e1.hs.ext x0, Mo.ext x0, upd_same, e1.hs.freeF hn, e1.hs.free hn, .nil, by rw [List.drop_zero]; exact p1, by omega, Nat.zero_le _⟩, ?_⟩
  rintro i m H2 ⟨Hf2, h2, accV, acc, s2, m2, hD, fD, oD, rD, q2, hm, hil⟩
  by_cases hlt : i < ds.length
  · have hd : ds[i]? = some ds[i] := List.getElem?_eq_getElem hlt
    obtain ⟨go, yl⟩ := it.item i ds[i] H2 Hf2 s2.sub m2.grow hd
    rw [List.drop_eq_getElem_cons hlt, lcM_cons] at q2
    refine .inr ⟨go, fun H' => ∃ Hf' h' accV acc, Hs K H' Hf' h' ∧ Mo h1 h' H1 H' Hf1 Hf' ∧ H' n = some (.lst accV) ∧ Hf' n = none ∧ h' n = none ∧ RepL K Hf' accV acc ∧ lcM γ τt τe (wipeM ρ vs) (fun acc h2 => P (.fr acc) h2) (ds.drop (i + 1)) h' acc, fun H' ⟨a1, a2, a3, a4, b1, b2, b3, b4, b5, b6, b7⟩ => ⟨ds.length - (i + 1), by omega, a1, a2, a3, a4, b1, b2, b3, b4, b5, b6, b7, rfl, hlt⟩, fun x H3 y => ?_⟩
    obtain ⟨Hf3, x3, r3⟩ := yl x H3 y
    refine ⟨Hf3, wipeM ρ vs, ds[i], _, x3.sub, ((e1.sl.mono m2.grow).mono x3.grow).wipe vs, r3, q2, fun σ4 H4 Hf4 ρ4 e4 x4 t4 p4 => ?_⟩
    refine ⟨wipe_eq (by rw [t4.len, wipe_length]) fun j hj => ((t4.sl j fun z => hj (hv j z)).1).trans (wipe_out σ hj), ?_⟩
    have x34 := x3.trans x4
    have s4 := s2.ext x34
    have m4 : Mo h1 h2 H1 H4 Hf1 Hf4 := m2.trans (Mo.ext x34)
    obtain ⟨d4, f4, o4⟩ := (Mo.ext (h := h2) x34).apart hD fD oD
    refine ⟨R', Hf4, ρ4, h2, _, ⟨okF, trivial, e4, s4, m4⟩, p4, fun b H5 Hf5 h5 e5 m5 p5 => ?_⟩
    obtain ⟨d5, f5, o5⟩ := m5.apart d4 f4 o4
    cases b with
    | false => exact ⟨Hf5, h5, accV, acc, e5.hs, m4.trans m5, d5, f5, o5, rD.mono fun b o z => m5.grow b o (x34.grow b o z), p5⟩
    | true =>
      refine ⟨R', Hf5, ρ4, h5, _, e5, p5, fun y H6 Hf6 r h6 e6 m6 r6 ⟨hz, p6⟩ => ?_⟩
      obtain ⟨Hf7, s7, m7, r7⟩ := r6.freeze e6.hs m6
      obtain ⟨d7, f7, o7⟩ := m7.apart d5 f5 o5
      have rD7 : RepL K Hf7 accV acc := rD.mono fun b o z => m7.grow b o (m5.grow b o (x34.grow b o z))
      refine ⟨accV, d7, by rw [rD7.length]; exact Nat.lt_of_lt_of_le hz (by decide), ?_⟩
      have m8 := (m4.trans m5).trans m7
      refine ⟨Hf7, h6, accV ++ [y], acc ++ [r.dat], s7.aside f7 o7, ⟨fun b o z hb => ?_, fun b z => ?_, m8.grow, m8.new, m8.own⟩, upd_same, f7, o7, rD7.append (.cons r7 .nil), p6⟩
      · rw [upd_ne (ne_of_none z hn)]
        exact m8.keep b o z hb
      · by_cases hb : b = n
        · subst hb; exact hn
        · rw [upd_ne hb] at z; exact m8.live b z
  · have ei : i = ds.length := by omega
    subst ei
    rw [List.drop_length, lcM_nil] at q2
    exact .inl ⟨it.stop _ H2 Hf2 s2.sub m2.grow (Nat.le_refl _) (Nat.le_refl _), k _ H2 Hf2 (.fr acc) h2 (e1.step s2 m2) (m1.trans m2) ⟨n, accV, rfl, hD, fD, oD, m1.live n hn, rD⟩ q2⟩
theorem me_lc {elt tg iter : Expr} {ifs : List Expr} {scope : Scope} {own : List (Str × Nat)} {is : List Nat} {τi : TMI} {γ : TMG} {τt : TMT} {τe : TM} (hc : X.calm = true) (hN : X.N.Nodup) (hi : MI X W tg iter τi) (ok : BlkOk X.N X.env.scope scope own)
    (hg : ∀ (s : Shared) (H : Hp) (C : Addr) (cl : List (Str × Addr)) (fp : List Addr), MG (X.blk s H scope (compEnvC scope cl C X.env) fp) tg is γ) (ht : ∀ (s : Shared) (H : Hp) (C : Addr) (cl : List (Str × Addr)) (fp : List Addr), MTs (X.blk s H scope (compEnvC scope cl C X.env) fp) WF ifs τt)
    (he : ∀ (s : Shared) (H : Hp) (C : Addr) (cl : List (Str × Addr)) (fp : List Addr), ME (X.blk s H scope (compEnvC scope cl C X.env) fp) WF elt τe) (hv : ∀ i ∈ is, i ∈ own.map (·.2) := by decide) (hs : ∀ x, foldedSetIterable iter X.env x = pure x := by intro _; rfl) :
    ME X W (.ListComp elt [⟨tg, iter, ifs, 0⟩] scope pos) (mLc τi γ τt τe (own.map (·.2))) :=
  ME.of (pe_lc hc hN hi.pi ok (fun s H C cl fp => (hg s H C cl fp).pg) (fun s H C cl fp => (ht s H C cl fp).pts) (fun s H C cl fp => (he s H C cl fp).pe) hs) (lc_readingM hv)
theorem ms_setLc {i : Nat} {y : Str} {py : Pos} {elt tg iter : Expr} {ifs : List Expr} {scope : Scope} {own : List (Str × Nat)} {is : List Nat} {spos : Pos} {τi : TMI} {γ : TMG} {τt : TMT} {τe : TM} (hc : X.calm = true) (hN : X.N.Nodup) (hy : X.N[i]? = some y) (hyl : X.env.scope.names.lookup y = some .local)
    (hsw : swapsWith (.ListComp elt [⟨tg, iter, ifs, 0⟩] scope pos) (some (.Name y py)) spos.line X.env = pure true) (hi : MI X W tg iter τi) (ok : BlkOk X.N X.env.scope scope own)
    (hg : ∀ (s : Shared) (H : Hp) (C : Addr) (cl : List (Str × Addr)) (fp : List Addr), MG (X.blk s H scope (compEnvC scope cl C X.env) fp) tg is γ) (ht : ∀ (s : Shared) (H : Hp) (C : Addr) (cl : List (Str × Addr)) (fp : List Addr), MTs (X.blk s H scope (compEnvC scope cl C X.env) fp) WF ifs τt)
    (he : ∀ (s : Shared) (H : Hp) (C : Addr) (cl : List (Str × Addr)) (fp : List Addr), ME (X.blk s H scope (compEnvC scope cl C X.env) fp) WF elt τe) (hv : ∀ i ∈ is, i ∈ own.map (·.2) := by decide) (hs : ∀ x, foldedSetIterable iter X.env x = pure x := by intro _; rfl) :
    MS X W (.Assign [.Name y py] (.ListComp elt [⟨tg, iter, ifs, 0⟩] scope pos) spos) (mSet i (mLc τi γ τt τe (own.map (·.2)))) :=
  MS.of (ps_setLc hc hN hy hyl hsw hi.pi ok (fun s H C cl fp => (hg s H C cl fp).pg) (fun s H C cl fp => (ht s H C cl fp).pts) (fun s H C cl fp => (he s H C cl fp).pe) hs) fun D σ H Hf R ρ h PD s q l =>
    (lc_readingM hv).fz σ H Hf ρ h R (fun d h1 => PD.nx (ρ.set i (some d)) h1) _ s q fun v H1 Hf1 d h1 e1 m1 r1 p1 => l.nx _ H1 Hf1 _ h1 (e1.set i r1) p1
end
section
variable {X : Cx} {W : Wd} {pos apos : Pos} {o e : Expr} {es : List Expr} {τo τe : TM} {τs : TMA}
def mApp (τo : TM) (τs : TMA) : TM := fun ω ρ h P => τo ω ρ h fun x h1 => ∃ a ys, x.dat = .raw (.ref a) ∧ h1 a = some (.lst ys) ∧ τs ω ρ h1 fun ds h2 => ∃ xs d, h2 a = some (.lst xs) ∧ ds = [d] ∧ xs.length < 16000 ∧ P (.fz .non) (put h2 a (.lst (xs ++ [d])))
theorem me_app (ho : ME X W o τo) (ha : MA X W [e] τs) (he : starEach [e] X.env = (false, eval e X.env) :: starEach [] X.env := by rfl) (hbase : attributeBase o "append" X.env (eval o X.env) = eval o X.env := by rfl)
    (hfew : ((backTo pos (starEach [e] X.env)).all (fun x => !x.1) && (backToKw pos (keywordEach [] X.env)).all (fun x => x.1.isSome) && decide ([e].length + ([] : List Keyword).length + (if ([] : List Keyword).isEmpty then 0 else 1) < 30)) = true := by rfl) (hline : (apos.endLine == pos.line) = true := by rfl) :
    ME X W (.Call (.Attribute o "append" apos) [e] [] pos) (mApp τo τs) := by
  obtain ⟨t, po, so⟩ := ho.fz
  refine ME.of (pe_bm PySem.F.plainAttrs_list PySem.F.slot_list_append PySem.F.type_list_append mt_append po ha.pa hbase hfew hline he rfl) fun σ H Hf ρ h R P Q e q k => ?_
  refine so σ H Hf ρ h R (fun x h1 => ∃ a ys, x = .raw (.ref a) ∧ h1 a = some (.lst ys) ∧ τs R.ω ρ h1 fun ds h2 => ∃ xs d, h2 a = some (.lst xs) ∧ ds = [d] ∧ xs.length < 16000 ∧ P (.fz .non) (put h2 a (.lst (xs ++ [d])))) _ e q fun x H1 Hf1 dx h1 e1 m1 r1 ⟨a, ys, g1, g2, q1⟩ => ?_
  subst g1
  cases r1
  obtain ⟨z0, zs, z1, z2⟩ := e1.hs.hp a _ g2
  refine ⟨.inl ⟨rfl, zs, .inl (.inl z1)⟩, R, Hf1, ρ, h1, _, e1, q1, fun vs H2 Hf2 ds h2 e2 m2 r2 _ ⟨xs, d, k1, k2, k3, k4⟩ => ?_⟩
  subst k2
  cases r2 with
  | @cons v _ _ _ ra rr =>
    cases rr
    obtain ⟨y0, us, y1, y2⟩ := e2.hs.hp a _ k1
    have s3 := e2.hs.upd (a := a) (o := .lst (xs ++ [d])) (u := .lst (us ++ [v])) (.inl ⟨_, k1⟩) fun H' hq => ⟨_, hq, y2.append (.cons ra .nil)⟩
    have m3 := Mo.upd (h := h2) (H := H2) (Hf := Hf2) (a := a) (o := .lst (xs ++ [d])) (u := .lst (us ++ [v])) (.inl ⟨_, k1⟩)
    exact ⟨a, us, _, rfl, rfl, y1, by rw [y2.length]; exact Nat.lt_of_lt_of_le k3 (by decide), k .non _ Hf2 (.fz .non) _ (e2.step s3 m3) ((m1.trans m2).trans m3) Rep.non k4⟩
def mPop (τo : TM) : TM := fun ω ρ h P => τo ω ρ h fun x h1 => ∃ a xs d, x.dat = .raw (.ref a) ∧ h1 a = some (.lst (xs ++ [d])) ∧ P (.fz d) (put h1 a (.lst xs))
theorem me_pop (ho : ME X W o τo) (hbase : attributeBase o "pop" X.env (eval o X.env) = eval o X.env := by rfl) (hline : (apos.endLine == pos.line) = true := by rfl) : ME X W (.Call (.Attribute o "pop" apos) [] [] pos) (mPop τo) := by
  obtain ⟨t, po, so⟩ := ho.fz
  refine ME.of (pe_bm0 PySem.F.plainAttrs_list PySem.F.slot_list_pop PySem.F.type_list_pop mt_pop po hbase hline) fun σ H Hf ρ h R P Q e q k => ?_
  refine so σ H Hf ρ h R (fun x h1 => ∃ a xs d, x = .raw (.ref a) ∧ h1 a = some (.lst (xs ++ [d])) ∧ P (.fz d) (put h1 a (.lst xs))) _ e q fun x H1 Hf1 dx h1 e1 m1 r1 ⟨a, xs, d, g1, g2, q1⟩ => ?_
  subst g1
  cases r1
  obtain ⟨z0, zs, z1, z2⟩ := e1.hs.hp a _ g2
  obtain ⟨us, ws, rfl, r3, r4⟩ := z2.split
  cases r4 with
  | @cons v _ _ _ rv rr =>
    cases rr
    have s3 := e1.hs.upd (a := a) (o := .lst xs) (u := .lst us) (.inl ⟨_, g2⟩) fun H' hq => ⟨_, hq, r3⟩
    have m3 := Mo.upd (h := h1) (H := H1) (Hf := Hf1) (a := a) (o := .lst xs) (u := .lst us) (.inl ⟨_, g2⟩)
    refine ⟨.inl ⟨rfl, _, .inl (.inl z1)⟩, a, us ++ [v], v, rfl, rfl, z1, by simp, ?_⟩
    rw [List.dropLast_concat]
    exact k v _ Hf1 (.fz d) _ (e1.step s3 m3) (m1.trans m3) rv q1
end
end ML
namespace ML
open PySem L2 DL
section
variable {X : Cx} {o e : Expr} {es : List Expr} {ta : TA} {f x : Str} {p p' p1 p2 pos : Pos} {B : Addr}
theorem pe_binit {pl : Sem Bool} (hg : Gl X x) (hm : X.mg x = some (.ref B)) (hr : PySem.W.readsIn X.K B (.type "type") = true) (hs : PySem.W.specialIn X.K (.ref B) "__getattribute__" = some (some (.builtin "type.__getattribute__")))
    (vV : PySem.W.findCls X.K (.ref B) (.type "type") "__init__" = some (.val (.builtin "ValueError.__init__"))) (ha : PA X (e :: es) ta)
    (hc : eval (.Call (.Attribute (.Name x p1) "__init__" p2) (e :: es) [] pos) X.env = (do let ov ← eval (.Name x p1) X.env; standAt p2.atName; let (f, first) ← holding [ov] (getMethod ov "__init__" pl); callWith pos f first (backTo pos (starEach (e :: es) X.env)) (backToKw pos (keywordEach [] X.env))) := by rfl)
    (he : starEach (e :: es) X.env = (false, eval e X.env) :: starEach es X.env := by rfl) (hpl : (backTo pos (starEach es X.env)).any (·.1) = false := by rfl) (hdb : (x == ("__debug__" : Str)) = false := by decide) :
    PE X (.Call (.Attribute (.Name x p1) "__init__" p2) (e :: es) [] pos) (tVeI X.K ta) := ⟨fun pins s σ H Q I q0 => by
  refine PySem.W.methodCall_KW (ld_glob I hg hm ?_ hdb) hc
  refine PySem.W.method_cls I.kIn hs (PySem.W.cls_value I.kIn hr vV (by decide +kernel) ?_)
  refine PyProof.Rows.callWith_method1 (thn (ha.run pos pins _ σ H _ (I.tok _) q0) fun us s1 ⟨vs, H1, I1, r1, a, C, ws, ev, hl, T, ea, q⟩ => ?_) he hpl
  subst ev
  cases r1 with
  | @cons _ u0 _ ur ra rr =>
    cases (show u0 = Value.ref a from ra)
    exact oinit_ok T I1 ea (by rw [← Paired.length rr, sizeLine_eq]; omega) fun s' J => ⟨.non, H1, J, rfl, q⟩⟩
end
def spE1 (K : Fg) (C : Addr) (f : Str) : Sp := fun vs H Q _ => ∃ a y, vs = [.ref a, y] ∧ H a = some (exo a C none) ∧ ∀ dx, H dx = none → dx ≠ a → Q .non (upd (upd H dx (exd dx [(f, y)])) a (exo a C (some dx)))
structure ErC (K : Fg) (mg : Str → Option Value) (x : Str) (C : Addr) : Prop where
  cl : OexC K C
  nm : mg x = some (.ref C)
  xf : XfC K C
def Er1 (P : Program) (w : World) (K : Fg) (mg : Str → Option Value) (base : Heap) (x : Str) (C : Addr) (f : Str) : Prop := ErC K mg x C ∧ PySem.W.findIn K (.ref C) f = some none ∧ ∃ fI fd ps, PySem.W.findIn K (.ref C) "__init__" = some (some (.ref fI)) ∧ PySem.W.typeIn K (.ref fI) = some (.type "function") ∧ FnOk P w K mg base CX0 1 fI fd ps (spE1 K C f) ∧ Binds K fd ps []
section
variable {X : Cx} {W : Wd} {e : Expr} {τs : TMA} {x : Str} {C : Addr} {f : Str} {k : Nat} {p pos pos2 : Pos}
theorem XRep.one {K : Fg} {H Hf : Hp} {d : Addr} {f : Str} {y : V} {dy : D} (sub : ∀ b o, Hf b = some o → H b = some o) (hn : H d = none) (r : Rep K Hf y dy) : Ext H (upd H d (.xd [(f, y)])) Hf (upd Hf d (.xd [(f, y)])) ∧ XRep K (upd Hf d (.xd [(f, y)])) (some d) [(f, dy)] := by
  have x := Ext.add sub (.xd [(f, y)]) hn
  exact ⟨x, .inr ⟨d, _, rfl, upd_same, .cons (r.mono x.grow) .nil⟩⟩
def mRaise1 (C : Addr) (f : Str) (τs : TMA) : TMS := fun ω PD ρ h => τs ω ρ h fun ds h1 => ∃ d, ds = [d] ∧ ω ⟨C, [(f, d)]⟩ ρ h1
theorem ms_raise1 (E : Er1 X.prog X.w X.K X.mg X.base x C f) (hc : X.calm = true) (tk : Takes X W.x) (hr : Room k X.A) (hk : 2 ≤ k) (hg : Gl X x) (ha : MA X W [e] τs) (hdb : (x == ("__debug__" : Str)) = false := by decide) (he : starEach [e] X.env = (false, eval e X.env) :: starEach [] X.env := by rfl) :
    MS X W (.Raise (some (.Call (.Name x p) [e] [] pos)) none pos2) (mRaise1 C f τs) := by
  obtain ⟨T, hno, fI, fd, ps, iC, tI, F, hb⟩ := E
  refine MS.of (ps_raise hc tk (pmk_oex T.cl iC tI F (hr.mono hk) hb .nil (fun _ _ _ _ _ _ _ z => z.elim) hg T.nm ha.pa hdb he rfl)) fun D σ H Hf R ρ h PD s q l => ?_
  refine ⟨R, Hf, ρ, h, _, s, q, fun vs H1 Hf1 ds h1 e1 m1 r1 _ ⟨d, hd, q1⟩ => ?_⟩
  subst hd
  cases r1 with
  | @cons y _ _ _ ry rr =>
    cases rr
    refine ⟨by show (1 : Nat) ≤ 1000; omega, fun a na => ⟨a, y, rfl, upd_same, fun dx hdx hne => ⟨rfl, dx, [(f, y)], upd_same, ?_, ?_, ?_⟩⟩⟩
    · rw [upd_ne hne, upd_same]
    · have z : upd H1 a (exo a C none) dx = none := hdx
      rw [upd_ne hne] at z
      exact z
    · have z : upd H1 a (exo a C none) dx = none := hdx
      rw [upd_ne hne] at z
      have eq : upd (del (upd (upd (upd H1 a (exo a C none)) dx (exd dx [(f, y)])) a (exo a C (some dx))) a) dx (.xd [(f, y)]) = upd H1 dx (.xd [(f, y)]) := by
        funext b
        by_cases hb1 : b = dx
        · subst hb1; rw [upd_same, upd_same]
        · rw [upd_ne hb1, upd_ne hb1]
          by_cases hb2 : b = a
          · subst hb2; rw [del_same, na]
          · rw [del_ne hb2, upd_ne hb2, upd_ne hb1, upd_ne hb2]
      rw [eq]
      obtain ⟨x1, xr⟩ := XRep.one (f := f) e1.hs.sub z ry
      exact e1.out (e1.hs.ext x1) (Mo.ext x1) xr q1
end
section
variable {X : Cx} {W : Wd} {x n : Str} {c : Value} {i : Nat} {body suite : List Stmt} {b0 : Stmt} {np pos pos' : Pos} {τb : TMS} {τs : Addr → Ex → TMS}
def gone (i : Nat) (PD : MEnds) : MEnds := { nx := fun ρ h => PD.nx (ρ.set i none) h, rt := PD.rt, bk := fun ρ h => PD.bk (ρ.set i none) h, ct := fun ρ h => PD.ct (ρ.set i none) h }
def mTry (Cs Ns : List Addr) (i : Nat) (τb : TMS) (τs : Addr → Ex → TMS) : TMS := fun ω PD ρ h => τb (fun x ρ' h' => (x.C ∈ Cs ∧ ∀ a, τs a x ωF (gone i PD) (ρ'.set i (some (.raw (.ref a)))) h') ∨ (x.C ∈ Ns ∧ ω x ρ' h')) PD ρ h
abbrev WSu (K : Fg) (d : Option Addr) (fs : List (Str × D)) : Wd := ⟨fun _ _ _ _ => False, fun Hf => XRep K Hf d fs, fun Hf Hf' g h => by
  rcases h with h | ⟨a, gs, h1, h2, h3⟩
  · exact .inl h
  · exact .inr ⟨a, gs, h1, g _ _ h2, h3.mono g⟩⟩
theorem Sd.drop {K : Fg} {Hf : Hp} {σ : St} {ρ : Me} (s : Sd K Hf σ ρ) (i : Nat) {v : Option V} : Sd K Hf (σ.set i v) (ρ.set i none) := ⟨fun j e q => by
  rw [set_getM] at q
  by_cases hj : i = j
  · rw [if_pos hj] at q
    split at q <;> cases q
  · rw [if_neg hj] at q
    rw [List.getElem?_set, if_neg hj]
    exact s.at_ j e q, by rw [List.length_set, List.length_set]; exact s.len⟩
theorem RE.as {K : Fg} {W W' : Wd} {R R' : Rg} {H H1 Hf Hf1 : Hp} {σ σ1 σ2 : St} {ρ ρ1 ρ2 : Me} {h h1 : Hd} (e : RE K W R H Hf σ ρ h) (e1 : RE K W' R' H1 Hf1 σ1 ρ1 h1) (hR : R'.H0 = H ∧ R'.Hf0 = Hf ∧ R'.h0 = h) (s : Sd K Hf1 σ2 ρ2) : RE K W R H1 Hf1 σ2 ρ2 h1 := by
  obtain ⟨r1, r2, r3⟩ := hR
  have m := e1.mv
  rw [r1, r2, r3] at m
  exact ⟨e.ok, W.mono _ _ m.grow e.gh, s, e1.hs, e.mv.trans m⟩
theorem ms_try {Cs Ns : List Addr} (hcs : ∀ C ∈ Cs, PySem.W.exmOne X.K (.ref C) c = some true) (hns : ∀ C ∈ Ns, PySem.W.exmOne X.K (.ref C) c = some false) (hs : X.stack = X.env :: X.outer) (hf : X.env.frame = some X.env.locals) (hN : X.N.Nodup) (hi : X.N[i]? = some n) (hln : X.env.kindOf n = some .local) (hc : Names X x c) (tk : Takes X W.x)
    (hb : ∀ (W' : WX) (pn : List (Addr × Obj)) (xe : Value → Shared → Prop), Takes (X.tr pn xe) W' → PassesOwn (model X.prog X.w) X.A X.env xe → MSs (X.tr pn xe) ⟨W', W.g, W.mono⟩ body τb)
    (hsu : ∀ (a C : Addr) (oe : Obj) (d : Option Addr) (fs : List (Str × D)) (pn : List (Addr × Obj)), Zc (.ref C) d oe → (∃ vs, oe.data = .fields vs) → MSs (X.suite a ((a, oe) :: pn)) (WSu X.K d fs) (b0 :: suite) (τs a ⟨C, fs⟩)) :
    MS X W (.Try body [.ExceptHandler (some (.Name x np)) (some n) (b0 :: suite) pos'] [] [] pos) (mTry Cs Ns i τb τs) := by
  refine MS.of (ps_try_as (Wout := W.x) (tb := fun W' => canMS X.K ⟨W', W.g, W.mono⟩ τb) (ts := fun a cls d D σ H => ∃ C fs, cls = .ref C ∧ canMS X.K (WSu X.K d fs) (τs a ⟨C, fs⟩) D σ H) hs hf hN hi hln hc tk
    (fun W' pn xe tk' po => (hb W' pn xe tk' po).pss)
    (fun a oe cls d pn hz hv => ⟨fun pins s σ H D I ⟨C, fs, ec, q⟩ => by subst ec; exact (hsu a C oe d fs pn hz hv).pss.run pins s σ H D I q⟩)) fun D σ H Hf R ρ h PD e q l => ?_
  let R' : Rg := ⟨H, Hf, h, fun x ρ' h' => (x.C ∈ Cs ∧ ∀ a, τs a x ωF (gone i PD) (ρ'.set i (some (.raw (.ref a)))) h') ∨ (x.C ∈ Ns ∧ R.ω x ρ' h')⟩
  refine ⟨R', Hf, ρ, h, PD, ⟨?_, e.gh, e.sl, e.hs, Mo.refl ..⟩, q, ⟨fun σ1 H1 Hf1 ρ1 h1 e1 q1 => l.nx σ1 H1 Hf1 ρ1 h1 (e.as e1 ⟨rfl, rfl, rfl⟩ e1.sl) q1, fun v σ1 H1 Hf1 ρ1 h1 r e1 ok q1 => l.rt v σ1 H1 Hf1 ρ1 h1 r (e.as e1 ⟨rfl, rfl, rfl⟩ e1.sl) (ok.back e.mv.live) q1, fun σ1 H1 Hf1 ρ1 h1 e1 q1 => l.bk σ1 H1 Hf1 ρ1 h1 (e.as e1 ⟨rfl, rfl, rfl⟩ e1.sl) q1, fun σ1 H1 Hf1 ρ1 h1 e1 q1 => l.ct σ1 H1 Hf1 ρ1 h1 (e.as e1 ⟨rfl, rfl, rfl⟩ e1.sl) q1⟩⟩
  rintro cls d σ1 H1 ⟨C, fs, Hf1, ρ1, h1, rfl, xr, s1, s2, m1, hy⟩
  rcases hy with ⟨hm, hy⟩ | ⟨hm, hn⟩
  rotate_left
  · exact ⟨false, hns C hm, fun z => (nomatch z), fun _ => e.ok _ _ _ _ ⟨C, fs, Hf1, ρ1, h1, rfl, xr, s1, s2, e.mv.trans m1, hn⟩⟩
  refine ⟨true, hcs C hm, fun hbt a na => ⟨C, fs, rfl, ⟨H1, Hf1, h1, ωF⟩, Hf1, ρ1.set i (some (.raw (.ref a))), h1, gone i PD, ⟨fun cls d σ H ⟨_, _, _, _, _, _, _, _, _, _, z⟩ => z, xr, s1.set i (Rep.raw _), s2, Mo.refl ..⟩, hy a, ?_⟩, fun hbf => (nomatch hbf)⟩
  · have e1 : RE X.K W R H1 Hf1 σ1 ρ1 h1 := ⟨e.ok, W.mono _ _ m1.grow e.gh, s1, s2, e.mv.trans m1⟩
    exact ⟨fun σ2 H2 Hf2 ρ2 h2 e2 q2 => l.nx _ H2 Hf2 _ h2 (e1.as e2 ⟨rfl, rfl, rfl⟩ (e2.sl.drop i)) q2, fun v σ2 H2 Hf2 ρ2 h2 r e2 ok q2 => l.rt v σ2 H2 Hf2 ρ2 h2 r (e1.as e2 ⟨rfl, rfl, rfl⟩ e2.sl) (ok.back e1.mv.live) q2, fun σ2 H2 Hf2 ρ2 h2 e2 q2 => l.bk _ H2 Hf2 _ h2 (e1.as e2 ⟨rfl, rfl, rfl⟩ (e2.sl.drop i)) q2, fun σ2 H2 Hf2 ρ2 h2 e2 q2 => l.ct _ H2 Hf2 _ h2 (e1.as e2 ⟨rfl, rfl, rfl⟩ (e2.sl.drop i)) q2⟩
def mXf (a C : Addr) (fs : List (Str × D)) (C0 : Addr) (f : Str) (τ : TM) : TM := fun ω ρ h P => τ ω ρ h fun r h1 => r.dat = .raw (.ref a) ∧ C = C0 ∧ ∃ v, fs.lookup f = some v ∧ P (.fz v) h1
theorem me_xf {a C C0 : Addr} {oe : Obj} {d : Option Addr} {fs : List (Str × D)} {pn : List (Addr × Obj)} {e : Expr} {τ : TM} {f : Str} (T : XfC X.K C0) (hno : PySem.W.findIn X.K (.ref C0) f = some none) (hz : Zc (.ref C) d oe) (hv : ∃ vs, oe.data = .fields vs)
    (he : ME (X.suite a ((a, oe) :: pn)) (WSu X.K d fs) e τ) (hb : attributeBase e f X.env (eval e X.env) = eval e X.env := by rfl) : ME (X.suite a ((a, oe) :: pn)) (WSu X.K d fs) (.Attribute e f pos) (mXf a C fs C0 f τ) := by
  obtain ⟨t, pe, se⟩ := he.fz
  refine ME.of (pe_xf T hno hz hv pe hb) fun σ H Hf ρ h R P Q e q k => se σ H Hf ρ h R (fun r h1 => r = .raw (.ref a) ∧ C = C0 ∧ ∃ v, fs.lookup f = some v ∧ P (.fz v) h1) _ e q fun v H1 Hf1 d1 h1 e1 m1 r1 ⟨g1, g2, w, g3, p1⟩ => ?_
  subst g1 g2
  cases r1
  rcases e1.gh with ⟨_, z⟩ | ⟨dd, gs, z1, z2, z3⟩
  · rw [z] at g3; cases g3
  · obtain ⟨u, l1, ru⟩ := (RepF.get z3).1 w g3
    exact ⟨rfl, rfl, dd, gs, u, z1, e1.hs.sub _ _ z2, l1, k u H1 Hf1 (.fz w) h1 e1 m1 ru p1⟩
end
end ML
namespace ML
open PySem L2 DL
section
variable {X : Cx} {W : Wd} {pos p apos : Pos} {a b c e : Expr} {es : List Expr} {τa τb τc : TM} {τs : TMA} {k : Nat}
theorem me_add (ha : ME X W a τa) (hb : ME X W b τb) : ME X W (.BinOp a .Add b pos) (mBin addD τa τb) := me_bin op_addD opS_add ha hb
theorem me_sub (ha : ME X W a τa) (hb : ME X W b τb) : ME X W (.BinOp a .Sub b pos) (mBin subD τa τb) := me_bin op_sub opS_sub ha hb
theorem me_mul (ha : ME X W a τa) (hb : ME X W b τb) : ME X W (.BinOp a .Mult b pos) (mBin mulD τa τb) := me_bin op_mulD opS_mul ha hb
theorem me_eq (hr : Room k X.A) (ha : ME X W a τa) (hb : ME X W b τb) : ME X W (.Compare a [.Eq] [b] pos) (mBin eqD τa τb) := me_cmp (op_eqD' hr.units) opS_eq ha hb (nomark _)
theorem mt_eq (hr : Room k X.A) (ha : ME X W a τa) (hb : ME X W b τb) : MT X W (.Compare a [.Eq] [b] pos) (mT (mBin eqD τa τb)) := mt_cmp (op_eqD' hr.units) opS_eq ha hb (nomark _)
theorem mt_ne (hr : Room k X.A) (ha : ME X W a τa) (hb : ME X W b τb) : MT X W (.Compare a [.NotEq] [b] pos) (mT (mBin neD τa τb)) := mt_cmp (op_neD' hr.units) opS_ne ha hb (nomark _)
theorem mt_lt (ha : ME X W a τa) (hb : ME X W b τb) : MT X W (.Compare a [.Lt] [b] pos) (mT (mBin ltD τa τb)) := mt_cmp op_lt opS_lt ha hb (nomark _)
theorem me_gt (ha : ME X W a τa) (hb : ME X W b τb) : ME X W (.Compare a [.Gt] [b] pos) (mBin gtD τa τb) := me_cmp op_gt opS_gt ha hb (nomark _)
theorem mt_gt (ha : ME X W a τa) (hb : ME X W b τb) : MT X W (.Compare a [.Gt] [b] pos) (mT (mBin gtD τa τb)) := mt_cmp op_gt opS_gt ha hb (nomark _)
theorem mt_ge (ha : ME X W a τa) (hb : ME X W b τb) : MT X W (.Compare a [.GtE] [b] pos) (mT (mBin geD τa τb)) := mt_cmp op_ge opS_ge ha hb (nomark _)
theorem mt_is (ha : ME X W a τa) (hb : ME X W b τb) : MT X W (.Compare a [.Is] [b] pos) (mT (mBin isD τa τb)) := mt_cmp op_isN opS_is ha hb (nomark _)
theorem me_in (ha : ME X W a τa) (hb : ME X W b τb) (hm : behindInMarks .In b = false := by rfl) : ME X W (.Compare a [.In] [b] pos) (mBin inD τa τb) := me_cmp op_inD opS_in ha hb hm
theorem mt_in (ha : ME X W a τa) (hb : ME X W b τb) (hm : behindInMarks .In b = false := by rfl) : MT X W (.Compare a [.In] [b] pos) (mT (mBin inD τa τb)) := mt_cmp op_inD opS_in ha hb hm
theorem mt_ltle (ha : ME X W a τa) (hb : ME X W b τb) (hc : ME X W c τc) (hm : lastMarks [.Lt, .LtE] [b, c] = false := by with_unfolding_all rfl) : MT X W (.Compare a [.Lt, .LtE] [b, c] pos) (mT (mChn ltD leD τa τb τc)) := mt_chn op_lt opS_lt op_le opS_le ha hb hc hm
theorem me_len (hg : Gl X "len") (hm : X.mg "len" = none) (ha : MA X W (e :: es) τs) (he : starEach (e :: es) X.env = (false, eval e X.env) :: starEach es X.env := by rfl) (hpl : (backTo pos (starEach es X.env)).any (·.1) = false := by rfl) : ME X W (.Call (.Name "len" p) (e :: es) [] pos) (mCallG lenD τs) := me_callB call_len callS_len hg hm PySem.boot_len ha (he := he) (hpl := hpl)
theorem me_all (hc : X.calm = true) (hg : Gl X "all") (hm : X.mg "all" = none) (ha : MA X W (e :: es) τs) (he : starEach (e :: es) X.env = (false, eval e X.env) :: starEach es X.env := by rfl) (hpl : (backTo pos (starEach es X.env)).any (·.1) = false := by rfl) : ME X W (.Call (.Name "all" p) (e :: es) [] pos) (mCallG allD τs) := me_callB (cr_all hc) callS_all hg hm (by decide +kernel) ha (he := he) (hpl := hpl)
theorem me_any (hc : X.calm = true) (hg : Gl X "any") (hm : X.mg "any" = none) (ha : MA X W (e :: es) τs) (he : starEach (e :: es) X.env = (false, eval e X.env) :: starEach es X.env := by rfl) (hpl : (backTo pos (starEach es X.env)).any (·.1) = false := by rfl) : ME X W (.Call (.Name "any" p) (e :: es) [] pos) (mCallG anyD τs) := me_callB (cr_any hc) callS_any hg hm (by decide +kernel) ha (he := he) (hpl := hpl)
theorem me_tuple (hg : Gl X "tuple") (hm : X.mg "tuple" = none) (ha : MA X W (e :: es) τs) (he : starEach (e :: es) X.env = (false, eval e X.env) :: starEach es X.env := by rfl) (hpl : (backTo pos (starEach es X.env)).any (·.1) = false := by rfl) : ME X W (.Call (.Name "tuple" p) (e :: es) [] pos) (mCallG tupleD τs) := me_callTy call_tuple_of callS_tuple hg hm (by decide +kernel) ha (he := he) (hpl := hpl)
theorem me_intc (hg : Gl X "int") (hm : X.mg "int" = none) (ha : MA X W (e :: es) τs) (he : starEach (e :: es) X.env = (false, eval e X.env) :: starEach es X.env := by rfl) (hpl : (backTo pos (starEach es X.env)).any (·.1) = false := by rfl) : ME X W (.Call (.Name "int" p) (e :: es) [] pos) (mCallG intOfD τs) := me_callTy call_int1 callS_int hg hm (by decide +kernel) ha (he := he) (hpl := hpl)
theorem me_lenV (hg : Gl X "len") (hm : X.mg "len" = none) (ha : MA X W (e :: es) τs) (he : starEach (e :: es) X.env = (false, eval e X.env) :: starEach es X.env := by rfl) (hpl : (backTo pos (starEach es X.env)).any (·.1) = false := by rfl) : ME X W (.Call (.Name "len" p) (e :: es) [] pos) (mCallGV lenD τs) := me_callBV call_len callS_len hg hm PySem.boot_len ha (he := he) (hpl := hpl)
def zipD : List D → List D → List D
  | a :: as, b :: bs => .tup [a, b] :: zipD as bs
  | _, _ => []
theorem zipD_len : ∀ as bs : List D, (zipD as bs).length = min as.length bs.length
  | [], bs => by simp [zipD]
  | a :: as, [] => by simp [zipD]
  | a :: as, b :: bs => by simp only [zipD, List.length_cons, zipD_len as bs]; omega
theorem zipD_get : ∀ (as bs : List D) (i : Nat) (d : D), (zipD as bs)[i]? = some d → ∃ a b, as[i]? = some a ∧ bs[i]? = some b ∧ d = .tup [a, b]
  | [], bs, i, d, h => by simp [zipD] at h
  | a :: as, [], i, d, h => by simp [zipD] at h
  | a :: as, b :: bs, 0, d, h => by simp [zipD] at h; exact ⟨a, b, rfl, rfl, h.symm⟩
  | a :: as, b :: bs, i + 1, d, h => by
    obtain ⟨x, y, h1, h2, h3⟩ := zipD_get as bs i d (by simpa [zipD] using h)
    exact ⟨x, y, by simpa using h1, by simpa using h2, h3⟩
def enumD (n : Nat) : List D → List D
  | [] => []
  | d :: ds => .tup [.int (n : Nat), d] :: enumD (n + 1) ds
theorem enumD_len : ∀ (n : Nat) (ds : List D), (enumD n ds).length = ds.length
  | _, [] => rfl
  | n, d :: ds => by simp [enumD, enumD_len (n + 1) ds]
theorem enumD_get : ∀ (n : Nat) (ds : List D) (i : Nat) (d : D), (enumD n ds)[i]? = some d → ∃ a, ds[i]? = some a ∧ d = .tup [.int ((n + i : Nat) : Int), a]
  | _, [], i, d, h => by simp [enumD] at h
  | n, a :: ds, 0, d, h => by simp [enumD] at h; exact ⟨a, rfl, h.symm⟩
  | n, a :: ds, i + 1, d, h => by
    obtain ⟨x, h1, h2⟩ := enumD_get (n + 1) ds i d (by simpa [enumD] using h)
    exact ⟨x, by simpa using h1, by rw [h2, show n + 1 + i = n + (i + 1) by omega]⟩
theorem ite_it {K : Fg} {Hf : Hp} {p : Addr} {vs : List V} {as : List D} (h1 : SqL K Hf p vs) (r1 : RepL K Hf vs as) : DIt K (Ite K p) Hf (enumD 0 as) where
  item := fun i d H' Hf' sub grow hd => by
    obtain ⟨a, g1, rfl⟩ := enumD_get 0 as i d hd
    obtain ⟨v, k1, k2⟩ := r1.get g1
    have s1 : SqL K H' p vs := sqL_same (fun b o h => sub b o (grow b o h)) h1
    refine ⟨⟨vs, v, s1, k1⟩, fun x H'' y => ?_⟩
    obtain ⟨T, x1, rfl, hT, rfl, z1⟩ := y
    have e1 := z1 vs s1
    rw [k1] at e1
    cases e1
    rw [Nat.zero_add]
    obtain ⟨x2, ok⟩ := new_tup sub hT (.cons (.int _) (.cons (k2.mono grow) .nil))
    exact ⟨_, x2, ok⟩
  stop := fun i H' Hf' sub grow hl _ => by
    rw [enumD_len] at hl
    exact ⟨vs, sqL_same (fun b o h => sub b o (grow b o h)) h1, by rw [r1.length]; exact hl⟩
def mEnum (τ : TMA) : TMI := fun ω ρ h P => τ ω ρ h fun ds h1 => ∃ as, ds = [.lst as] ∧ P (enumD 0 as) h1
theorem mi_enum {elts : List Expr} {kk : Nat} {tpos : Pos} (hg : Gl X "enumerate") (hm : X.mg "enumerate" = none) (ha : MA X W [e] τs) (hs : starEach [e] X.env = [(false, eval e X.env)] := by rfl) :
    MI X W (.Tuple elts kk tpos) (.Call (.Name "enumerate" p) [e] [] pos) (mEnum τs) :=
  MI.of (pi_enum hg hm ha.pa hs) fun σ H Hf ρ h R P Q e q k => ⟨R, Hf, ρ, h, _, e, q, fun vs H1 Hf1 ds h1 e1 m1 r1 _ ⟨as, hd, p1⟩ => by
    subst hd
    cases r1 with
    | cons ra rr =>
      cases rr
      cases ra with
      | lst ha ra => exact ⟨_, _, rfl, .inl (.inl (e1.hs.sub _ _ ha)), k _ H1 Hf1 _ h1 e1 m1 (ite_it (.inl (.inl ha)) ra) p1⟩⟩
end
theorem loopM_inv {ω : Wω} {γ : TMG} {τb : TMS} {PD : MEnds} (I : List D → Me → Hd → Prop) : ∀ (ds : List D) (ρ : Me) (h : Hd), I ds ρ h → (∀ d es ρ h (R : Me → Hd → Prop), I (d :: es) ρ h → (∀ ρ' h', I es ρ' h' → R ρ' h') → γ d ρ fun ρ1 => τb ω { PD with nx := R, ct := R, bk := PD.nx } ρ1 h) → (∀ ρ h, I [] ρ h → PD.nx ρ h) → loopM ω γ τb PD ds ρ h
  | [], ρ, h, i, _, q => by rw [loopM_nil]; exact q ρ h i
  | d :: ds, ρ, h, i, t, q => by rw [loopM_cons]; exact t d ds ρ h _ i fun ρ' h' i' => loopM_inv I ds ρ' h' i' t q
theorem lcM_inv {γ : TMG} {τt : TMT} {τe : TM} {ρ : Me} {P : List D → Hd → Prop} (I : List D → Hd → List D → Prop) : ∀ (ds : List D) (h : Hd) (acc : List D), I ds h acc →
    (∀ d es h acc (R : Hd → List D → Prop), I (d :: es) h acc → (∀ h' acc', I es h' acc' → R h' acc') → γ d ρ fun ρ1 => τt ωF ρ1 h fun b h1 => if b = true then τe ωF ρ1 h1 fun r h2 => acc.length < 16000 ∧ R h2 (acc ++ [r.dat]) else R h1 acc) →
    (∀ h acc, I [] h acc → P acc h) → lcM γ τt τe ρ P ds h acc
  | [], h, acc, i, _, q => by rw [lcM_nil]; exact q h acc i
  | d :: ds, h, acc, i, t, q => by rw [lcM_cons]; exact t d ds h acc (fun h' acc' => lcM γ τt τe ρ P ds h' acc') i fun h' acc' i' => lcM_inv I ds h' acc' i' t q
theorem lcM_pure {α : Type} {φ : α → D} {b : α → Bool} {f : α → D} {γ : TMG} {τt : TMT} {τe : TM} {ρ : Me} {P : List D → Hd → Prop} {h : Hd} : ∀ (l : List α) (acc : List D),
    (∀ a ∈ l, ∀ (R1 : D → Hd → Prop) (R2 : Hd → Prop), (b a = true → R1 (f a) h) → (b a = false → R2 h) → γ (φ a) ρ fun ρ1 => τt ωF ρ1 h fun bb h1 => if bb = true then τe ωF ρ1 h1 fun r h2 => R1 r.dat h2 else R2 h1) →
    acc.length + l.length ≤ 16000 → P (acc ++ (l.filter b).map f) h → lcM γ τt τe ρ P (l.map φ) h acc
  | [], acc, _, _, q => by rw [List.map_nil, lcM_nil]; simpa using q
  | a :: l, acc, t, hl, q => by
    rw [List.map_cons, lcM_cons]
    refine t a (List.mem_cons_self ..) (fun d h2 => acc.length < 16000 ∧ lcM γ τt τe ρ P (l.map φ) h2 (acc ++ [d])) (fun h1 => lcM γ τt τe ρ P (l.map φ) h1 acc) (fun hb => ?_) (fun hb => ?_)
    · refine ⟨by simp at hl; omega, lcM_pure l _ (fun x hx => t x (List.mem_cons_of_mem _ hx)) (by simp at hl ⊢; omega) ?_⟩
      rw [List.filter_cons, if_pos hb] at q
      simpa using q
    · refine lcM_pure l _ (fun x hx => t x (List.mem_cons_of_mem _ hx)) (by simp at hl ⊢; omega) ?_
      rw [List.filter_cons, if_neg (by rw [hb]; decide)] at q
      exact q
theorem lcM_map {α : Type} {φ : α → D} {f : α → D} {γ : TMG} {τe : TM} {ρ : Me} {P : List D → Hd → Prop} {h : Hd} (l : List α) (t : ∀ a ∈ l, ∀ (R1 : D → Hd → Prop), R1 (f a) h → γ (φ a) ρ fun ρ1 => τe ωF ρ1 h fun r h2 => R1 r.dat h2)
    (hl : l.length ≤ 16000) (q : P (l.map f) h) : lcM γ mYes τe ρ P (l.map φ) h [] :=
  lcM_pure (b := fun _ => true) l [] (fun a ha R1 R2 h1 _ => by
    have := t a ha R1 (h1 rfl)
    exact this) (by simpa using hl) (by rw [List.filter_eq_self.mpr (fun _ _ => rfl)]; exact q)
end ML
namespace ML
open PySem L2 DL
section
variable {P : Program} {w : World} {K : Fg} {mg : Str → Option Value} {base : Heap} {x m qual : Str} {st : Stmt} {f C : Addr} {fd : FuncData} {N ps : List Str} {k n : Nat}
theorem _root_.DL.At.fnM {g : FM} (A : At K mg x ps st f fd) (h : FnOk P w K mg base (L2.CX P w) k f fd ps (spM K n g)) : FnM P w K mg base x k n g := ⟨f, fd, ps, h, A.mg, A.fn.kp, A.bd⟩
structure AtM (K : Fg) (C : Addr) (m qual : Str) (ps : List Str) (st : Stmt) (f : Addr) (fd : FuncData) : Prop where
  fn : FunA K m qual st f fd
  cl : Cls K C
  me : Meth K C m f
  bd : Binds K fd ps []
theorem AtM.mth {g : FM} (A : AtM K C m qual ps st f fd) (h : FnOk P w K mg base (L2.CX P w) k f fd ps (spM K n g)) : MthM P w K mg base C m k n g := ⟨f, fd, ps, h, A.cl, A.me, A.bd⟩
structure AtI (K : Fg) (mg : Str → Option Value) (C : Addr) (x qual : Str) (ps : List Str) (st : Stmt) (f : Addr) (fd : FuncData) : Prop where
  fn : FunA K "__init__" qual st f fd
  mkC : Mk K C f
  nm : mg x = some (.ref C)
  bd : Binds K fd ps []
theorem AtI.mkM {g : FM} (A : AtI K mg C x qual ps st f fd) (h : FnOk P w K mg base (L2.CX P w) k f fd ps (spM K n g)) : MkM P w K mg base x C k n g := ⟨f, fd, ps, h, A.mkC, A.nm, A.bd⟩
def Le (h' h : Hd) : Prop := ∀ a o, h' a = some o → h a = some o
theorem Le.refl (h : Hd) : Le h h := fun _ _ q => q
theorem Le.trans {a b c : Hd} (x : Le a b) (y : Le b c) : Le a c := fun p o q => y p o (x p o q)
theorem RO.less {K : Fg} {H H' Hf' : Hp} {h' h'' : Hd} {v : V} {r : Res} (l : Le h'' h') (k : RO K H H' Hf' h' v r) : RO K H H' Hf' h'' v r := by
  cases r with
  | fz d => exact k
  | fr xs =>
    obtain ⟨a, ys, e1, e2, e3, e4, e5, e6⟩ := k
    refine ⟨a, ys, e1, e2, e3, ?_, e5, e6⟩
    cases z : h'' a with
    | none => rfl
    | some o => rw [l a o z] at e4; cases e4
theorem spM.less {g g' : FM} (i : ∀ ds h P E, g' ds h P E → g ds h (fun r h1 => ∃ h2, Le h2 h1 ∧ P r h2) (fun x h1 => ∃ h2, Le h2 h1 ∧ E x h2)) {vs : List V} {H : Hp} {Q : VK} {E : XK} (h : spM K n g' vs H Q E) : spM K n g vs H Q E := by
  obtain ⟨Hf, h, ds, P, PE, h1, h2, h3, h4, h5, h6⟩ := h
  refine ⟨Hf, h, ds, _, _, h1, h2, h3, i _ _ _ _ h4, fun v H' Hf' r h' s m ok ⟨h'', l, q⟩ => ?_, fun C d fs H' Hf' h' s m x ⟨h'', l, q⟩ => ?_⟩
  · exact h5 v H' Hf' r h'' (s.less l) (m.less l) (ok.less l) q
  · exact h6 C d fs H' Hf' h'' (s.less l) (m.less l) x q
theorem FnM.less {g g' : FM} (h : FnM P w K mg base x k n g) (i : ∀ ds h P E, g' ds h P E → g ds h (fun r h1 => ∃ h2, Le h2 h1 ∧ P r h2) (fun x h1 => ∃ h2, Le h2 h1 ∧ E x h2)) : FnM P w K mg base x k n g' := let ⟨f, fd, ps, a, b⟩ := h; ⟨f, fd, ps, a.imp fun vs H Q E q => q.less i, b⟩
theorem MthM.less {g g' : FM} (h : MthM P w K mg base C m k n g) (i : ∀ ds h P E, g' ds h P E → g ds h (fun r h1 => ∃ h2, Le h2 h1 ∧ P r h2) (fun x h1 => ∃ h2, Le h2 h1 ∧ E x h2)) : MthM P w K mg base C m k n g' := let ⟨f, fd, ps, a, b⟩ := h; ⟨f, fd, ps, a.imp fun vs H Q E q => q.less i, b⟩
end
section
variable {P : Program} {w : World} {K : Fg} {mg : Str → Option Value} {base : Heap} {x m : Str} {C : Addr} {k n : Nat} {g : FM}
end
theorem AtM.none {P : Program} {w : World} {K : Fg} {mg : Str → Option Value} {base : Heap} {C : Addr} {m qual : Str} {ps : List Str} {st : Stmt} {f : Addr} {fd : FuncData} {k n : Nat} {g : FM} (A : AtM K C m qual ps st f fd) (h : ∀ ds hd Q E, ¬ g ds hd Q E) : MthM P w K mg base C m k n g :=
  A.mth ⟨fun vs H Q E ⟨_, _, ds, P, PE, _, _, _, hg, _⟩ => absurd hg (h ds _ P PE), fun _ _ _ _ _ _ _ _ _ _ _ _ _ ⟨_, _, ds, P, PE, _, _, _, hg, _⟩ => absurd hg (h ds _ P PE)⟩
theorem _root_.DL.At.noneM {P : Program} {w : World} {K : Fg} {mg : Str → Option Value} {base : Heap} {x : Str} {ps : List Str} {st : Stmt} {f : Addr} {fd : FuncData} {k n : Nat} {g : FM} (A : At K mg x ps st f fd) (h : ∀ ds hd Q E, ¬ g ds hd Q E) : FnM P w K mg base x k n g :=
  A.fnM ⟨fun vs H Q E ⟨_, _, ds, P, PE, _, _, _, hg, _⟩ => absurd hg (h ds _ P PE), fun _ _ _ _ _ _ _ _ _ _ _ _ _ ⟨_, _, ds, P, PE, _, _, _, hg, _⟩ => absurd hg (h ds _ P PE)⟩
end ML
namespace ML
open PySem L2 DL
section
variable {X : Cx} {W : Wd} {pos p apos : Pos} {a b c e : Expr} {es : List Expr} {τa τb τc : TM} {τs : TMA} {k : Nat}
end
end ML
namespace ML
open PySem L2 DL
section
variable {X : Cx} {W : Wd} {x n : Str} {c : Value} {i : Nat} {body suite : List Stmt} {b0 : Stmt} {np pos pos' : Pos} {τb : TMS}
theorem ms_try' {τs : Addr → Addr → List (Str × D) → TMS} {Cs Ns : List Addr} (hcs : ∀ C ∈ Cs, PySem.W.exmOne X.K (.ref C) c = some true) (hns : ∀ C ∈ Ns, PySem.W.exmOne X.K (.ref C) c = some false) (hs : X.stack = X.env :: X.outer) (hf : X.env.frame = some X.env.locals) (hN : X.N.Nodup) (hi : X.N[i]? = some n) (hln : X.env.kindOf n = some .local) (hc : Names X x c) (tk : Takes X W.x)
    (hb : ∀ (W' : WX) (pn : List (Addr × Obj)) (xe : Value → Shared → Prop), Takes (X.tr pn xe) W' → PassesOwn (model X.prog X.w) X.A X.env xe → MSs (X.tr pn xe) ⟨W', W.g, W.mono⟩ body τb)
    (hsu : ∀ (a C : Addr) (oe : Obj) (d : Option Addr) (fs : List (Str × D)) (pn : List (Addr × Obj)), Zc (.ref C) d oe → (∃ vs, oe.data = .fields vs) → MSs (X.suite a ((a, oe) :: pn)) (WSu X.K d fs) (b0 :: suite) (τs a C fs)) :
    MS X W (.Try body [.ExceptHandler (some (.Name x np)) (some n) (b0 :: suite) pos'] [] [] pos) (mTry Cs Ns i τb fun a e => τs a e.C e.fs) := ms_try (τs := fun a e => τs a e.C e.fs) hcs hns hs hf hN hi hln hc tk hb hsu
end
end ML
namespace ML
open PySem PySem.W PySem.Spec PySem.Calls PyProof.Rows
section
variable {K : Frag} {D x : Addr} {ob : Obj} {od : Option Obj}
end
end ML
namespace ML
open PySem L2 DL
structure IsT (K : Fg) (C0 : Addr) (T : D → Bool → Prop) : Prop where
  ex : ExcC K C0
  an : ∀ d b, T d b → ∃ cv, (∀ H v, Rep K H v d → ∀ u, RelV v u → u = cv) ∧ PySem.W.kitOne K (.ref C0) cv = some b
theorem loop_step {ω : Wω} {γ : TMG} {τb : TMS} {PD : MEnds} {d : D} {ds : List D} {ρ : Me} {h : Hd} (q : γ d ρ fun ρ1 => τb ω { PD with nx := loopM ω γ τb PD ds, ct := loopM ω γ τb PD ds, bk := PD.nx } ρ1 h) : loopM ω γ τb PD (d :: ds) ρ h := by
  rw [loopM_cons]
  exact q
theorem loop_end {ω : Wω} {γ : TMG} {τb : TMS} {PD : MEnds} {ρ : Me} {h : Hd} (q : PD.nx ρ h) : loopM ω γ τb PD [] ρ h := by
  rw [loopM_nil]
  exact q
end ML
namespace L2
open PySem PySem.Spec PyProof.Rows
section
variable {X : Cx}
theorem ints_atJ : ∀ {us : List Value} {ks : List Int}, us.length = ks.length → (∀ (j : Nat) (v : Value), us[j]? = some v → ∃ (x : Int) (t : Tok), ks[j]? = some x ∧ v = Value.int x t) → IntsAre us ks
  | [], [], _, _ => .nil
  | u :: us, k :: ks, hl, h => by
    obtain ⟨x, t, e1, e2⟩ := h 0 u rfl
    have e1' : k = x := Option.some.inj e1
    subst e1'
    subst e2
    refine .cons _ _ (ints_atJ (by simpa using hl) fun j v e => ?_)
    obtain ⟨x, t, a, b⟩ := h (j + 1) v (by simpa using e)
    exact ⟨x, t, by simpa using a, b⟩
  | [], _ :: _, hl, _ => by simp at hl
  | _ :: _, [], hl, _ => by simp at hl
theorem call_sortedDJ (hcalm : X.calm = true) : CallR X (.builtin "sorted") (fun xs H Q => ∃ (a : Addr) (kvs : List (Key × V)) (ks : List Int), xs = [.ref a] ∧ Rd H a (.dK kvs) ∧ kvs.map (·.1) = ks.map Sum.inl ∧
    ∀ (ys : List Int) (p : Addr), ys.Perm ks → ys.Pairwise (· ≤ ·) → H p = none → Q (.ref p) (upd H p (.lst (ys.map V.int)))) := by
  intro pins s σ H xs us Q I r q
  obtain ⟨a, kvs, ks, ex, hd, hks, q⟩ := q
  subst ex
  obtain ⟨u, eu, rx⟩ := vals1 r
  subst eu
  cases rx
  obtain ⟨z, lo, vs, rel, dd⟩ := dk_rd I.hok hd
  obtain ⟨ep, hat⟩ := dd.dictAt
  have hkeys : vs.map (·.1) = ks.map Sum.inl := rel.keys.symm.trans hks
  have hl : vs.length = ks.length := by
    have e := congrArg List.length hkeys
    rw [List.length_map, List.length_map] at e
    exact e
  have h16 : vs.length ≤ sizeLine := by rw [← rel.length]; exact z
  refine Calls.call_function_entry PyProof.Rows.kind_sorted PyProof.Rows.plain_sorted PyProof.Rows.entry_sorted (PyProof.Rows.args_sorted1 _) ?_
  unfold Builtin.«sorted»
  refine wpAny_bind (m := checkCount "sorted" 1 1 _) (wpAny_pure ?_)
  refine wpAny_bind (PySem.W.kdu_collect (A := X.A.in1) (PySem.W.kdl_dict (knd := mixKind X.prog X.w) (kvs := vs) (ep := ep) lo) (I.ok.hd hcalm) hat h16 fun h' tk acc hk hacc => ?_)
  have hal : acc.toList.length = ks.length := by rw [Array.length_toList, hacc.1, hl]
  have hS : IntsAre acc.toList ks := ints_atJ hal fun j v e => by
    obtain ⟨k, x, e1, e2⟩ := hacc.2 j v (by rw [← Array.getElem?_toList]; exact e)
    have e3 : (vs.map (·.1))[j]? = some k := by rw [List.getElem?_map, e1]; all_goals rfl
    rw [hkeys, List.getElem?_map] at e3
    cases e4 : ks[j]? with
    | none => rw [e4] at e3; cases e3
    | some y =>
      rw [e4] at e3
      have e5 : Sum.inl y = k := Option.some.inj e3
      subst e5
      rcases keyIs_shape (show keyIs (Sum.inl y) v = true from e2) with ⟨i, t, ek, ev⟩ | ⟨z, t, ek, ev⟩
      · cases ek
        exact ⟨y, t, rfl, ev⟩
      · cases ek
  have I1 : Inv X pins σ H { s with heap := h', toks := tk } := I.kept hk
  have hz2 : acc.toList.length ≤ sizeLine := by rw [hal, ← hl]; exact h16
  refine wpAny_bind (wpAny_newList ?_ hz2)
  have hoL : (h'.push (seqObj "list" acc.toList.toArray 0)).get? h'.objs.size = some (seqObj "list" acc.toList.toArray 0) := Heap.get?_push_size _ rfl
  show wpAny _ _ _ _ _ { s with heap := h'.push (seqObj "list" acc.toList.toArray 0), toks := tk }
  refine wpAny_bind (wpAny_holding (wpAny_call_entry PyProof.Rows.slot_list_sort ⟨_, hoL, rfl⟩ PyProof.Rows.entry_list_sort
    (SrtO.list_sort_ord (s := { s with heap := h'.push (seqObj "list" acc.toList.toArray 0), toks := tk }) SrtO.swo_int hoL hz2 (fun h2 => SrtO.ints_sortable hS h2) fun out h1 h2 => ⟨_, rfl, ?_⟩)
    (PyProof.Rows.args_list_sort _)))
  obtain ⟨k1, k2, k3⟩ := SrtO.ints_out hS h1 h2
  obtain ⟨e', he'⟩ := PyProof.Rows.sortedHeap_at (vs := acc.toList) (out := out.toArray) hoL
  have hlen : ((out.map SrtO.iv).map V.int).length ≤ sizeLine := by
    rw [List.length_map, k2.length_eq, ← hl]
    exact h16
  refine wpAny_pure ⟨_, rfl, .ref h'.objs.size, upd H h'.objs.size (.lst ((out.map SrtO.iv).map V.int)), I1.laid (t' := tk) (fun b u e => ?_) (Nat.le_refl _)
    (show ObjOk X.prog X.w _ _ _ (.lst ((out.map SrtO.iv).map V.int)) from ⟨hlen, out, e', vals_of_ints k1, he'⟩), rfl, q _ _ k2 k3 (I1.hok.fresh (Nat.le_refl _))⟩
  have hb : b < h'.objs.size := Heap.lt_size e
  rw [PyProof.Rows.sortedHeap_old (Nat.ne_of_lt hb) (by rw [size_push']; exact Nat.lt_succ_of_lt hb)]
  exact Heap.get?_push_of_some _ e
theorem ps_setDc {i : Nat} {y : Str} {py : Pos} {kx vx tg iter : Expr} {ifs : List Expr} {scope : Scope} {own : List (Str × Nat)} {pos spos : Pos} {wi : TI} {g : TG} {tt : TT} {tk tv : TE} (hc : X.calm = true) (hN : X.N.Nodup) (hy : X.N[i]? = some y) (hyl : X.env.scope.names.lookup y = some .local)
    (hsw : swapsWith (.DictComp kx vx [⟨tg, iter, ifs, 0⟩] scope pos) (some (.Name y py)) spos.line X.env = pure true) (hi : PI X tg iter wi) (ok : BlkOk X.N X.env.scope scope own)
    (hg : ∀ (s : Shared) (H : Hp) (C : Addr) (cl : List (Str × Addr)) (fp : List Addr), PG (X.blk s H scope (compEnvC scope cl C X.env) fp) tg g) (ht : ∀ (s : Shared) (H : Hp) (C : Addr) (cl : List (Str × Addr)) (fp : List Addr), PTs (X.blk s H scope (compEnvC scope cl C X.env) fp) ifs tt)
    (hk : ∀ (s : Shared) (H : Hp) (C : Addr) (cl : List (Str × Addr)) (fp : List Addr), PE (X.blk s H scope (compEnvC scope cl C X.env) fp) kx tk)
    (he : ∀ (s : Shared) (H : Hp) (C : Addr) (cl : List (Str × Addr)) (fp : List Addr), PE (X.blk s H scope (compEnvC scope cl C X.env) fp) vx tv) (hs : ∀ x, foldedSetIterable iter X.env x = pure x := by intro _; rfl) :
    PS X (.Assign [.Name y py] (.DictComp kx vx [⟨tg, iter, ifs, 0⟩] scope pos) spos) (tAsg (tDc wi g tt tk tv (own.map (·.2))) (gName i)) := by
  refine ⟨fun pins s σ H D I h => ?_⟩
  rw [exec_Assign_Name_used _ _ _ _ hsw]
  refine wpAny_bind (wpAny_standAt (wpAny_bind ?_))
  show wpAny _ X.A (do let _ ← comprehension (.DictComp kx vx [⟨tg, iter, ifs, 0⟩] scope pos) scope X.env (firstIterPos [⟨tg, iter, ifs, 0⟩] pos) newDict false (eval iter X.env) (some (assign (.Name y py) X.env))) _ _ s
  have h : tDc wi g tt tk tv (own.map (·.2)) σ H (fun x H1 => gName i x σ H1 D.nx) := h
  refine wpAny_bind (thn (dc_core (Qf := fun _ s' => SP X pins D .next s') hc hN I hi ok hg ht hk he hs h fun L C s' m H' I' q hn f => ?_) fun _ s' hq => wpAny_pure (wpAny_pure hq))
  show wpAny _ _ (assign (.Name y py) X.env (.ref L)) _ _ _
  refine wpAny_assign_Name (store_ok2 (v := V.ref L) I' hN hy (.inl hyl) rfl (fun s2 I2 ⟨a, sb, ha⟩ => ?_) (.inr hyl))
  obtain ⟨f0, f1, f2, f3, f4, f5⟩ := f
  have haC : C ≠ a := by
    rcases ha with z | z
    · rw [z]; exact f1
    · exact fun e => f4 y a z e.symm
  refine ⟨m, hn.sameBut sb haC, fun h3 sb3 => ?_⟩
  exact ⟨_, H', I2.turned (t' := s2.toks) (fun b o hb e => (sb3.2 b hb).trans e) f0 f1 f3 f4 f5, q⟩
theorem sw_dict {kx vx : Expr} {gs : List Comprehension} {scope : Scope} {pos py : Pos} {y : Str} {l : Nat} {env : Env} (hk : env.scope.kind = .function) (hy : env.scope.names.lookup y = some .local) (hl : (py.line == pos.line) = true)
    (ha : (scope.names.any fun (n, k) => n == y && (k == .local || k == .cell)) = false) : swapsWith (.DictComp kx vx gs scope pos) (some (.Name y py)) l env = pure true := by
  have ky : env.kindOf y = some .local := hy
  have hb : env.blockKind = .function := by unfold Env.blockKind; rw [hk]; rfl
  unfold swapsWith
  simp only [hb, ky, ha, Expr.pos, hl]
  rfl
end
end L2
namespace ML
open PySem L2 DL
def keyD : D → Option Key
  | .int i => some (.inl i)
  | .str x => some (.inr x)
  | _ => none
theorem keyD_rep {K : Fg} {Hf : Hp} {v : V} {d : D} {k : Key} (h : keyD d = some k) (r : Rep K Hf v d) : v = kV k := by
  cases r <;> simp [keyD] at h <;> subst h <;> rfl
section
variable {κ : Type} [DecidableEq κ]
def valD (kvs : List (κ × D)) (k : κ) : Option D := match kvs with
  | [] => none
  | p :: r => if p.1 = k then some p.2 else valD r k
def putKD (kvs : List (κ × D)) (k : κ) (d : D) : List (κ × D) := if (kvs.any fun p => decide (p.1 = k)) = true then kvs.map fun p => if p.1 = k then (p.1, d) else p else kvs ++ [(k, d)]
theorem valD_any (kvs : List (κ × D)) (k : κ) : (kvs.any fun p => decide (p.1 = k)) = (valD kvs k).isSome := by
  induction kvs with
  | nil => rfl
  | cons p r ih =>
    by_cases h : p.1 = k
    · simp [valD, h]
    · simp [valD, h, ← ih]
theorem putKD_new {kvs : List (κ × D)} {k : κ} (d : D) (h : valD kvs k = none) : putKD kvs k d = kvs ++ [(k, d)] := by
  unfold putKD
  rw [valD_any, h]
  rfl
end
theorem RepK.one {K : Fg} {Hf : Hp} {p : Key × V} {r : List (Key × V)} {q : Key × D} {s : List (Key × D)} : RepK K Hf (p :: r) (q :: s) ↔ p.1 = q.1 ∧ Rep K Hf p.2 q.2 ∧ RepK K Hf r s := by
  constructor
  · rintro ⟨h1, h2⟩
    rw [List.map_cons, List.map_cons] at h1 h2
    injection h1 with h1 h3
    cases h2 with
    | cons a b => exact ⟨h1, a, h3, b⟩
  · rintro ⟨h1, h2, h3, h4⟩
    exact ⟨by rw [List.map_cons, List.map_cons, h1, h3], by rw [List.map_cons, List.map_cons]; exact .cons h2 h4⟩
theorem RepK.val {K : Fg} {Hf : Hp} (k : Key) : ∀ {kws : List (Key × V)} {kvs : List (Key × D)}, RepK K Hf kws kvs → (∀ d, valD kvs k = some d → ∃ v, valV kws k = some v ∧ Rep K Hf v d) ∧ (valD kvs k = none → valV kws k = none)
  | [], [], _ => ⟨fun d h => (nomatch h), fun _ => rfl⟩
  | [], q :: s, ⟨h, _⟩ => by simp at h
  | p :: r, [], ⟨h, _⟩ => by simp at h
  | p :: r, q :: s, h => by
    obtain ⟨h1, h2, h3⟩ := RepK.one.mp h
    by_cases e : q.1 = k
    · rw [valV_pos (h1.trans e), valD, if_pos e]
      exact ⟨fun d h => by cases h; exact ⟨p.2, rfl, h2⟩, fun h => by cases h⟩
    · rw [valV_neg (fun z => e (h1.symm.trans z)), valD, if_neg e]
      exact RepK.val k h3
theorem RepK.any {K : Fg} {Hf : Hp} (k : Key) {kws : List (Key × V)} {kvs : List (Key × D)} (h : RepK K Hf kws kvs) : (kws.any fun p => decide (p.1 = k)) = kvs.any fun p => decide (p.1 = k) := by
  have e : ∀ {α : Type} (l : List (Key × α)), (l.any fun p => decide (p.1 = k)) = (l.map (·.1)).any fun x => decide (x = k) := fun l => by rw [List.any_map]; rfl
  rw [e, e, h.1]
theorem RepK.repl {K : Fg} {Hf : Hp} {k : Key} {v : V} {d : D} (r0 : Rep K Hf v d) : ∀ {kws : List (Key × V)} {kvs : List (Key × D)}, RepK K Hf kws kvs → RepK K Hf (kws.map fun kv => if kv.1 = k then (kv.1, v) else kv) (kvs.map fun p => if p.1 = k then (p.1, d) else p)
  | [], [], h => h
  | [], q :: s, ⟨h, _⟩ => by simp at h
  | p :: r, [], ⟨h, _⟩ => by simp at h
  | p :: r, q :: s, h => by
    obtain ⟨h1, h2, h3⟩ := RepK.one.mp h
    rw [List.map_cons, List.map_cons]
    refine RepK.one.mpr ?_
    by_cases e : q.1 = k
    · rw [if_pos e, if_pos (h1.trans e)]
      exact ⟨h1, r0, RepK.repl r0 h3⟩
    · rw [if_neg e, if_neg (fun z => e (h1.symm.trans z))]
      exact ⟨h1, h2, RepK.repl r0 h3⟩
theorem RepK.put {K : Fg} {Hf : Hp} {k : Key} {v : V} {d : D} (r0 : Rep K Hf v d) {kws : List (Key × V)} {kvs : List (Key × D)} (h : RepK K Hf kws kvs) : RepK K Hf (putK kws k v) (putKD kvs k d) := by
  unfold putK putKD
  rw [h.any k]
  split
  · exact h.repl r0
  · exact ⟨by rw [List.map_append, List.map_append, h.1]; rfl, by rw [List.map_append, List.map_append]; exact h.2.append (.cons r0 .nil)⟩
theorem RepK.length {K : Fg} {Hf : Hp} {kws : List (Key × V)} {kvs : List (Key × D)} (h : RepK K Hf kws kvs) : kws.length = kvs.length := by
  have := congrArg List.length h.1
  rw [List.length_map, List.length_map] at this
  exact this
section
variable {X : Cx} {W : Wd} {pos pos' apos p : Pos} {a b o e f : Expr} {es : List Expr} {τa τb τo τe τk τx : TM} {τs : TMA} {k : Nat}
def mDNew : TM := fun ω ρ h P => ∀ a, h a = none → P (.fz (.raw (.ref a))) (put h a (.dic []))
theorem me_dnew : ME X W (.Dict [] [] pos) mDNew := ME.of pe_dnewK fun σ H Hf ρ h R P Q e q k p hp => by
  have s1 := e.hs.upd (a := p) (o := .dic []) (u := .dK []) (.inr hp) fun H' hq => ⟨[], hq, rfl, .nil⟩
  have m1 := Mo.upd (h := h) (H := H) (Hf := Hf) (a := p) (o := .dic []) (u := .dK []) (.inr hp)
  exact k _ _ Hf (.fz (.raw (.ref p))) _ (e.step s1 m1) m1 (Rep.raw _) (q p (e.hs.free hp))
theorem DGet_of {K : Fg} {H Hf : Hp} {h : Hd} (s : Hs K H Hf h) {a : Addr} {kvs : List (Key × D)} {k : Key} (e : h a = some (.dic kvs)) : (∀ d, valD kvs k = some d → ∃ v, DGet H a (kV k) (some v) ∧ Rep K Hf v d) ∧ (valD kvs k = none → DGet H a (kV k) none) := by
  obtain ⟨_, kws, z1, z2⟩ := s.hp a _ e
  obtain ⟨g1, g2⟩ := z2.val k
  refine ⟨fun d hd => ?_, fun hn => ?_⟩
  · obtain ⟨v, w1, w2⟩ := g1 d hd
    exact ⟨v, by rw [← w1]; exact .k z1, w2⟩
  · rw [← g2 hn]; exact .k z1
def mDGet (τo τk : TM) : TM := fun ω ρ h P => τo ω ρ h fun x h1 => τk ω ρ h1 fun y h2 => ∃ a kvs k d, x.dat = .raw (.ref a) ∧ h2 a = some (.dic kvs) ∧ keyD y.dat = some k ∧ valD kvs k = some d ∧ P (.fz d) h2
theorem me_dget (hr : Room k X.A) (ho : ME X W o τo) (hk : ME X W e τk) (hs : NoSl e) : ME X W (.Subscript o e pos) (mDGet τo τk) := by
  obtain ⟨t, po, so⟩ := ho.fz
  obtain ⟨t2, pk, sk⟩ := hk.fz
  have hu := hr.units
  refine ME.of (pe_dget (by omega) po pk hs) fun σ H Hf ρ h R P Q e q k => ?_
  refine so σ H Hf ρ h R (fun x h1 => τk R.ω ρ h1 fun y h2 => ∃ a kvs k d, x = .raw (.ref a) ∧ h2 a = some (.dic kvs) ∧ keyD y.dat = some k ∧ valD kvs k = some d ∧ P (.fz d) h2) _ e q fun x H1 Hf1 dx h1 e1 m1 r1 q1 => ?_
  refine sk σ H1 Hf1 ρ h1 R (fun y h2 => ∃ a kvs k d, dx = .raw (.ref a) ∧ h2 a = some (.dic kvs) ∧ keyD y = some k ∧ valD kvs k = some d ∧ P (.fz d) h2) _ e1 q1 fun y H2 Hf2 dy h2 e2 m2 r2 ⟨a, kvs, kk, d, g1, g2, g3, g4, g5⟩ => ?_
  subst g1
  cases r1
  obtain ⟨v, w1, w2⟩ := (DGet_of e2.hs g2).1 d g4
  rw [keyD_rep g3 r2]
  exact ⟨a, v, rfl, w1, k v H2 Hf2 (.fz d) h2 e2 (m1.trans m2) w2 g5⟩
def mDIn (neg : Bool) (τk τo : TM) : TM := fun ω ρ h P => τk ω ρ h fun y h1 => τo ω ρ h1 fun x h2 => ∃ a kvs k, x.dat = .raw (.ref a) ∧ h2 a = some (.dic kvs) ∧ keyD y.dat = some k ∧ P (.fz (.bl (neg != (valD kvs k).isSome))) h2
theorem din_run {K : Fg} {tk to : TE} (sk : SndF K W tk τk) (so : SndF K W to τo) : SndE K W (tDIn tk to) (mDIn false τk τo) ∧ SndE K W (tDNotIn tk to) (mDIn true τk τo) := by
  have key : ∀ neg : Bool, ∀ (σ : St) (H Hf : Hp) (ρ : Me) (h : Hd) (R : Rg) (P : Res → Hd → Prop) (Q : VK), RE K W R H Hf σ ρ h → mDIn neg τk τo R.ω ρ h P →
      (∀ v H' Hf' r h', RE K W R H' Hf' σ ρ h' → Mo h h' H H' Hf Hf' → RO K H H' Hf' h' v r → P r h' → Q v H') → tk σ H fun y H1 => to σ H1 fun x H2 => ∃ a o, x = .ref a ∧ DGet H2 a y o ∧ Q (.bl (neg != o.isSome)) H2 := by
    intro neg σ H Hf ρ h R P Q e q k
    refine sk σ H Hf ρ h R (fun y h1 => τo R.ω ρ h1 fun x h2 => ∃ a kvs k, x.dat = .raw (.ref a) ∧ h2 a = some (.dic kvs) ∧ keyD y = some k ∧ P (.fz (.bl (neg != (valD kvs k).isSome))) h2) _ e q fun y H1 Hf1 dy h1 e1 m1 r1 q1 => ?_
    refine so σ H1 Hf1 ρ h1 R (fun x h2 => ∃ a kvs k, x = .raw (.ref a) ∧ h2 a = some (.dic kvs) ∧ keyD dy = some k ∧ P (.fz (.bl (neg != (valD kvs k).isSome))) h2) _ e1 q1 fun x H2 Hf2 dx h2 e2 m2 r2 ⟨a, kvs, kk, g1, g2, g3, g5⟩ => ?_
    subst g1
    cases r2
    rw [keyD_rep g3 r1]
    have fin : ∀ b, b = (neg != (valD kvs kk).isSome) → Q (.bl b) H2 := fun b hb => by
      rw [← hb] at g5
      exact k _ H2 Hf2 (.fz (.bl b)) h2 e2 (m1.trans m2) (.bl _) g5
    cases hv : valD kvs kk with
    | none => exact ⟨a, none, rfl, (DGet_of e2.hs g2).2 hv, fin (neg != (none : Option V).isSome) (by rw [hv]; rfl)⟩
    | some d =>
      obtain ⟨v, w1, _⟩ := (DGet_of e2.hs g2).1 d hv
      exact ⟨a, some v, rfl, w1, fin (neg != (some v).isSome) (by rw [hv]; rfl)⟩
  refine ⟨fun σ H Hf ρ h R P Q e q k => ?_, fun σ H Hf ρ h R P Q e q k => ?_⟩
  · have z := key false σ H Hf ρ h R P Q e q k
    simp only [show ∀ b : Bool, (false != b) = b by decide] at z
    exact z
  · have z := key true σ H Hf ρ h R P Q e q k
    simp only [show ∀ b : Bool, (true != b) = !b by decide] at z
    exact z
theorem pcT {t : TE} {τ : TM} (s : SndE X.K W t τ) : SndT X.K W (L2.tB t) (mT τ) := fun σ H Hf ρ h R P Q e q k => s.fz σ H Hf ρ h R (fun d h' => ∃ b, d = .bl b ∧ P b h') _ e q fun v H' Hf' d h' e1 m1 r1 ⟨b, hb, p1⟩ => by
  subst hb
  exact ⟨b, r1.bl_inv, k b H' Hf' h' e1 m1 p1⟩
theorem mt_dnotin (hr : Room k X.A) (hk : ME X W a τk) (ho : ME X W b τo) (hm : behindInMarks .NotIn b = false := by rfl) : MT X W (.Compare a [.NotIn] [b] pos) (mT (mDIn true τk τo)) := by
  obtain ⟨t, po, so⟩ := ho.fz
  obtain ⟨t2, pk, sk⟩ := hk.fz
  have hu := hr.units
  exact MT.of (pt_cmp (pc_dnotin (by omega) pk po) hm) (pcT (din_run sk so).2)
def mDPut (τe τo τk : TM) : TMS := fun ω PD ρ h => τe ω ρ h fun r h1 => τo ω ρ h1 fun x h2 => τk ω ρ h2 fun y h3 => ∃ a kvs k, x.dat = .raw (.ref a) ∧ h3 a = some (.dic kvs) ∧ keyD y.dat = some k ∧ kvs.length < 16000 ∧ PD.nx ρ (put h3 a (.dic (putKD kvs k r.dat)))
theorem ms_dput {p2 : Pos} (hr : Room k X.A) (he : ME X W e τe) (ho : ME X W o τo) (hk : ME X W f τk) (hs : swapsWith e (some (.Subscript o f p2)) pos.line X.env = pure false := by rfl) : MS X W (.Assign [.Subscript o f p2] e pos) (mDPut τe τo τk) := by
  obtain ⟨t, pe, se⟩ := he.fz
  obtain ⟨t2, po, so⟩ := ho.fz
  obtain ⟨t3, pk, sk⟩ := hk.fz
  have hu := hr.units
  refine MS.of (ps_dput (by omega) po pk pe hs) fun D σ H Hf R ρ h PD s q l => ?_
  refine se σ H Hf ρ h R (fun r h1 => τo R.ω ρ h1 fun x h2 => τk R.ω ρ h2 fun y h3 => ∃ a kvs k, x.dat = .raw (.ref a) ∧ h3 a = some (.dic kvs) ∧ keyD y.dat = some k ∧ kvs.length < 16000 ∧ PD.nx ρ (put h3 a (.dic (putKD kvs k r)))) _ s q fun v H1 Hf1 d h1 e1 m1 r1 q1 => ?_
  refine so σ H1 Hf1 ρ h1 R (fun x h2 => τk R.ω ρ h2 fun y h3 => ∃ a kvs k, x = .raw (.ref a) ∧ h3 a = some (.dic kvs) ∧ keyD y.dat = some k ∧ kvs.length < 16000 ∧ PD.nx ρ (put h3 a (.dic (putKD kvs k d)))) _ e1 q1 fun x H2 Hf2 dx h2 e2 m2 r2 q2 => ?_
  refine sk σ H2 Hf2 ρ h2 R (fun y h3 => ∃ a kvs k, dx = .raw (.ref a) ∧ h3 a = some (.dic kvs) ∧ keyD y = some k ∧ kvs.length < 16000 ∧ PD.nx ρ (put h3 a (.dic (putKD kvs k d)))) _ e2 q2 fun y H3 Hf3 dy h3 e3 m3 r3 ⟨a, kvs, kk, g1, g2, g3, g4, g5⟩ => ?_
  subst g1
  cases r2
  obtain ⟨z0, kws, z1, z2⟩ := e3.hs.hp a _ g2
  rw [keyD_rep g3 r3]
  have hl : kws.length < sizeLine := by rw [z2.length]; exact Nat.lt_of_lt_of_le g4 (by decide)
  refine ⟨a, _, rfl, DPut.k z1 hl, ?_⟩
  have s4 := e3.hs.upd (a := a) (o := .dic (putKD kvs kk d)) (u := .dK (putK kws kk v)) (.inl ⟨_, g2⟩) fun H' hq => ⟨_, hq, z2.put ((r1.mono m2.grow).mono m3.grow)⟩
  exact l.nx σ _ Hf3 ρ _ (e3.step s4 (Mo.upd (.inl ⟨_, g2⟩))) g5
def mDSetd (τo τk τx : TM) : TM := fun ω ρ h P => τo ω ρ h fun x h1 => ∃ a kvs0, x.dat = .raw (.ref a) ∧ h1 a = some (.dic kvs0) ∧ τk ω ρ h1 fun y h2 => τx ω ρ h2 fun z h3 => ∃ kvs k, h3 a = some (.dic kvs) ∧ keyD y.dat = some k ∧ kvs.length < 16000 ∧
  (∀ d, valD kvs k = some d → P (.fz d) h3) ∧ (valD kvs k = none → P (.fz z.dat) (put h3 a (.dic (putKD kvs k z.dat))))
theorem me_dsetd {cpos : Pos} (ho : ME X W o τo) (hk : ME X W e τk) (hx : ME X W f τx) (m : M2 X o "setdefault" apos e f cpos := by exact ⟨rfl, rfl, rfl, rfl⟩) : ME X W (.Call (.Attribute o "setdefault" apos) [e, f] [] cpos) (mDSetd τo τk τx) := by
  obtain ⟨t, po, so⟩ := ho.fz
  obtain ⟨t2, pk, sk⟩ := hk.fz
  obtain ⟨t3, px, sx⟩ := hx.fz
  refine ME.of (pe_dsetd po pk px m) fun σ H Hf ρ h R P Q e q k => ?_
  refine so σ H Hf ρ h R (fun x h1 => ∃ a kvs0, x = .raw (.ref a) ∧ h1 a = some (.dic kvs0) ∧ τk R.ω ρ h1 fun y h2 => τx R.ω ρ h2 fun z h3 => ∃ kvs k, h3 a = some (.dic kvs) ∧ keyD y.dat = some k ∧ kvs.length < 16000 ∧ (∀ d, valD kvs k = some d → P (.fz d) h3) ∧ (valD kvs k = none → P (.fz z.dat) (put h3 a (.dic (putKD kvs k z.dat))))) _ e q fun x H1 Hf1 dx h1 e1 m1 r1 ⟨a, kvs0, g1, g2, q1⟩ => ?_
  subst g1
  cases r1
  obtain ⟨_, kws0, y1, _⟩ := e1.hs.hp a _ g2
  refine ⟨a, rfl, .inl ⟨_, .inl y1⟩, ?_⟩
  refine sk σ H1 Hf1 ρ h1 R (fun y h2 => τx R.ω ρ h2 fun z h3 => ∃ kvs k, h3 a = some (.dic kvs) ∧ keyD y = some k ∧ kvs.length < 16000 ∧ (∀ d, valD kvs k = some d → P (.fz d) h3) ∧ (valD kvs k = none → P (.fz z.dat) (put h3 a (.dic (putKD kvs k z.dat))))) _ e1 q1 fun y H2 Hf2 dy h2 e2 m2 r2 q2 => ?_
  refine sx σ H2 Hf2 ρ h2 R (fun z h3 => ∃ kvs k, h3 a = some (.dic kvs) ∧ keyD dy = some k ∧ kvs.length < 16000 ∧ (∀ d, valD kvs k = some d → P (.fz d) h3) ∧ (valD kvs k = none → P (.fz z) (put h3 a (.dic (putKD kvs k z))))) _ e2 q2 fun z H3 Hf3 dz h3 e3 m3 r3 ⟨kvs, kk, w1, w2, w3, w4, w5⟩ => ?_
  obtain ⟨z0, kws, z1, z2⟩ := e3.hs.hp a _ w1
  have m := (m1.trans m2).trans m3
  rw [keyD_rep w2 r2]
  refine ⟨kws, kk, z1, rfl, by rw [z2.length]; exact Nat.lt_of_lt_of_le w3 (by decide), fun v hv => ?_, fun hn => ?_⟩
  · cases hd : valD kvs kk with
    | none => rw [(z2.val kk).2 hd] at hv; cases hv
    | some d =>
      obtain ⟨v', u1, u2⟩ := (z2.val kk).1 d hd
      rw [hv] at u1
      cases u1
      exact k v H3 Hf3 (.fz d) h3 e3 m u2 (w4 d hd)
  · cases hd : valD kvs kk with
    | some d =>
      obtain ⟨v', u1, u2⟩ := (z2.val kk).1 d hd
      rw [hn] at u1; cases u1
    | none =>
      have s4 := e3.hs.upd (a := a) (o := .dic (putKD kvs kk dz)) (u := .dK (putK kws kk z)) (.inl ⟨_, w1⟩) fun H' hq => ⟨_, hq, z2.put r3⟩
      have m4 := Mo.upd (h := h3) (H := H3) (Hf := Hf3) (a := a) (o := .dic (putKD kvs kk dz)) (u := .dK (putK kws kk z)) (.inl ⟨_, w1⟩)
      exact k z _ Hf3 (.fz dz) _ (e3.step s4 m4) (m.trans m4) r3 (w5 hd)
end
end ML
namespace ML
open PySem L2 DL
def keyB : Key → D
  | .inl i => .int i
  | .inr x => .str x
theorem keyB_rep {K : Fg} {Hf : Hp} (k : Key) : Rep K Hf (kV k) (keyB k) := by
  cases k with
  | inl i => exact .int i
  | inr x => exact .str x
theorem keyBs_rep {K : Fg} {Hf : Hp} : ∀ {kws : List (Key × V)} {kvs : List (Key × D)}, kws.map (·.1) = kvs.map (·.1) → RepL K Hf (kws.map fun kv => kV kv.1) (kvs.map fun kv => keyB kv.1)
  | [], [], _ => .nil
  | [], _ :: _, h => by simp at h
  | _ :: _, [], h => by simp at h
  | p :: r, q :: s, h => by
    rw [List.map_cons, List.map_cons] at h ⊢
    injection h with h1 h2
    rw [h1]
    exact .cons (keyB_rep _) (keyBs_rep h2)
theorem repl_ints {K : Fg} {Hf : Hp} : ∀ ys : List Int, RepL K Hf (ys.map V.int) (ys.map D.int)
  | [] => .nil
  | y :: ys => .cons (.int y) (repl_ints ys)
section
variable {X : Cx} {W : Wd} {pos p : Pos} {e : Expr} {τs : TMA}
def mDList (τ : TMA) : TM := fun ω ρ h P => τ ω ρ h fun ds h1 => ∃ a kvs, ds = [.raw (.ref a)] ∧ h1 a = some (.dic kvs) ∧ P (.fr (kvs.map fun kv => keyB kv.1)) h1
def mDSort (τ : TMA) : TM := fun ω ρ h P => τ ω ρ h fun ds h1 => ∃ a kvs ks, ds = [.raw (.ref a)] ∧ h1 a = some (.dic kvs) ∧ kvs.map (·.1) = ks.map Sum.inl ∧ ∀ ys : List Int, ys.Perm ks → ys.Pairwise (· ≤ ·) → P (.fr (ys.map D.int)) h1
theorem new_fr {K : Fg} {R : Rg} {H Hf : Hp} {σ : St} {ρ : Me} {h : Hd} {q : Addr} {us : List V} {xs : List D} (e : RE K W R H Hf σ ρ h) (hq : H q = none) (r : RepL K Hf us xs) : RE K W R (upd H q (.lst us)) Hf σ ρ h ∧ Mo h h H (upd H q (.lst us)) Hf Hf ∧ RO K H (upd H q (.lst us)) Hf h (.ref q) (.fr xs) := by
  have x := Ext.add' e.hs.sub (.lst us) hq
  exact ⟨e.ext x, Mo.ext x, q, us, rfl, upd_same, e.hs.freeF hq, e.hs.free hq, hq, r⟩
theorem me_dlist (hc : X.calm = true) (hg : Gl X "list") (hm : X.mg "list" = none) (ha : MA X W [e] τs) (he : starEach [e] X.env = (false, eval e X.env) :: starEach [] X.env := by rfl) (hpl : (backTo pos (starEach [] X.env)).any (·.1) = false := by rfl) : ME X W (.Call (.Name "list" p) [e] [] pos) (mDList τs) := by
  refine ME.of (pe_callTy (call_listD hc) hg hm (by decide +kernel) ha.pa (he := he) (hpl := hpl)) fun σ H Hf ρ h R P Q e q k => ⟨R, Hf, ρ, h, _, e, q, fun vs H1 Hf1 ds h1 e1 m1 r1 _ ⟨a, kvs, g1, g2, g3⟩ => ?_⟩
  subst g1
  cases r1 with
  | cons ra rr =>
    cases ra
    cases rr
    obtain ⟨_, kws, z1, z2⟩ := e1.hs.hp a _ g2
    refine ⟨a, kws, rfl, .inl z1, fun q hq => ?_⟩
    obtain ⟨e2, m2, r2⟩ := new_fr e1 hq (keyBs_rep (K := X.K) (Hf := Hf1) z2.1)
    exact k _ _ Hf1 _ h1 e2 (m1.trans m2) (r2.back m1.live) g3
theorem me_dsort (hc : X.calm = true) (hg : Gl X "sorted") (hm : X.mg "sorted" = none) (ha : MA X W [e] τs) (he : starEach [e] X.env = (false, eval e X.env) :: starEach [] X.env := by rfl) (hpl : (backTo pos (starEach [] X.env)).any (·.1) = false := by rfl) : ME X W (.Call (.Name "sorted" p) [e] [] pos) (mDSort τs) := by
  refine ME.of (pe_callB (call_sortedDJ hc) hg hm (by decide +kernel) ha.pa (he := he) (hpl := hpl)) fun σ H Hf ρ h R P Q e q k => ⟨R, Hf, ρ, h, _, e, q, fun vs H1 Hf1 ds h1 e1 m1 r1 _ ⟨a, kvs, ks, g1, g2, g3, g4⟩ => ?_⟩
  subst g1
  cases r1 with
  | cons ra rr =>
    cases ra
    cases rr
    obtain ⟨_, kws, z1, z2⟩ := e1.hs.hp a _ g2
    refine ⟨a, kws, ks, rfl, .inl z1, z2.1.trans g3, fun ys q hp hs hq => ?_⟩
    obtain ⟨e2, m2, r2⟩ := new_fr e1 hq (repl_ints (K := X.K) (Hf := Hf1) ys)
    exact k _ _ Hf1 _ h1 e2 (m1.trans m2) (r2.back m1.live) (g4 ys hp hs)
end
def dcM (a : Addr) (γ : TMG) (τt : TMT) (τk τv : TM) (ρ : Me) (P : Hd → Prop) : List D → Hd → Prop
  | [], h => P h
  | d :: ds, h => γ d ρ fun ρ1 => τt ωF ρ1 h fun b h1 => if b = true then τk ωF ρ1 h1 fun y h2 => τv ωF ρ1 h2 fun z h3 => ∃ kvs k, h3 a = some (.dic kvs) ∧ keyD y.dat = some k ∧ kvs.length < 16000 ∧ dcM a γ τt τk τv ρ P ds (put h3 a (.dic (putKD kvs k z.dat))) else dcM a γ τt τk τv ρ P ds h1
theorem dcM_inv {a : Addr} {γ : TMG} {τt : TMT} {τk τv : TM} {ρ : Me} {P : Hd → Prop} (I : List D → Hd → Prop) : ∀ (ds : List D) (h : Hd), I ds h →
    (∀ d es h (R : Hd → Prop), I (d :: es) h → (∀ h', I es h' → R h') → γ d ρ fun ρ1 => τt ωF ρ1 h fun b h1 => if b = true then τk ωF ρ1 h1 fun y h2 => τv ωF ρ1 h2 fun z h3 => ∃ kvs k, h3 a = some (.dic kvs) ∧ keyD y.dat = some k ∧ kvs.length < 16000 ∧ R (put h3 a (.dic (putKD kvs k z.dat))) else R h1) →
    (∀ h, I [] h → P h) → dcM a γ τt τk τv ρ P ds h
  | [], h, i, _, q => q h i
  | d :: ds, h, i, t, q => t d ds h (fun h' => dcM a γ τt τk τv ρ P ds h') i fun h' i' => dcM_inv I ds h' i' t q
def mDc (τi : TMI) (γ : TMG) (τt : TMT) (τk τv : TM) (vs : List Nat) : TM := fun ω ρ h P => τi ω ρ h fun ds h1 => ∀ a, h1 a = none → dcM a γ τt τk τv (wipeM ρ vs) (fun h2 => P (.fz (.raw (.ref a))) h2) ds (put h1 a (.dic []))
section
variable {X : Cx} {W : Wd} {pos : Pos}
theorem dc_readingM {K : Fg} {vs is : List Nat} {τi : TMI} {γ : TMG} {τt : TMT} {τk τv : TM} (hv : ∀ i ∈ is, i ∈ vs) : SndE K W (tDc (canMI K W τi) (canMG K is γ) (canMT K WF τt) (canM K WF τk) (canM K WF τv) vs) (mDc τi γ τt τk τv vs) := fun σ H Hf ρ h R P Q e q k => by
  refine ⟨R, Hf, ρ, h, _, e, q, fun J H1 Hf1 ds h1 e1 m1 it p1 n hn => ?_⟩
  let R' : Rg := ⟨H1, Hf1, h1, ωF⟩
  have okF : ∀ cls d σ H, wishM K R' cls d σ H → WF.x cls d σ H := fun cls d σ H ⟨_, _, _, _, _, _, _, _, _, _, z⟩ => z
  have s0 := e1.hs.upd (a := n) (o := .dic []) (u := .dK []) (.inr hn) fun H' hq => ⟨[], hq, rfl, .nil⟩
  have m0 := Mo.upd (h := h1) (H := H1) (Hf := Hf1) (a := n) (o := .dic []) (u := .dK []) (.inr hn)
  refine ⟨fun i m H' => ∃ Hf' h', Hs K H' Hf' h' ∧ Mo h1 h' H1 H' Hf1 Hf' ∧ dcM n γ τt τk τv (wipeM ρ vs) (fun h2 => P (.fz (.raw (.ref n))) h2) (ds.drop i) h' ∧ m = ds.length - i ∧ i ≤ ds.length,
    ⟨ds.length, Hf1, _, s0, m0, by rw [List.drop_zero]; exact p1 n (e1.hs.free hn), by omega, Nat.zero_le _⟩, ?_⟩
  rintro i m H2 ⟨Hf2, h2, s2, m2, q2, hm, hil⟩
  by_cases hlt : i < ds.length
  · have hd : ds[i]? = some ds[i] := List.getElem?_eq_getElem hlt
    obtain ⟨go, yl⟩ := it.item i ds[i] H2 Hf2 s2.sub m2.grow hd
    rw [List.drop_eq_getElem_cons hlt] at q2
    refine .inr ⟨go, fun H' => ∃ Hf' h', Hs K H' Hf' h' ∧ Mo h1 h' H1 H' Hf1 Hf' ∧ dcM n γ τt τk τv (wipeM ρ vs) (fun h2 => P (.fz (.raw (.ref n))) h2) (ds.drop (i + 1)) h', fun H' ⟨a1, a2, b1, b2, b3⟩ => ⟨ds.length - (i + 1), by omega, a1, a2, b1, b2, b3, rfl, hlt⟩, fun x H3 y => ?_⟩
    obtain ⟨Hf3, x3, r3⟩ := yl x H3 y
    refine ⟨Hf3, wipeM ρ vs, ds[i], _, x3.sub, ((e1.sl.mono m2.grow).mono x3.grow).wipe vs, r3, q2, fun σ4 H4 Hf4 ρ4 e4 x4 t4 p4 => ?_⟩
    refine ⟨wipe_eq (by rw [t4.len, wipe_length]) fun j hj => ((t4.sl j fun z => hj (hv j z)).1).trans (wipe_out σ hj), ?_⟩
    have x34 := x3.trans x4
    have s4 := s2.ext x34
    have m4 : Mo h1 h2 H1 H4 Hf1 Hf4 := m2.trans (Mo.ext x34)
    refine ⟨R', Hf4, ρ4, h2, _, ⟨okF, trivial, e4, s4, m4⟩, p4, fun b H5 Hf5 h5 e5 m5 p5 => ?_⟩
    cases b with
    | false => exact ⟨Hf5, h5, e5.hs, m4.trans m5, p5⟩
    | true =>
      refine ⟨R', Hf5, ρ4, h5, _, e5, p5, fun y H6 Hf6 r h6 e6 m6 r6 p6 => ?_⟩
      obtain ⟨Hf7, s7, m7, r7⟩ := r6.freeze e6.hs m6
      have e7 : RE K WF R' H6 Hf7 σ4 ρ4 h6 := e5.step s7 m7
      refine ⟨R', Hf7, ρ4, h6, _, e7, p6, fun z H8 Hf8 r8 h8 e8 m8 o8 ⟨kvs, kk, g1, g2, g3, g4⟩ => ?_⟩
      obtain ⟨Hf9, s9, m9, r9⟩ := o8.freeze e8.hs m8
      obtain ⟨_, kws, z1, z2⟩ := s9.hp n _ g1
      have hl : kws.length < sizeLine := by rw [z2.length]; exact Nat.lt_of_lt_of_le g3 (by decide)
      have s10 := s9.upd (a := n) (o := .dic (putKD kvs kk r8.dat)) (u := .dK (putK kws kk z)) (.inl ⟨_, g1⟩) fun H' hq => ⟨_, hq, z2.put r9⟩
      have m10 := Mo.upd (h := h8) (H := H8) (Hf := Hf9) (a := n) (o := .dic (putKD kvs kk r8.dat)) (u := .dK (putK kws kk z)) (.inl ⟨_, g1⟩)
      exact ⟨kws, kk, keyD_rep g2 r7, z1, hl, Hf9, _, s10, (((m4.trans m5).trans m7).trans m9).trans m10, g4⟩
  · have ei : i = ds.length := by omega
    subst ei
    rw [List.drop_length] at q2
    exact .inl ⟨it.stop _ H2 Hf2 s2.sub m2.grow (Nat.le_refl _) (Nat.le_refl _), k _ H2 Hf2 (.fz (.raw (.ref n))) h2 (e1.step s2 m2) (m1.trans m2) (Rep.raw _) q2⟩
theorem ms_setDc {i : Nat} {y : Str} {py : Pos} {kx vx tg iter : Expr} {ifs : List Expr} {scope : Scope} {own : List (Str × Nat)} {is : List Nat} {spos : Pos} {τi : TMI} {γ : TMG} {τt : TMT} {τk τv : TM} (hc : X.calm = true) (hN : X.N.Nodup) (hy : X.N[i]? = some y) (hyl : X.env.scope.names.lookup y = some .local)
    (hsw : swapsWith (.DictComp kx vx [⟨tg, iter, ifs, 0⟩] scope pos) (some (.Name y py)) spos.line X.env = pure true) (hi : MI X W tg iter τi) (ok : BlkOk X.N X.env.scope scope own)
    (hg : ∀ (s : Shared) (H : Hp) (C : Addr) (cl : List (Str × Addr)) (fp : List Addr), MG (X.blk s H scope (compEnvC scope cl C X.env) fp) tg is γ) (ht : ∀ (s : Shared) (H : Hp) (C : Addr) (cl : List (Str × Addr)) (fp : List Addr), MTs (X.blk s H scope (compEnvC scope cl C X.env) fp) WF ifs τt)
    (hk : ∀ (s : Shared) (H : Hp) (C : Addr) (cl : List (Str × Addr)) (fp : List Addr), ME (X.blk s H scope (compEnvC scope cl C X.env) fp) WF kx τk)
    (he : ∀ (s : Shared) (H : Hp) (C : Addr) (cl : List (Str × Addr)) (fp : List Addr), ME (X.blk s H scope (compEnvC scope cl C X.env) fp) WF vx τv) (hv : ∀ i ∈ is, i ∈ own.map (·.2) := by decide) (hs : ∀ x, foldedSetIterable iter X.env x = pure x := by intro _; rfl) :
    MS X W (.Assign [.Name y py] (.DictComp kx vx [⟨tg, iter, ifs, 0⟩] scope pos) spos) (mSet i (mDc τi γ τt τk τv (own.map (·.2)))) :=
  MS.of (ps_setDc hc hN hy hyl hsw hi.pi ok (fun s H C cl fp => (hg s H C cl fp).pg) (fun s H C cl fp => (ht s H C cl fp).pts) (fun s H C cl fp => (hk s H C cl fp).pe) (fun s H C cl fp => (he s H C cl fp).pe) hs) fun D σ H Hf R ρ h PD s q l =>
    (dc_readingM hv).fz σ H Hf ρ h R (fun d h1 => PD.nx (ρ.set i (some d)) h1) _ s q fun v H1 Hf1 d h1 e1 m1 r1 p1 => l.nx _ H1 Hf1 _ h1 (e1.set i r1) p1
end
end ML
namespace ML
open PySem L2 DL
def lc2M (γ : TMG) (τt : TMT) (τi1 : TMI) (γ1 : TMG) (τt1 : TMT) (τe : TM) (vs1 : List Nat) (ρ : Me) (P : List D → Hd → Prop) : List D → Hd → List D → Prop
  | [], h, acc => P acc h
  | d :: ds, h, acc => γ d ρ fun ρ1 => τt ωF ρ1 h fun b h1 => if b = true then τi1 ωF ρ1 h1 fun es h2 => lcM γ1 τt1 τe (wipeM ρ1 vs1) (fun acc' h3 => lc2M γ τt τi1 γ1 τt1 τe vs1 ρ P ds h3 acc') es h2 acc else lc2M γ τt τi1 γ1 τt1 τe vs1 ρ P ds h1 acc
def mLc2 (τi : TMI) (γ : TMG) (τt : TMT) (τi1 : TMI) (γ1 : TMG) (τt1 : TMT) (τe : TM) (vs vs1 : List Nat) : TM := fun ω ρ h P => τi ω ρ h fun ds h1 => lc2M γ τt τi1 γ1 τt1 τe vs1 (wipeM ρ vs) (fun acc h2 => P (.fr acc) h2) ds h1 []
section
variable {X : Cx} {W : Wd} {pos : Pos}
theorem lc2_readingM {K : Fg} {vs vs1 is is1 : List Nat} {τi τi1 : TMI} {γ γ1 : TMG} {τt τt1 : TMT} {τe : TM} (hv : ∀ i ∈ is, i ∈ vs) (hv1 : ∀ i ∈ is1, i ∈ vs1) :
    SndE K W (tLc2 (canMI K W τi) (canMG K is γ) (canMT K WF τt) (canMI K WF τi1) (canMG K is1 γ1) (canMT K WF τt1) (canM K WF τe) vs vs1) (mLc2 τi γ τt τi1 γ1 τt1 τe vs vs1) := fun σ H Hf ρ h R P Q e q k => by
  refine ⟨R, Hf, ρ, h, _, e, q, fun J H1 Hf1 ds h1 e1 m1 it p1 n hn => ?_⟩
  have x0 := Ext.add' e1.hs.sub (.lst []) hn
  let R' : Rg := ⟨H1, Hf1, h1, ωF⟩
  have okF : ∀ cls d σ H, wishM K R' cls d σ H → WF.x cls d σ H := fun cls d σ H ⟨_, _, _, _, _, _, _, _, _, _, z⟩ => z
  refine ⟨fun i m H' => ∃ Hf' h' accV acc, Hs K H' Hf' h' ∧ Mo h1 h' H1 H' Hf1 Hf' ∧ H' n = some (.lst accV) ∧ Hf' n = none ∧ h' n = none ∧ RepL K Hf' accV acc ∧ lc2M γ τt τi1 γ1 τt1 τe vs1 (wipeM ρ vs) (fun acc h2 => P (.fr acc) h2) (ds.drop i) h' acc ∧ m = ds.length - i ∧ i ≤ ds.length,
    ⟨ds.length, Hf1, h1, [], [], e1.hs.ext x0, Mo.ext x0, upd_same, e1.hs.freeF hn, e1.hs.free hn, .nil, by rw [List.drop_zero]; exact p1, by omega, Nat.zero_le _⟩, ?_⟩
  rintro i m H2 ⟨Hf2, h2, accV, acc, s2, m2, hD, fD, oD, rD, q2, hm, hil⟩
  by_cases hlt : i < ds.length
  · have hd : ds[i]? = some ds[i] := List.getElem?_eq_getElem hlt
    obtain ⟨go, yl⟩ := it.item i ds[i] H2 Hf2 s2.sub m2.grow hd
    rw [List.drop_eq_getElem_cons hlt] at q2
    refine .inr ⟨go, fun H' => ∃ Hf' h' accV acc, Hs K H' Hf' h' ∧ Mo h1 h' H1 H' Hf1 Hf' ∧ H' n = some (.lst accV) ∧ Hf' n = none ∧ h' n = none ∧ RepL K Hf' accV acc ∧ lc2M γ τt τi1 γ1 τt1 τe vs1 (wipeM ρ vs) (fun acc h2 => P (.fr acc) h2) (ds.drop (i + 1)) h' acc, fun H' ⟨a1, a2, a3, a4, b1, b2, b3, b4, b5, b6, b7⟩ => ⟨ds.length - (i + 1), by omega, a1, a2, a3, a4, b1, b2, b3, b4, b5, b6, b7, rfl, hlt⟩, fun x H3 y => ?_⟩
    obtain ⟨Hf3, x3, r3⟩ := yl x H3 y
    refine ⟨Hf3, wipeM ρ vs, ds[i], _, x3.sub, ((e1.sl.mono m2.grow).mono x3.grow).wipe vs, r3, q2, fun σ4 H4 Hf4 ρ4 e4 x4 t4 p4 => ?_⟩
    refine ⟨wipe_eq (by rw [t4.len, wipe_length]) fun j hj => ((t4.sl j fun z => hj (hv j z)).1).trans (wipe_out σ hj), ?_⟩
    have x34 := x3.trans x4
    have s4 := s2.ext x34
    have m4 : Mo h1 h2 H1 H4 Hf1 Hf4 := m2.trans (Mo.ext x34)
    obtain ⟨d4, f4, o4⟩ := (Mo.ext (h := h2) x34).apart hD fD oD
    have rD4 : RepL K Hf4 accV acc := rD.mono fun b o z => x34.grow b o z
    refine ⟨R', Hf4, ρ4, h2, _, ⟨okF, trivial, e4, s4, m4⟩, p4, fun b H5 Hf5 h5 e5 m5 p5 => ?_⟩
    obtain ⟨d5, f5, o5⟩ := m5.apart d4 f4 o4
    have rD5 : RepL K Hf5 accV acc := rD4.mono m5.grow
    have m15 := m4.trans m5
    cases b with
    | false => exact ⟨Hf5, h5, accV, acc, e5.hs, m15, d5, f5, o5, rD5, p5⟩
    | true =>
      refine ⟨R', Hf5, ρ4, h5, _, e5, p5, fun J1 H6 Hf6 es h6 e6 m6 it1 p6 => ?_⟩
      obtain ⟨d6, f6, o6⟩ := m6.apart d5 f5 o5
      have rD6 : RepL K Hf6 accV acc := rD5.mono m6.grow
      have m16 := m15.trans m6
      refine ⟨fun j kk H' => ∃ Hf' h' accV acc, Hs K H' Hf' h' ∧ Mo h1 h' H1 H' Hf1 Hf' ∧ (∀ b o, Hf6 b = some o → Hf' b = some o) ∧ H' n = some (.lst accV) ∧ Hf' n = none ∧ h' n = none ∧ RepL K Hf' accV acc ∧ lcM γ1 τt1 τe (wipeM ρ4 vs1) (fun acc' h3 => lc2M γ τt τi1 γ1 τt1 τe vs1 (wipeM ρ vs) (fun acc h2 => P (.fr acc) h2) (ds.drop (i + 1)) h3 acc') (es.drop j) h' acc ∧ kk = es.length - j ∧ j ≤ es.length,
        ⟨es.length, Hf6, h6, accV, acc, e6.hs, m16, fun _ _ z => z, d6, f6, o6, rD6, by rw [List.drop_zero]; exact p6, by omega, Nat.zero_le _⟩, ?_⟩
      rintro j kk H7 ⟨Hf7, h7, accV, acc, s7, m7, g7, d7, f7, o7, rD7, q7, hk, hjl⟩
      by_cases hlt1 : j < es.length
      · have hd1 : es[j]? = some es[j] := List.getElem?_eq_getElem hlt1
        obtain ⟨go1, yl1⟩ := it1.item j es[j] H7 Hf7 s7.sub g7 hd1
        rw [List.drop_eq_getElem_cons hlt1, lcM_cons] at q7
        refine .inr ⟨go1, fun H' => ∃ Hf' h' accV acc, Hs K H' Hf' h' ∧ Mo h1 h' H1 H' Hf1 Hf' ∧ (∀ b o, Hf6 b = some o → Hf' b = some o) ∧ H' n = some (.lst accV) ∧ Hf' n = none ∧ h' n = none ∧ RepL K Hf' accV acc ∧ lcM γ1 τt1 τe (wipeM ρ4 vs1) (fun acc' h3 => lc2M γ τt τi1 γ1 τt1 τe vs1 (wipeM ρ vs) (fun acc h2 => P (.fr acc) h2) (ds.drop (i + 1)) h3 acc') (es.drop (j + 1)) h' acc, fun H' ⟨a1, a2, a3, a4, b1, b2, b3, b4, b5, b6, b7, b8⟩ => ⟨es.length - (j + 1), by omega, a1, a2, a3, a4, b1, b2, b3, b4, b5, b6, b7, b8, rfl, hlt1⟩, fun x H8 y => ?_⟩
        obtain ⟨Hf8, x8, r8⟩ := yl1 x H8 y
        refine ⟨Hf8, wipeM ρ4 vs1, es[j], _, x8.sub, ((e6.sl.mono g7).mono x8.grow).wipe vs1, r8, q7, fun σ9 H9 Hf9 ρ9 e9 x9 t9 p9 => ?_⟩
        refine ⟨wipe_eq (by rw [t9.len, wipe_length]) fun j hj => ((t9.sl j fun z => hj (hv1 j z)).1).trans (wipe_out σ4 hj), ?_⟩
        have x89 := x8.trans x9
        have s9 := s7.ext x89
        have m9 : Mo h1 h7 H1 H9 Hf1 Hf9 := m7.trans (Mo.ext x89)
        obtain ⟨d9, f9, o9⟩ := (Mo.ext (h := h7) x89).apart d7 f7 o7
        have g9 : ∀ b o, Hf6 b = some o → Hf9 b = some o := fun b o z => x89.grow b o (g7 b o z)
        refine ⟨R', Hf9, ρ9, h7, _, ⟨okF, trivial, e9, s9, m9⟩, p9, fun b H10 Hf10 h10 e10 m10 p10 => ?_⟩
        obtain ⟨d10, f10, o10⟩ := m10.apart d9 f9 o9
        have rD10 : RepL K Hf10 accV acc := rD7.mono fun b o z => m10.grow b o (x89.grow b o z)
        cases b with
        | false => exact ⟨Hf10, h10, accV, acc, e10.hs, m9.trans m10, fun b o z => m10.grow b o (g9 b o z), d10, f10, o10, rD10, p10⟩
        | true =>
          refine ⟨R', Hf10, ρ9, h10, _, e10, p10, fun y H11 Hf11 r h11 e11 m11 r11 ⟨hz, p11⟩ => ?_⟩
          obtain ⟨Hf12, s12, m12, r12⟩ := r11.freeze e11.hs m11
          obtain ⟨d12, f12, o12⟩ := m12.apart d10 f10 o10
          have rD12 : RepL K Hf12 accV acc := rD10.mono m12.grow
          refine ⟨accV, d12, by rw [rD12.length]; exact Nat.lt_of_lt_of_le hz (by decide), ?_⟩
          have m13 := (m9.trans m10).trans m12
          refine ⟨Hf12, h11, accV ++ [y], acc ++ [r.dat], s12.aside f12 o12, ⟨fun b o z hb => ?_, fun b z => ?_, m13.grow, m13.new, m13.own⟩, fun b o z => m12.grow b o (m10.grow b o (g9 b o z)), upd_same, f12, o12, rD12.append (.cons r12 .nil), p11⟩
          · rw [upd_ne (ne_of_none z hn)]
            exact m13.keep b o z hb
          · by_cases hb : b = n
            · subst hb; exact hn
            · rw [upd_ne hb] at z; exact m13.live b z
      · have ej : j = es.length := by omega
        subst ej
        rw [List.drop_length, lcM_nil] at q7
        exact .inl ⟨it1.stop _ H7 Hf7 s7.sub g7 (Nat.le_refl _) (Nat.le_refl _), Hf7, h7, accV, acc, s7, m7, d7, f7, o7, rD7, q7⟩
  · have ei : i = ds.length := by omega
    subst ei
    rw [List.drop_length] at q2
    exact .inl ⟨it.stop _ H2 Hf2 s2.sub m2.grow (Nat.le_refl _) (Nat.le_refl _), k _ H2 Hf2 (.fr acc) h2 (e1.step s2 m2) (m1.trans m2) ⟨n, accV, rfl, hD, fD, oD, m1.live n hn, rD⟩ q2⟩
theorem ms_setLc2 {i : Nat} {y : Str} {py : Pos} {elt tg iter tg1 iter1 : Expr} {ifs ifs1 : List Expr} {scope : Scope} {own : List (Str × Nat)} {vs1 is is1 : List Nat} {spos : Pos} {τi τi1 : TMI} {γ γ1 : TMG} {τt τt1 : TMT} {τe : TM} (hc : X.calm = true) (hN : X.N.Nodup) (hy : X.N[i]? = some y) (hyl : X.env.scope.names.lookup y = some .local)
    (hsw : swapsWith (.ListComp elt [⟨tg, iter, ifs, 0⟩, ⟨tg1, iter1, ifs1, 0⟩] scope pos) (some (.Name y py)) spos.line X.env = pure true) (hi : MI X W tg iter τi) (ok : BlkOk X.N X.env.scope scope own)
    (hg : ∀ (s : Shared) (H : Hp) (C : Addr) (cl : List (Str × Addr)) (fp : List Addr), MG (X.blk s H scope (compEnvC scope cl C X.env) fp) tg is γ) (ht : ∀ (s : Shared) (H : Hp) (C : Addr) (cl : List (Str × Addr)) (fp : List Addr), MTs (X.blk s H scope (compEnvC scope cl C X.env) fp) WF ifs τt)
    (hi1 : ∀ (s : Shared) (H : Hp) (C : Addr) (cl : List (Str × Addr)) (fp : List Addr), MI (X.blk s H scope (compEnvC scope cl C X.env) fp) WF tg1 iter1 τi1)
    (hg1 : ∀ (s : Shared) (H : Hp) (C : Addr) (cl : List (Str × Addr)) (fp : List Addr), MG (X.blk s H scope (compEnvC scope cl C X.env) fp) tg1 is1 γ1) (ht1 : ∀ (s : Shared) (H : Hp) (C : Addr) (cl : List (Str × Addr)) (fp : List Addr), MTs (X.blk s H scope (compEnvC scope cl C X.env) fp) WF ifs1 τt1)
    (he : ∀ (s : Shared) (H : Hp) (C : Addr) (cl : List (Str × Addr)) (fp : List Addr), ME (X.blk s H scope (compEnvC scope cl C X.env) fp) WF elt τe) (hvv : ∀ i ∈ vs1, i ∈ own.map (·.2) := by decide) (hv : ∀ i ∈ is, i ∈ own.map (·.2) := by decide) (hv1 : ∀ i ∈ is1, i ∈ vs1 := by decide)
    (hs : ∀ x, foldedSetIterable iter X.env x = pure x := by intro _; rfl) (hs1 : ∀ env x, foldedSetIterable iter1 env x = pure x := by intro _ _; rfl) :
    MS X W (.Assign [.Name y py] (.ListComp elt [⟨tg, iter, ifs, 0⟩, ⟨tg1, iter1, ifs1, 0⟩] scope pos) spos) (mSet i (mLc2 τi γ τt τi1 γ1 τt1 τe (own.map (·.2)) vs1)) :=
  MS.of (ps_setLc2 hc hN hy hyl hsw hi.pi ok hvv (fun s H C cl fp => (hg s H C cl fp).pg) (fun s H C cl fp => (ht s H C cl fp).pts) (fun s H C cl fp => (hi1 s H C cl fp).pi) (fun s H C cl fp => (hg1 s H C cl fp).pg) (fun s H C cl fp => (ht1 s H C cl fp).pts) (fun s H C cl fp => (he s H C cl fp).pe) hs hs1) fun D σ H Hf R ρ h PD s q l =>
    (lc2_readingM hv hv1).fz σ H Hf ρ h R (fun d h1 => PD.nx (ρ.set i (some d)) h1) _ s q fun v H1 Hf1 d h1 e1 m1 r1 p1 => l.nx _ H1 Hf1 _ h1 (e1.set i r1) p1
end
end ML
namespace L2
open PySem PySem.Spec PyProof.Rows
inductive Sc where
  | l (a : Addr) | t (a : Addr) | s (z : Str)
def Sc.v : Sc → V
  | .l a => .ref a
  | .t a => .ref a
  | .s z => .str z
def Sc.has (K : PySem.W.Frag) (H : Hp) : Sc → List V → Prop
  | .l a, xs => SqL K H a xs
  | .t a, xs => SqT K H a xs
  | .s z, xs => xs = z.cps.toList.map fun c => V.str ⟨#[c]⟩
def Sc.at (it : Addr) (i : Nat) (h : Heap) : Sc → Prop
  | .l a => h.IsListIter it a i
  | .t a => h.IsTupleIter it a i
  | .s z => ∃ t, h.IsStrIter it (strIterType z) z t i
def Sc.ne (x : Addr) : Sc → Prop
  | .l a => a ≠ x
  | .t a => a ≠ x
  | .s _ => True
def Sc.cells (it : Addr) : Sc → List Addr
  | .l a => [it, a]
  | .t a => [it, a]
  | .s _ => [it]
theorem Sc.at_keep {sc : Sc} {it : Addr} {i : Nat} {h h' : Heap} (x : sc.at it i h) (k : ∀ o, h.get? it = some o → h'.get? it = some o) : sc.at it i h' := by
  cases sc with
  | l a => exact Heap.IsListIter.at x k
  | t a => exact Heap.IsTupleIter.at x k
  | s z => obtain ⟨t, x⟩ := x; obtain ⟨o, ho, r⟩ := x; exact ⟨t, o, k o ho, r⟩
theorem Sc.at_obj {sc : Sc} {it : Addr} {i : Nat} {h : Heap} (x : sc.at it i h) : ∃ o, h.get? it = some o ∧ ∀ v, o.data ≠ .cell v := by
  cases sc with
  | l a => obtain ⟨o, ho, _, hd⟩ := x; exact ⟨o, ho, fun v q => by rw [hd] at q; cases q⟩
  | t a => obtain ⟨o, ho, _, hd⟩ := x; exact ⟨o, ho, fun v q => by rw [hd] at q; cases q⟩
  | s z => obtain ⟨t, o, ho, _, hd⟩ := x; exact ⟨o, ho, fun v q => by rw [hd] at q; cases q⟩
theorem Sc.inj {X : Cx} {pins : List (Addr × Obj)} {σ : St} {H : Hp} {s : Shared} (I : Inv X pins σ H s) {sc : Sc} {xs ys : List V} (h : sc.has X.K H xs) (h' : sc.has X.K H ys) : xs = ys := by
  cases sc with
  | l a => exact I.list_inj h h'
  | t a => exact I.tuple_inj h h'
  | s z => exact h.trans h'.symm
theorem Sc.draw {X : Cx} {pins : List (Addr × Obj)} {σ : St} {H : Hp} {s : Shared} {A : Around} (I : Inv X pins σ H s) {sc : Sc} {xs : List V} (hh : A.handled = none) (hx : sc.has X.K H xs) {it : Addr} {i : Nat} (hit : sc.at it i s.heap) (hne : sc.ne it) :
    ∃ P St, Draws X.prog X.w A it (sc.cells it) xs.length P St ∧ St i s.heap ∧ (∀ j u, P j u → ∃ x, xs[j]? = some x ∧ RelV x u) ∧ ∀ j h', St j h' → sc.at it j h' := by
  cases sc with
  | l a =>
    obtain ⟨its, rv, p, _⟩ := I.list hx
    have hl : its.toArray.size = xs.length := by rw [rv.length]; simp
    have D := Draws.list (prog := X.prog) (w := X.w) hh it a hne its.toArray
    rw [hl] at D
    refine ⟨_, _, D, ⟨hit, p.isList⟩, fun j u hu => ?_, fun j h' st => st.1⟩
    have hu : its[j]? = some u := by simpa using hu
    have : j < xs.length := by rw [rv.length]; exact (List.getElem?_eq_some_iff.mp hu).1
    obtain ⟨u', h1, h2⟩ := rv.get (List.getElem?_eq_getElem this)
    rw [hu] at h1; cases h1
    exact ⟨_, List.getElem?_eq_getElem this, h2⟩
  | t a =>
    obtain ⟨its, rv, p, _⟩ := I.tuple hx
    have hl : its.toArray.size = xs.length := by rw [rv.length]; simp
    have D := Draws.tuple (prog := X.prog) (w := X.w) hh it a hne its.toArray
    rw [hl] at D
    refine ⟨_, _, D, ⟨hit, p⟩, fun j u hu => ?_, fun j h' st => st.1⟩
    have hu : its[j]? = some u := by simpa using hu
    have : j < xs.length := by rw [rv.length]; exact (List.getElem?_eq_some_iff.mp hu).1
    obtain ⟨u', h1, h2⟩ := rv.get (List.getElem?_eq_getElem this)
    rw [hu] at h1; cases h1
    exact ⟨_, List.getElem?_eq_getElem this, h2⟩
  | s z =>
    obtain ⟨t, hit⟩ := hit
    have hx : xs = z.cps.toList.map fun c => V.str ⟨#[c]⟩ := hx
    have D := Draws.text (prog := X.prog) (w := X.w) hh it z t
    have hl : z.cps.size = xs.length := by rw [hx]; simp
    rw [hl] at D
    refine ⟨_, _, D, hit, fun j u hu => ?_, fun j h' st => ⟨t, st⟩⟩
    obtain ⟨c, k, h1, rfl⟩ := hu
    refine ⟨.str ⟨#[c]⟩, ?_, k, rfl⟩
    rw [hx, List.getElem?_map, Array.getElem?_toList, h1]; rfl
theorem Sc.begins {X : Cx} {pins : List (Addr × Obj)} {σ : St} {H : Hp} {s : Shared} (I : Inv X pins σ H s) {sc : Sc} {xs : List V} (hx : sc.has X.K H xs) {u : Value} (r : RelV sc.v u) : ∃ o B, Begins u o B ∧ B s.heap ∧ (∀ (h' : Heap) (it : Addr), h'.get? it = some o → sc.at it 0 h') ∧ ∀ it, s.heap.objs.size ≤ it → sc.ne it := by
  cases sc with
  | l a =>
    obtain ⟨its, rv, p, _⟩ := I.list hx
    cases r
    exact ⟨_, _, begins_list a its.toArray, p.isList, fun h' it e => ⟨_, e, rfl, rfl⟩, fun it hi => Nat.ne_of_lt (Nat.lt_of_lt_of_le p.lt hi)⟩
  | t a =>
    obtain ⟨its, rv, p, _⟩ := I.tuple hx
    cases r
    refine ⟨_, _, begins_tuple a its.toArray, p, fun h' it e => ⟨_, e, rfl, rfl⟩, fun it hi => Nat.ne_of_lt (Nat.lt_of_lt_of_le ?_ hi)⟩
    obtain ⟨o, ho, _⟩ := p
    exact Heap.lt_size ho
  | s z =>
    obtain ⟨t, rfl⟩ := r
    exact ⟨_, _, begins_text z t, trivial, fun h' it e => ⟨t, _, e, rfl, rfl⟩, fun _ _ => trivial⟩
def ItZ (K : PySem.W.Frag) (s1 s2 : Sc) : It :=
  ⟨fun i H => ∃ (xs ys : List V) (x y : V), s1.has K H xs ∧ s2.has K H ys ∧ xs[i]? = some x ∧ ys[i]? = some y,
    fun i H v H' => ∃ T x y, v = .ref T ∧ H T = none ∧ H' = upd H T (.tup [x, y]) ∧ (∀ xs, s1.has K H xs → xs[i]? = some x) ∧ ∀ ys, s2.has K H ys → ys[i]? = some y,
    fun i H => ∃ xs ys : List V, s1.has K H xs ∧ s2.has K H ys ∧ i = min xs.length ys.length⟩
theorem turn_Z {P : Program} {w : World} {K : PySem.W.Frag} {elts : List Expr} {kk : Nat} {tpos : Pos} {s1 s2 : Sc} {z TI TO i1 i2 : Addr} (S : ZipSep2 z TI TO i1 i2 (s1.cells i1) (s2.cells i2)) (n1 : s1.ne i1) (n2 : s2.ne i2) :
    Turn P w K (.Tuple elts kk tpos) (ItZ K s1 s2) [z, TI, TO, i1, i2] z (fun i h => IsZip h z TI TO .none ∧ IsTupOf2 h TI (.ref i1) (.ref i2) ∧ (∃ x y, IsTupOf2 h TO x y) ∧ s1.at i1 i h ∧ s2.at i2 i h) where
  mem := by simp
  obj := fun i h st c hc => by
    obtain ⟨hz, hTI, ⟨x, y, hTO⟩, a1, a2⟩ := st
    have e' : c = z ∨ c = TI ∨ c = TO ∨ c = i1 ∨ c = i2 := by simpa using hc
    rcases e' with q | q | q | q | q
    · rw [q]; exact ⟨_, hz, fun v q => nomatch q⟩
    · rw [q]; exact ⟨_, hTI, fun v q => nomatch q⟩
    · rw [q]; exact ⟨_, hTO, fun v q => nomatch q⟩
    · rw [q]; exact (Sc.at_obj (sc := s1) a1)
    · rw [q]; exact (Sc.at_obj (sc := s2) a2)
  keep := fun i h h' st k => by
    obtain ⟨hz, hTI, ⟨x, y, hTO⟩, a1, a2⟩ := st
    exact ⟨k z (by simp) _ hz, k TI (by simp) _ hTI, ⟨x, y, k TO (by simp) _ hTO⟩, Sc.at_keep (sc := s1) a1 fun o q => k i1 (by simp) o q, Sc.at_keep (sc := s2) a2 fun o q => k i2 (by simp) o q⟩
  item := by
    intro X hP hw hK hc i pins s σ H E I hf st hg
    subst hP hw hK
    obtain ⟨hz, hTI, hTO, a1, a2⟩ := st
    obtain ⟨xs, ys, x, y, q1, q2, hx, hy⟩ := hg
    have hh : X.A.in1.handled = none := by rw [Around.in1_handled]; exact I.ok.hd hc
    obtain ⟨P1, St1, D1, b1, g1, c1⟩ := Sc.draw I hh q1 a1 n1
    obtain ⟨P2, St2, D2, b2, g2, c2⟩ := Sc.draw I hh q2 a2 n2
    have W := WalksT.zipD2 S D1 D2
    have hi : i < min xs.length ys.length := by
      have := (List.getElem?_eq_some_iff.mp hx).1
      have := (List.getElem?_eq_some_iff.mp hy).1
      omega
    have lt5 : ∀ c ∈ [z, TI, TO, i1, i2], c < s.heap.objs.size := fun c hcm => by
      obtain ⟨x0, y0, hTO⟩ := hTO
      have e' : c = z ∨ c = TI ∨ c = TO ∨ c = i1 ∨ c = i2 := by simpa using hcm
      rcases e' with q | q | q | q | q
      · rw [q]; exact Heap.lt_size hz
      · rw [q]; exact Heap.lt_size hTI
      · rw [q]; exact Heap.lt_size hTO
      · rw [q]; obtain ⟨_, e1, _⟩ := (Sc.at_obj (sc := s1) a1); exact Heap.lt_size e1
      · rw [q]; obtain ⟨_, e2, _⟩ := (Sc.at_obj (sc := s2) a2); exact Heap.lt_size e2
    refine W.item i s _ _ hi ⟨hz, hTI, hTO, b1, b2⟩ fun T vals h' tk hp hT hT' mid hk => ⟨.ref T, rfl, W.go elts kk tpos i T { s with heap := h', toks := tk } _ _ mid fun h'' st'' hk2 => ?_⟩
    obtain ⟨u1, u2, p1, p2, rfl⟩ := hp
    obtain ⟨v1, e1, r1⟩ := g1 i u1 p1
    obtain ⟨v2, e2, r2⟩ := g2 i u2 p2
    have hT2 : h''.IsTuple T #[u1, u2] := hT'.at fun o e => hk2 T o (W.apart i T h' mid) e
    have new : ObjOk X.prog X.w (upd H T (.tup [v1, v2])) h'' T (.tup [v1, v2]) := ⟨by show 2 ≤ sizeLine; decide, [u1, u2], .cons r1 (.cons r2 .nil), hT2⟩
    have hch : ∀ b, b ∉ [z, TI, TO, i1, i2] → b ∉ [z, TO, i1, i2] := fun b hb hb' => hb (by
      have : b = z ∨ b = TO ∨ b = i1 ∨ b = i2 := by simpa using hb'
      rcases this with q | q | q | q <;> simp [q])
    have I1 : Inv X pins σ (upd H T (.tup [v1, v2])) { s with heap := h'', toks := tk } := I.turnedNew (t' := tk) (ch := [z, TI, TO, i1, i2]) (fun c o hb q => hk2 c o (hch c hb) (hk c o (hch c hb) q)) hf hT new
    obtain ⟨f1, f2, f3, f4, f5⟩ := st''
    refine ⟨.ref T, _, I1, rfl, ⟨T, v1, v2, rfl, I.hok.fresh hT, rfl, fun l hl => by rw [Sc.inj I hl q1]; exact e1, fun l hl => by rw [Sc.inj I hl q2]; exact e2⟩, ⟨f1, f2, f3, c1 _ _ f4, c2 _ _ f5⟩, fun c hcm => ?_⟩
    rw [upd_ne (Nat.ne_of_lt (Nat.lt_of_lt_of_le (lt5 c hcm) hT))]
    exact (hf c hcm).1
  done := by
    intro X hP hw hK hc i pins s σ H E I hf st hg
    subst hP hw hK
    obtain ⟨hz, hTI, hTO, a1, a2⟩ := st
    obtain ⟨xs, ys, q1, q2, hi⟩ := hg
    have hh : X.A.in1.handled = none := by rw [Around.in1_handled]; exact I.ok.hd hc
    obtain ⟨P1, St1, D1, b1, g1, c1⟩ := Sc.draw I hh q1 a1 n1
    obtain ⟨P2, St2, D2, b2, g2, c2⟩ := Sc.draw I hh q2 a2 n2
    have W := WalksT.zipD2 S D1 D2
    rw [← hi] at W
    refine W.done s _ _ ⟨hz, hTI, hTO, b1, b2⟩ fun h' tk hk => ⟨rfl, I.turnedL (t' := tk) (ch := [z, TI, TO, i1, i2]) (fun c o hb q => hk c o (fun hb' => hb (by
      have : c = z ∨ c = TO ∨ c = i1 ∨ c = i2 := by simpa using hb'
      rcases this with q | q | q | q <;> simp [q])) q) hf⟩
  self := fun A i s Q E st h => wpAny_pyIter_zip st.1 h
def iZ (K : PySem.W.Frag) (ta : TA) : TI := fun σ H R => ta σ H fun vs H1 => ∃ s1 s2 xs ys, vs = [Sc.v s1, Sc.v s2] ∧ s1.has K H1 xs ∧ s2.has K H1 ys ∧ R (ItZ K s1 s2) H1
theorem pi_Z {X : Cx} {e e2 : Expr} {ta : TA} {p pos tpos : Pos} {elts : List Expr} {kk : Nat} (hg : Gl X "zip") (hm : X.mg "zip" = none) (ha : PA X [e, e2] ta)
    (hs : starEach [e, e2] X.env = (false, eval e X.env) :: starEach [e2] X.env := by rfl) (hpl : (backTo pos (starEach [e2] X.env)).any (·.1) = false := by rfl) :
    PI X (.Tuple elts kk tpos) (.Call (.Name "zip" p) [e, e2] [] pos) (iZ X.K ta) := by
  refine ⟨fun pins s σ H R I h => ?_⟩
  refine Call_ (ld_blt I hg hm PyProof.Rows.boot_zip (PyProof.Rows.callWith_type1 (thn (ha.run pos pins s σ H _ I h) fun us t1 ⟨vs, H1, I1, r1, q1⟩ => ?_) hs hpl))
  obtain ⟨s1, s2, xs, ys, ex, q1, q2, q⟩ := q1
  subst ex
  cases r1 with
  | cons r rr =>
    cases rr with
    | cons r' rr =>
      cases rr
      obtain ⟨o1, B1, b1, d1, at1, ne1⟩ := Sc.begins I1 q1 r
      obtain ⟨o2, B2, b2, d2, at2, ne2⟩ := Sc.begins I1 q2 r'
      refine zip_begins2 b1 b2 d1 d2 fun h' hz hTI hTO h1 h2 hsz hk => wpAny_pyIter_zip hz ?_
      have I2 : Inv X pins σ H1 { t1 with heap := h' } := I1.kept (t' := t1.toks) hk
      have cl : ∀ (sc : Sc), (∀ it, t1.heap.objs.size ≤ it → sc.ne it) → ∀ it, ∃ fp, sc.cells it = it :: fp ∧ ∀ b ∈ fp, b < t1.heap.objs.size := fun sc hn it => by
        cases sc with
        | l a => exact ⟨[a], rfl, fun b hb => by rw [List.mem_singleton.mp hb]; exact Nat.lt_of_not_le fun z => hn a z rfl⟩
        | t a => exact ⟨[a], rfl, fun b hb => by rw [List.mem_singleton.mp hb]; exact Nat.lt_of_not_le fun z => hn a z rfl⟩
        | s z => exact ⟨[], rfl, fun b hb => nomatch hb⟩
      obtain ⟨f1, e1, l1⟩ := cl s1 ne1 t1.heap.objs.size
      obtain ⟨f2, e2, l2⟩ := cl s2 ne2 (t1.heap.objs.size + 1)
      have S := zip_sep2 l1 l2
      rw [← e1, ← e2] at S
      refine ⟨t1.heap.objs.size + 4, [t1.heap.objs.size + 4, t1.heap.objs.size + 2, t1.heap.objs.size + 3, t1.heap.objs.size, t1.heap.objs.size + 1], _, _, H1, rfl, I2, turn_Z S (ne1 _ (Nat.le_refl _)) (ne2 _ (Nat.le_add_right _ _)), ⟨hz, hTI, ⟨_, _, hTO⟩, at1 _ _ h1, at2 _ _ h2⟩, fun c hcm => ?_, q⟩
      have hle : t1.heap.objs.size ≤ c := by
        have e' : c = t1.heap.objs.size + 4 ∨ c = t1.heap.objs.size + 2 ∨ c = t1.heap.objs.size + 3 ∨ c = t1.heap.objs.size ∨ c = t1.heap.objs.size + 1 := by simpa using hcm
        rcases e' with z | z | z | z | z
        · rw [z]; exact Nat.le_add_right _ _
        · rw [z]; exact Nat.le_add_right _ _
        · rw [z]; exact Nat.le_add_right _ _
        · rw [z]; exact Nat.le_refl _
        · rw [z]; exact Nat.le_add_right _ _
      exact I1.fpOk hle (I1.hok.fresh hle)
end L2
namespace ML
open PySem L2 DL
theorem sc_of {K : Fg} {Hf : Hp} {v : V} {d : D} {as : List D} (r : Rep K Hf v d) (h : itemsD d = some as) : ∃ sc xs, v = Sc.v sc ∧ RepL K Hf xs as ∧ ∀ H', (∀ b o, Hf b = some o → H' b = some o) → sc.has K H' xs := by
  cases r with
  | @str x =>
    cases h
    refine ⟨.s x, _, rfl, ?_, fun H' _ => rfl⟩
    unfold signsD
    generalize x.cps.toList = l
    induction l with
    | nil => exact .nil
    | cons c l ih => exact .cons (.str _) ih
  | @scr a ns hs =>
    cases h
    refine ⟨.l a, _, rfl, ?_, fun H' g => sqL_same g hs⟩
    clear hs
    induction ns with
    | nil => exact .nil
    | cons c l ih => exact .cons (.int _) ih
  | @tup a xs ds hs rs => cases h; exact ⟨.t a, xs, rfl, rs, fun H' g => sqT_same g hs⟩
  | @lst a xs ds hs rs => cases h; exact ⟨.l a, xs, rfl, rs, fun H' g => .inl (.inl (g _ _ hs))⟩
  | non => cases h
  | bl => cases h
  | int => cases h
  | ty => cases h
  | raw => cases h
  | obj => cases h
theorem itZ_it {K : Fg} {Hf : Hp} {s1 s2 : Sc} {vs ws : List V} {as bs : List D} (h1 : ∀ H', (∀ b o, Hf b = some o → H' b = some o) → s1.has K H' vs) (h2 : ∀ H', (∀ b o, Hf b = some o → H' b = some o) → s2.has K H' ws) (r1 : RepL K Hf vs as) (r2 : RepL K Hf ws bs) : DIt K (ItZ K s1 s2) Hf (zipD as bs) where
  item := fun i d H' Hf' sub grow hd => by
    obtain ⟨a, b, g1, g2, rfl⟩ := zipD_get as bs i d hd
    obtain ⟨v, k1, k2⟩ := r1.get g1
    obtain ⟨u, l1, l2⟩ := r2.get g2
    have t1 := h1 H' fun b o h => sub b o (grow b o h)
    have t2 := h2 H' fun b o h => sub b o (grow b o h)
    refine ⟨⟨vs, ws, v, u, t1, t2, k1, l1⟩, fun x H'' y => ?_⟩
    obtain ⟨T, x1, y1, rfl, hT, rfl, z1, z2⟩ := y
    have e1 := z1 vs t1
    have e2 := z2 ws t2
    rw [k1] at e1
    rw [l1] at e2
    cases e1
    cases e2
    obtain ⟨x2, ok⟩ := new_tup sub hT (.cons (k2.mono grow) (.cons (l2.mono grow) .nil))
    exact ⟨_, x2, ok⟩
  stop := fun i H' Hf' sub grow hl hl' => by
    rw [zipD_len] at hl hl'
    exact ⟨vs, ws, h1 H' fun b o h => sub b o (grow b o h), h2 H' fun b o h => sub b o (grow b o h), by rw [r1.length, r2.length]; omega⟩
section
variable {X : Cx} {W : Wd} {pos p apos : Pos} {o e : Expr} {τs : TMA} {τo : TM}
def mZipX (τ : TMA) : TMI := fun ω ρ h P => τ ω ρ h fun ds h1 => ∃ a b as bs, ds = [a, b] ∧ itemsD a = some as ∧ itemsD b = some bs ∧ P (zipD as bs) h1
theorem mi_zipX {e2 : Expr} {elts : List Expr} {kk : Nat} {tpos : Pos} (hg : Gl X "zip") (hm : X.mg "zip" = none) (ha : MA X W [e, e2] τs) (hs : starEach [e, e2] X.env = (false, eval e X.env) :: starEach [e2] X.env := by rfl) (hpl : (backTo pos (starEach [e2] X.env)).any (·.1) = false := by rfl) :
    MI X W (.Tuple elts kk tpos) (.Call (.Name "zip" p) [e, e2] [] pos) (mZipX τs) :=
  MI.of (pi_Z hg hm ha.pa hs hpl) fun σ H Hf ρ h R P Q e q k => ⟨R, Hf, ρ, h, _, e, q, fun vs H1 Hf1 ds h1 e1 m1 r1 _ ⟨a, b, as, bs, hd, ga, gb, p1⟩ => by
    subst hd
    cases r1 with
    | cons ra rr =>
      cases rr with
      | cons rb rr =>
        cases rr
        obtain ⟨s1, xs, rfl, ra', ha'⟩ := sc_of ra ga
        obtain ⟨s2, ys, rfl, rb', hb'⟩ := sc_of rb gb
        exact ⟨s1, s2, xs, ys, rfl, ha' H1 e1.hs.sub, hb' H1 e1.hs.sub, k _ H1 Hf1 _ h1 e1 m1 (itZ_it ha' hb' ra' rb') p1⟩⟩
end
end ML
namespace ML
open PySem L2 DL
def nkT : D → Option NestedKey
  | .tup ds => nkD (.tup ds)
  | _ => none
theorem nkT_D {d : D} {k : NestedKey} (h : nkT d = some k) : nkD d = some k := by
  cases d <;> first | exact h | (exfalso; exact (nomatch h))
theorem nkT_ref {K : Fg} {Hf : Hp} {v : V} {d : D} {k : NestedKey} (h : nkT d = some k) (r : Rep K Hf v d) : ∃ b, v = .ref b := by
  cases r <;> first | exact ⟨_, rfl⟩ | (exfalso; exact (nomatch h))
theorem RepN.ky {K : Fg} {Hf : Hp} {xs : List NkX} {kvs : List (NestedKey × D)} (h : RepN K Hf xs kvs) : ∀ x ∈ xs, KyO K Hf x := by
  induction h with
  | nil => exact fun x hx => nomatch hx
  | @cons x p xs kvs r t ih =>
    intro y hy
    rcases List.mem_cons.mp hy with e | hy
    · rw [e]; exact r.2.1
    · exact ih y hy
theorem KyO.mono {K : Fg} {H H' : Hp} (g : ∀ b u, H b = some u → H' b = some u) {x : NkX} (h : KyO K H x) : KyO K H' x := let ⟨d, h1, h2⟩ := h; ⟨d, h1.mono g, h2⟩
theorem RepN.val {K : Fg} {Hf : Hp} (k : NestedKey) : ∀ {xs : List NkX} {kvs : List (NestedKey × D)}, RepN K Hf xs kvs → (∀ d, valD kvs k = some d → ∃ v, valN xs k = some v ∧ Rep K Hf v d) ∧ (valN xs k).isSome = (valD kvs k).isSome
  | _, _, .nil => ⟨fun d h => (nomatch h), rfl⟩
  | x :: xs, p :: kvs, .cons r t => by
    have ih := RepN.val k t
    rw [valD, valN]
    by_cases e : p.1 = k
    · rw [if_pos e, if_pos (r.1.trans e)]
      exact ⟨fun d h => by cases h; exact ⟨_, rfl, r.2.2⟩, rfl⟩
    · rw [if_neg e, if_neg (fun z => e (r.1.symm.trans z))]
      exact ih
theorem RepN.length {K : Fg} {Hf : Hp} {xs : List NkX} {kvs : List (NestedKey × D)} (h : RepN K Hf xs kvs) : xs.length = kvs.length := Paired.length h
theorem RepN.repl {K : Fg} {Hf : Hp} {k : NestedKey} {v : V} {d : D} (r0 : Rep K Hf v d) : ∀ {xs : List NkX} {kvs : List (NestedKey × D)}, RepN K Hf xs kvs → RepN K Hf (xs.map fun x => if x.1 = k then (x.1, x.2.1, v) else x) (kvs.map fun p => if p.1 = k then (p.1, d) else p)
  | _, _, .nil => .nil
  | x :: xs, p :: kvs, .cons r t => by
    rw [List.map_cons, List.map_cons]
    refine .cons ?_ (RepN.repl r0 t)
    by_cases e : p.1 = k
    · rw [if_pos e, if_pos (r.1.trans e)]; exact ⟨r.1, r.2.1, r0⟩
    · rw [if_neg e, if_neg (fun z => e (r.1.symm.trans z))]; exact r
theorem RepN.put {K : Fg} {Hf : Hp} {k : NestedKey} {b : Addr} {v : V} {d : D} (r0 : Rep K Hf v d) (hk : KyO K Hf (k, b, v)) {xs : List NkX} {kvs : List (NestedKey × D)} (h : RepN K Hf xs kvs) : RepN K Hf (putN xs k b v) (putKD kvs k d) := by
  unfold putN putKD
  rw [(h.val k).2, valD_any]
  split
  · exact h.repl r0
  · exact Paired.snoc h ⟨rfl, hk, r0⟩
section
variable {X : Cx} {W : Wd} {pos pos' apos p : Pos} {a b o e f : Expr} {es : List Expr} {τa τb τo τe τk τx : TM} {τs : TMA} {k : Nat}
def mDNewN (w : World) : TM := fun ω ρ h P => ∀ a, h a = none → P (.fz (.raw (.ref a))) (put h a (.dcn w []))
theorem me_dnewN {w : World} (hw : X.w = w := by rfl) : ME X W (.Dict [] [] pos) (mDNewN w) := by
  subst hw
  refine ME.of pe_dnewN fun σ H Hf ρ h R P Q e q k p hp => ?_
  have s1 := e.hs.upd (a := p) (o := .dcn X.w []) (u := DnO X.w p []) (.inr hp) fun H' hq => ⟨[], hq, .nil⟩
  have m1 := Mo.upd (h := h) (H := H) (Hf := Hf) (a := p) (o := .dcn X.w []) (u := DnO X.w p []) (.inr hp)
  exact k _ _ Hf (.fz (.raw (.ref p))) _ (e.step s1 m1) m1 (Rep.raw _) (q p (e.hs.free hp))
def mDGetN (w : World) (τo τk : TM) : TM := fun ω ρ h P => τo ω ρ h fun x h1 => τk ω ρ h1 fun y h2 => ∃ a kvs k d, x.dat = .raw (.ref a) ∧ h2 a = some (.dcn w kvs) ∧ nkT y.dat = some k ∧ k.depth ≤ 8 ∧ valD kvs k = some d ∧ P (.fz d) h2
theorem dn_at {K : Fg} {w : World} {H Hf : Hp} {h : Hd} (s : Hs K H Hf h) {a : Addr} {kvs : List (NestedKey × D)} {k : NestedKey} {v : V} {d : D} (e : h a = some (.dcn w kvs)) (hk : nkT d = some k) (hl : k.depth ≤ 8) (r : Rep K Hf v d) : ∃ xs b, DnAt K w H a xs v k b ∧ RepN K Hf xs kvs ∧ v = .ref b ∧ KyO K Hf (k, b, v) := by
  obtain ⟨_, xs, z1, z2⟩ := s.hp a _ e
  obtain ⟨b, rfl⟩ := nkT_ref hk r
  exact ⟨xs, b, ⟨z1, fun x hx => KyO.mono s.sub (z2.ky x hx), rfl, ⟨d, r.mono s.sub, nkT_D hk⟩, hl⟩, z2, rfl, d, r, nkT_D hk, hl⟩
theorem me_dgetN {w : World} (hr : Room k X.A) (ho : ME X W o τo) (hk : ME X W e τk) (hs : NoSl e) (hw : X.w = w := by rfl) : ME X W (.Subscript o e pos) (mDGetN w τo τk) := by
  subst hw
  obtain ⟨t, po, so⟩ := ho.fz
  obtain ⟨t2, pk, sk⟩ := hk.fz
  refine ME.of (pe_dgetN hr.units po pk hs) fun σ H Hf ρ h R P Q e q k => ?_
  refine so σ H Hf ρ h R (fun x h1 => τk R.ω ρ h1 fun y h2 => ∃ a kvs k d, x = .raw (.ref a) ∧ h2 a = some (.dcn X.w kvs) ∧ nkT y.dat = some k ∧ k.depth ≤ 8 ∧ valD kvs k = some d ∧ P (.fz d) h2) _ e q fun x H1 Hf1 dx h1 e1 m1 r1 q1 => ?_
  refine sk σ H1 Hf1 ρ h1 R (fun y h2 => ∃ a kvs k d, dx = .raw (.ref a) ∧ h2 a = some (.dcn X.w kvs) ∧ nkT y = some k ∧ k.depth ≤ 8 ∧ valD kvs k = some d ∧ P (.fz d) h2) _ e1 q1 fun y H2 Hf2 dy h2 e2 m2 r2 ⟨a, kvs, kk, d, g1, g2, g3, g4, g5, g6⟩ => ?_
  subst g1
  cases r1
  obtain ⟨xs, b, y1, y2, y3, y4⟩ := dn_at e2.hs g2 g3 g4 r2
  obtain ⟨v, w1, w2⟩ := (y2.val kk).1 d g5
  exact ⟨a, xs, kk, b, v, rfl, y1, w1, k v H2 Hf2 (.fz d) h2 e2 (m1.trans m2) w2 g6⟩
def mDInN (w : World) (neg : Bool) (τk τo : TM) : TM := fun ω ρ h P => τk ω ρ h fun y h1 => τo ω ρ h1 fun x h2 => ∃ a kvs k, x.dat = .raw (.ref a) ∧ h2 a = some (.dcn w kvs) ∧ nkT y.dat = some k ∧ k.depth ≤ 8 ∧ P (.fz (.bl (neg != (valD kvs k).isSome))) h2
theorem dinN_run {K : Fg} {w : World} {tk to : TE} (sk : SndF K W tk τk) (so : SndF K W to τo) (neg : Bool) : SndE K W (tDInN K w neg tk to) (mDInN w neg τk τo) := by
  intro σ H Hf ρ h R P Q e q k
  refine sk σ H Hf ρ h R (fun y h1 => τo R.ω ρ h1 fun x h2 => ∃ a kvs k, x.dat = .raw (.ref a) ∧ h2 a = some (.dcn w kvs) ∧ nkT y = some k ∧ k.depth ≤ 8 ∧ P (.fz (.bl (neg != (valD kvs k).isSome))) h2) _ e q fun y H1 Hf1 dy h1 e1 m1 r1 q1 => ?_
  refine so σ H1 Hf1 ρ h1 R (fun x h2 => ∃ a kvs k, x = .raw (.ref a) ∧ h2 a = some (.dcn w kvs) ∧ nkT dy = some k ∧ k.depth ≤ 8 ∧ P (.fz (.bl (neg != (valD kvs k).isSome))) h2) _ e1 q1 fun x H2 Hf2 dx h2 e2 m2 r2 ⟨a, kvs, kk, g1, g2, g3, g4, g5⟩ => ?_
  subst g1
  cases r2
  obtain ⟨xs, b, y1, y2, y3, y4⟩ := dn_at e2.hs g2 g3 g4 (r1.mono m2.grow)
  refine ⟨a, xs, kk, b, rfl, y1, ?_⟩
  rw [(y2.val kk).2]
  exact k _ H2 Hf2 (.fz (.bl _)) h2 e2 (m1.trans m2) (.bl _) g5
theorem mt_dnotinN {w : World} (hr : Room k X.A) (hk : ME X W a τk) (ho : ME X W b τo) (hm : behindInMarks .NotIn b = false := by rfl) (hw : X.w = w := by rfl) : MT X W (.Compare a [.NotIn] [b] pos) (mT (mDInN w true τk τo)) := by
  subst hw
  obtain ⟨t, po, so⟩ := ho.fz
  obtain ⟨t2, pk, sk⟩ := hk.fz
  exact MT.of (pt_cmp (pc_dnotinN' hr.units pk po) hm) (pcT (dinN_run sk so true))
def mDPutN (w : World) (τe τo τk : TM) : TMS := fun ω PD ρ h => τe ω ρ h fun r h1 => τo ω ρ h1 fun x h2 => τk ω ρ h2 fun y h3 => ∃ a kvs k, x.dat = .raw (.ref a) ∧ h3 a = some (.dcn w kvs) ∧ nkT y.dat = some k ∧ k.depth ≤ 8 ∧ kvs.length < 16000000 ∧ PD.nx ρ (put h3 a (.dcn w (putKD kvs k r.dat)))
theorem ms_dputN {w : World} {p2 : Pos} (hr : Room k X.A) (he : ME X W e τe) (ho : ME X W o τo) (hk : ME X W f τk) (hs : swapsWith e (some (.Subscript o f p2)) pos.line X.env = pure false := by rfl) (hw : X.w = w := by rfl) : MS X W (.Assign [.Subscript o f p2] e pos) (mDPutN w τe τo τk) := by
  subst hw
  obtain ⟨t, pe, se⟩ := he.fz
  obtain ⟨t2, po, so⟩ := ho.fz
  obtain ⟨t3, pk, sk⟩ := hk.fz
  refine MS.of (ps_dputN hr.units po pk pe hs) fun D σ H Hf R ρ h PD s q l => ?_
  refine se σ H Hf ρ h R (fun r h1 => τo R.ω ρ h1 fun x h2 => τk R.ω ρ h2 fun y h3 => ∃ a kvs k, x.dat = .raw (.ref a) ∧ h3 a = some (.dcn X.w kvs) ∧ nkT y.dat = some k ∧ k.depth ≤ 8 ∧ kvs.length < 16000000 ∧ PD.nx ρ (put h3 a (.dcn X.w (putKD kvs k r)))) _ s q fun v H1 Hf1 d h1 e1 m1 r1 q1 => ?_
  refine so σ H1 Hf1 ρ h1 R (fun x h2 => τk R.ω ρ h2 fun y h3 => ∃ a kvs k, x = .raw (.ref a) ∧ h3 a = some (.dcn X.w kvs) ∧ nkT y.dat = some k ∧ k.depth ≤ 8 ∧ kvs.length < 16000000 ∧ PD.nx ρ (put h3 a (.dcn X.w (putKD kvs k d)))) _ e1 q1 fun x H2 Hf2 dx h2 e2 m2 r2 q2 => ?_
  refine sk σ H2 Hf2 ρ h2 R (fun y h3 => ∃ a kvs k, dx = .raw (.ref a) ∧ h3 a = some (.dcn X.w kvs) ∧ nkT y = some k ∧ k.depth ≤ 8 ∧ kvs.length < 16000000 ∧ PD.nx ρ (put h3 a (.dcn X.w (putKD kvs k d)))) _ e2 q2 fun y H3 Hf3 dy h3 e3 m3 r3 ⟨a, kvs, kk, g1, g2, g3, g4, g5, g6⟩ => ?_
  subst g1
  cases r2
  obtain ⟨xs, b, y1, y2, y3, d', w1, w2, w3⟩ := dn_at e3.hs g2 g3 g4 r3
  subst y3
  refine ⟨a, xs, kk, b, rfl, y1, by rw [y2.length, sizeLine_eq]; omega, ?_⟩
  have s4 := e3.hs.upd (a := a) (o := .dcn X.w (putKD kvs kk d)) (u := DnO X.w a (putN xs kk b v)) (.inl ⟨_, g2⟩) fun H' hq => ⟨_, hq, y2.put ((r1.mono m2.grow).mono m3.grow) ⟨d', w1, w2, w3⟩⟩
  exact l.nx σ _ Hf3 ρ _ (e3.step s4 (Mo.upd (.inl ⟨_, g2⟩))) g6
end
end ML
namespace ML
open PySem L2 DL
def lfD : D → Option Leaf
  | .non => some .none
  | .int i => some (.num i)
  | .bl b => some (.num (if b = true then 1 else 0))
  | .str z => some (.text z)
  | _ => none
theorem lfD_V {K : Fg} {Hf : Hp} {v : V} {d : D} {k : Leaf} (h : lfD d = some k) (r : Rep K Hf v d) : lfV v = some k := by
  cases r <;> first | exact h | cases h
theorem RepLf.length {K : Fg} {Hf : Hp} {xs : List LfX} {kvs : List (Leaf × D)} (h : RepLf K Hf xs kvs) : xs.length = kvs.length := Paired.length h
theorem valV_cons {κ : Type} [DecidableEq κ] (x1 : κ) (x2 : V) (xs : List (κ × V)) (k : κ) : valV ((x1, x2) :: xs) k = if x1 = k then some x2 else valV xs k := by
  unfold valV
  by_cases e : x1 = k
  · rw [List.find?_cons_of_pos (by simp [e]), if_pos e]; rfl
  · rw [List.find?_cons_of_neg (by simp [e]), if_neg e]
theorem RepLf.val {K : Fg} {Hf : Hp} (k : Leaf) : ∀ {xs : List LfX} {kvs : List (Leaf × D)}, RepLf K Hf xs kvs → (∀ d, valD kvs k = some d → ∃ v, valV xs k = some v ∧ Rep K Hf v d) ∧ (valD kvs k = none → valV xs k = none)
  | [], [], _ => ⟨fun d h => (nomatch h), fun _ => rfl⟩
  | x :: xs, p :: kvs, .cons ⟨h1, h2⟩ t => by
    obtain ⟨i1, i2⟩ := RepLf.val k t
    obtain ⟨p1, p2⟩ := p
    obtain ⟨x1, x2⟩ := x
    simp only [] at h1 h2
    subst h1
    rw [valD, valV_cons]
    by_cases e : x1 = k
    · rw [if_pos e, if_pos e]
      exact ⟨fun d h => by cases h; exact ⟨_, rfl, h2⟩, fun h => by cases h⟩
    · rw [if_neg e, if_neg e]; exact ⟨i1, i2⟩
theorem RepLf.snoc {K : Fg} {Hf : Hp} {k : Leaf} {v : V} {d : D} (r0 : Rep K Hf v d) {xs : List LfX} {kvs : List (Leaf × D)} (h : RepLf K Hf xs kvs) (hn : valD kvs k = none) : RepLf K Hf (putK xs k v) (putKD kvs k d) := by
  have h2 := (h.val k).2 hn
  have e1 : putKD kvs k d = kvs ++ [(k, d)] := by
    unfold putKD
    rw [valD_any, hn]; rfl
  have e2 : putK xs k v = xs ++ [(k, v)] := by
    unfold putK
    rw [valV_any, h2]; rfl
  rw [e1, e2]
  exact Paired.snoc h ⟨rfl, r0⟩
section
variable {X : Cx} {W : Wd} {pos pos' apos cpos p : Pos} {a b o e f : Expr} {es : List Expr} {τa τb τo τe τk τx : TM} {τs : TMA} {k : Nat}
def mDNewL (P : Program) (w : World) : TM := fun ω ρ h Q => ∀ a, h a = none → Q (.fz (.raw (.ref a))) (put h a (.dcl P w []))
theorem me_dnewL {P : Program} {w : World} (hp : X.prog = P := by rfl) (hw : X.w = w := by rfl) : ME X W (.Dict [] [] pos) (mDNewL P w) := by
  subst hw hp
  refine ME.of pe_dnewL fun σ H Hf ρ h R P Q e q k p hp => ?_
  have s1 := e.hs.upd (a := p) (o := .dcl X.prog X.w []) (u := DlO X.prog X.w p []) (.inr hp) fun H' hq => ⟨[], hq, .nil⟩
  have m1 := Mo.upd (h := h) (H := H) (Hf := Hf) (a := p) (o := .dcl X.prog X.w []) (u := DlO X.prog X.w p []) (.inr hp)
  exact k _ _ Hf (.fz (.raw (.ref p))) _ (e.step s1 m1) m1 (Rep.raw _) (q p (e.hs.free hp))
def mDSetdL (P : Program) (w : World) (τo τk τx : TM) : TM := fun ω ρ h Q => τo ω ρ h fun x h1 => ∃ a kvs0, x.dat = .raw (.ref a) ∧ h1 a = some (.dcl P w kvs0) ∧ τk ω ρ h1 fun y h2 => τx ω ρ h2 fun z h3 => ∃ kvs k, h3 a = some (.dcl P w kvs) ∧ lfD y.dat = some k ∧ kvs.length < 16000000 ∧
  (∀ d, valD kvs k = some d → Q (.fz d) h3) ∧ (valD kvs k = none → Q (.fz z.dat) (put h3 a (.dcl P w (putKD kvs k z.dat))))
theorem me_dsetdL {P : Program} {w : World} (hr : Room k X.A) (ho : ME X W o τo) (hk : ME X W e τk) (hx : ME X W f τx) (m : M2 X o "setdefault" apos e f cpos := by exact ⟨rfl, rfl, rfl, rfl⟩) (hp : X.prog = P := by rfl) (hw : X.w = w := by rfl) : ME X W (.Call (.Attribute o "setdefault" apos) [e, f] [] cpos) (mDSetdL P w τo τk τx) := by
  subst hw hp
  obtain ⟨t, po, so⟩ := ho.fz
  obtain ⟨t2, pk, sk⟩ := hk.fz
  obtain ⟨t3, px, sx⟩ := hx.fz
  refine ME.of (pe_dsetdL po pk px m) fun σ H Hf ρ h R P Q e q k => ?_
  refine so σ H Hf ρ h R (fun x h1 => ∃ a kvs0, x = .raw (.ref a) ∧ h1 a = some (.dcl X.prog X.w kvs0) ∧ τk R.ω ρ h1 fun y h2 => τx R.ω ρ h2 fun z h3 => ∃ kvs k, h3 a = some (.dcl X.prog X.w kvs) ∧ lfD y.dat = some k ∧ kvs.length < 16000000 ∧ (∀ d, valD kvs k = some d → P (.fz d) h3) ∧ (valD kvs k = none → P (.fz z.dat) (put h3 a (.dcl X.prog X.w (putKD kvs k z.dat))))) _ e q fun x H1 Hf1 dx h1 e1 m1 r1 ⟨a, kvs0, g1, g2, q1⟩ => ?_
  subst g1
  cases r1
  obtain ⟨_, kws0, y1, _⟩ := e1.hs.hp a _ g2
  refine ⟨a, kws0, rfl, y1, ?_⟩
  refine sk σ H1 Hf1 ρ h1 R (fun y h2 => τx R.ω ρ h2 fun z h3 => ∃ kvs k, h3 a = some (.dcl X.prog X.w kvs) ∧ lfD y = some k ∧ kvs.length < 16000000 ∧ (∀ d, valD kvs k = some d → P (.fz d) h3) ∧ (valD kvs k = none → P (.fz z.dat) (put h3 a (.dcl X.prog X.w (putKD kvs k z.dat))))) _ e1 q1 fun y H2 Hf2 dy h2 e2 m2 r2 q2 => ?_
  refine sx σ H2 Hf2 ρ h2 R (fun z h3 => ∃ kvs k, h3 a = some (.dcl X.prog X.w kvs) ∧ lfD dy = some k ∧ kvs.length < 16000000 ∧ (∀ d, valD kvs k = some d → P (.fz d) h3) ∧ (valD kvs k = none → P (.fz z) (put h3 a (.dcl X.prog X.w (putKD kvs k z))))) _ e2 q2 fun z H3 Hf3 dz h3 e3 m3 r3 ⟨kvs, kk, w1, w2, w3, w4, w5⟩ => ?_
  obtain ⟨z0, kws, z1, z2⟩ := e3.hs.hp a _ w1
  have m := (m1.trans m2).trans m3
  refine ⟨kws, kk, z1, lfD_V w2 r2, by rw [z2.length, sizeLine_eq]; omega, fun v hv => ?_, fun hn => ?_⟩
  · cases hd : valD kvs kk with
    | none => rw [(z2.val kk).2 hd] at hv; cases hv
    | some d =>
      obtain ⟨v', u1, u2⟩ := (z2.val kk).1 d hd
      rw [hv] at u1
      cases u1
      exact k v H3 Hf3 (.fz d) h3 e3 m u2 (w4 d hd)
  · cases hd : valD kvs kk with
    | some d =>
      obtain ⟨v', u1, u2⟩ := (z2.val kk).1 d hd
      rw [hn] at u1; cases u1
    | none =>
      have s4 := e3.hs.upd (a := a) (o := .dcl X.prog X.w (putKD kvs kk dz)) (u := DlO X.prog X.w a (putK kws kk z)) (.inl ⟨_, w1⟩) fun H' hq => ⟨_, hq, z2.snoc r3 hd⟩
      have m4 := Mo.upd (h := h3) (H := H3) (Hf := Hf3) (a := a) (o := .dcl X.prog X.w (putKD kvs kk dz)) (u := DlO X.prog X.w a (putK kws kk z)) (.inl ⟨_, w1⟩)
      exact k z _ Hf3 (.fz dz) _ (e3.step s4 m4) (m.trans m4) r3 (w5 hd)
def mDSetdN (w : World) (τo τk τx : TM) : TM := fun ω ρ h Q => τo ω ρ h fun x h1 => ∃ a kvs0, x.dat = .raw (.ref a) ∧ h1 a = some (.dcn w kvs0) ∧ τk ω ρ h1 fun y h2 => τx ω ρ h2 fun z h3 => ∃ kvs k, h3 a = some (.dcn w kvs) ∧ nkT y.dat = some k ∧ k.depth ≤ 8 ∧ kvs.length < 16000000 ∧
  (∀ d, valD kvs k = some d → Q (.fz d) h3) ∧ (valD kvs k = none → Q (.fz z.dat) (put h3 a (.dcn w (putKD kvs k z.dat))))
theorem me_dsetdN {w : World} (hr : Room k X.A) (ho : ME X W o τo) (hk : ME X W e τk) (hx : ME X W f τx) (m : M2 X o "setdefault" apos e f cpos := by exact ⟨rfl, rfl, rfl, rfl⟩) (hw : X.w = w := by rfl) : ME X W (.Call (.Attribute o "setdefault" apos) [e, f] [] cpos) (mDSetdN w τo τk τx) := by
  subst hw
  obtain ⟨t, po, so⟩ := ho.fz
  obtain ⟨t2, pk, sk⟩ := hk.fz
  obtain ⟨t3, px, sx⟩ := hx.fz
  refine ME.of (pe_dsetdN hr.units po pk px m) fun σ H Hf ρ h R P Q e q k => ?_
  refine so σ H Hf ρ h R (fun x h1 => ∃ a kvs0, x = .raw (.ref a) ∧ h1 a = some (.dcn X.w kvs0) ∧ τk R.ω ρ h1 fun y h2 => τx R.ω ρ h2 fun z h3 => ∃ kvs k, h3 a = some (.dcn X.w kvs) ∧ nkT y.dat = some k ∧ k.depth ≤ 8 ∧ kvs.length < 16000000 ∧ (∀ d, valD kvs k = some d → P (.fz d) h3) ∧ (valD kvs k = none → P (.fz z.dat) (put h3 a (.dcn X.w (putKD kvs k z.dat))))) _ e q fun x H1 Hf1 dx h1 e1 m1 r1 ⟨a, kvs0, g1, g2, q1⟩ => ?_
  subst g1
  cases r1
  obtain ⟨_, xs0, y1, y2⟩ := e1.hs.hp a _ g2
  refine ⟨a, xs0, rfl, y1, fun x hx => KyO.mono e1.hs.sub (y2.ky x hx), ?_⟩
  refine sk σ H1 Hf1 ρ h1 R (fun y h2 => τx R.ω ρ h2 fun z h3 => ∃ kvs k, h3 a = some (.dcn X.w kvs) ∧ nkT y = some k ∧ k.depth ≤ 8 ∧ kvs.length < 16000000 ∧ (∀ d, valD kvs k = some d → P (.fz d) h3) ∧ (valD kvs k = none → P (.fz z.dat) (put h3 a (.dcn X.w (putKD kvs k z.dat))))) _ e1 q1 fun y H2 Hf2 dy h2 e2 m2 r2 q2 => ?_
  refine sx σ H2 Hf2 ρ h2 R (fun z h3 => ∃ kvs k, h3 a = some (.dcn X.w kvs) ∧ nkT dy = some k ∧ k.depth ≤ 8 ∧ kvs.length < 16000000 ∧ (∀ d, valD kvs k = some d → P (.fz d) h3) ∧ (valD kvs k = none → P (.fz z) (put h3 a (.dcn X.w (putKD kvs k z))))) _ e2 q2 fun z H3 Hf3 dz h3 e3 m3 r3 ⟨kvs, kk, w1, w2, w3, w4, w5, w6⟩ => ?_
  have m := (m1.trans m2).trans m3
  obtain ⟨xs, b, z1, z2, z3, d', v1, v2, v3⟩ := dn_at e3.hs w1 w2 w3 (r2.mono m3.grow)
  subst z3
  refine ⟨xs, kk, b, z1, by rw [z2.length, sizeLine_eq]; omega, fun v hv => ?_, fun hn => ?_⟩
  · cases hd : valD kvs kk with
    | none => have := (z2.val kk).2; rw [hv, hd] at this; cases this
    | some d =>
      obtain ⟨v', u1, u2⟩ := (z2.val kk).1 d hd
      rw [hv] at u1
      cases u1
      exact k v H3 Hf3 (.fz d) h3 e3 m u2 (w5 d hd)
  · cases hd : valD kvs kk with
    | some d =>
      obtain ⟨v', u1, u2⟩ := (z2.val kk).1 d hd
      rw [hn] at u1; cases u1
    | none =>
      have s4 := e3.hs.upd (a := a) (o := .dcn X.w (putKD kvs kk dz)) (u := DnO X.w a (putN xs kk b z)) (.inl ⟨_, w1⟩) fun H' hq => ⟨_, hq, z2.put r3 ⟨d', v1, v2, v3⟩⟩
      have m4 := Mo.upd (h := h3) (H := H3) (Hf := Hf3) (a := a) (o := .dcn X.w (putKD kvs kk dz)) (u := DnO X.w a (putN xs kk b z)) (.inl ⟨_, w1⟩)
      exact k z _ Hf3 (.fz dz) _ (e3.step s4 m4) (m.trans m4) r3 (w6 hd)
def mDLenN (w : World) (τs : TMA) : TM := fun ω ρ h Q => τs ω ρ h fun ds h1 => ∃ a kvs, ds = [.raw (.ref a)] ∧ h1 a = some (.dcn w kvs) ∧ Q (.fz (.int ((kvs.length : Nat) : Int))) h1
def mDLenL (P : Program) (w : World) (τs : TMA) : TM := fun ω ρ h Q => τs ω ρ h fun ds h1 => ∃ a kvs, ds = [.raw (.ref a)] ∧ h1 a = some (.dcl P w kvs) ∧ Q (.fz (.int ((kvs.length : Nat) : Int))) h1
theorem me_dlenN {w : World} (hg : Gl X "len") (hm : X.mg "len" = none) (ha : MA X W (e :: es) τs) (he : starEach (e :: es) X.env = (false, eval e X.env) :: starEach es X.env := by rfl) (hpl : (backTo pos (starEach es X.env)).any (·.1) = false := by rfl) (hw : X.w = w := by rfl) : ME X W (.Call (.Name "len" p) (e :: es) [] pos) (mDLenN w τs) := by
  subst hw
  refine ME.of (pe_callB call_lenN hg hm PySem.boot_len ha.pa (by decide) (by decide) he hpl) fun σ H Hf ρ h R P Q e q k => ?_
  refine ⟨R, Hf, ρ, h, _, e, q, fun vs H1 Hf1 ds h1 e1 m1 r1 _ ⟨a, kvs, g1, g2, p1⟩ => ?_⟩
  subst g1
  obtain ⟨_, xs, y1, y2⟩ := e1.hs.hp a _ g2
  cases r1 with
  | cons ra rr =>
    cases rr
    cases ra
    refine ⟨a, xs, rfl, y1, fun x hx => KyO.mono e1.hs.sub (y2.ky x hx), ?_⟩
    rw [y2.length]
    exact k _ H1 Hf1 (.fz (.int _)) h1 e1 m1 (.int _) p1
theorem me_dlenL {P : Program} {w : World} (hg : Gl X "len") (hm : X.mg "len" = none) (ha : MA X W (e :: es) τs) (he : starEach (e :: es) X.env = (false, eval e X.env) :: starEach es X.env := by rfl) (hpl : (backTo pos (starEach es X.env)).any (·.1) = false := by rfl) (hp : X.prog = P := by rfl) (hw : X.w = w := by rfl) : ME X W (.Call (.Name "len" p) (e :: es) [] pos) (mDLenL P w τs) := by
  subst hw hp
  refine ME.of (pe_callB call_lenL hg hm PySem.boot_len ha.pa (by decide) (by decide) he hpl) fun σ H Hf ρ h R P Q e q k => ?_
  refine ⟨R, Hf, ρ, h, _, e, q, fun vs H1 Hf1 ds h1 e1 m1 r1 _ ⟨a, kvs, g1, g2, p1⟩ => ?_⟩
  subst g1
  obtain ⟨_, xs, y1, y2⟩ := e1.hs.hp a _ g2
  cases r1 with
  | cons ra rr =>
    cases rr
    cases ra
    refine ⟨a, xs, rfl, y1, ?_⟩
    rw [y2.length]
    exact k _ H1 Hf1 (.fz (.int _)) h1 e1 m1 (.int _) p1
def mDDispN (w : World) (τk τx : TM) : TM := fun ω ρ h Q => ∀ a, h a = none → τk ω ρ (put h a (.dcn w [])) fun y h1 => τx ω ρ h1 fun z h2 => ∃ k, h2 a = some (.dcn w []) ∧ nkT y.dat = some k ∧ k.depth ≤ 8 ∧ Q (.fz (.raw (.ref a))) (put h2 a (.dcn w [(k, z.dat)]))
theorem me_ddispN {w : World} (hr : Room k X.A) (hk : ME X W e τk) (hx : ME X W f τx) (hw : X.w = w := by rfl) : ME X W (.Dict [some e] [f] pos) (mDDispN w τk τx) := by
  subst hw
  obtain ⟨t2, pk, sk⟩ := hk.fz
  obtain ⟨t3, px, sx⟩ := hx.fz
  refine ME.of (pe_ddispN hr.units pk px) fun σ H Hf ρ h R P Q e q k p hp => ?_
  have s1 := e.hs.upd (a := p) (o := .dcn X.w []) (u := DnO X.w p []) (.inr hp) fun H' hq => ⟨[], hq, .nil⟩
  have m1 := Mo.upd (h := h) (H := H) (Hf := Hf) (a := p) (o := .dcn X.w []) (u := DnO X.w p []) (.inr hp)
  refine sk σ _ Hf ρ _ R (fun y h1 => τx R.ω ρ h1 fun z h2 => ∃ k, h2 p = some (.dcn X.w []) ∧ nkT y = some k ∧ k.depth ≤ 8 ∧ P (.fz (.raw (.ref p))) (put h2 p (.dcn X.w [(k, z.dat)]))) _ (e.step s1 m1) (q p (e.hs.free hp)) fun y H2 Hf2 dy h2 e2 m2 r2 q2 => ?_
  refine sx σ H2 Hf2 ρ h2 R (fun z h3 => ∃ k, h3 p = some (.dcn X.w []) ∧ nkT dy = some k ∧ k.depth ≤ 8 ∧ P (.fz (.raw (.ref p))) (put h3 p (.dcn X.w [(k, z)]))) _ e2 q2 fun z H3 Hf3 dz h3 e3 m3 r3 ⟨kk, w1, w2, w3, w4⟩ => ?_
  have m := (m1.trans m2).trans m3
  obtain ⟨xs, b, z1, z2, z3, d', v1, v2, v3⟩ := dn_at e3.hs w1 w2 w3 (r2.mono m3.grow)
  subst z3
  cases z2
  refine ⟨kk, b, z1, ?_⟩
  have s4 := e3.hs.upd (a := p) (o := .dcn X.w [(kk, dz)]) (u := DnO X.w p [(kk, b, z)]) (.inl ⟨_, w1⟩) fun H' hq => ⟨_, hq, .cons ⟨rfl, ⟨d', v1, v2, v3⟩, r3⟩ .nil⟩
  have m4 := Mo.upd (h := h3) (H := H3) (Hf := Hf3) (a := p) (o := .dcn X.w [(kk, dz)]) (u := DnO X.w p [(kk, b, z)]) (.inl ⟨_, w1⟩)
  exact k _ _ Hf3 (.fz (.raw (.ref p))) _ (e3.step s4 m4) (m.trans m4) (Rep.raw _) w4
def mDDisp (τk τx : TM) : TM := fun ω ρ h Q => ∀ a, h a = none → τk ω ρ (put h a (.dic [])) fun y h1 => τx ω ρ h1 fun z h2 => ∃ k, h2 a = some (.dic []) ∧ keyD y.dat = some k ∧ Q (.fz (.raw (.ref a))) (put h2 a (.dic [(k, z.dat)]))
theorem me_ddisp (hr : Room k X.A) (hk : ME X W e τk) (hx : ME X W f τx) : ME X W (.Dict [some e] [f] pos) (mDDisp τk τx) := by
  obtain ⟨t2, pk, sk⟩ := hk.fz
  obtain ⟨t3, px, sx⟩ := hx.fz
  refine ME.of (pe_ddispK pk px) fun σ H Hf ρ h R P Q e q k p hp => ?_
  have s1 := e.hs.upd (a := p) (o := .dic []) (u := .dK []) (.inr hp) fun H' hq => ⟨[], hq, rfl, .nil⟩
  have m1 := Mo.upd (h := h) (H := H) (Hf := Hf) (a := p) (o := .dic []) (u := .dK []) (.inr hp)
  refine sk σ _ Hf ρ _ R (fun y h1 => τx R.ω ρ h1 fun z h2 => ∃ k, h2 p = some (.dic []) ∧ keyD y = some k ∧ P (.fz (.raw (.ref p))) (put h2 p (.dic [(k, z.dat)]))) _ (e.step s1 m1) (q p (e.hs.free hp)) fun y H2 Hf2 dy h2 e2 m2 r2 q2 => ?_
  refine sx σ H2 Hf2 ρ h2 R (fun z h3 => ∃ k, h3 p = some (.dic []) ∧ keyD dy = some k ∧ P (.fz (.raw (.ref p))) (put h3 p (.dic [(k, z)]))) _ e2 q2 fun z H3 Hf3 dz h3 e3 m3 r3 ⟨kk, w1, w2, w4⟩ => ?_
  have m := (m1.trans m2).trans m3
  obtain ⟨z0, kws, z1, z2⟩ := e3.hs.hp p _ w1
  have : kws = [] := List.length_eq_zero_iff.mp z2.length
  subst this
  refine ⟨kk, z1, keyD_rep w2 r2, ?_⟩
  have s4 := e3.hs.upd (a := p) (o := .dic [(kk, dz)]) (u := .dK [(kk, z)]) (.inl ⟨_, w1⟩) fun H' hq => ⟨_, hq, rfl, .cons r3 .nil⟩
  have m4 := Mo.upd (h := h3) (H := H3) (Hf := Hf3) (a := p) (o := .dic [(kk, dz)]) (u := .dK [(kk, z)]) (.inl ⟨_, w1⟩)
  exact k _ _ Hf3 (.fz (.raw (.ref p))) _ (e3.step s4 m4) (m.trans m4) (Rep.raw _) w4
end
end ML
namespace ML
open PySem L2 DL
section
variable {X : Cx} {W : Wd} {pos apos cpos p : Pos} {a b c o e f : Expr} {es : List Expr} {τa τb τc τo τe τk τx : TM} {τs : TMA} {k : Nat}
theorem repL_ints {K : Fg} {H : Hp} : ∀ {vs : List V} {ns : List Int}, RepL K H vs (ns.map .int) → vs = ns.map .int
  | [], [], _ => rfl
  | _ :: _, n :: ns, .cons (.int _) t => by rw [repL_ints t]; rfl
def mMaxl (τs : TMA) : TM := fun ω ρ h Q => τs ω ρ h fun ds h1 => ∃ ns : List Int, ds = [.lst (ns.map .int)] ∧ 0 < ns.length ∧ ∀ m, m ∈ ns → (∀ y, y ∈ ns → y ≤ m) → Q (.fz (.int m)) h1
theorem me_maxl (hc : X.calm = true) (hg : Gl X "max") (hm : X.mg "max" = none) (ha : MA X W (e :: es) τs) (he : starEach (e :: es) X.env = (false, eval e X.env) :: starEach es X.env := by rfl) (hpl : (backTo pos (starEach es X.env)).any (·.1) = false := by rfl) : ME X W (.Call (.Name "max" p) (e :: es) [] pos) (mMaxl τs) := by
  refine ME.of (pe_callB (cr_max hc) hg hm (by decide +kernel) ha.pa (by decide) (by decide) he hpl) fun σ H Hf ρ h R P Q e q k => ?_
  refine ⟨R, Hf, ρ, h, _, e, q, fun vs H1 Hf1 ds h1 e1 m1 r1 _ ⟨ns, g1, g2, p1⟩ => ?_⟩
  subst g1
  cases r1 with
  | cons ra rr =>
    cases rr
    cases ra with
    | lst hp rp =>
      have := repL_ints rp
      subst this
      exact ⟨_, ns, rfl, .inl (.inl (e1.hs.sub _ _ hp)), g2, fun m h2 h3 => k _ H1 Hf1 (.fz (.int m)) h1 e1 m1 (.int _) (p1 m h2 h3)⟩
end
end ML
namespace ML
open PySem L2 DL
section
variable {X : Cx} {W : Wd} {pos apos p p2 q : Pos} {o e a : Expr} {τo τa : TM} {τs : TMA} {k : Nat}
end
end ML
namespace ML
open PySem L2 DL
section
variable {X : Cx} {W : Wd} {e : Expr} {es : List Expr} {τs : TMA} {x : Str} {C : Addr} {f1 f2 f3 : Str} {k : Nat} {p pos pos2 : Pos}
end
end ML
namespace ML
open PySem L2 DL
def SeqD (d : D) (ds : List D) : Prop := d = .tup ds ∨ d = .lst ds
theorem SeqD.len {d : D} {ds : List D} (h : SeqD d ds) : lenD [d] = some (.fz (.int ((ds.length : Nat) : Int))) := by rcases h with rfl | rfl <;> rfl
theorem SeqD.ix {d : D} {ds : List D} (h : SeqD d ds) {i : Int} {x : D} (hx : atI ds i = some x) : ixD d (.int i) = some (.fz x) := by
  rcases h with rfl | rfl
  · show (atI ds i).map Res.fz = _; rw [hx]; rfl
  · show (atI ds i).map Res.fz = _; rw [hx]; rfl
theorem SeqD.items {d : D} {ds : List D} (h : SeqD d ds) : itemsD d = some ds := by rcases h with rfl | rfl <;> rfl
theorem SeqD.tuple {d : D} {ds : List D} (h : SeqD d ds) : tupleD [d] = some (.fz (.tup ds)) := by rcases h with rfl | rfl <;> rfl
end ML
namespace ML
open PySem L2 DL
def lr0 (a : Addr) (xs : List D) (γ : TMG) (τt : TMT) (τe : TM) (ρ : Me) (P : List D → Hd → Prop) : List D → Hd → List D → Prop
  | [], h, acc => h a = some (.lst xs) ∧ P acc h
  | d :: ds, h, acc => h a = some (.lst xs) ∧ γ d ρ fun ρ1 => τt ωF ρ1 h fun b h1 => if b = true then τe ωF ρ1 h1 fun r h2 => acc.length < 16000 ∧ lr0 a xs γ τt τe ρ P ds h2 (acc ++ [r.dat]) else lr0 a xs γ τt τe ρ P ds h1 acc
@[irreducible] def lcR (a : Addr) (xs : List D) (γ : TMG) (τt : TMT) (τe : TM) (ρ : Me) (P : List D → Hd → Prop) (ds : List D) (h : Hd) (acc : List D) : Prop := lr0 a xs γ τt τe ρ P ds h acc
section
variable {X : Cx} {W : Wd} {pos : Pos} {o : Expr} {τo : TM}
def lp0 (a : Addr) (xs : List D) (ω : Wω) (γ : TMG) (τb : TMS) (PD : MEnds) : List D → Me → Hd → Prop
  | [], ρ, h => h a = some (.lst xs) ∧ PD.nx ρ h
  | d :: ds, ρ, h => h a = some (.lst xs) ∧ γ d ρ fun ρ1 => τb ω { PD with nx := lp0 a xs ω γ τb PD ds, ct := lp0 a xs ω γ τb PD ds, bk := PD.nx } ρ1 h
@[irreducible] def loopR (a : Addr) (xs : List D) (ω : Wω) (γ : TMG) (τb : TMS) (PD : MEnds) (ds : List D) (ρ : Me) (h : Hd) : Prop := lp0 a xs ω γ τb PD ds ρ h
end
end ML
namespace ML
open PySem L2 DL
def rawC (g : FM) : FM := fun ds h P E => ∃ P1, g ds h P1 E ∧ ∀ xs h1 a, P1 (.fr xs) h1 → h a = none → h1 a = none → P (.fz (.raw (.ref a))) (put h1 a (.lst xs))
theorem spM.raw {K : Fg} {n : Nat} {g : FM} {vs : List V} {H : Hp} {Q : VK} {E : XK} (h : spM K n g vs H Q E) : spM K n (rawC g) vs H Q E := by
  obtain ⟨Hf, h, ds, P, PE, h1, h2, h3, h4, h5, h6⟩ := h
  refine ⟨Hf, h, ds, fun r h' => ∃ a xs, r = .fz (.raw (.ref a)) ∧ h' a = some (.lst xs) ∧ h a = none ∧ P (.fr xs) (off h' a), PE, h1, h2, h3, ⟨P, h4, fun xs h1 a q n n' => ⟨a, xs, rfl, put_same, n, by rw [off_put n']; exact q⟩⟩, fun v H' Hf' r h' s m ok ⟨a, xs, er, ha, hn, q⟩ => ?_, h6⟩
  subst er
  have ok : Rep K Hf' v (.raw (.ref a)) := ok
  cases ok
  obtain ⟨z0, ys, z1, z2⟩ := s.hp a _ ha
  have l : Le (off h' a) h' := fun b o z => by
    by_cases hb : b = a
    · subst hb; rw [off_same] at z; cases z
    · rwa [off_ne hb] at z
  have hH : H a = none := by
    rcases m.own a _ ha with ⟨u, w⟩ | w
    · rw [hn] at w; cases w
    · exact w
  exact h5 _ H' Hf' (.fr xs) _ (s.less l) (m.less l) ⟨a, ys, rfl, z1, z0, off_same, hH, z2⟩ q
section
variable {P : Program} {w : World} {K : Fg} {mg : Str → Option Value} {base : Heap} {x m : Str} {C : Addr} {k n : Nat} {g : FM}
end
end ML
namespace ML
open PySem L2 DL
section
variable {X : Cx} {W : Wd} {tg : Expr} {τs : TMA} {p pos : Pos}
end
end ML
namespace ML
open PySem L2 DL
section
variable {X : Cx} {W : Wd} {x : Str} {c : Value} {body suite : List Stmt} {b0 : Stmt} {np pos pos' : Pos} {τb τs : TMS}
end
end ML
namespace ML
open PySem L2 DL PySem.Spec
open PyProof.Rows (AllBare)
section
variable {X : Cx}
end
end ML
namespace ML
open PySem L2 DL
section
variable {X : Cx} {W : Wd}
end
end ML
namespace ML
open PySem L2 DL PySem.Spec PyProof.Rows
section
variable {X : Cx} {W : Wd} {e : Expr} {pos p2 : Pos} {τe : TM}
end
end ML
namespace ML
open PySem L2 DL PySem.Spec PyProof.Rows
section
variable {prog : Program} {w : World} {A : Around} {E : Value → Shared → Prop} {s : Shared} {K : Fg} {x C f : Addr} {ox : Obj} {od : Option Obj} {b tb : Value}
end
section
variable {X : Cx} {W : Wd} {k n : Nat} {f C : Addr} {fd : FuncData} {ps : List Str} {sp : Sp}
variable {a b : Expr} {τa τb : TM} {pos : Pos}
structure OwnC (K : Fg) (C : Addr) : Prop where
  cl : Cls K C
  ha : PySem.W.findIn K (.ref C) "__class__" = some (some (.builtin "object.__class__"))
  hn : PySem.W.specialIn K (.builtin "object.__class__") "__get__" = some (some (.builtin "getset_descriptor.__get__"))
  tk : PySem.W.takesIn K (.builtin "object.__class__") = some true
  mo : PySem.W.mroIn K C (.type "object") = some true
end
end ML
namespace Cut
open PySem L2 DL
mutual
def val : D → Bool
  | .non | .bl _ | .int _ => true
  | .str s => decide (s.length ≤ 10000)
  | .tup ds => decide (ds.length ≤ 10000) && valL ds
  | .lst ds => decide (ds.length ≤ 10000) && valL ds
  | _ => false
def valL : List D → Bool
  | [] => true
  | d :: ds => val d && valL ds
end
mutual
def dep : D → Nat
  | .tup ds => depL ds + 1
  | .lst ds => depL ds + 1
  | _ => 0
def depL : List D → Nat
  | [] => 0
  | d :: ds => max (dep d) (depL ds)
end
def isSetM (A : Str) : List D → Bool
  | [.str s] => decide (s = ofL (A.cps.toList.filter fun c => decide (c ∈ s.cps.toList)))
  | _ => false
def hiB (l : Int) : D → Bool
  | .non => true
  | .int h => decide (l ≤ h) && decide (h ≤ 4)
  | _ => false
def loB (hi : D) : D → Bool
  | .int l => decide (0 ≤ l) && decide (l ≤ 4) && hiB l hi
  | _ => false
def againB : List D → List Bool → Bool
  | [_, lo, hi], [b, _, _] => b && loB hi lo
  | _, _ => false
def exprB (A w : Str) (ps : List D) (bs : List Bool) : Bool :=
  if w = "set" then isSetM A ps else if w = "again" then againB ps bs else
  if (w = "not" ∧ ps.length ≠ 1) ∨ ¬ (w = "row" ∨ w = "any" ∨ w = "all" ∨ w = "not") then false else bs.all id
mutual
def isExpr (A : Str) : D → Bool
  | .tup (.str w :: ps) => exprB A w ps (isExprM A ps)
  | _ => false
def isExprM (A : Str) : List D → List Bool
  | [] => []
  | d :: ds => isExpr A d :: isExprM A ds
end
theorem k1 : ¬ (("row" : Str) = "set") := by decide +kernel
theorem k2 : ¬ (("row" : Str) = "again") := by decide +kernel
theorem k3 : ¬ (("row" : Str) = "not") := by decide +kernel
theorem k4 : ¬ (("any" : Str) = "set") := by decide +kernel
theorem k5 : ¬ (("any" : Str) = "again") := by decide +kernel
theorem k6 : ¬ (("any" : Str) = "not") := by decide +kernel
theorem k7 : ¬ (("all" : Str) = "set") := by decide +kernel
theorem k8 : ¬ (("all" : Str) = "again") := by decide +kernel
theorem k9 : ¬ (("all" : Str) = "not") := by decide +kernel
theorem k10 : ¬ (("not" : Str) = "set") := by decide +kernel
theorem k11 : ¬ (("not" : Str) = "again") := by decide +kernel
theorem k12 : ¬ (("again" : Str) = "set") := by decide +kernel
theorem k13 : ¬ (("set" : Str) = "again") := by decide +kernel
theorem k14 : ¬ (("any" : Str) = "row") := by decide +kernel
theorem k15 : ¬ (("all" : Str) = "row") := by decide +kernel
theorem k16 : ¬ (("not" : Str) = "row") := by decide +kernel
theorem k17 : ¬ (("again" : Str) = "row") := by decide +kernel
theorem k18 : ¬ (("set" : Str) = "row") := by decide +kernel
theorem k19 : ¬ (("row" : Str) = "all") := by decide +kernel
theorem k20 : ¬ (("any" : Str) = "all") := by decide +kernel
theorem k21 : ¬ (("not" : Str) = "all") := by decide +kernel
theorem k22 : ¬ (("again" : Str) = "all") := by decide +kernel
theorem k23 : ¬ (("set" : Str) = "all") := by decide +kernel
theorem k24 : ¬ (("set" : Str) = "not") := by decide +kernel
theorem k25 : ¬ (("again" : Str) = "not") := by decide +kernel
theorem k26 : ¬ (("all" : Str) = "any") := by decide +kernel
theorem k27 : ¬ (("row" : Str) = "any") := by decide +kernel
theorem k28 : ¬ (("not" : Str) = "any") := by decide +kernel
theorem k29 : ¬ (("again" : Str) = "any") := by decide +kernel
theorem k30 : ¬ (("set" : Str) = "any") := by decide +kernel
inductive Rx where
  | set (s : Str) | row (ps : List Rx) | any (ps : List Rx) | all (ps : List Rx) | no (p : Rx) | again (p : Rx) (lo : Int) (hi : Option Int)
def hiD : Option Int → D
  | none => .non
  | some h => .int h
mutual
def toD : Rx → D
  | .set s => .tup [.str "set", .str s]
  | .row ps => .tup (.str "row" :: toDL ps)
  | .any ps => .tup (.str "any" :: toDL ps)
  | .all ps => .tup (.str "all" :: toDL ps)
  | .no p => .tup [.str "not", toD p]
  | .again p lo hi => .tup [.str "again", toD p, .int lo, hiD hi]
def toDL : List Rx → List D
  | [] => []
  | p :: ps => toD p :: toDL ps
end
theorem toDL_map : ∀ ps, toDL ps = ps.map toD
  | [] => rfl
  | p :: ps => by rw [toDL, toDL_map ps]; rfl
theorem toDL_len (ps : List Rx) : (toDL ps).length = ps.length := by rw [toDL_map, List.length_map]
def Rx.word : Rx → Str
  | .set _ => "set" | .row _ => "row" | .any _ => "any" | .all _ => "all" | .no _ => "not" | .again _ _ _ => "again"
def Rx.parts : Rx → List Rx
  | .set _ => []
  | .row ps | .any ps | .all ps => ps
  | .no p => [p]
  | .again p _ _ => [p]
def Rx.tail : Rx → List D
  | .set s => [.str s]
  | .row ps | .any ps | .all ps => toDL ps
  | .no p => [toD p]
  | .again p lo hi => [toD p, .int lo, hiD hi]
theorem toD_eq (r : Rx) : toD r = .tup (.str r.word :: r.tail) := by cases r <;> simp [toD, Rx.word, Rx.tail]
mutual
def rdep : Rx → Nat
  | .set _ => 0
  | .row ps | .any ps | .all ps => rdepL ps + 1
  | .no p => rdep p + 1
  | .again p _ _ => rdep p + 1
def rdepL : List Rx → Nat
  | [] => 0
  | p :: ps => max (rdep p) (rdepL ps)
end
theorem rdepL_mem : ∀ {ps : List Rx} {n : Nat}, rdepL ps < n → ∀ p ∈ ps, rdep p < n
  | _ :: _, n, h, d, hd => by
    rw [rdepL] at h
    rcases List.mem_cons.mp hd with e | e
    · rw [e]; omega
    · exact rdepL_mem (by omega) d e
theorem rdep_parts {r : Rx} {n : Nat} (h : rdep r < n + 1) (h0 : r.parts ≠ []) : ∀ p ∈ r.parts, rdep p < n := by
  intro p hp
  cases r with
  | set s => cases hp
  | row ps => rw [rdep] at h; exact rdepL_mem (ps := ps) (by omega) p hp
  | any ps => rw [rdep] at h; exact rdepL_mem (ps := ps) (by omega) p hp
  | all ps => rw [rdep] at h; exact rdepL_mem (ps := ps) (by omega) p hp
  | no q =>
    rw [rdep] at h
    rw [List.mem_singleton.mp hp]
    omega
  | again q lo hi =>
    rw [rdep] at h
    rw [List.mem_singleton.mp hp]
    omega
def hiOk (lo : Int) : Option Int → Bool
  | none => true
  | some h => decide (lo ≤ h) && decide (h ≤ 4)
mutual
def okR : Rx → Bool
  | .set s => decide (s.length ≤ 10000)
  | .row ps | .any ps | .all ps => decide (ps.length ≤ 9999) && okRL ps
  | .no p => okR p
  | .again p lo hi => okR p && decide (0 ≤ lo) && decide (lo ≤ 4) && hiOk lo hi
def okRL : List Rx → Bool
  | [] => true
  | p :: ps => okR p && okRL ps
end
theorem okRL_mem : ∀ {ps : List Rx}, okRL ps = true → ∀ p ∈ ps, okR p = true
  | _ :: _, h, d, hd => by
    rw [okRL, Bool.and_eq_true] at h
    rcases List.mem_cons.mp hd with e | e
    · rw [e]; exact h.1
    · exact okRL_mem h.2 d e
theorem okR_parts {r : Rx} (h : okR r = true) : ∀ p ∈ r.parts, okR p = true := by
  intro p hp
  cases r with
  | set s => cases hp
  | row ps => rw [okR, Bool.and_eq_true] at h; exact okRL_mem h.2 p hp
  | any ps => rw [okR, Bool.and_eq_true] at h; exact okRL_mem h.2 p hp
  | all ps => rw [okR, Bool.and_eq_true] at h; exact okRL_mem h.2 p hp
  | no q =>
    rw [okR] at h
    rw [List.mem_singleton.mp hp]
    exact h
  | again q lo hi =>
    rw [okR, Bool.and_eq_true, Bool.and_eq_true, Bool.and_eq_true] at h
    rw [List.mem_singleton.mp hp]
    exact h.1.1.1
theorem okR_len {r : Rx} (h : okR r = true) : r.parts.length ≤ 9999 := by
  cases r with
  | set s => exact Nat.zero_le _
  | row ps => rw [okR, Bool.and_eq_true] at h; exact of_decide_eq_true h.1
  | any ps => rw [okR, Bool.and_eq_true] at h; exact of_decide_eq_true h.1
  | all ps => rw [okR, Bool.and_eq_true] at h; exact of_decide_eq_true h.1
  | no q => show 1 ≤ 9999; decide
  | again q lo hi => show 1 ≤ 9999; decide
def mx1 (j : Int) : Int := if j > 1 then j else 1
mutual
def wd : Rx → Int
  | .set _ => 1
  | .row ps | .any ps | .all ps => mx1 (wdL ps).sum
  | .no p => mx1 (wd p)
  | .again p lo none => mx1 (wd p) * (lo + 1)
  | .again p lo (some h) => mx1 (wd p) * mx1 h
def wdL : List Rx → List Int
  | [] => []
  | p :: ps => wd p :: wdL ps
end
theorem wdL_map : ∀ ps, wdL ps = ps.map wd
  | [] => rfl
  | p :: ps => by rw [wdL, wdL_map ps]; rfl
mutual
def cnt : Rx → Int
  | .set _ => 1
  | .row ps | .any ps | .all ps => 1 + (cntL ps).sum
  | .no p => 1 + cnt p
  | .again p _ _ => 1 + cnt p
def cntL : List Rx → List Int
  | [] => []
  | p :: ps => cnt p :: cntL ps
end
theorem cntL_map : ∀ ps, cntL ps = ps.map cnt
  | [] => rfl
  | p :: ps => by rw [cntL, cntL_map ps]; rfl
mutual
def plain : Rx → Bool
  | .set _ => true
  | .row ps | .any ps => (plainL ps).all id
  | .all _ | .no _ => false
  | .again p _ _ => plain p
def plainL : List Rx → List Bool
  | [] => []
  | p :: ps => plain p :: plainL ps
end
theorem plainL_map : ∀ ps, plainL ps = ps.map plain
  | [] => rfl
  | p :: ps => by rw [plainL, plainL_map ps]; rfl
theorem plain_eq (r : Rx) : plain r = (!(decide (r.word = "all") || decide (r.word = "not")) && (r.parts.map plain).all id) := by
  cases r <;> simp [plain, Rx.parts, plainL_map, Rx.word, k19, k3, k20, k6, k22, k25, k23, k24]
mutual
def hasP : Rx → Bool
  | .set _ => true
  | .row ps => (plainL ps).all id
  | .again p _ _ => plain p
  | .any ps | .all ps => (hasPL ps).all id
  | .no p => hasP p
def hasPL : List Rx → List Bool
  | [] => []
  | p :: ps => hasP p :: hasPL ps
end
theorem hasPL_map : ∀ ps, hasPL ps = ps.map hasP
  | [] => rfl
  | p :: ps => by rw [hasPL, hasPL_map ps]; rfl
mutual
theorem toD_inj : ∀ r r', toD r = toD r' → r = r'
  | .set s, r', h => by
    cases r' <;> simp [toD, k1, k4, k7, k10, k12, k13, k18, k23, k24, k30] at h
    rw [h]
  | .row ps, r', h => by
    cases r' <;> simp [toD, k1, k2, k3, k14, k15, k16, k17, k18, k19, k27] at h
    rw [toDL_inj _ _ h]
  | .any ps, r', h => by
    cases r' <;> simp [toD, k4, k5, k6, k14, k20] at h
    rw [toDL_inj _ _ h]
  | .all ps, r', h => by
    cases r' <;> simp [toD, k7, k8, k9, k15, k26] at h
    rw [toDL_inj _ _ h]
  | .no p, r', h => by
    cases r' <;> simp [toD, k10, k11, k16, k21, k28] at h
    rw [toD_inj _ _ h]
  | .again p lo hi, r', h => by
    cases r' <;> simp [toD, k12, k17, k22, k25, k29] at h
    rename_i p' lo' hi'
    obtain ⟨h1, h2, h3⟩ := h
    rw [toD_inj _ _ h1, h2]
    cases hi <;> cases hi' <;> simp [hiD] at h3
    · rfl
    · rw [h3]
theorem toDL_inj : ∀ ps ps', toDL ps = toDL ps' → ps = ps'
  | [], [], _ => rfl
  | [], _ :: _, h => by simp [toDL] at h
  | _ :: _, [], h => by simp [toDL] at h
  | p :: ps, p' :: ps', h => by
    simp only [toDL, List.cons.injEq] at h
    rw [toD_inj _ _ h.1, toDL_inj _ _ h.2]
end
theorem cutD_1 (x : D) (xs : List D) : cutD (x :: xs) (some 1) none = xs := by
  unfold cutD
  have h1 : HT.sIx (x :: xs).length 0 (some 1) = 1 := by
    have := HT.sIx_nat (x :: xs).length 0 1
    rw [List.length_cons] at this
    exact this.trans (by omega)
  rw [h1, show HT.sIx (x :: xs).length (x :: xs).length none = (x :: xs).length from rfl, List.length_cons, Nat.add_sub_cancel]
  exact List.take_length
mutual
theorem ofExpr (A : Str) : ∀ d, val d = true → isExpr A d = true → ∃ r, d = toD r ∧ okR r = true ∧ rdep r ≤ dep d
  | .tup (.str w :: ps), hv, h => by
    rw [isExpr] at h
    rw [val, Bool.and_eq_true, valL, Bool.and_eq_true] at hv
    have hl : ps.length + 1 ≤ 10000 := by have := of_decide_eq_true hv.1; simpa using this
    unfold exprB at h
    by_cases h1 : w = "set"
    · rw [if_pos h1] at h
      subst h1
      unfold isSetM at h
      split at h
      · rename_i s
        have hs : val (.str s) = true := by have := hv.2.2; rw [valL, Bool.and_eq_true] at this; exact this.1
        rw [val] at hs
        exact ⟨.set s, by rw [toD], by rw [okR]; exact hs, by rw [rdep]; exact Nat.zero_le _⟩
      · cases h
    rw [if_neg h1] at h
    by_cases h2 : w = "again"
    · rw [if_pos h2] at h
      subst h2
      match ps, h, hv with
      | [p, lo, hi], h, hv =>
        rw [isExprM, isExprM, isExprM, isExprM, againB, Bool.and_eq_true] at h
        have hv2 := hv.2.2
        rw [valL, Bool.and_eq_true] at hv2
        obtain ⟨r, e, o, dd⟩ := ofExpr A p hv2.1 h.1
        have hlo := h.2
        unfold loB at hlo
        split at hlo
        · rename_i l
          rw [Bool.and_eq_true, Bool.and_eq_true] at hlo
          obtain ⟨⟨q1, q2⟩, q3⟩ := hlo
          have hd : rdep r + 1 ≤ dep (.tup [.str "again", p, .int l, hi]) := by
            rw [dep, depL, depL]
            omega
          unfold hiB at q3
          split at q3
          · exact ⟨.again r l none, by rw [toD, e]; rfl, by rw [okR, o, q1, q2]; rfl, by rw [rdep]; exact hd⟩
          · rename_i hh
            exact ⟨.again r l (some hh), by rw [toD, e]; rfl, by rw [okR, o, q1, q2]; simpa [hiOk] using q3, by rw [rdep]; exact hd⟩
          · cases q3
        · cases hlo
      | [], h, _ => simp [againB] at h
      | [_], h, _ => simp [againB, isExprM] at h
      | [_, _], h, _ => simp [againB, isExprM] at h
      | _ :: _ :: _ :: _ :: _, h, _ => simp [againB, isExprM] at h
    rw [if_neg h2] at h
    by_cases h3 : (w = "not" ∧ ps.length ≠ 1) ∨ ¬ (w = "row" ∨ w = "any" ∨ w = "all" ∨ w = "not")
    · rw [if_pos h3] at h
      cases h
    rw [if_neg h3] at h
    obtain ⟨rs, e, o, dd⟩ := ofExprL A ps hv.2.2 h
    have hd : rdepL rs + 1 ≤ dep (.tup (.str w :: ps)) := by
      rw [dep, depL]
      omega
    have hlr : rs.length = ps.length := by rw [e, toDL_len]
    have ho : (decide (rs.length ≤ 9999) && okRL rs) = true := by rw [decide_eq_true (by omega), o]; rfl
    by_cases w1 : w = "not"
    · subst w1
      have l1 : ps.length = 1 := Classical.byContradiction fun z => h3 (.inl ⟨rfl, z⟩)
      match rs, hlr, e, ho, hd, o with
      | [r], _, e, _, hd, o =>
        rw [okRL, okRL, Bool.and_true] at o
        exact ⟨.no r, by rw [toD, e]; rfl, by rw [okR]; exact o, by rw [rdep]; rw [rdepL, rdepL] at hd; omega⟩
      | [], hlr, _, _, _, _ => simp at hlr; omega
      | _ :: _ :: _, hlr, _, _, _, _ => simp at hlr; omega
    have w2 : w = "row" ∨ w = "any" ∨ w = "all" := by
      rcases Classical.not_not.mp (fun z => h3 (.inr z)) with z | z | z | z
      · exact .inl z
      · exact .inr (.inl z)
      · exact .inr (.inr z)
      · exact absurd z w1
    rcases w2 with rfl | rfl | rfl
    · exact ⟨.row rs, by rw [toD, e], by rw [okR]; exact ho, by rw [rdep]; exact hd⟩
    · exact ⟨.any rs, by rw [toD, e], by rw [okR]; exact ho, by rw [rdep]; exact hd⟩
    · exact ⟨.all rs, by rw [toD, e], by rw [okR]; exact ho, by rw [rdep]; exact hd⟩
  | .tup [], _, h => by simp [isExpr] at h
  | .tup (.non :: _), _, h => by simp [isExpr] at h
  | .tup (.bl _ :: _), _, h => by simp [isExpr] at h
  | .tup (.int _ :: _), _, h => by simp [isExpr] at h
  | .tup (.tup _ :: _), _, h => by simp [isExpr] at h
  | .tup (.lst _ :: _), _, h => by simp [isExpr] at h
  | .tup (.obj _ _ :: _), _, h => by simp [isExpr] at h
  | .tup (.ty _ :: _), _, h => by simp [isExpr] at h
  | .tup (.raw _ :: _), _, h => by simp [isExpr] at h
  | .tup (.scr _ :: _), _, h => by simp [isExpr] at h
  | .non, _, h => by simp [isExpr] at h
  | .bl _, _, h => by simp [isExpr] at h
  | .int _, _, h => by simp [isExpr] at h
  | .str _, _, h => by simp [isExpr] at h
  | .lst _, _, h => by simp [isExpr] at h
  | .obj _ _, _, h => by simp [isExpr] at h
  | .ty _, _, h => by simp [isExpr] at h
  | .raw _, _, h => by simp [isExpr] at h
  | .scr _, _, h => by simp [isExpr] at h
theorem ofExprL (A : Str) : ∀ ds, valL ds = true → (isExprM A ds).all id = true → ∃ rs, ds = toDL rs ∧ okRL rs = true ∧ rdepL rs ≤ depL ds
  | [], _, _ => ⟨[], rfl, rfl, Nat.le_refl _⟩
  | d :: ds, hv, h => by
    rw [valL, Bool.and_eq_true] at hv
    rw [isExprM, List.all_cons, Bool.and_eq_true] at h
    obtain ⟨r, e, o, dd⟩ := ofExpr A d hv.1 h.1
    obtain ⟨rs, e2, o2, d2⟩ := ofExprL A ds hv.2 h.2
    exact ⟨r :: rs, by rw [toDL, ← e, ← e2], by rw [okRL, o, o2]; rfl, by rw [rdepL, depL]; omega⟩
end
end Cut
namespace Cut
open PySem L2 DL
def top (i : Nat) : Stmt := PySem.Challenge.pw_cutscribe_k07_automata_at_the_limit.main.body.getD i (.Pass ⟨0, 0, 0, 0⟩)
local macro_rules | `(tactic| walk_at "s") => `(tactic| repeat (first | with_reducible refine ⟨_, rfl, ?_⟩ | refine ⟨_, rfl, ?_⟩ | refine ⟨rfl, ?_⟩ | refine ⟨_, _, rfl, rfl, ?_⟩ | refine ⟨_, _, rfl, ?_⟩ | refine iteT ?_ | refine iteF ?_ | refine ⟨⟨_, rfl⟩, ?_⟩ | refine ⟨Nat.le_of_ble_eq_true rfl, ?_⟩ | refine ⟨(by decide), ?_⟩ | refine ⟨_, ix_t0 _ _, ?_⟩ | refine ⟨_, ix_l0 _ _, ?_⟩))
abbrev s_parts_of : Stmt := top 4
abbrev N_parts_of : List Str := ["expression"]
theorem sc_parts_of : FnScope N_parts_of ["expression"] (defScope s_parts_of) := ⟨rfl, rfl, rfl, by decide +kernel, rfl, by decide +kernel, by decide +kernel⟩
abbrev s_is_plain : Stmt := top 5
abbrev N_is_plain : List Str := ["expression", "part"]
theorem sc_is_plain : FnScope N_is_plain ["expression"] (defScope s_is_plain) := ⟨rfl, rfl, rfl, by decide +kernel, rfl, by decide +kernel, by decide +kernel⟩
section
variable {P : Program} {w : World} {K : Fg} {mg : Str → Option Value} {base : Heap} {f f2 : Addr} {fd fd2 : FuncData}
def D.top : D → Bool
  | .non | .bl _ | .int _ | .str _ | .tup _ | .lst _ => true
  | _ => false
def g_parts_of : FS0 := fun ds Q => ∃ r, ds = [toD r] ∧ Q (.fz (.tup (toDL r.parts)))
theorem ok_parts_of (A : At K mg "parts_of" ["expression"] s_parts_of f fd) : Fn0 P w K mg base "parts_of" 1 1 g_parts_of := by
  refine A.fn0 (okD0 (k := 0) A.fn sc_parts_of (by decide) (fun cdv A outer s H E hr => (dss_cons (ds_if (dt_eq hr (de_ix (de_v 0) de_int (fun _ _ => rfl)) de_str) (dss_one (ds_ret (de_tup da_nil))) dss_nil)
      (dss_one (ds_ret (de_if (dt_eq hr (de_ix (de_v 0) de_int (fun _ _ => rfl)) de_str) (de_sl (de_v 0) (do_some de_int) (do_some de_int)) (de_sl (de_v 0) (do_some de_int) do_none)))))) ?_)
  rintro ds Q hl ⟨r, rfl, q⟩
  rw [toD_eq]
  walk_at "s"
  refine ifd (eqS_eq r.word "set") (fun h => ?_) (fun h => ?_)
  · cases r <;> first | (simp [Rx.word, k1, k4, k7, k10, k12] at h; done) | skip
    walk_at "s"
    exact q
  · walk_at "s"
    refine ifd (eqS_eq r.word "again") (fun h2 => ?_) (fun h2 => ?_)
    · cases r <;> first | (simp [Rx.word, k2, k5, k8, k11, k13] at h2; done) | skip
      walk_at "s"
      exact q
    · cases r <;> first | (simp [Rx.word] at h h2; done) | skip
      all_goals
        walk_at "s"
        rw [cutD_1]
        exact q
def g_is_plain (n : Nat) : FS0 := fun ds Q => ∃ r, ds = [toD r] ∧ okR r = true ∧ rdep r < n ∧ Q (.fz (.bl (plain r)))
theorem ok_is_plain (A : At K mg "is_plain" ["expression"] s_is_plain f fd) (m_all : mg "all" = none) (c_parts_of : Fn0 P w K mg base "parts_of" 1 1 g_parts_of) : ∀ n, Fn0 P w K mg base "is_plain" (n + 1) 1 (g_is_plain n)
  | 0 => A.none0 fun ds Q ⟨_, _, _, h, _⟩ => absurd h (Nat.not_lt_zero _)
  | n + 1 => by
    have c_is_plain := ok_is_plain A m_all c_parts_of n
    refine A.fn0 (okD0 (k := n + 1) A.fn sc_is_plain (by decide) (fun cdv A outer s H E hr => (dss_one (ds_ret (de_and (de_notin (de_ix (de_v 0) de_int (fun _ _ => rfl)) (de_tup (da_cons de_str (da_cons de_str da_nil)))) (de_one (de_all rfl (by rfl) m_all (da_cons (de_lc (own := [("part", 1)]) rfl sc_is_plain.nd (di_seq (de_c0 c_parts_of (hr.mono (by omega)) (by rfl) (da_cons (de_v 0) da_nil))) (blkOk_by (N := N_is_plain) (sc := defScope s_is_plain) (own := [("part", 1)]) (by decide +kernel)) (fun _ _ _ _ _ => (dg_n 1 sc_is_plain.nd rfl (by first | exact Or.inl rfl | exact Or.inr rfl))) (fun _ _ _ _ _ => dts_nil) (fun _ _ _ _ _ => (de_c0 c_is_plain (hr.mono (by omega)) (by rfl) (da_cons (de_v 1) da_nil)))) da_nil))))))) ?_)
    rintro ds Q hl ⟨r, rfl, ho, hd, q⟩
    have et := toD_eq r
    rw [et]
    walk_at "s"
    have hin : (([.str "all", .str "not"] : List D).any fun b => eqB b (.str r.word)) = (decide (r.word = "all") || decide (r.word = "not")) := by
      show (eqS "all" r.word || (eqS "not" r.word || false)) = _
      rw [eqS_eq', eqS_eq', Bool.or_false]
    rw [plain_eq, ← hin] at q
    refine ifB (fun h => ?_) (fun h => ?_)
    · have h' : (!(([.str "all", .str "not"] : List D).any fun b => eqB b (.str r.word))) = true := h
      rw [h', Bool.true_and] at q
      walk_at "s"
      refine ⟨r, by rw [et]; rfl, ?_⟩
      walk_at "s"
      rw [toDL_map]
      refine lc_map (φ := toD) (f := fun p => .bl (plain p)) r.parts rfl rfl (fun p hp Q2 q2 => ?_) (Nat.le_trans (okR_len ho) (by decide)) ?_
      · exact ⟨_, rfl, p, rfl, okR_parts ho p hp, rdep_parts hd (List.ne_nil_of_mem hp) p hp, q2 _ rfl⟩
      · exact ⟨_, all_map _ _, q⟩
    · have h' : (!(([.str "all", .str "not"] : List D).any fun b => eqB b (.str r.word))) = false := h
      rw [h', Bool.false_and] at q
      exact q
end
end Cut
namespace Cut
open PySem L2 DL ML
section
variable {P : Program} {w : World} {K : Fg} {mg : Str → Option Value} {base : Heap} {f : Addr} {fd : FuncData} {CB CN : Addr}
structure BsC (K : Fg) (mg : Str → Option Value) (B : Addr) : Prop where
  nm : mg "CutError" = some (.ref B)
  rd : PySem.W.readsIn K B (.type "type") = true
  sp : PySem.W.specialIn K (.ref B) "__getattribute__" = some (some (.builtin "type.__getattribute__"))
  fi : PySem.W.findCls K (.ref B) (.type "type") "__init__" = some (.val (.builtin "ValueError.__init__"))
end
end Cut
namespace Cut
open PySem L2 DL ML
inductive Fx where
  | err (x : Str)
  | cut (x : Str)
  | tup (x : Str) (zs : List Str)
  | same (x y : Str)
  | mkE (x : Str)
  | exm (x y : Str) (b : Bool)
  | kit (x y : Str) (b : Bool)
  | kitV (x : Str)
  | isx (x : Str)
  | own (x : Str)
  | neO (x : Str)
  | nest (x : Str) (d : D)
mutual
def ntB (K : Fg) : D → Value → Bool
  | .int i, u => (match u with
    | .int j _ => decide (j = i)
    | _ => false)
  | .str z, u => (match u with
    | .str y _ => decide (y = z)
    | _ => false)
  | .tup ds, u => (match u with
    | .ref a => (match K.lookup a with
      | some o => decide (o.cls = .type "tuple") && (match o.data with
        | .seq its _ => decide (its.size ≤ 64) && ntL K ds its.toList
        | _ => false)
      | none => false)
    | _ => false)
  | _, _ => false
def ntL (K : Fg) : List D → List Value → Bool
  | [], us => us.isEmpty
  | d :: ds, us => (match us with
    | u :: us => ntB K d u && ntL K ds us
    | [] => false)
end
def oexB (K : Fg) (C : Addr) : Bool := (match K.lookup C with
  | some ⟨.type "type", _, .cls cd, sl⟩ => (match cd.mro, sl.toList with
    | .ref C' :: bm, [_, _, _, _, some (.builtin n), _] => C' == C && (n == "ValueError.__new__" && (cd.hasDict && (!cd.hasDel && PySem.HandSPX.refsVE bm)))
    | _, _ => false)
  | _ => false)
def ownB (K : Fg) (C : Addr) : Bool := He.eqO (PySem.W.findIn K (.ref C) "__class__") (some (some (.builtin "object.__class__"))) && (He.eqO (PySem.W.specialIn K (.builtin "object.__class__") "__get__") (some (some (.builtin "getset_descriptor.__get__"))) && (decide (PySem.W.takesIn K (.builtin "object.__class__") = some true) && decide (PySem.W.mroIn K C (.type "object") = some true)))
def Fx.ok (K : Fg) : Fx → Bool
  | .err x => oexB K (He.ga K x) && (He.eqO (PySem.W.findIn K (.ref (He.ga K x)) "__setattr__") (some (some (.builtin "object.__setattr__"))) && (decide (PySem.W.typeIn K (.ref (He.ga K x)) = some (.type "type")) && (PySem.W.keepIn K (.ref (He.ga K x)) && xfB K (He.ga K x))))
  | .cut x => PySem.W.readsIn K (He.ga K x) (.type "type") && (He.eqO (PySem.W.specialIn K (.ref (He.ga K x)) "__getattribute__") (some (some (.builtin "type.__getattribute__"))) && (match PySem.W.findCls K (.ref (He.ga K x)) (.type "type") "__init__" with
    | some (.val (.builtin n)) => decide (n = "ValueError.__init__")
    | _ => false))
  | .tup x zs => He.tupB K x (zs.map He.Dv.str)
  | .same x y => He.eqO (PySem.W.nsIn K mainGlobals y) (some (some (.ref (He.ga K x))))
  | .mkE x => He.eqO (PySem.W.findIn K (.ref (He.ga K x)) "__init__") (some (some (.ref (He.ma K (He.ga K x) "__init__")))) && decide (PySem.W.typeIn K (.ref (He.ma K (He.ga K x) "__init__")) = some (.type "function"))
  | .exm x y b => decide (PySem.W.exmOne K (.ref (He.ga K x)) (.ref (He.ga K y)) = some b)
  | .kit x y b => decide (PySem.W.kitOne K (.ref (He.ga K x)) (.ref (He.ga K y)) = some b)
  | .kitV x => decide (PySem.W.kitOne K (.ref (He.ga K x)) (.type "ValueError") = some true)
  | .isx x => He.eqO (PySem.W.findIn K (.ref (He.ga K x)) "__class__") (some (some (.builtin "object.__class__"))) && (He.eqO (PySem.W.specialIn K (.builtin "object.__class__") "__get__") (some (some (.builtin "getset_descriptor.__get__"))) && (decide (PySem.W.takesIn K (.builtin "object.__class__") = some true) && decide (PySem.W.mroIn K (He.ga K x) (.type "object") = some true)))
  | .own x => ownB K (He.ga K x)
  | .neO x => He.eqO (PySem.W.findIn K (.ref (He.ga K x)) "__ne__") (some (some (.builtin "object.__ne__")))
  | .nest x d => (match PySem.W.nsIn K mainGlobals x with
    | some (some u) => ntB K d u
    | _ => false)
mutual
theorem ntB_ok {K : Fg} : ∀ (d : D) {u : Value}, ntB K d u = true → ∃ v, RelV v u ∧ ∀ H, Rep K H v d
  | .int i, u, h => by
    unfold ntB at h
    split at h
    · rename_i j t
      have e : j = i := of_decide_eq_true h
      subst e
      exact ⟨.int j, ⟨t, rfl⟩, fun _ => .int j⟩
    · cases h
  | .str z, u, h => by
    unfold ntB at h
    split at h
    · rename_i y t
      have e : y = z := of_decide_eq_true h
      subst e
      exact ⟨.str y, ⟨t, rfl⟩, fun _ => .str y⟩
    · cases h
  | .tup ds, u, h => by
    unfold ntB at h
    split at h
    · rename_i a
      split at h
      · rename_i o e
        obtain ⟨h1, h2⟩ := He.ba h
        split at h2
        · rename_i its n ed
          obtain ⟨h3, h4⟩ := He.ba h2
          obtain ⟨vs, r1, r2⟩ := ntL_ok ds h4
          exact ⟨.ref a, rfl, fun H => .tup (.inr ⟨o, its, n, e, of_decide_eq_true h1, ed, Nat.le_trans (of_decide_eq_true h3) (by decide), r1⟩) (r2 H)⟩
        · cases h2
      · cases h
    · cases h
  | .non, u, h => by unfold ntB at h; cases h
  | .bl _, u, h => by unfold ntB at h; cases h
  | .lst _, u, h => by unfold ntB at h; cases h
  | .obj _ _, u, h => by unfold ntB at h; cases h
  | .ty _, u, h => by unfold ntB at h; cases h
  | .raw _, u, h => by unfold ntB at h; cases h
  | .scr _, u, h => by unfold ntB at h; cases h
theorem ntL_ok {K : Fg} : ∀ (ds : List D) {us : List Value}, ntL K ds us = true → ∃ vs, Vals vs us ∧ ∀ H, RepL K H vs ds
  | [], us, h => by
    unfold ntL at h
    cases us with
    | nil => exact ⟨[], .nil, fun _ => .nil⟩
    | cons _ _ => cases h
  | d :: ds, us, h => by
    unfold ntL at h
    split at h
    · rename_i u us
      obtain ⟨h1, h2⟩ := He.ba h
      obtain ⟨v, a1, a2⟩ := ntB_ok d h1
      obtain ⟨vs, b1, b2⟩ := ntL_ok ds h2
      exact ⟨v :: vs, .cons a1 b1, fun H => .cons (a2 H) (b2 H)⟩
    · cases h
end
theorem oexB_ok {K : Fg} {C : Addr} (q : oexB K C = true) : ∃ nm q N bs bm sn sub ab col dd k0 k1 k2 k3 k5, K.lookup C = some (excClassObj nm q C N bs bm true sn sub ab col dd k0 k1 k2 k3 k5 "ValueError.__new__") ∧ PySem.HandSPX.refsVE bm = true := by
  unfold oexB at q
  split at q
  · rename_i dd cd sl ho
    split at q
    · rename_i C' bm k0 k1 k2 k3 n k5 hm hs
      simp only [Bool.and_eq_true, beq_iff_eq, Bool.not_eq_true'] at q
      obtain ⟨rfl, rfl, hd, hdel, ht⟩ := q
      obtain ⟨nm, bs, mro, ns, qn, hd, sn, sub, ab, col, del⟩ := cd
      dsimp only at hm hdel hd
      subst hm hdel hd
      have hsl : sl = #[k0, k1, k2, k3, some (.builtin "ValueError.__new__"), k5] := by
        obtain ⟨l⟩ := sl
        simp only at hs
        rw [hs]
      subst hsl
      exact ⟨nm, qn, ns, bs, bm, sn, sub, ab, col, dd, k0, k1, k2, k3, k5, ho, ht⟩
    · cases q
  · cases q
section
variable {K : Fg} {h : Heap} {mg : Str → Option Value}
theorem err_ok {x : Str} (c : (Fx.err x).ok K = true) : OexC K (He.ga K x) ∧ XfC K (He.ga K x) := by
  obtain ⟨c1, c⟩ := He.ba c
  obtain ⟨c2, c⟩ := He.ba c
  obtain ⟨c3, c⟩ := He.ba c
  obtain ⟨c4, c5⟩ := He.ba c
  have xf := xfB_ok c5
  exact ⟨⟨oexB_ok c1, He.eqO_ok c2, xf.exC, of_decide_eq_true c3, c4⟩, xf⟩
theorem cut_ok (X : K.In h) (G : h.Ns mainGlobals mg) {x : Str} (g : mg x = some (.ref (He.ga K x))) (c : (Fx.cut x).ok K = true) : BsC K mg (He.ga K x) ∨ x ≠ "CutError" := by
  by_cases hx : x = "CutError"
  · subst hx
    obtain ⟨c1, c⟩ := He.ba c
    obtain ⟨c2, c3⟩ := He.ba c
    refine .inl ⟨g, c1, He.eqO_ok c2, ?_⟩
    split at c3
    · rename_i n e
      rw [e, of_decide_eq_true c3]
    · cases c3
  · exact .inr hx
theorem mkE_ok {x : Str} (c : (Fx.mkE x).ok K = true) : PySem.W.findIn K (.ref (He.ga K x)) "__init__" = some (some (.ref (He.ma K (He.ga K x) "__init__"))) ∧ PySem.W.typeIn K (.ref (He.ma K (He.ga K x) "__init__")) = some (.type "function") := by
  obtain ⟨c1, c2⟩ := He.ba c
  exact ⟨He.eqO_ok c1, of_decide_eq_true c2⟩
theorem exm_ok {x y : Str} {b : Bool} (c : (Fx.exm x y b).ok K = true) : PySem.W.exmOne K (.ref (He.ga K x)) (.ref (He.ga K y)) = some b := of_decide_eq_true c
theorem int_gc (X : K.In h) (G : h.Ns mainGlobals mg) {x : Str} {i : Int} (c : (He.Fa.int x i).ok K = true) : Gc K mg x (.int i) := by
  obtain ⟨t, e⟩ := He.int_ok X G c
  exact ⟨.int i, _, e, ⟨_, rfl⟩, fun _ => .int i⟩
end
abbrev dG (x : Str) (st : Stmt) : He.DefD := ⟨(x, none), x, x, defArgs st, defBody st, defScope st, [], []⟩
abbrev dM (C m qual : Str) (st : Stmt) : He.DefD := ⟨(C, some m), m, qual, defArgs st, defBody st, defScope st, [], []⟩
def obsX (fa : List He.Fa) (fx : List Fx) (fn : List He.DefD) (K : Fg) : He.AlD := ((fa.all fun f => f.ok K) && ((fx.all fun f => f.ok K) && fn.all fun d => d.ok K), fn.map fun d => He.fnW K d.at_)
def SaysX (fa : List He.Fa) (fx : List Fx) (fn : List He.DefD) (K : Fg) : Prop := obsX fa fx fn K = He.valD fn
def refsX (o : Obj) : List Addr := match o.data with
  | .func fd => He.refV fd.code ++ (He.refV fd.defaults ++ He.refV fd.kwdefaults)
  | .cls cd => cd.ns :: cd.mro.tail.flatMap He.refV
  | .dict es _ => es.toList.flatMap fun e => He.refV e.val
  | .seq its _ => if o.cls = .type "tuple" then its.toList.flatMap He.refV else []
  | _ => []
def asX (g : Addr → Option Obj) : Nat → List Addr → List Addr
  | 0, as => as
  | n + 1, as => as ++ asX g n (as.flatMap fun a => match g a with
    | some o => refsX o
    | none => [])
def obsXG (n : Nat) (fa : List He.Fa) (fx : List Fx) (fn : List He.DefD) (g : Addr → Option Obj) : He.AlD := obsX fa fx fn (He.frG g (PySem.cStatics :: asX g n [mainGlobals]))
def hookX (n : Nat) (fa : List He.Fa) (fx : List Fx) (fn : List He.DefD) : PySem.W.Hook where
  α := He.AlD
  obs := fun s => obsXG n fa fx fn s.heap.get?
  val := fun _ => He.valD fn
  says := fun _ h => ∃ K : Fg, K.In h ∧ SaysX fa fx fn K
  of := fun _ _ e => ⟨_, He.frG_in, e⟩
  keeps := fun _ _ _ ⟨K, hK, c⟩ k => ⟨K, PySem.W.Frag.In.keeps hK k, c⟩
theorem obsXG_eq {n : Nat} {fa : List He.Fa} {fx : List Fx} {fn : List He.DefD} {g : Addr → Option Obj} {s : Shared} (h : ∀ a, g a = s.heap.get? a) : obsXG n fa fx fn g = (hookX n fa fx fn).obs s := by
  have e : g = s.heap.get? := funext h
  rw [e] <;> rfl
section
variable {fa : List He.Fa} {fx : List Fx} {fn : List He.DefD} {K : Fg}
theorem SaysX.b (c : SaysX fa fx fn K) : ((fa.all fun f => f.ok K) && ((fx.all fun f => f.ok K) && fn.all fun d => d.ok K)) = true := congrArg (fun z : He.AlD => z.1) c
theorem SaysX.fact (c : SaysX fa fx fn K) (i : Nat) {f : He.Fa} (h : fa[i]? = some f) : f.ok K = true := List.all_eq_true.mp (He.ba c.b).1 f (List.mem_of_getElem? h)
theorem SaysX.own (c : SaysX fa fx fn K) (i : Nat) {f : Fx} (h : fx[i]? = some f) : f.ok K = true := List.all_eq_true.mp (He.ba (He.ba c.b).2).1 f (List.mem_of_getElem? h)
theorem SaysX.fun_ (c : SaysX fa fx fn K) (i : Nat) {d : He.DefD} (h : fn[i]? = some d) : ∃ fd, FunD K d.name d.qual d.params d.body d.scope (d.dvs K) (d.kws K) (He.fAd K d.at_) fd := by
  have c2 := List.all_eq_true.mp (He.ba (He.ba c.b).2).2 _ (List.mem_of_getElem? h)
  have e : fn.map (fun d => He.fnW K d.at_) = fn.map He.DefD.val := congrArg (fun z : He.AlD => z.2) c
  have e2 : (fn.map fun d => He.fnW K d.at_)[i]? = (fn.map He.DefD.val)[i]? := by rw [e]
  rw [List.getElem?_map, List.getElem?_map, h] at e2
  exact He.DefD.funD (Option.some.inj e2) c2
end
theorem run_join {r : PySem.W.OpenRow} {q : Program} {M n : Nat} {loose : List PySem.Str} {w : World} {fa1 fa2 : List He.Fa} {fx1 fx2 : List Fx} {fn1 fn2 : List He.DefD}
    (h1 : HandSHeadRun.RunEq r q (hookX n fa1 fx1 fn1) (fun s => obsXG n fa1 fx1 fn1 (HandSHeadRun.getT s)) M loose w) (h2 : HandSHeadRun.RunEq r q (hookX n fa2 fx2 fn2) (fun s => obsXG n fa2 fx2 fn2 (HandSHeadRun.getT s)) M loose w) :
    HandSHeadRun.RunEq r q (hookX n (fa1 ++ fa2) (fx1 ++ fx2) (fn1 ++ fn2)) (fun s => obsXG n (fa1 ++ fa2) (fx1 ++ fx2) (fn1 ++ fn2) (HandSHeadRun.getT s)) M loose w := by
  intro os
  have e1 := h1 os
  have e2 := h2 os
  obtain ⟨s, hs, e1⟩ := Option.map_eq_some_iff.mp e1
  obtain ⟨s', hs', e2⟩ := Option.map_eq_some_iff.mp e2
  rw [hs] at hs'
  cases hs'
  refine Option.map_eq_some_iff.mpr ⟨s, hs, ?_⟩
  have a1 : _ = _ := congrArg (fun z => z.1) e1
  have a2 : _ = _ := congrArg (fun z => z.2.1) e1
  have c1 : obsXG n fa1 fx1 fn1 (HandSHeadRun.getT s) = He.valD fn1 := congrArg (fun z => z.2.2) e1
  have c2 : obsXG n fa2 fx2 fn2 (HandSHeadRun.getT s) = He.valD fn2 := congrArg (fun z => z.2.2) e2
  refine Prod.ext a1 (Prod.ext a2 ?_)
  show obsX (fa1 ++ fa2) (fx1 ++ fx2) (fn1 ++ fn2) (He.frG (HandSHeadRun.getT s) (PySem.cStatics :: asX (HandSHeadRun.getT s) n [mainGlobals])) = He.valD (fn1 ++ fn2)
  have c1 : obsX fa1 fx1 fn1 (He.frG (HandSHeadRun.getT s) (PySem.cStatics :: asX (HandSHeadRun.getT s) n [mainGlobals])) = He.valD fn1 := c1
  have c2 : obsX fa2 fx2 fn2 (He.frG (HandSHeadRun.getT s) (PySem.cStatics :: asX (HandSHeadRun.getT s) n [mainGlobals])) = He.valD fn2 := c2
  revert c1 c2
  generalize He.frG (HandSHeadRun.getT s) (PySem.cStatics :: asX (HandSHeadRun.getT s) n [mainGlobals]) = K
  intro c1 c2
  have b1 := He.ba (SaysX.b c1)
  have b2 := He.ba (SaysX.b c2)
  have d1 := He.ba b1.2
  have d2 := He.ba b2.2
  have m1 : fn1.map (fun d => He.fnW K d.at_) = fn1.map He.DefD.val := congrArg (fun z : He.AlD => z.2) c1
  have m2 : fn2.map (fun d => He.fnW K d.at_) = fn2.map He.DefD.val := congrArg (fun z : He.AlD => z.2) c2
  refine Prod.ext ?_ ?_
  · show (((fa1 ++ fa2).all fun f => f.ok K) && (((fx1 ++ fx2).all fun f => f.ok K) && (fn1 ++ fn2).all fun d => d.ok K)) = true
    rw [List.all_append, List.all_append, List.all_append, b1.1, b2.1, d1.1, d2.1, d1.2, d2.2] <;> rfl
  · show (fn1 ++ fn2).map (fun d => He.fnW K d.at_) = (fn1 ++ fn2).map He.DefD.val
    rw [List.map_append, List.map_append, m1, m2]
theorem walkX {l : PySem.W.OpenLaw} {q : Program} {loose : List Str} {XP : (Str → Option Value) → Heap → Prop} {YP : World → Heap → Prop} {d : DefRec} {sp : Fg → Sp} {k : Nat} (hn : l.most = some 63) (hdf : d.params.defaults = []) (hr : Room k callerA)
    (F : ∀ (w : World) (mg : Str → Option Value) (fa : Addr) (h : Heap), YP w h → h.Ns mainGlobals mg → mg d.name = some (.ref fa) →
      ∃ (K : Fg) (fd : FuncData), K.In h ∧ (∀ (s : Shared) (u : Value), BindsTo s fd ⟨[u], []⟩ [("_law_script", u)]) ∧ ∀ base : Heap, K.In base → base.Ns mainGlobals mg → FnOk l.prog w K mg base (L2.CX l.prog w) k fa fd ["_law_script"] (sp K))
    (hsp : ∀ (K : Fg) (H : Hp) (a : Addr) (ns : List Int), ns.length ≤ 63 → Only H → SqL K H a (ns.map V.int) → sp K [.ref a] H (fun v _ => v = .bl true) fun _ _ _ => False)
    (hCX : ∀ (w : World) (H : Hp) (s : Shared) (e : Value) (s' : Shared), L2.CX l.prog w [] H s (fun _ _ _ => False) e s' → False) :
    PySem.W.WalkO q loose XP YP l.row.toRowW d [] (fun f vs => PySem.call f vs) := by
  refine Att.attach_call hn hdf fun w s₀ s₁ mg mb fa o pm cd doc a vs ns G Y ho hd hcd hmg hobj hints hlen hg => ?_
  obtain ⟨K, fd, KX, hb, hF⟩ := F w mg fa _ Y G.T.g hmg
  exact law_call KX G.T.g G.T.b G.T.builtins G.T.nolimit hg hobj hints (Nat.le_trans hlen (by decide)) hr hF hb (fun H hO hS => hsp K H a ns hlen hO hS) fun H e s' => hCX w H s₁ e s'
end Cut
namespace CutR
open PySem L2 DL ML Cut
abbrev RR : PySem.W.OpenRow := PySem.W.OpenLaw.row PySem.Challenge.rw_cutscribe_k07_automata_at_the_limit
abbrev qv : Program := PySem.W.view RR.prog [26]
def nms0 : List PySem.Str := ["CutError", "TooLarge", "parts_of", "is_plain", "add_row", "add_any", "add_again", "add_moves", "closure", "Matcher", "MOST_STATES", "MOST_EXPLORED", "explore", "refined", "grouped", "minimal", "automaton", "_law_source", "_law_draw", "_law_alphabet", "_law_size", "_law_case"]
def nms : List PySem.Str := nms0
def hfa0 : List He.Fa := [.cls "Matcher", .noat "Matcher" "word", .noat "Matcher" "within", .noat "Matcher" "moves", .noat "Matcher" "goal", .glo "parts_of", .glo "is_plain", .glo "add_row", .glo "add_any", .glo "add_again", .glo "add_moves", .glo "closure", .glo "explore", .glo "refined", .glo "grouped", .glo "minimal", .glo "automaton", .glo "_law_source", .glo "_law_draw", .glo "_law_alphabet", .glo "_law_size", .glo "_law_case", .glo "law", .mkr "Matcher", .glo "Matcher"]
def hfa1 : List He.Fa := [.meth "Matcher" "begin", .meth "Matcher" "step", .meth "Matcher" "accepts", .glo "CutError", .int "MOST_EXPLORED" 100000, .int "MOST_STATES" 40, .free "len", .free "list", .free "tuple", .free "sorted", .free "range", .free "int", .free "zip", .free "enumerate", .free "any", .free "all", .free "min", .free "max", .free "sum", .free "isinstance", .free "bool", .free "set", .free "ValueError", .glo "TooLarge", .noat "TooLarge" "what"]
def hfa : List He.Fa := hfa0 ++ (hfa1)
def hfx0 : List Fx := [.err "TooLarge", .mkE "TooLarge", .cut "CutError", .exm "TooLarge" "TooLarge" true]
def hfx : List Fx := hfx0
def hfn0 : List He.DefD := [dG "parts_of" (top 4), dG "is_plain" (top 5), dG "add_row" (top 6), dG "add_any" (top 7), dG "add_again" (top 8), dG "add_moves" (top 9), dG "closure" (top 10), dG "explore" (top 15), dG "refined" (top 16), dG "grouped" (top 17), dG "minimal" (top 18), dG "automaton" (top 19), dG "_law_source" (top 21), dG "_law_draw" (top 22), dG "_law_alphabet" (top 23), dG "_law_size" (top 24), dG "_law_case" (top 25), dG "law" (top 26), dM "Matcher" "__init__" "Matcher.__init__" (inClass (top 11) 0), dM "Matcher" "begin" "Matcher.begin" (inClass (top 11) 1), dM "Matcher" "step" "Matcher.step" (inClass (top 11) 2), dM "Matcher" "accepts" "Matcher.accepts" (inClass (top 11) 3), dM "TooLarge" "__init__" "TooLarge.__init__" (inClass (top 2) 0)]
def hfn : List He.DefD := hfn0
theorem hrun0 (w : World) : HandSHeadRun.RunEq RR qv (hookX 4 hfa [] []) (fun s => obsXG 4 hfa [] [] (HandSHeadRun.getT s)) 60000 nms w := by
  intro os
  kernel_rfl
theorem hrun1 (w : World) : HandSHeadRun.RunEq RR qv (hookX 4 [] hfx []) (fun s => obsXG 4 [] hfx [] (HandSHeadRun.getT s)) 60000 nms w := by
  intro os
  kernel_rfl
theorem hrun2 (w : World) : HandSHeadRun.RunEq RR qv (hookX 4 [] [] hfn) (fun s => obsXG 4 [] [] hfn (HandSHeadRun.getT s)) 60000 nms w := by
  intro os
  kernel_rfl
end CutR
namespace Cut
open PySem L2 DL
local macro_rules | `(tactic| walk_at "s") => `(tactic| repeat (first | with_reducible refine ⟨_, rfl, ?_⟩ | refine ⟨_, rfl, ?_⟩ | refine ⟨rfl, ?_⟩ | refine ⟨_, _, rfl, rfl, ?_⟩ | refine ⟨_, _, rfl, ?_⟩ | refine iteT ?_ | refine iteF ?_ | refine ⟨⟨_, rfl⟩, ?_⟩ | refine ⟨⟨_, _, rfl⟩, ?_⟩ | refine ⟨_, _, _, _, rfl, rfl, rfl, ?_⟩ | refine ⟨Nat.le_of_ble_eq_true rfl, ?_⟩ | refine ⟨(by decide), ?_⟩ | refine ⟨_, ix_t0 _ _, ?_⟩ | refine ⟨_, ix_l0 _ _, ?_⟩))
abbrev s_l_source : Stmt := top 21
abbrev N_l_source : List Str := ["_law_script", "_law_k", "_law_cell", "_law_deep"]
theorem sc_l_source : FnScope N_l_source ["_law_script", "_law_k"] (defScope s_l_source) := ⟨rfl, rfl, rfl, by decide +kernel, rfl, by decide +kernel, by decide +kernel⟩
abbrev s_l_draw : Stmt := top 22
abbrev N_l_draw : List Str := ["_law_source_here", "_law_many", "_law_digit", "_law_seed"]
theorem sc_l_draw : FnScope N_l_draw ["_law_source_here", "_law_many"] (defScope s_l_draw) := ⟨rfl, rfl, rfl, by decide +kernel, rfl, by decide +kernel, by decide +kernel⟩
abbrev s_l_alphabet : Stmt := top 23
abbrev N_l_alphabet : List Str := ["_law_source_here", "_law_many", "_law_left", "_law_k"]
theorem sc_l_alphabet : FnScope N_l_alphabet ["_law_source_here", "_law_many"] (defScope s_l_alphabet) := ⟨rfl, rfl, rfl, by decide +kernel, rfl, by decide +kernel, by decide +kernel⟩
section
variable {P : Program} {w : World} {K : Fg} {mg : Str → Option Value} {base : Heap} {f f2 : Addr} {fd fd2 : FuncData}
def Src (c : Nat) (xs : List D) : Prop := ∃ a b n : Int, xs = [.int a, .int b, .int n] ∧ 0 ≤ b ∧ b ≤ 2 ^ 50 ∧ 0 ≤ n ∧ n ≤ c
theorem Src.mono {c c' : Nat} {xs : List D} (h : Src c xs) (hc : c ≤ c') : Src c' xs := let ⟨a, b, n, h1, h2, h3, h4, h5⟩ := h; ⟨a, b, n, h1, h2, h3, h4, by omega⟩
def g_source : FS0 := fun ds Q => ∃ (ns : List Int) (k : Int), ds = [.scr ns, .int k] ∧ 0 ≤ k ∧ k ≤ 1000000 ∧ ∀ xs, Src 0 xs → Q (.fr xs)
theorem ok_source (A : At K mg "_law_source" ["_law_script", "_law_k"] s_l_source f fd) (m_len : mg "len" = none) : Fn0 P w K mg base "_law_source" 1 2 g_source := by
  refine A.fn0 (okD0 (k := 0) A.fn sc_l_source (by decide) (fun cdv A outer s H E hr => (dss_cons (ds_set 2 sc_l_source.nd rfl (by first | exact Or.inl rfl | exact Or.inr rfl) de_int)
      (dss_cons (ds_set 3 sc_l_source.nd rfl (by first | exact Or.inl rfl | exact Or.inr rfl) de_int)
      (dss_cons (ds_if (dt_gt (de_len (by rfl) m_len (da_cons (de_v 0) da_nil)) de_int) (dss_one (ds_set 2 sc_l_source.nd rfl (by first | exact Or.inl rfl | exact Or.inr rfl) (de_ix (de_v 0) (de_mod (de_v 1) (de_len (by rfl) m_len (da_cons (de_v 0) da_nil))) (fun _ _ => rfl)))) dss_nil)
      (dss_cons (ds_if (DW.dt (dw_and (dt_lt (de_v 1) (de_len (by rfl) m_len (da_cons (de_v 0) da_nil))) (dw_and1 (dt_ge (de_v 2) (de_pow de_int de_int))))) (dss_one (ds_set 3 sc_l_source.nd rfl (by first | exact Or.inl rfl | exact Or.inr rfl) (de_v 2))) dss_nil)
      (dss_one (ds_ret (de_lst (da_cons (de_v 3) (da_cons (de_add (de_add (de_mod (de_v 2) de_int) (de_mul de_int (de_v 1))) de_int) (da_cons de_int da_nil))))))))))) ?_)
  rintro ds Q hl ⟨ns, k, rfl, hk, hk2, q⟩
  have fin : ∀ (a c : Int), (tRetD (tLstD (tACons (tV 3) (tACons (tBin addD (tBin addD (tBin modD (tV 2) (tK (.int 2147483647))) (tBin mulD (tK (.int 7919000)) (tV 1))) (tK (.int 104729))) (tACons (tK (.int 0)) tANil))))) { nx := fun _ => Q (.fz .non), rt := fun r _ => Q r } [some (.fz (.scr ns)), some (.fz (.int k)), some (.fz (.int c)), some (.fz (.int a))] := by
    intro a c
    walk_at "s"
    refine q _ ⟨a, c % 2147483647 + 7919000 * k + 104729, 0, rfl, ?_, ?_, by decide, by decide⟩
    · have := Int.emod_nonneg c (b := 2147483647) (by decide)
      omega
    · have := Int.emod_lt_of_pos c (b := 2147483647) (by decide)
      omega
  have mid : ∀ c : Int, (tSeqD (tIfD (tAndT (tT (tBin ltD (tV 1) (tCallG lenD (tACons (tV 0) tANil)))) (tT (tBin geD (tV 2) (tBin powD (tK (.int 10)) (tK (.int 18)))))) (tSetD 3 (tV 2)) tNextD)
      (tRetD (tLstD (tACons (tV 3) (tACons (tBin addD (tBin addD (tBin modD (tV 2) (tK (.int 2147483647))) (tBin mulD (tK (.int 7919000)) (tV 1))) (tK (.int 104729))) (tACons (tK (.int 0)) tANil)))))) { nx := fun _ => Q (.fz .non), rt := fun r _ => Q r } [some (.fz (.scr ns)), some (.fz (.int k)), some (.fz (.int c)), some (.fz (.int 0))] := by
    intro c
    walk_at "s"
    refine ifB (fun h => ?_) (fun h => ?_)
    · walk_at "s"
      refine ifB (fun h => ?_) (fun h => ?_)
      · exact ⟨_, rfl, rfl, fin c c⟩
      · exact fin 0 c
    · exact fin 0 c
  walk_at "s"
  refine ifB (fun h => ?_) (fun h => ?_)
  · have h1 : (0 : Int) < (ns.length : Int) := of_decide_eq_true h
    obtain ⟨x, hx, _⟩ := atI_ok (xs := ns) (Int.emod_nonneg k (by omega)) (Int.emod_lt_of_pos k h1)
    walk_at "s"
    refine ⟨_, mod_ok h1, .fz (.int x), by show (atI ns _).map _ = _; rw [hx]; rfl, rfl, mid x⟩
  · exact mid 0
def g_draw : FS1 := fun xs ds Q => ∃ (c : Nat) (m : Int), ds = [.int m] ∧ Src c xs ∧ c ≤ 2 ^ 40 ∧ 0 < m ∧ m ≤ 1000000 ∧ ∀ (i : Int) xs', 0 ≤ i → i < m → Src (c + 1) xs' → Q (.fz (.int i)) xs'
theorem ok_draw (A : At K mg "_law_draw" ["_law_source_here", "_law_many"] s_l_draw f fd) : Fn1 P w K mg base "_law_draw" 1 2 g_draw := by
  refine A.fn1 (okD1 (k := 0) A.fn sc_l_draw (by decide) (fun cdv A outer s H E hr => (dss_cons (ds_subO 0 (de_add (de_ixO 0 de_int (fun _ _ => rfl)) de_int) de_int)
      (dss_cons (ds_if (dt_gt (de_ixO 0 de_int (fun _ _ => rfl)) de_int) (dss_cons (ds_set 2 sc_l_draw.nd rfl (by first | exact Or.inl rfl | exact Or.inr rfl) (de_mod (de_ixO 0 de_int (fun _ _ => rfl)) (de_v 1)))
      (dss_cons (ds_subO 0 (de_fdiv (de_ixO 0 de_int (fun _ _ => rfl)) (de_v 1)) de_int)
      (dss_one (ds_ret (de_v 2))))) dss_nil)
      (dss_cons (ds_set 3 sc_l_draw.nd rfl (by first | exact Or.inl rfl | exact Or.inr rfl) (de_mod (de_pow (de_add (de_ixO 0 de_int (fun _ _ => rfl)) (de_mul de_int (de_ixO 0 de_int (fun _ _ => rfl)))) de_int) de_int))
      (dss_one (ds_ret (de_mod (de_fdiv (de_mod (de_mul (de_add (de_v 3) (de_ixO 0 de_int (fun _ _ => rfl))) de_int) de_int) de_int) (de_v 1)))))))) ?_)
  rintro xs ds Q hl ⟨c, m, rfl, ⟨a, b, n, rfl, b0, b1, n0, n1⟩, hc, m0, m1, q⟩
  walk_at "s"
  refine ifB (fun h => ?_) (fun h => ?_)
  · have h1 : 0 < a := of_decide_eq_true h
    walk_at "s"
    refine ⟨_, mod_ok m0, ?_⟩
    walk_at "s"
    refine ⟨_, fdiv_ok m0 (by omega), ?_⟩
    walk_at "s"
    exact q _ _ (Int.emod_nonneg a (by omega)) (Int.emod_lt_of_pos a m0) ⟨_, _, _, rfl, b0, b1, by omega, by omega⟩
  · walk_at "s"
    refine ⟨_, pow_ok (by decide) (by decide) (by omega), ?_⟩
    walk_at "s"
    refine ⟨_, mul_okR (by decide) (by decide), ?_⟩
    walk_at "s"
    refine ⟨_, mod_ok m0, ?_⟩
    walk_at "s"
    exact q _ _ (Int.emod_nonneg _ (by omega)) (Int.emod_lt_of_pos _ m0) ⟨_, _, _, rfl, b0, b1, by omega, by omega⟩
def CH : List Nat := ((("abcdefghijklmnopqrstuvwxyz0123456789 -." : Str) ++ ("_" : Str))).cps.toList
theorem CH_eq : CH = [97, 98, 99, 100, 101, 102, 103, 104, 105, 106, 107, 108, 109, 110, 111, 112, 113, 114, 115, 116, 117, 118, 119, 120, 121, 122, 48, 49, 50, 51, 52, 53, 54, 55, 56, 57, 32, 45, 46, 95] := by decide +kernel
structure Alp (A : Str) : Prop where
  lo : 1 ≤ A.length
  hi : A.length ≤ 6
  nd : A.cps.toList.Nodup
  ch : ∀ c ∈ A.cps.toList, c ∈ CH
def sgn (c : Nat) : D := .str ⟨#[c]⟩
def g_alphabet : FS1 := fun xs ds Q => ∃ (c : Nat) (m : Int), ds = [.int m] ∧ Src c xs ∧ c + 6 ≤ 2 ^ 40 ∧ 1 ≤ m ∧ m ≤ 6 ∧ ∀ A xs', Alp A → A.length = m.toNat → Src (c + 6) xs' → Q (.fz (.str A)) xs'
theorem rangeD_map (lo : Int) (n : Nat) : rangeD lo n = (List.range n).map fun (i : Nat) => D.int (lo + i) := rfl
theorem map_erase {α β : Type} (f : α → β) : ∀ (l : List α) (i : Nat), (l.map f).eraseIdx i = (l.eraseIdx i).map f
  | [], _ => rfl
  | _ :: _, 0 => rfl
  | a :: l, i + 1 => by
    show f a :: (l.map f).eraseIdx i = f a :: (l.eraseIdx i).map f
    rw [map_erase f l i]
theorem nd_erase {l : List Nat} (h : l.Nodup) {i : Nat} (hi : i < l.length) : l[i] ∉ l.eraseIdx i := by
  induction l generalizing i with
  | nil => exact absurd hi (Nat.not_lt_zero _)
  | cons a l ih =>
    rw [List.nodup_cons] at h
    cases i with
    | zero => exact h.1
    | succ i =>
      have hi' : i < l.length := by simpa using hi
      intro z
      have z' : l[i] ∈ a :: l.eraseIdx i := z
      rcases List.mem_cons.mp z' with e | e
      · exact h.1 (e ▸ List.getElem_mem (by simpa using hi))
      · exact ih h.2 (by simpa using hi) e
theorem alpha_turns {Q : List D → Ev → Prop} {m : Int} : ∀ (n : Nat) (is : List Nat) (c : Nat) (xs : List D) (left acc : List Nat), is.length = n → Src c xs → c + n ≤ 2 ^ 40 → left.length ≥ n → left.length ≤ 1000 → acc.length + n ≤ 1000 → (∀ x ∈ left, x ∉ acc) → left.Nodup → acc.Nodup → (∀ x ∈ left, x ∈ CH) → (∀ x ∈ acc, x ∈ CH) →
    (∀ (acc' : List Nat) (xs' left' : List D), acc'.length = acc.length + n → acc'.Nodup → (∀ x ∈ acc', x ∈ CH) → Src (c + n) xs' → Q (acc'.map sgn) [some (.ow true xs'), some (.fz (.int m)), some (.ow false left'), none]) →
    lcD [3] (gN 3) tYesD (tPopO 2 (tACons (tCall1 g_draw 0 (tACons (tLenO 2) tANil)) tANil)) (is.map fun (i : Nat) => D.int (0 + i)) [some (.ow true xs), some (.fz (.int m)), some (.ow false (left.map sgn)), none] (acc.map sgn) Q
  | 0, [], c, xs, left, acc, _, hS, _, _, _, _, _, _, hn, _, hac, q => q acc xs _ rfl hn hac hS
  | n + 1, i :: is, c, xs, left, acc, hl, hS, hc, hll, hlm, ham, hdis, hnl, hna, hlc, hac, q => by
    refine ⟨rfl, ⟨_, _, rfl⟩, ⟨_, _, rfl⟩, _, _, rfl, _, _, rfl, c, _, rfl, hS, by omega, by rw [List.length_map]; omega, by rw [List.length_map]; omega, fun j xs' j0 j1 hS' => ?_⟩
    rw [List.length_map] at j1
    have hj : j.toNat < left.length := by omega
    refine ⟨_, _, _, j.toNat, sgn (left[j.toNat]), rfl, rfl, ⟨by omega, by omega⟩, ?_, ?_, by rw [List.length_map]; omega, ?_⟩
    · show seqIndex? j (left.map sgn).length = _
      rw [List.length_map]
      unfold seqIndex?
      simp
      omega
    · rw [List.getElem?_map, List.getElem?_eq_getElem hj]
      rfl
    · have e1 : (left.map sgn).eraseIdx j.toNat = (left.eraseIdx j.toNat).map sgn := map_erase ..
      have e2 : acc.map sgn ++ [sgn left[j.toNat]] = (acc ++ [left[j.toNat]]).map sgn := by rw [List.map_append]; rfl
      show lcD _ _ _ _ _ [some (.ow true xs'), some (.fz (.int m)), some (.ow false ((left.map sgn).eraseIdx j.toNat)), none] (acc.map sgn ++ [sgn left[j.toNat]]) Q
      rw [e1, e2]
      have hsub : ∀ x ∈ left.eraseIdx j.toNat, x ∈ left := fun x hx => List.mem_of_mem_eraseIdx hx
      have hne : ∀ x ∈ left.eraseIdx j.toNat, x ≠ left[j.toNat] := fun x hx e => nd_erase hnl hj (e ▸ hx)
      refine alpha_turns n is (c + 1) xs' (left.eraseIdx j.toNat) (acc ++ [left[j.toNat]]) (by simpa using hl) hS' (by omega) (by rw [List.length_eraseIdx_of_lt hj]; omega) (by rw [List.length_eraseIdx_of_lt hj]; omega) (by simp; omega) (fun x hx hm => ?_) (hnl.sublist (List.eraseIdx_sublist ..)) ?_ (fun x hx => hlc x (hsub x hx)) ?_ (fun acc' xs2 left' h1 h2 h3 h4 => q acc' xs2 left' (by rw [h1]; simp; omega) h2 h3 (by rw [show c + (n + 1) = c + 1 + n by omega]; exact h4))
      · rcases List.mem_append.mp hm with hm | hm
        · exact hdis x (hsub x hx) hm
        · exact hne x hx (List.mem_singleton.mp hm)
      · rw [List.nodup_append]
        refine ⟨hna, by simp, ?_⟩
        intro a ha b hb e
        rw [List.mem_singleton.mp hb] at e
        subst e
        exact hdis _ (List.getElem_mem hj) ha
      · intro x hx
        rcases List.mem_append.mp hx with hx | hx
        · exact hac x hx
        · rw [List.mem_singleton.mp hx]
          exact hlc _ (List.getElem_mem hj)
theorem ok_alphabet (A : At K mg "_law_alphabet" ["_law_source_here", "_law_many"] s_l_alphabet f fd) (m_len : mg "len" = none) (m_list : mg "list" = none) (m_range : mg "range" = none) (c_l_draw : Fn1 P w K mg base "_law_draw" 1 2 g_draw) : Fn1 P w K mg base "_law_alphabet" 2 2 g_alphabet := by
  refine A.fn1 (okD1 (k := 1) A.fn sc_l_alphabet (by decide) (fun cdv A outer s H E hr => (dss_cons (ds_setO 2 sc_l_alphabet.nd rfl (by first | exact Or.inl rfl | exact Or.inr rfl) (de_list rfl (by rfl) m_list (da_cons (de_add de_str de_str) da_nil)))
      (dss_one (ds_ret (de_join de_str (de_lc (own := [("_law_k", 3)]) rfl sc_l_alphabet.nd (di_range1 (by rfl) m_range (da_cons (de_v 1) da_nil)) (blkOk_by (N := N_l_alphabet) (sc := defScope s_l_alphabet) (own := [("_law_k", 3)]) (by decide +kernel)) (fun _ _ _ _ _ => (dg_n 3 sc_l_alphabet.nd rfl (by first | exact Or.inl rfl | exact Or.inr rfl))) (fun _ _ _ _ _ => dts_nil) (fun _ _ _ _ _ => (de_popO 2 (da_cons (de_c1 0 c_l_draw (hr.mono (by decide)) (by rfl) (da_cons (de_lenO 2 (by rfl) m_len) da_nil)) da_nil))))))))) ?_)
  rintro xs ds Q hl ⟨c, m, rfl, hS, hc, m0, m1, q⟩
  walk_at "s"
  refine ⟨⟨by omega, by omega⟩, rfl, ?_⟩
  refine alpha_turns (m := m) m.toNat (List.range m.toNat) c xs CH [] (by simp) hS (by omega) (by rw [CH_eq]; show 40 ≥ _; omega) (by rw [CH_eq]; decide) (by simp; omega) (by simp) (by rw [CH_eq]; decide) (by simp) (fun x hx => hx) (by simp) (fun acc' xs' left' h1 h2 h3 h4 => ?_)
  have hl6 : acc'.length = m.toNat := by simpa using h1
  have hlen : (ofL acc').length = acc'.length := by rw [len_l, ofL_l]
  exact ⟨_, joinD_signs acc' (by omega), xs', rfl, q (ofL acc') xs' ⟨by omega, by omega, by rw [ofL_l]; exact h2, by rw [ofL_l]; exact h3⟩ (by omega) (h4.mono (by omega))⟩
theorem flat_ints : ∀ ns : List Int, (ns.map D.int).all D.flat = true
  | [] => rfl
  | n :: ns => by rw [List.map_cons, List.all_cons, flat_ints ns]; rfl
theorem in_ints (i : Int) (ns : List Int) : inD (.int i) (.lst (ns.map .int)) = some (.fz (.bl (decide (i ∈ ns)))) := by
  show (if ((D.int i).flat && (ns.map D.int).all D.flat) = true then some ((ns.map D.int).any fun b => eqB b (.int i)) else none).map _ = _
  rw [flat_ints, show ((D.int i).flat && true) = true from rfl, if_pos rfl]
  show some (Res.fz (.bl ((ns.map D.int).any fun b => eqB b (.int i)))) = _
  congr 3
  induction ns with
  | nil => rfl
  | cons n ns ih =>
    rw [List.map_cons, List.any_cons, ih]
    show (decide (n = i) || decide (i ∈ ns)) = decide (i ∈ n :: ns)
    rw [← Bool.decide_or]
    congr 1
    rw [List.mem_cons, show (i = n) = (n = i) from propext ⟨Eq.symm, Eq.symm⟩]
def setsOk (A : Str) (ss : List Str) : Prop := ∀ s ∈ ss, isSetM A [.str s] = true ∧ s.length ≤ 6
end
end Cut
namespace Cut
open PySem L2 DL
mutual
def stR (A : Str) : Rx → Bool
  | .set s => isSetM A [.str s] && decide (s.length ≤ 6)
  | .row ps | .any ps | .all ps => stRL A ps
  | .no p => stR A p
  | .again p _ _ => stR A p
def stRL (A : Str) : List Rx → Bool
  | [] => true
  | p :: ps => stR A p && stRL A ps
end
theorem stRL_all (A : Str) : ∀ ps, (∀ p ∈ ps, stR A p = true) → stRL A ps = true
  | [], _ => rfl
  | p :: ps, h => by rw [stRL, h p (List.mem_cons_self ..), stRL_all A ps fun q hq => h q (List.mem_cons_of_mem _ hq)]; rfl
theorem okRL_all : ∀ ps, (∀ p ∈ ps, okR p = true) → okRL ps = true
  | [], _ => rfl
  | p :: ps, h => by rw [okRL, h p (List.mem_cons_self ..), okRL_all ps fun q hq => h q (List.mem_cons_of_mem _ hq)]; rfl
mutual
theorem exprR (A : Str) : ∀ r, stR A r = true → okR r = true → isExpr A (toD r) = true
  | .set s, h, _ => by
    rw [toD, isExpr, exprB, if_pos rfl]
    rw [stR, Bool.and_eq_true] at h
    exact h.1
  | .row ps, h, o => by
    rw [toD, isExpr, exprB, if_neg k1, if_neg k2, if_neg (by rintro (⟨z, _⟩ | z); exact k3 z; exact z (.inl rfl))]
    rw [okR, Bool.and_eq_true] at o
    exact exprRL A ps h o.2
  | .any ps, h, o => by
    rw [toD, isExpr, exprB, if_neg k4, if_neg k5, if_neg (by rintro (⟨z, _⟩ | z); exact k6 z; exact z (.inr (.inl rfl)))]
    rw [okR, Bool.and_eq_true] at o
    exact exprRL A ps h o.2
  | .all ps, h, o => by
    rw [toD, isExpr, exprB, if_neg k7, if_neg k8, if_neg (by rintro (⟨z, _⟩ | z); exact k9 z; exact z (.inr (.inr (.inl rfl))))]
    rw [okR, Bool.and_eq_true] at o
    exact exprRL A ps h o.2
  | .no p, h, o => by
    rw [toD, isExpr, exprB, if_neg k10, if_neg k11, if_neg (by rintro (⟨_, z⟩ | z); exact z rfl; exact z (.inr (.inr (.inr rfl)))), isExprM, isExprM, exprR A p h o]
    rfl
  | .again p lo hi, h, o => by
    rw [okR, Bool.and_eq_true, Bool.and_eq_true, Bool.and_eq_true] at o
    rw [toD, isExpr, exprB, if_neg k12, if_pos rfl, isExprM, isExprM, isExprM, isExprM, againB, exprR A p h o.1.1.1, Bool.true_and, loB, o.1.1.2, o.1.2]
    have o2 := o.2
    cases hi with
    | none => rfl
    | some hh => exact o2
theorem exprRL (A : Str) : ∀ ps, stRL A ps = true → okRL ps = true → (isExprM A (toDL ps)).all id = true
  | [], _, _ => rfl
  | p :: ps, h, o => by
    rw [stRL, Bool.and_eq_true] at h
    rw [okRL, Bool.and_eq_true] at o
    rw [toDL, isExprM, List.all_cons, exprR A p h.1 o.1, exprRL A ps h.2 o.2]
    rfl
end
theorem strlen_set : ("set" : Str).length = 3 := by decide +kernel
theorem strlen_row : ("row" : Str).length = 3 := by decide +kernel
theorem strlen_any : ("any" : Str).length = 3 := by decide +kernel
theorem strlen_all : ("all" : Str).length = 3 := by decide +kernel
theorem strlen_not : ("not" : Str).length = 3 := by decide +kernel
theorem strlen_again : ("again" : Str).length = 5 := by decide +kernel
theorem val_hi (hi : Option Int) : val (hiD hi) = true := by cases hi <;> rfl
theorem dep_hi (hi : Option Int) : dep (hiD hi) = 0 := by cases hi <;> rfl
mutual
theorem val_toD : ∀ r, okR r = true → val (toD r) = true
  | .set s, h => by
    rw [okR] at h
    simp only [toD, val, valL, strlen_set, h]
    rfl
  | .row ps, h => by
    rw [okR, Bool.and_eq_true] at h
    have := of_decide_eq_true h.1
    simp only [toD, val, valL, strlen_row, val_toDL ps h.2, List.length_cons, toDL_len]
    simp
    omega
  | .any ps, h => by
    rw [okR, Bool.and_eq_true] at h
    have := of_decide_eq_true h.1
    simp only [toD, val, valL, strlen_any, val_toDL ps h.2, List.length_cons, toDL_len]
    simp
    omega
  | .all ps, h => by
    rw [okR, Bool.and_eq_true] at h
    have := of_decide_eq_true h.1
    simp only [toD, val, valL, strlen_all, val_toDL ps h.2, List.length_cons, toDL_len]
    simp
    omega
  | .no p, h => by
    rw [okR] at h
    simp only [toD, val, valL, strlen_not, val_toD p h]
    rfl
  | .again p lo hi, h => by
    rw [okR, Bool.and_eq_true, Bool.and_eq_true, Bool.and_eq_true] at h
    simp only [toD, val, valL, strlen_again, val_toD p h.1.1.1, val_hi]
    rfl
theorem val_toDL : ∀ ps, okRL ps = true → valL (toDL ps) = true
  | [], _ => rfl
  | p :: ps, h => by
    rw [okRL, Bool.and_eq_true] at h
    rw [toDL, valL, val_toD p h.1, val_toDL ps h.2]
    rfl
end
mutual
theorem dep_toD : ∀ r, dep (toD r) ≤ rdep r + 1
  | .set s => by simp [toD, dep, depL]
  | .row ps => by have := dep_toDL ps; simp only [toD, dep, depL, rdep]; omega
  | .any ps => by have := dep_toDL ps; simp only [toD, dep, depL, rdep]; omega
  | .all ps => by have := dep_toDL ps; simp only [toD, dep, depL, rdep]; omega
  | .no p => by have := dep_toD p; simp only [toD, dep, depL, rdep]; omega
  | .again p lo hi => by have := dep_toD p; have := dep_hi hi; simp only [toD, dep, depL, rdep]; omega
theorem dep_toDL : ∀ ps, depL (toDL ps) ≤ rdepL ps + 1
  | [] => by simp [toDL, depL]
  | p :: ps => by have := dep_toD p; have := dep_toDL ps; simp only [toDL, depL, rdepL]; omega
end
structure Okp (A : Str) (r : Rx) : Prop where
  st : stR A r = true
  ok : okR r = true
  dp : rdep r ≤ 50
theorem sum_const {α : Type} {f : α → Int} : ∀ (l : List α) (k : Int), (∀ a ∈ l, f a = k) → (l.map f).sum = k * l.length
  | [], k, _ => by simp
  | a :: l, k, h => by
    rw [List.map_cons, List.sum_cons, h a (List.mem_cons_self ..), sum_const l k fun b hb => h b (List.mem_cons_of_mem _ hb), List.length_cons]
    rw [show ((l.length + 1 : Nat) : Int) = (l.length : Int) + 1 by omega, Int.mul_add]
    omega
theorem all_const {α : Type} {f : α → Bool} (l : List α) (h : ∀ a ∈ l, f a = true) : (l.map f).all id = true := by
  rw [List.all_eq_true]
  intro x hx
  obtain ⟨a, ha, rfl⟩ := List.mem_map.mp hx
  exact h a ha
theorem stR_sets {A : Str} {ss : List Str} (h : setsOk A ss) : ∀ p ∈ ss.map Rx.set, stR A p = true := by
  intro p hp
  obtain ⟨s, hs, rfl⟩ := List.mem_map.mp hp
  rw [stR, (h s hs).1, decide_eq_true (h s hs).2]
  rfl
theorem okR_set {A : Str} {s : Str} (h : s.length ≤ 6) : okR (.set s) = true := by rw [okR]; exact decide_eq_true (by omega)
theorem okR_sets {A : Str} {ss : List Str} (h : setsOk A ss) : ∀ p ∈ ss.map Rx.set, okR p = true := by
  intro p hp
  obtain ⟨s, hs, rfl⟩ := List.mem_map.mp hp
  exact okR_set (A := A) (h s hs).2
theorem wd_sets (ss : List Str) : (wdL (ss.map Rx.set)).sum = (ss.length : Int) := by
  rw [wdL_map, sum_const _ 1 (by intro p hp; obtain ⟨s, _, rfl⟩ := List.mem_map.mp hp; rfl), List.length_map]
  omega
theorem cnt_sets (ss : List Str) : (cntL (ss.map Rx.set)).sum = (ss.length : Int) := by
  rw [cntL_map, sum_const _ 1 (by intro p hp; obtain ⟨s, _, rfl⟩ := List.mem_map.mp hp; rfl), List.length_map]
  omega
theorem plain_sets (ss : List Str) : (plainL (ss.map Rx.set)).all id = true := by
  rw [plainL_map]
  exact all_const _ (by intro p hp; obtain ⟨s, _, rfl⟩ := List.mem_map.mp hp; rfl)
theorem rdepL_le : ∀ (ps : List Rx) (n : Nat), (∀ p ∈ ps, rdep p ≤ n) → rdepL ps ≤ n
  | [], n, _ => Nat.zero_le _
  | p :: ps, n, h => by
    have h1 := h p (List.mem_cons_self ..)
    have h2 := rdepL_le ps n fun q hq => h q (List.mem_cons_of_mem _ hq)
    rw [rdepL]
    omega
theorem rdep_sets (ss : List Str) : rdepL (ss.map Rx.set) = 0 := by
  have := rdepL_le (ss.map Rx.set) 0 (by intro p hp; obtain ⟨s, _, rfl⟩ := List.mem_map.mp hp; exact Nat.le_refl _)
  omega
theorem mx1_of {j : Int} (h : 1 ≤ j) : mx1 j = j := by unfold mx1; split <;> omega
def mk (w : Nat) (ps : List Rx) : Rx := match w with | 0 => .row ps | 1 => .any ps | _ => .all ps
theorem Okp.of {A : Str} {w : Nat} {ps : List Rx} (h1 : ∀ p ∈ ps, stR A p = true) (h2 : ∀ p ∈ ps, okR p = true) (h3 : ps.length ≤ 9999) (h4 : rdepL ps ≤ 40) : Okp A (Cut.mk w ps) := by
  have e1 := stRL_all A ps h1
  have e2 := okRL_all ps h2
  have e3 : (decide (ps.length ≤ 9999) && okRL ps) = true := by rw [decide_eq_true h3, e2]; rfl
  match w with
  | 0 => exact ⟨by show stR A (.row ps) = true; rw [stR]; exact e1, by show okR (.row ps) = true; rw [okR]; exact e3, by show rdep (.row ps) ≤ 50; rw [rdep]; omega⟩
  | 1 => exact ⟨by show stR A (.any ps) = true; rw [stR]; exact e1, by show okR (.any ps) = true; rw [okR]; exact e3, by show rdep (.any ps) ≤ 50; rw [rdep]; omega⟩
  | n + 2 => exact ⟨by show stR A (.all ps) = true; rw [stR]; exact e1, by show okR (.all ps) = true; rw [okR]; exact e3, by show rdep (.all ps) ≤ 50; rw [rdep]; omega⟩
theorem add_tup {a b : List D} (h : a.length + b.length ≤ 16000) : addD (.tup a) (.tup b) = some (.fz (.tup (a ++ b))) := by
  show (if _ then _ else _) = _
  rw [if_pos h]
theorem mul_tup {a : List D} {k : Int} (h1 : a ≠ []) (h2 : 0 ≤ k) (h3 : k ≤ 1000) (h4 : a.length ≤ 1000) : mulD (.tup a) (.int k) = some (.fz (.tup (List.replicate k.toNat a).flatten)) := by
  show (if _ then _ else _) = _
  rw [if_pos (decide_eq_true ⟨h1, h2, h3, h4⟩)]
theorem wd_row (ps : List Rx) : wd (.row ps) = mx1 (wdL ps).sum := wd.eq_2 ps
theorem wd_any (ps : List Rx) : wd (.any ps) = mx1 (wdL ps).sum := wd.eq_3 ps
theorem wd_all (ps : List Rx) : wd (.all ps) = mx1 (wdL ps).sum := wd.eq_4 ps
theorem wd_no (p : Rx) : wd (.no p) = mx1 (wd p) := wd.eq_5 p
structure Pln (A : Str) (R : Int) (r : Rx) : Prop where
  st : stR A r = true
  ok : okR r = true
  dp : rdep r ≤ 3
  pl : plain r = true
  wl : wd r ≤ R
  w1 : 1 ≤ wd r
  ct : cnt r ≤ R + 3
structure Pat (A : Str) (R : Int) (r : Rx) : Prop where
  st : stR A r = true
  ok : okR r = true
  dp : rdep r ≤ 5
  hp : hasP r = true
  wl : wd r ≤ R
  w1 : 1 ≤ wd r
  ct : cnt r ≤ R + 8
mutual
theorem plain_hasP : ∀ r : Rx, plain r = true → hasP r = true
  | .set _, _ => rfl
  | .row ps, h => by rw [hasP]; rw [plain] at h; exact h
  | .any ps, h => by rw [hasP]; rw [plain] at h; exact plain_hasPL ps h
  | .all _, h => by rw [plain] at h; cases h
  | .no _, h => by rw [plain] at h; cases h
  | .again p _ _, h => by rw [hasP]; rw [plain] at h; exact h
theorem plain_hasPL : ∀ ps : List Rx, (plainL ps).all id = true → (hasPL ps).all id = true
  | [], _ => rfl
  | p :: ps, h => by
    rw [plainL, List.all_cons, Bool.and_eq_true] at h
    rw [hasPL, List.all_cons, Bool.and_eq_true]
    exact ⟨plain_hasP p h.1, plain_hasPL ps h.2⟩
end
theorem Pln.set {A s : Str} {R : Int} (h1 : isSetM A [.str s] = true) (h2 : s.length ≤ 6) (hR : 1 ≤ R) : Pln A R (.set s) :=
  ⟨by rw [stR, h1, decide_eq_true h2]; rfl, okR_set (A := A) h2, by rw [rdep]; decide, rfl, hR, Int.le_refl 1, by show (1 : Int) ≤ _; omega⟩
structure Sets (A : Str) (n : Int) (ps : List Rx) : Prop where
  st : stRL A ps = true
  ok : okRL ps = true
  pl : (plainL ps).all id = true
  ws : (wdL ps).sum = n
  ct : (cntL ps).sum = n
  dp : rdepL ps = 0
  ln : (ps.length : Int) = n
theorem Sets.of {A : Str} {m : Int} {ss : List Str} (h : setsOk A ss) (hl : ss.length = m.toNat) (m0 : 0 ≤ m) : Sets A m (ss.map .set) := by
  have e : (ss.length : Int) = m := by omega
  exact ⟨stRL_all A _ (stR_sets h), okRL_all _ (okR_sets h), plain_sets ss, by rw [wd_sets, e], by rw [cnt_sets, e], rdep_sets ss, by rw [List.length_map]; exact e⟩
theorem Pln.row {A : Str} {R n : Int} {ps : List Rx} (h : Sets A n ps) (n1 : 1 ≤ n) (hn : n ≤ R) (hR : R ≤ 100) : Pln A R (.row ps) := by
  have := h.ln
  refine ⟨by rw [stR]; exact h.st, by rw [okR, decide_eq_true (by omega), h.ok]; rfl, by rw [rdep, h.dp]; decide, by rw [plain]; exact h.pl, ?_, ?_, ?_⟩
  · rw [wd_row, h.ws, mx1_of n1]
    exact hn
  · rw [wd_row, h.ws, mx1_of n1]
    exact n1
  · rw [cnt, h.ct]
    omega
end Cut
namespace Cut
open PySem L2 DL
abbrev Tx := List Nat
abbrev Lan := Tx → Prop
def Lc (A B : Lan) : Lan := fun w => ∃ u v, w = u ++ v ∧ A u ∧ B v
def Lp (A : Lan) : Nat → Lan
  | 0 => fun w => w = []
  | n + 1 => Lc (Lp A n) A
mutual
def Lg : Rx → Lan
  | .set s => fun w => ∃ c, w = [c] ∧ c ∈ s.cps.toList
  | .row ps => LgR ps
  | .any ps => LgO ps
  | .all ps => LgA ps
  | .no p => fun w => ¬ Lg p w
  | .again p lo hi => fun w => ∃ n : Nat, lo ≤ (n : Int) ∧ (∀ h, hi = some h → (n : Int) ≤ h) ∧ Lp (Lg p) n w
def LgR : List Rx → Lan
  | [] => fun w => w = []
  | p :: ps => Lc (Lg p) (LgR ps)
def LgO : List Rx → Lan
  | [] => fun _ => False
  | p :: ps => fun w => Lg p w ∨ LgO ps w
def LgA : List Rx → Lan
  | [] => fun _ => True
  | p :: ps => fun w => Lg p w ∧ LgA ps w
end
theorem Lc_assoc (A B C : Lan) (w : Tx) : Lc (Lc A B) C w ↔ Lc A (Lc B C) w := by
  constructor
  · rintro ⟨_, z, rfl, ⟨x, y, rfl, a, b⟩, c⟩
    exact ⟨x, y ++ z, by simp, a, y, z, rfl, b, c⟩
  · rintro ⟨x, _, rfl, a, y, z, rfl, b, c⟩
    exact ⟨x ++ y, z, by simp, ⟨x, y, rfl, a, b⟩, c⟩
theorem Lc_congr {A B A' B' : Lan} (h1 : ∀ w, A w ↔ A' w) (h2 : ∀ w, B w ↔ B' w) (w : Tx) : Lc A B w ↔ Lc A' B' w := by
  constructor
  · rintro ⟨u, v, e, a, b⟩; exact ⟨u, v, e, (h1 u).mp a, (h2 v).mp b⟩
  · rintro ⟨u, v, e, a, b⟩; exact ⟨u, v, e, (h1 u).mpr a, (h2 v).mpr b⟩
theorem Lc_nil_l (A : Lan) (w : Tx) : Lc (fun w => w = []) A w ↔ A w := by
  constructor
  · rintro ⟨u, v, rfl, rfl, a⟩; exact a
  · intro a; exact ⟨[], w, rfl, rfl, a⟩
theorem Lc_nil_r (A : Lan) (w : Tx) : Lc A (fun w => w = []) w ↔ A w := by
  constructor
  · rintro ⟨u, v, rfl, a, rfl⟩; simpa using a
  · intro a; exact ⟨w, [], by simp, a, rfl⟩
theorem Lp_front (A : Lan) : ∀ n w, Lp A (n + 1) w ↔ Lc A (Lp A n) w
  | 0, w => by
    show Lc (fun w => w = []) A w ↔ Lc A (fun w => w = []) w
    rw [Lc_nil_l, Lc_nil_r]
  | n + 1, w => by
    show Lc (Lp A (n + 1)) A w ↔ Lc A (Lc (Lp A n) A) w
    rw [Lc_congr (Lp_front A n) (fun _ => Iff.rfl) w, Lc_assoc]
theorem Lp_add (A : Lan) (m : Nat) : ∀ n w, Lp A (m + n) w ↔ Lc (Lp A m) (Lp A n) w
  | 0, w => (Lc_nil_r _ _).symm
  | n + 1, w => by
    show Lc (Lp A (m + n)) A w ↔ Lc (Lp A m) (Lc (Lp A n) A) w
    rw [Lc_congr (Lp_add A m n) (fun _ => Iff.rfl) w, Lc_assoc]
abbrev Eds := Nat → Tx → Nat → Prop
inductive Pth (S : Eds) : Nat → Tx → Nat → Prop
  | nil (p : Nat) : Pth S p [] p
  | eps {p q r : Nat} {w : Tx} : S p [] q → Pth S q w r → Pth S p w r
  | chr {p q r c : Nat} {cs w : Tx} : S p cs q → c ∈ cs → Pth S q w r → Pth S p (c :: w) r
theorem Pth.mono {S T : Eds} (h : ∀ p c q, S p c q → T p c q) {p q : Nat} {w : Tx} (x : Pth S p w q) : Pth T p w q := by
  induction x with
  | nil p => exact .nil p
  | eps e _ ih => exact .eps (h _ _ _ e) ih
  | chr e m _ ih => exact .chr (h _ _ _ e) m ih
theorem Pth.trans {S : Eds} {p q r : Nat} {u v : Tx} (x : Pth S p u q) (y : Pth S q v r) : Pth S p (u ++ v) r := by
  induction x with
  | nil p => exact y
  | eps e _ ih => exact .eps e (ih y)
  | chr e m _ ih => exact .chr e m (ih y)
theorem Pth.stay {S T : Eds} {G : Nat → Prop} (h : ∀ p c q, G p → S p c q → T p c q ∧ G q) {p q : Nat} {w : Tx} (x : Pth S p w q) (hp : G p) : Pth T p w q ∧ G q := by
  induction x with
  | nil p => exact ⟨.nil p, hp⟩
  | eps e _ ih =>
    obtain ⟨a, b⟩ := h _ _ _ hp e
    obtain ⟨c, d⟩ := ih b
    exact ⟨.eps a c, d⟩
  | chr e m _ ih =>
    obtain ⟨a, b⟩ := h _ _ _ hp e
    obtain ⟨c, d⟩ := ih b
    exact ⟨.chr a m c, d⟩
theorem Pth.stuck {S : Eds} {p q : Nat} {w : Tx} (x : Pth S p w q) (h : ∀ c r, ¬ S p c r) : w = [] ∧ q = p := by
  cases x with
  | nil => exact ⟨rfl, rfl⟩
  | eps e _ => exact absurd e (h _ _)
  | chr e _ _ => exact absurd e (h _ _)
theorem Pth.inv {S : Eds} {p q : Nat} {w : Tx} (x : Pth S p w q) : (w = [] ∧ q = p) ∨ (∃ q', S p [] q' ∧ Pth S q' w q) ∨ ∃ c cs w' q', w = c :: w' ∧ S p cs q' ∧ c ∈ cs ∧ Pth S q' w' q := by
  cases x with
  | nil => exact .inl ⟨rfl, rfl⟩
  | eps z y => exact .inr (.inl ⟨_, z, y⟩)
  | chr z m y => exact .inr (.inr ⟨_, _, _, _, rfl, z, m, y⟩)
def Un2 (S T : Eds) : Eds := fun p c q => S p c q ∨ T p c q
def Ed1 (a b : Nat) : Eds := fun p c q => p = a ∧ c = [] ∧ q = b
def EdsTo (as : List Nat) (b : Nat) : Eds := fun p c q => p ∈ as ∧ c = [] ∧ q = b
structure Frg (S : Eds) (n n' s e : Nat) (L : Lan) : Prop where
  nn : n ≤ n'
  sn : s < n
  src : ∀ p c q, S p c q → p = s ∨ (n ≤ p ∧ p < n')
  tgt : ∀ p c q, S p c q → n ≤ q ∧ q < n'
  out : ∀ c q, ¬ S e c q
  en : e = s ∨ (n ≤ e ∧ e < n')
  lan : ∀ w, Pth S s w e ↔ L w
theorem Frg.nil {n s : Nat} (h : s < n) : Frg (fun _ _ _ => False) n n s s (fun w => w = []) :=
  ⟨Nat.le_refl _, h, fun _ _ _ z => z.elim, fun _ _ _ z => z.elim, fun _ _ z => z, .inl rfl, fun w => ⟨fun x => (x.stuck fun _ _ z => z).1, fun h => by rw [h]; exact .nil _⟩⟩
theorem Frg.congr {S : Eds} {n n' s e : Nat} {L L' : Lan} (f : Frg S n n' s e L) (h : ∀ w, L w ↔ L' w) : Frg S n n' s e L' := ⟨f.nn, f.sn, f.src, f.tgt, f.out, f.en, fun w => (f.lan w).trans (h w)⟩
section
variable {S1 S2 : Eds} {n n1 n2 s e1 e2 : Nat} {L1 L2 : Lan}
theorem cross (f1 : Frg S1 n n1 s e1 L1) (f2 : Frg S2 n1 n2 e1 e2 L2) {p q : Nat} {w : Tx} (x : Pth (Un2 S1 S2) p w q) : (p = s ∨ (n ≤ p ∧ p < n1)) → (Pth S1 p w q ∧ (q = s ∨ (n ≤ q ∧ q < n1))) ∨ ∃ u v, w = u ++ v ∧ Pth S1 p u e1 ∧ Pth S2 e1 v q ∧ n1 ≤ q := by
  have nn := f1.nn
  have sn := f1.sn
  have back : ∀ {p q : Nat} {w : Tx}, Pth (Un2 S1 S2) p w q → n1 ≤ p → Pth S2 p w q ∧ n1 ≤ q := fun x h => x.stay (fun p c q hp z => by
    rcases z with z | z
    · have := f1.src p c q z
      omega
    · exact ⟨z, (f2.tgt p c q z).1⟩) h
  induction x with
  | nil p => intro hp; exact .inl ⟨.nil p, hp⟩
  | @eps p q r w e y ih =>
    intro hp
    rcases e with e | e
    · rcases ih (.inr (f1.tgt _ _ _ e)) with ⟨a, b⟩ | ⟨u, v, h1, h2, h3, h4⟩
      · exact .inl ⟨.eps e a, b⟩
      · exact .inr ⟨u, v, h1, .eps e h2, h3, h4⟩
    · have hs := f2.src _ _ _ e
      have : p = e1 := by omega
      subst this
      obtain ⟨a, b⟩ := back y (f2.tgt _ _ _ e).1
      exact .inr ⟨[], w, rfl, .nil _, .eps e a, b⟩
  | @chr p q r c cs w e m y ih =>
    intro hp
    rcases e with e | e
    · rcases ih (.inr (f1.tgt _ _ _ e)) with ⟨a, b⟩ | ⟨u, v, h1, h2, h3, h4⟩
      · exact .inl ⟨.chr e m a, b⟩
      · exact .inr ⟨c :: u, v, by rw [h1]; rfl, .chr e m h2, h3, h4⟩
    · have hs := f2.src _ _ _ e
      have : p = e1 := by omega
      subst this
      obtain ⟨a, b⟩ := back y (f2.tgt _ _ _ e).1
      exact .inr ⟨[], c :: w, rfl, .nil _, .chr e m a, b⟩
theorem Frg.seq (f1 : Frg S1 n n1 s e1 L1) (f2 : Frg S2 n1 n2 e1 e2 L2) : Frg (Un2 S1 S2) n n2 s e2 (Lc L1 L2) := by
  have nn1 := f1.nn
  have nn2 := f2.nn
  have sn := f1.sn
  have en1 := f1.en
  have en2 := f2.en
  refine ⟨by omega, sn, fun p c q z => ?_, fun p c q z => ?_, fun c q z => ?_, by omega, fun w => ⟨fun x => ?_, ?_⟩⟩
  · rcases z with z | z
    · have := f1.src p c q z; omega
    · have := f2.src p c q z; omega
  · rcases z with z | z
    · have := f1.tgt p c q z; omega
    · have := f2.tgt p c q z; omega
  · rcases z with z | z
    · rcases en2 with h | h
      · rw [h] at z; exact f1.out c q z
      · have := f1.src _ c q z; omega
    · exact f2.out c q z
  · rcases cross f1 f2 x (.inl rfl) with ⟨a, b⟩ | ⟨u, v, h1, h2, h3, _⟩
    · rcases en2 with h | h
      · rw [h] at a
        exact ⟨w, [], by simp, (f1.lan w).mp a, (f2.lan []).mp (by rw [h]; exact .nil _)⟩
      · omega
    · exact ⟨u, v, h1, (f1.lan u).mp h2, (f2.lan v).mp h3⟩
  · rintro ⟨u, v, rfl, a, b⟩
    exact (((f1.lan u).mpr a).mono fun _ _ _ z => .inl z).trans (((f2.lan v).mpr b).mono fun _ _ _ z => .inr z)
theorem Frg.keep (f1 : Frg S1 n n1 s e1 L1) (f2 : Frg S2 n1 n2 e1 e2 L2) {q : Nat} (hq : q = s ∨ (n ≤ q ∧ q < n1)) (w : Tx) : Pth (Un2 S1 S2) s w q ↔ Pth S1 s w q := by
  have sn := f1.sn
  have nn := f1.nn
  refine ⟨fun x => ?_, fun x => x.mono fun _ _ _ z => .inl z⟩
  rcases cross f1 f2 x (.inl rfl) with ⟨a, _⟩ | ⟨u, v, h1, h2, h3, h4⟩
  · exact a
  · omega
end
theorem Frg.entry {S : Eds} {n n' s e : Nat} {L : Lan} (hs : s < n) (f : Frg S (n + 1) n' n e L) : Frg (Un2 (Ed1 s n) S) n n' s e L := by
  have nn := f.nn
  have en := f.en
  refine ⟨by omega, hs, fun p c q z => ?_, fun p c q z => ?_, fun c q z => ?_, .inr (by omega), fun w => ?_⟩
  · rcases z with ⟨z, _⟩ | z
    · exact .inl z
    · have := f.src p c q z; omega
  · rcases z with ⟨_, _, z⟩ | z
    · omega
    · have := f.tgt p c q z; omega
  · rcases z with ⟨z, _⟩ | z
    · omega
    · exact f.out c q z
  · rw [← f.lan w]
    have stay : ∀ {p q : Nat} {w : Tx}, Pth (Un2 (Ed1 s n) S) p w q → n ≤ p → Pth S p w q := fun x h => (x.stay (G := fun p => n ≤ p) (fun p c q hp z => by
      rcases z with ⟨z, _⟩ | z
      · omega
      · exact ⟨z, by have := (f.tgt p c q z).1; omega⟩) h).1
    refine ⟨fun x => ?_, fun x => .eps (.inl ⟨rfl, rfl, rfl⟩) (x.mono fun _ _ _ z => .inr z)⟩
    cases x with
    | nil => omega
    | eps z y =>
      rcases z with ⟨_, _, z⟩ | z
      · subst z; exact stay y (Nat.le_refl _)
      · have := f.src _ _ _ z; omega
    | chr z m y =>
      rcases z with ⟨_, z, _⟩ | z
      · rw [z] at m; cases m
      · have := f.src _ _ _ z; omega
structure Fan (S : Eds) (n n' s : Nat) (es : List Nat) (L : Lan) : Prop where
  nn : n ≤ n'
  sn : s < n
  src : ∀ p c q, S p c q → p = s ∨ (n ≤ p ∧ p < n')
  tgt : ∀ p c q, S p c q → n ≤ q ∧ q < n'
  en : ∀ e ∈ es, e = s ∨ (n ≤ e ∧ e < n')
  lan : ∀ w, (∃ e ∈ es, Pth S s w e) ↔ L w
theorem Fan.nil {n s : Nat} (h : s < n) : Fan (fun _ _ _ => False) n n s [] (fun _ => False) :=
  ⟨Nat.le_refl _, h, fun _ _ _ z => z.elim, fun _ _ _ z => z.elim, fun _ z => (nomatch z), fun w => ⟨fun ⟨_, z, _⟩ => (nomatch z), fun z => z.elim⟩⟩
theorem Fan.add {S1 S2 : Eds} {n n1 n2 s e : Nat} {es : List Nat} {L1 L2 : Lan} (f1 : Fan S1 n n1 s es L1) (f2 : Frg S2 n1 n2 s e L2) : Fan (Un2 S1 S2) n n2 s (es ++ [e]) (fun w => L1 w ∨ L2 w) := by
  have nn1 := f1.nn
  have nn2 := f2.nn
  have sn := f1.sn
  have en := f2.en
  have st1 : ∀ {p q : Nat} {w : Tx}, Pth (Un2 S1 S2) p w q → (n ≤ p ∧ p < n1) → Pth S1 p w q ∧ (n ≤ q ∧ q < n1) := fun x h => x.stay (G := fun p => n ≤ p ∧ p < n1) (fun p c q hp z => by
    rcases z with z | z
    · exact ⟨z, f1.tgt p c q z⟩
    · have := f2.src p c q z; omega) h
  have st2 : ∀ {p q : Nat} {w : Tx}, Pth (Un2 S1 S2) p w q → (n1 ≤ p ∧ p < n2) → Pth S2 p w q ∧ (n1 ≤ q ∧ q < n2) := fun x h => x.stay (G := fun p => n1 ≤ p ∧ p < n2) (fun p c q hp z => by
    rcases z with z | z
    · have := f1.src p c q z; omega
    · exact ⟨z, f2.tgt p c q z⟩) h
  have split : ∀ {q : Nat} {w : Tx}, Pth (Un2 S1 S2) s w q → (q = s ∧ w = []) ∨ (Pth S1 s w q ∧ (n ≤ q ∧ q < n1)) ∨ (Pth S2 s w q ∧ (n1 ≤ q ∧ q < n2)) := fun {q w} x => by
    cases x with
    | nil => exact .inl ⟨rfl, rfl⟩
    | eps z y =>
      rcases z with z | z
      · obtain ⟨a, b⟩ := st1 y (f1.tgt _ _ _ z); exact .inr (.inl ⟨.eps z a, b⟩)
      · obtain ⟨a, b⟩ := st2 y (f2.tgt _ _ _ z); exact .inr (.inr ⟨.eps z a, b⟩)
    | chr z m y =>
      rcases z with z | z
      · obtain ⟨a, b⟩ := st1 y (f1.tgt _ _ _ z); exact .inr (.inl ⟨.chr z m a, b⟩)
      · obtain ⟨a, b⟩ := st2 y (f2.tgt _ _ _ z); exact .inr (.inr ⟨.chr z m a, b⟩)
  refine ⟨by omega, sn, fun p c q z => ?_, fun p c q z => ?_, fun x hx => ?_, fun w => ⟨?_, ?_⟩⟩
  · rcases z with z | z
    · have := f1.src p c q z; omega
    · have := f2.src p c q z; omega
  · rcases z with z | z
    · have := f1.tgt p c q z; omega
    · have := f2.tgt p c q z; omega
  · rcases List.mem_append.mp hx with hx | hx
    · have := f1.en x hx; omega
    · rw [List.mem_singleton.mp hx]; omega
  · rintro ⟨x, hx, y⟩
    rcases List.mem_append.mp hx with hx | hx
    · refine .inl ((f1.lan w).mp ⟨x, hx, ?_⟩)
      rcases split y with ⟨h1, h2⟩ | ⟨h1, _⟩ | ⟨_, h2⟩
      · rw [h1, h2]; exact .nil _
      · exact h1
      · have := f1.en x hx; omega
    · have hx := List.mem_singleton.mp hx
      subst hx
      refine .inr ((f2.lan w).mp ?_)
      rcases split y with ⟨h1, h2⟩ | ⟨_, h2⟩ | ⟨h1, _⟩
      · rw [h1, h2]; exact .nil _
      · omega
      · exact h1
  · rintro (h | h)
    · obtain ⟨x, hx, y⟩ := (f1.lan w).mpr h
      exact ⟨x, List.mem_append_left _ hx, y.mono fun _ _ _ z => .inl z⟩
    · exact ⟨e, List.mem_append_right _ (List.mem_singleton.mpr rfl), ((f2.lan w).mpr h).mono fun _ _ _ z => .inr z⟩
theorem Fan.close {S : Eds} {n n' s : Nat} {es : List Nat} {L : Lan} (f : Fan S n n' s es L) : Frg (Un2 S (EdsTo es n')) n (n' + 1) s n' L := by
  have nn := f.nn
  have sn := f.sn
  have lst : ∀ {p q : Nat} {w : Tx}, Pth (Un2 S (EdsTo es n')) p w q → q = n' → p < n' → ∃ e ∈ es, Pth S p w e := fun x => by
    have stuck : ∀ {q : Nat} {w : Tx}, Pth (Un2 S (EdsTo es n')) n' w q → w = [] := fun x => (x.stuck fun c r z => by
      rcases z with z | z
      · have := f.src _ _ _ z; omega
      · have := f.en _ z.1; omega).1
    induction x with
    | nil p => intro h1 h2; omega
    | eps z y ih =>
      intro h1 h2
      rcases z with z | z
      · obtain ⟨e, he, a⟩ := ih h1 (f.tgt _ _ _ z).2
        exact ⟨e, he, .eps z a⟩
      · obtain ⟨z1, _, z3⟩ := z
        subst z3
        rw [stuck y]
        exact ⟨_, z1, .nil _⟩
    | chr z m y ih =>
      intro h1 h2
      rcases z with z | z
      · obtain ⟨e, he, a⟩ := ih h1 (f.tgt _ _ _ z).2
        exact ⟨e, he, .chr z m a⟩
      · rw [z.2.1] at m; cases m
  refine ⟨by omega, sn, fun p c q z => ?_, fun p c q z => ?_, fun c q z => ?_, .inr (by omega), fun w => ?_⟩
  · rcases z with z | z
    · have := f.src p c q z; omega
    · have := f.en _ z.1; omega
  · rcases z with z | z
    · have := f.tgt p c q z; omega
    · have := z.2.2; omega
  · rcases z with z | z
    · have := f.src _ _ _ z; omega
    · have := f.en _ z.1; omega
  · rw [← f.lan w]
    refine ⟨fun x => lst x rfl (by omega), fun ⟨e, he, x⟩ => ?_⟩
    have := (x.mono fun _ _ _ z => .inl z : Pth (Un2 S (EdsTo es n')) s w e).trans (.eps (.inr ⟨he, rfl, rfl⟩) (.nil n'))
    simpa using this
structure Chn (S : Eds) (n n' s e : Nat) (es : List Nat) (L : Lan) (lo k : Nat) : Prop where
  fr : Frg S n n' s e (Lp L k)
  en : ∀ x ∈ es, x = s ∨ (n ≤ x ∧ x < n')
  lan : ∀ w, (∃ x ∈ es, Pth S s w x) ↔ ∃ j, lo ≤ j ∧ j ≤ k ∧ Lp L j w
theorem Chn.nil {n s lo : Nat} {L : Lan} (h : s < n) : Chn (fun _ _ _ => False) n n s s (if lo = 0 then [s] else []) L lo 0 := by
  refine ⟨Frg.nil h, fun x hx => ?_, fun w => ?_⟩
  · split at hx
    · exact .inl (List.mem_singleton.mp hx)
    · cases hx
  · constructor
    · rintro ⟨x, hx, y⟩
      split at hx
      · rename_i h0
        refine ⟨0, by omega, Nat.le_refl _, ?_⟩
        exact (y.stuck fun _ _ z => z).1
      · cases hx
    · rintro ⟨j, h1, h2, h3⟩
      have : j = 0 := by omega
      subst this
      have h3 : w = [] := h3
      rw [if_pos (by omega), h3]
      exact ⟨s, List.mem_singleton.mpr rfl, .nil _⟩
theorem Chn.add {S1 S2 : Eds} {n n1 n2 s e1 e2 lo k : Nat} {es : List Nat} {L : Lan} (c : Chn S1 n n1 s e1 es L lo k) (f2 : Frg S2 n1 n2 e1 e2 L) : Chn (Un2 S1 S2) n n2 s e2 (es ++ (if lo ≤ k + 1 then [e2] else [])) L lo (k + 1) := by
  have F := c.fr.seq f2
  have nn2 := f2.nn
  refine ⟨F, fun x hx => ?_, fun w => ?_⟩
  · rcases List.mem_append.mp hx with hx | hx
    · have := c.en x hx; omega
    · split at hx
      · rw [List.mem_singleton.mp hx]; exact F.en
      · cases hx
  · constructor
    · rintro ⟨x, hx, y⟩
      rcases List.mem_append.mp hx with hx | hx
      · obtain ⟨j, h1, h2, h3⟩ := (c.lan w).mp ⟨x, hx, (c.fr.keep f2 (c.en x hx) w).mp y⟩
        exact ⟨j, h1, by omega, h3⟩
      · split at hx
        · rename_i hlo
          rw [List.mem_singleton.mp hx] at y
          exact ⟨k + 1, hlo, Nat.le_refl _, (F.lan w).mp y⟩
        · cases hx
    · rintro ⟨j, h1, h2, h3⟩
      by_cases hj : j = k + 1
      · subst hj
        rw [if_pos h1]
        exact ⟨e2, List.mem_append_right _ (List.mem_singleton.mpr rfl), (F.lan w).mpr h3⟩
      · obtain ⟨x, hx, y⟩ := (c.lan w).mpr ⟨j, h1, by omega, h3⟩
        exact ⟨x, List.mem_append_left _ hx, y.mono fun _ _ _ z => .inl z⟩
theorem Chn.fan {S : Eds} {n n' s e lo k : Nat} {es : List Nat} {L : Lan} (c : Chn S n n' s e es L lo k) : Fan S n n' s es (fun w => ∃ j, lo ≤ j ∧ j ≤ k ∧ Lp L j w) := ⟨c.fr.nn, c.fr.sn, c.fr.src, c.fr.tgt, c.en, c.lan⟩
theorem loop_lan {S : Eds} {n n' P e : Nat} {L : Lan} (f : Frg S n n' P e L) (w : Tx) : Pth (Un2 S (Ed1 e P)) P w P ↔ ∃ j, Lp L j w := by
  have sn := f.sn
  have go : ∀ {p q : Nat} {w : Tx}, Pth (Un2 S (Ed1 e P)) p w q → q = P → (p = P ∧ w = []) ∨ ∃ u v j, w = u ++ v ∧ Pth S p u e ∧ Lp L j v := fun x => by
    induction x with
    | nil p => intro h; exact .inl ⟨h, rfl⟩
    | @eps p q r w z y ih =>
      intro h
      rcases z with z | z
      · rcases ih h with ⟨h1, _⟩ | ⟨u, v, j, h1, h2, h3⟩
        · have := f.tgt _ _ _ z; omega
        · exact .inr ⟨u, v, j, h1, .eps z h2, h3⟩
      · obtain ⟨z1, _, z3⟩ := z
        subst z1
        rcases ih h with ⟨_, h2⟩ | ⟨u, v, j, h1, h2, h3⟩
        · exact .inr ⟨[], [], 0, by rw [h2]; rfl, .nil _, rfl⟩
        · rw [z3] at h2
          exact .inr ⟨[], w, j + 1, rfl, .nil _, (Lp_front L j w).mpr ⟨u, v, h1, (f.lan u).mp h2, h3⟩⟩
    | @chr p q r c cs w z m y ih =>
      intro h
      rcases z with z | z
      · rcases ih h with ⟨h1, _⟩ | ⟨u, v, j, h1, h2, h3⟩
        · have := f.tgt _ _ _ z; omega
        · exact .inr ⟨c :: u, v, j, by rw [h1]; rfl, .chr z m h2, h3⟩
      · rw [z.2.1] at m; cases m
  constructor
  · intro x
    rcases go x rfl with ⟨_, h⟩ | ⟨u, v, j, h1, h2, h3⟩
    · exact ⟨0, h⟩
    · exact ⟨j + 1, (Lp_front L j w).mpr ⟨u, v, h1, (f.lan u).mp h2, h3⟩⟩
  · rintro ⟨j, h⟩
    induction j generalizing w with
    | zero =>
      have h : w = [] := h
      rw [h]; exact .nil _
    | succ j ih =>
      obtain ⟨u, v, rfl, a, b⟩ := h
      have y : Pth (Un2 S (Ed1 e P)) P v e := ((f.lan v).mpr b).mono fun _ _ _ z => .inl z
      have z := y.trans (.eps (.inr ⟨rfl, rfl, rfl⟩) (.nil P))
      rw [List.append_nil] at z
      exact (ih u a).trans z
theorem Frg.around {S : Eds} {n n' s e : Nat} {L : Lan} (hs : s < n) (f : Frg S (n + 1) n' n e L) : Frg (Un2 (Ed1 s n) (Un2 (Un2 S (Ed1 e n)) (Ed1 n n'))) n (n' + 1) s n' (fun w => ∃ j, Lp L j w) := by
  have nn := f.nn
  have en := f.en
  refine ⟨by omega, hs, fun p c q z => ?_, fun p c q z => ?_, fun c q z => ?_, .inr (by omega), fun w => ?_⟩
  · rcases z with ⟨z, _⟩ | (z | ⟨z, _⟩) | ⟨z, _⟩
    · exact .inl z
    · have := f.src p c q z; omega
    · omega
    · omega
  · rcases z with ⟨_, _, z⟩ | (z | ⟨_, _, z⟩) | ⟨_, _, z⟩
    · omega
    · have := f.tgt p c q z; omega
    · omega
    · omega
  · rcases z with ⟨z, _⟩ | (z | ⟨z, _⟩) | ⟨z, _⟩
    · omega
    · have := f.src _ _ _ z; omega
    · omega
    · omega
  · rw [← loop_lan f w]
    have stuck : ∀ {q : Nat} {w : Tx}, Pth (Un2 (Ed1 s n) (Un2 (Un2 S (Ed1 e n)) (Ed1 n n'))) n' w q → w = [] := fun x => (x.stuck fun c r z => by
      rcases z with ⟨z, _⟩ | (z | ⟨z, _⟩) | ⟨z, _⟩
      · omega
      · have := f.src _ _ _ z; omega
      · omega
      · omega).1
    have go : ∀ {p q : Nat} {w : Tx}, Pth (Un2 (Ed1 s n) (Un2 (Un2 S (Ed1 e n)) (Ed1 n n'))) p w q → q = n' → n ≤ p → p < n' → Pth (Un2 S (Ed1 e n)) p w n := fun x => by
      induction x with
      | nil p => intro h1 h2 h3; omega
      | @eps p q r w z y ih =>
        intro h1 h2 h3
        rcases z with ⟨z, _⟩ | z | ⟨z1, _, z3⟩
        · omega
        · have hq : n ≤ q ∧ q < n' := by
            rcases z with z | ⟨_, _, z⟩
            · have := f.tgt _ _ _ z; exact ⟨by omega, this.2⟩
            · rw [z]; exact ⟨Nat.le_refl _, by omega⟩
          exact .eps z (ih h1 hq.1 hq.2)
        · subst z1 z3
          rw [stuck y]; exact .nil _
      | @chr p q r c cs w z m y ih =>
        intro h1 h2 h3
        rcases z with ⟨z, _⟩ | z | ⟨_, z, _⟩
        · omega
        · have hq : n ≤ q ∧ q < n' := by
            rcases z with z | ⟨_, z, _⟩
            · have := f.tgt _ _ _ z; exact ⟨by omega, this.2⟩
            · rw [z] at m; cases m
          exact .chr z m (ih h1 hq.1 hq.2)
        · rw [z] at m; cases m
    refine ⟨fun x => ?_, fun x => ?_⟩
    · cases x with
      | nil => omega
      | eps z y =>
        rcases z with ⟨_, _, z⟩ | (z | ⟨z, _⟩) | ⟨z, _⟩
        · rw [z] at y; exact go y rfl (Nat.le_refl _) (by omega)
        · have := f.src _ _ _ z; omega
        · omega
        · omega
      | chr z m y =>
        rcases z with ⟨_, z, _⟩ | (z | ⟨z, _⟩) | ⟨z, _⟩
        · rw [z] at m; cases m
        · have := f.src _ _ _ z; omega
        · omega
        · omega
    · have y : Pth (Un2 (Ed1 s n) (Un2 (Un2 S (Ed1 e n)) (Ed1 n n'))) n w n := x.mono fun _ _ _ z => .inr (.inl z)
      have z := Pth.eps (.inl ⟨rfl, rfl, rfl⟩) (y.trans (.eps (.inr (.inr ⟨rfl, rfl, rfl⟩)) (.nil n')))
      rw [List.append_nil] at z
      exact z
end Cut
namespace Cut
open PySem L2 DL
abbrev Mvs := List (List (Str × Nat))
def addE (M : Mvs) (p : Nat) (t : Str) (q : Nat) : Mvs := M.modify p fun l => l ++ [(t, q)]
def addA (M : Mvs) (es : List Nat) (q : Nat) : Mvs := es.foldl (fun M e => addE M e Str.empty q) M
def copies (f : Mvs → Nat → Mvs × Nat) (lo : Nat) : Nat → Mvs → Nat → Mvs × Nat × List Nat
  | 0, M, s => (M, s, if lo = 0 then [s] else [])
  | k + 1, M, s =>
    let r := copies f lo k M s
    let t := f r.1 r.2.1
    (t.1, t.2, r.2.2 ++ if lo ≤ k + 1 then [t.2] else [])
def around (f : Mvs → Nat → Mvs × Nat) (M : Mvs) (s : Nat) : Mvs × Nat :=
  let t := f (addE (M ++ [[]]) s Str.empty M.length) M.length
  (addE t.1 t.2 Str.empty M.length, M.length)
def closeA (M : Mvs) (es : List Nat) : Mvs × Nat := (addA (M ++ [[]]) es M.length, M.length)
mutual
def addM : Rx → Mvs → Nat → Mvs × Nat
  | .set t, M, s => ((if t = Str.empty then addE (M ++ [[]]) s Str.empty M.length ++ [[]] else addE (addE (M ++ [[]]) s Str.empty M.length ++ [[]]) M.length t (M.length + 1)), M.length + 1)
  | .row ps, M, s => addR ps M s
  | .any ps, M, s =>
    let r := addO ps (addE (M ++ [[]]) s Str.empty M.length) M.length
    closeA r.1 r.2
  | .all _, M, s => (M, s)
  | .no _, M, s => (M, s)
  | .again p lo hi, M, s =>
    match hi with
    | some h =>
      let r := copies (addM p) lo.toNat h.toNat (addE (M ++ [[]]) s Str.empty M.length) M.length
      closeA r.1 r.2.2
    | none =>
      let r := copies (addM p) lo.toNat lo.toNat (addE (M ++ [[]]) s Str.empty M.length) M.length
      let t := around (addM p) r.1 r.2.1
      closeA t.1 [t.2]
def addR : List Rx → Mvs → Nat → Mvs × Nat
  | [], M, s => (M, s)
  | p :: ps, M, s => addR ps (addM p M s).1 (addM p M s).2
def addO : List Rx → Mvs → Nat → Mvs × List Nat
  | [], M, _ => (M, [])
  | p :: ps, M, s => ((addO ps (addM p M s).1 s).1, (addM p M s).2 :: (addO ps (addM p M s).1 s).2)
end
def EM (M : Mvs) : Eds := fun p c q => ∃ l t, M[p]? = some l ∧ (t, q) ∈ l ∧ t.cps.toList = c
theorem EM_snoc (M : Mvs) (p : Nat) (c : Tx) (q : Nat) : EM (M ++ [[]]) p c q ↔ EM M p c q := by
  constructor
  · rintro ⟨l, t, h1, h2, h3⟩
    rw [List.getElem?_append] at h1
    split at h1
    · exact ⟨l, t, h1, h2, h3⟩
    · have := List.mem_of_getElem? h1
      rw [List.mem_singleton.mp this] at h2
      cases h2
  · rintro ⟨l, t, h1, h2, h3⟩
    obtain ⟨hp, _⟩ := List.getElem?_eq_some_iff.mp h1
    exact ⟨l, t, by rw [List.getElem?_append_left hp]; exact h1, h2, h3⟩
theorem addE_len (M : Mvs) (p : Nat) (t : Str) (q : Nat) : (addE M p t q).length = M.length := by unfold addE; rw [List.length_modify]
theorem EM_addE {M : Mvs} {a : Nat} (ha : a < M.length) (t : Str) (b p : Nat) (c : Tx) (q : Nat) : EM (addE M a t b) p c q ↔ EM M p c q ∨ (p = a ∧ c = t.cps.toList ∧ q = b) := by
  unfold EM addE
  rw [List.getElem?_modify]
  constructor
  · rintro ⟨l, u, h1, h2, h3⟩
    obtain ⟨l0, h4, h5⟩ := Option.map_eq_some_iff.mp h1
    by_cases e : a = p
    · rw [if_pos e] at h5
      subst h5
      rcases List.mem_append.mp h2 with h2 | h2
      · exact .inl ⟨l0, u, h4, h2, h3⟩
      · have h2 := List.mem_singleton.mp h2
        injection h2 with h6 h7
        exact .inr ⟨e.symm, by rw [← h3, h6], h7⟩
    · rw [if_neg e] at h5
      have h5 : l0 = l := h5
      subst h5
      exact .inl ⟨l0, u, h4, h2, h3⟩
  · rintro (⟨l, u, h1, h2, h3⟩ | ⟨rfl, rfl, rfl⟩)
    · refine ⟨_, u, by rw [h1]; rfl, ?_, h3⟩
      show (u, q) ∈ if a = p then l ++ [(t, b)] else l
      by_cases e : a = p
      · rw [if_pos e]; exact List.mem_append_left _ h2
      · rw [if_neg e]; exact h2
    · exact ⟨_, t, by rw [List.getElem?_eq_getElem ha]; rfl, by show (t, q) ∈ if p = p then _ ++ [(t, q)] else _; rw [if_pos rfl]; exact List.mem_append_right _ (List.mem_singleton.mpr rfl), rfl⟩
theorem addA_len : ∀ (es : List Nat) (M : Mvs) (q : Nat), (addA M es q).length = M.length
  | [], M, q => rfl
  | e :: es, M, q => by
    show (addA (addE M e Str.empty q) es q).length = _
    rw [addA_len es, addE_len]
theorem EM_addA : ∀ (es : List Nat) (M : Mvs) (b : Nat), (∀ e ∈ es, e < M.length) → ∀ p c q, EM (addA M es b) p c q ↔ EM M p c q ∨ EdsTo es b p c q
  | [], M, b, _, p, c, q => ⟨fun h => .inl h, fun h => by rcases h with h | ⟨h, _⟩; exact h; cases h⟩
  | e :: es, M, b, h, p, c, q => by
    show EM (addA (addE M e Str.empty b) es b) p c q ↔ _
    rw [EM_addA es _ b (fun x hx => by rw [addE_len]; exact h x (List.mem_cons_of_mem _ hx)) p c q, EM_addE (h e (List.mem_cons_self ..))]
    have hn : (Str.empty).cps.toList = [] := rfl
    rw [hn]
    unfold EdsTo
    rw [List.mem_cons]
    constructor
    · rintro ((h | ⟨h1, h2, h3⟩) | ⟨h1, h2, h3⟩)
      · exact .inl h
      · exact .inr ⟨.inl h1, h2, h3⟩
      · exact .inr ⟨.inr h1, h2, h3⟩
    · rintro (h | ⟨h1 | h1, h2, h3⟩)
      · exact .inl (.inl h)
      · exact .inl (.inr ⟨h1, h2, h3⟩)
      · exact .inr ⟨h1, h2, h3⟩
def Grw (M M' : Mvs) (s e : Nat) (L : Lan) : Prop := ∃ S, Frg S M.length M'.length s e L ∧ ∀ p c q, EM M' p c q ↔ EM M p c q ∨ S p c q
def GrwF (M M' : Mvs) (s : Nat) (es : List Nat) (L : Lan) : Prop := ∃ S, Fan S M.length M'.length s es L ∧ ∀ p c q, EM M' p c q ↔ EM M p c q ∨ S p c q
def GrwC (M M' : Mvs) (s e : Nat) (es : List Nat) (L : Lan) (lo k : Nat) : Prop := ∃ S, Chn S M.length M'.length s e es L lo k ∧ ∀ p c q, EM M' p c q ↔ EM M p c q ∨ S p c q
theorem Grw.nil {M : Mvs} {s : Nat} (h : s < M.length) : Grw M M s s (fun w => w = []) := ⟨_, Frg.nil h, fun _ _ _ => ⟨.inl, fun h => h.elim id False.elim⟩⟩
theorem Grw.seq {M M1 M2 : Mvs} {s e1 e2 : Nat} {L1 L2 : Lan} (a : Grw M M1 s e1 L1) (b : Grw M1 M2 e1 e2 L2) : Grw M M2 s e2 (Lc L1 L2) := by
  obtain ⟨S1, f1, h1⟩ := a
  obtain ⟨S2, f2, h2⟩ := b
  refine ⟨_, f1.seq f2, fun p c q => ?_⟩
  rw [h2, h1]
  exact or_assoc
theorem Grw.lt {M M' : Mvs} {s e : Nat} {L : Lan} (a : Grw M M' s e L) : e < M'.length ∧ M.length ≤ M'.length := by
  obtain ⟨S, f, _⟩ := a
  have := f.en
  have := f.sn
  have := f.nn
  omega
theorem Grw.congr {M M' : Mvs} {s e : Nat} {L L' : Lan} (a : Grw M M' s e L) (h : ∀ w, L w ↔ L' w) : Grw M M' s e L' := let ⟨S, f, e⟩ := a; ⟨S, f.congr h, e⟩
theorem Grw.entry {M M' : Mvs} {s e : Nat} {L : Lan} (hs : s < M.length) (a : Grw (addE (M ++ [[]]) s Str.empty M.length) M' M.length e L) : Grw M M' s e L := by
  obtain ⟨S, f, h⟩ := a
  rw [addE_len, List.length_append, List.length_singleton] at f
  refine ⟨_, f.entry hs, fun p c q => ?_⟩
  rw [h, EM_addE (by rw [List.length_append, List.length_singleton]; omega), EM_snoc]
  exact or_assoc
theorem GrwF.close {M M' : Mvs} {s : Nat} {es : List Nat} {L : Lan} (a : GrwF M M' s es L) : Grw M (closeA M' es).1 s (closeA M' es).2 L := by
  obtain ⟨S, f, h⟩ := a
  have nn := f.nn
  have sn := f.sn
  have hes : ∀ e ∈ es, e < M'.length := fun e he => by have := f.en e he; omega
  refine ⟨Un2 S (EdsTo es M'.length), ?_, fun p c q => ?_⟩
  · show Frg _ _ (addA _ _ _).length _ _ _
    rw [addA_len, List.length_append, List.length_singleton]
    exact f.close
  · show EM (addA (M' ++ [[]]) es M'.length) p c q ↔ _
    rw [EM_addA es _ _ (fun e he => by rw [List.length_append, List.length_singleton]; have := hes e he; omega), EM_snoc, h]
    exact or_assoc
theorem GrwC.nil {M : Mvs} {s lo : Nat} {L : Lan} (h : s < M.length) : GrwC M M s s (if lo = 0 then [s] else []) L lo 0 := ⟨_, Chn.nil h, fun _ _ _ => ⟨.inl, fun h => h.elim id False.elim⟩⟩
theorem GrwC.add {M M1 M2 : Mvs} {s e1 e2 lo k : Nat} {es : List Nat} {L : Lan} (a : GrwC M M1 s e1 es L lo k) (b : Grw M1 M2 e1 e2 L) : GrwC M M2 s e2 (es ++ if lo ≤ k + 1 then [e2] else []) L lo (k + 1) := by
  obtain ⟨S1, f1, h1⟩ := a
  obtain ⟨S2, f2, h2⟩ := b
  refine ⟨_, f1.add f2, fun p c q => ?_⟩
  rw [h2, h1]
  exact or_assoc
theorem GrwC.fan {M M1 : Mvs} {s e lo k : Nat} {es : List Nat} {L : Lan} (a : GrwC M M1 s e es L lo k) : GrwF M M1 s es (fun w => ∃ j, lo ≤ j ∧ j ≤ k ∧ Lp L j w) := let ⟨S, f, h⟩ := a; ⟨S, f.fan, h⟩
theorem GrwC.grw {M M1 : Mvs} {s e lo k : Nat} {es : List Nat} {L : Lan} (a : GrwC M M1 s e es L lo k) : Grw M M1 s e (Lp L k) := let ⟨S, f, h⟩ := a; ⟨S, f.fr, h⟩
theorem copies_ok {f : Mvs → Nat → Mvs × Nat} {L : Lan} (hf : ∀ M s, s < M.length → Grw M (f M s).1 s (f M s).2 L) (lo : Nat) : ∀ (k : Nat) (M : Mvs) (s : Nat), s < M.length → GrwC M (copies f lo k M s).1 s (copies f lo k M s).2.1 (copies f lo k M s).2.2 L lo k
  | 0, M, s, h => GrwC.nil h
  | k + 1, M, s, h => by
    have ih := copies_ok hf lo k M s h
    exact ih.add (hf _ _ ih.grw.lt.1)
theorem around_ok {f : Mvs → Nat → Mvs × Nat} {L : Lan} (hf : ∀ M s, s < M.length → Grw M (f M s).1 s (f M s).2 L) {M : Mvs} {s : Nat} (h : s < M.length) : Grw M (closeA (around f M s).1 [(around f M s).2]).1 s (closeA (around f M s).1 [(around f M s).2]).2 (fun w => ∃ j, Lp L j w) := by
  have hl : (addE (M ++ [[]]) s Str.empty M.length).length = M.length + 1 := by rw [addE_len, List.length_append, List.length_singleton]
  have g := hf (addE (M ++ [[]]) s Str.empty M.length) M.length (by omega)
  obtain ⟨lt1, lt2⟩ := g.lt
  obtain ⟨S, fr, he⟩ := g
  rw [hl] at fr lt2
  have nn := fr.nn
  refine ⟨_, by
    show Frg _ _ (addA (addE _ _ _ _ ++ [[]]) _ _).length _ (addE _ _ _ _).length _
    rw [addA_len, List.length_append, List.length_singleton, addE_len]
    exact fr.around h, fun p c q => ?_⟩
  show EM (addA (addE (f _ _).1 (f _ _).2 Str.empty M.length ++ [[]]) [M.length] (addE (f _ _).1 (f _ _).2 Str.empty M.length).length) p c q ↔ _
  rw [EM_addA _ _ _ (fun e hx => by rw [List.mem_singleton.mp hx, List.length_append, List.length_singleton, addE_len]; omega), EM_snoc, EM_addE lt1, he, EM_addE (by rw [List.length_append, List.length_singleton]; omega), EM_snoc, addE_len]
  have hn : (Str.empty).cps.toList = [] := rfl
  unfold Un2 Ed1 EdsTo
  rw [hn, List.mem_singleton]
  constructor
  · rintro ((((h | h) | h) | h) | h)
    · exact .inl h
    · exact .inr (.inl h)
    · exact .inr (.inr (.inl (.inl h)))
    · exact .inr (.inr (.inl (.inr h)))
    · exact .inr (.inr (.inr h))
  · rintro (h | h | (h | h) | h)
    · exact .inl (.inl (.inl (.inl h)))
    · exact .inl (.inl (.inl (.inr h)))
    · exact .inl (.inl (.inr h))
    · exact .inl (.inr h)
    · exact .inr h
theorem set_ok {M : Mvs} {s : Nat} (t : Str) (h : s < M.length) : Grw M (addM (.set t) M s).1 s (addM (.set t) M s).2 (Lg (.set t)) := by
  refine Grw.entry h ?_
  rw [addM]
  generalize hM : addE (M ++ [[]]) s Str.empty M.length = M1
  have hl : M1.length = M.length + 1 := by rw [← hM, addE_len, List.length_append, List.length_singleton]
  by_cases ht : t = Str.empty
  · refine ⟨fun _ _ _ => False, ?_, fun p c q => ?_⟩
    · rw [if_pos ht, List.length_append, List.length_singleton, hl]
      refine ⟨by omega, by omega, fun _ _ _ z => z.elim, fun _ _ _ z => z.elim, fun _ _ z => z, .inr (by omega), fun w => ⟨fun x => ?_, fun ⟨c, _, z⟩ => ?_⟩⟩
      · have := (x.stuck fun _ _ z => z).2; omega
      · rw [ht] at z; cases z
    · rw [if_pos ht, EM_snoc]; exact ⟨.inl, fun h => h.elim id False.elim⟩
  · have htn : t.cps.toList ≠ [] := fun z => ht (str_ext z)
    refine ⟨fun p c q => p = M.length ∧ c = t.cps.toList ∧ q = M.length + 1, ?_, fun p c q => ?_⟩
    · rw [if_neg ht, addE_len, List.length_append, List.length_singleton, hl]
      refine ⟨by omega, by omega, fun _ _ _ z => .inl z.1, fun _ _ _ z => by omega, fun _ _ z => by omega, .inr (by omega), fun w => ⟨fun x => ?_, fun ⟨c, hc, z⟩ => ?_⟩⟩
      · rcases x.inv with ⟨_, z⟩ | ⟨q, z, _⟩ | ⟨c, cs, w', q, rfl, z, m, y⟩
        · omega
        · exact absurd z.2.1.symm htn
        · have hq := z.2.2
          subst hq
          obtain ⟨h1, _⟩ := y.stuck fun _ _ z => by omega
          rw [h1]
          exact ⟨_, rfl, by rw [z.2.1] at m; exact m⟩
      · rw [hc]
        exact .chr ⟨rfl, rfl, rfl⟩ z (.nil _)
    · rw [if_neg ht, EM_addE (by rw [List.length_append, List.length_singleton]; omega), EM_snoc]
mutual
theorem addM_ok : ∀ (r : Rx), plain r = true → okR r = true → ∀ (M : Mvs) (s : Nat), s < M.length → Grw M (addM r M s).1 s (addM r M s).2 (Lg r)
  | .set t, _, _, M, s, h => set_ok t h
  | .row ps, hp, ho, M, s, h => by
    rw [plain] at hp
    rw [okR, Bool.and_eq_true] at ho
    rw [addM]
    exact addR_ok ps hp ho.2 M s h
  | .any ps, hp, ho, M, s, h => by
    rw [plain] at hp
    rw [okR, Bool.and_eq_true] at ho
    rw [addM]
    refine Grw.entry h ?_
    have g := addO_ok ps hp ho.2 (addE (M ++ [[]]) s Str.empty M.length) M.length (by rw [addE_len, List.length_append, List.length_singleton]; omega) (addE (M ++ [[]]) s Str.empty M.length) [] (fun _ => False) ⟨_, Fan.nil (by rw [addE_len, List.length_append, List.length_singleton]; omega), fun _ _ _ => ⟨.inl, fun h => h.elim id False.elim⟩⟩
    exact g.close.congr fun w => ⟨fun h => h.elim False.elim id, .inr⟩
  | .all _, hp, _, _, _, _ => by rw [plain] at hp; cases hp
  | .no _, hp, _, _, _, _ => by rw [plain] at hp; cases hp
  | .again p lo hi, hp, ho, M, s, h => by
    rw [plain] at hp
    rw [okR, Bool.and_eq_true, Bool.and_eq_true, Bool.and_eq_true] at ho
    obtain ⟨⟨⟨ho1, ho2⟩, ho3⟩, ho4⟩ := ho
    have l0 : 0 ≤ lo := of_decide_eq_true ho2
    have ih := addM_ok p hp ho1
    have hs : M.length < (addE (M ++ [[]]) s Str.empty M.length).length := by rw [addE_len, List.length_append, List.length_singleton]; omega
    cases hi with
    | some v =>
      rw [hiOk, Bool.and_eq_true] at ho4
      have h1 : lo ≤ v := of_decide_eq_true ho4.1
      rw [addM]
      refine Grw.entry h ?_
      refine (copies_ok ih lo.toNat v.toNat _ _ hs).fan.close.congr fun w => ⟨fun ⟨j, a, b, c⟩ => ⟨j, by omega, fun u hu => by cases hu; omega, c⟩, fun ⟨j, a, b, c⟩ => ⟨j, by omega, ?_, c⟩⟩
      have := b v rfl
      omega
    | none =>
      rw [addM]
      refine Grw.entry h ?_
      have g := copies_ok ih lo.toNat lo.toNat _ _ hs
      refine (g.grw.seq (around_ok ih g.grw.lt.1)).congr fun w => ⟨?_, ?_⟩
      · rintro ⟨u, v, e, a, j, b⟩
        exact ⟨lo.toNat + j, by omega, (fun u hu => by cases hu), (Lp_add _ _ _ _).mpr ⟨u, v, e, a, b⟩⟩
      · rintro ⟨n, a, _, b⟩
        obtain ⟨j, rfl⟩ : ∃ j, n = lo.toNat + j := ⟨n - lo.toNat, by omega⟩
        obtain ⟨u, v, e, x, y⟩ := (Lp_add _ _ _ _).mp b
        exact ⟨u, v, e, x, j, y⟩
theorem addR_ok : ∀ (ps : List Rx), (plainL ps).all id = true → okRL ps = true → ∀ (M : Mvs) (s : Nat), s < M.length → Grw M (addR ps M s).1 s (addR ps M s).2 (LgR ps)
  | [], _, _, M, s, h => Grw.nil h
  | p :: ps, hp, ho, M, s, h => by
    rw [plainL, List.all_cons, Bool.and_eq_true] at hp
    rw [okRL, Bool.and_eq_true] at ho
    rw [addR]
    have g := addM_ok p hp.1 ho.1 M s h
    exact g.seq (addR_ok ps hp.2 ho.2 _ _ g.lt.1)
theorem addO_ok : ∀ (ps : List Rx), (plainL ps).all id = true → okRL ps = true → ∀ (M0 : Mvs) (s : Nat), s < M0.length → ∀ (M : Mvs) (es : List Nat) (L : Lan), GrwF M0 M s es L → GrwF M0 (addO ps M s).1 s (es ++ (addO ps M s).2) (fun w => L w ∨ LgO ps w)
  | [], _, _, M0, s, h, M, es, L, g => by
    rw [addO, List.append_nil]
    obtain ⟨S, f, e⟩ := g
    exact ⟨S, ⟨f.nn, f.sn, f.src, f.tgt, f.en, fun w => (f.lan w).trans ⟨.inl, fun h => h.elim id False.elim⟩⟩, e⟩
  | p :: ps, hp, ho, M0, s, h, M, es, L, g => by
    rw [plainL, List.all_cons, Bool.and_eq_true] at hp
    rw [okRL, Bool.and_eq_true] at ho
    rw [addO]
    obtain ⟨S, f, e⟩ := g
    have hsM : s < M.length := by have := f.sn; have := f.nn; omega
    obtain ⟨S2, f2, e2⟩ := addM_ok p hp.1 ho.1 M s hsM
    have g2 : GrwF M0 (addM p M s).1 s (es ++ [(addM p M s).2]) (fun w => L w ∨ Lg p w) := ⟨_, f.add f2, fun p c q => by rw [e2, e]; exact or_assoc⟩
    have g3 := addO_ok ps hp.2 ho.2 M0 s h _ _ _ g2
    rw [List.append_assoc] at g3
    obtain ⟨S3, f3, e3⟩ := g3
    exact ⟨S3, ⟨f3.nn, f3.sn, f3.src, f3.tgt, f3.en, fun w => (f3.lan w).trans or_assoc⟩, e3⟩
end
def tab (r : Rx) : Mvs := (addM r [[]] 0).1
def gol (r : Rx) : Nat := (addM r [[]] 0).2
theorem tab_lan {r : Rx} (hp : plain r = true) (ho : okR r = true) (w : Tx) : Pth (EM (tab r)) 0 w (gol r) ↔ Lg r w := by
  obtain ⟨S, f, e⟩ := addM_ok r hp ho [[]] 0 (by decide)
  rw [← f.lan w]
  have h0 : ∀ p c q, ¬ EM [[]] p c q := fun p c q ⟨l, t, h1, h2, _⟩ => by
    have := List.mem_of_getElem? h1
    rw [List.mem_singleton.mp this] at h2
    cases h2
  have e' : ∀ p c q, EM (tab r) p c q ↔ S p c q := fun p c q => (e p c q).trans ⟨fun h => h.elim (fun z => absurd z (h0 _ _ _)) id, .inr⟩
  exact ⟨fun x => x.mono fun p c q => (e' p c q).mp, fun x => x.mono fun p c q => (e' p c q).mpr⟩
theorem tab_lt {r : Rx} (hp : plain r = true) (ho : okR r = true) : gol r < (tab r).length ∧ 0 < (tab r).length ∧ ∀ p c q, EM (tab r) p c q → p < (tab r).length ∧ q < (tab r).length := by
  have g := addM_ok r hp ho [[]] 0 (by decide)
  obtain ⟨l1, l2⟩ := g.lt
  obtain ⟨S, f, e⟩ := g
  have l3 : ([[]] : Mvs).length = 1 := rfl
  refine ⟨l1, by have : 1 ≤ (tab r).length := l2; omega, fun p c q z => ?_⟩
  rcases (e p c q).mp z with ⟨l, t, h1, h2, _⟩ | z
  · have := List.mem_of_getElem? h1
    rw [List.mem_singleton.mp this] at h2
    cases h2
  · have h1 := f.src p c q z
    have h2 := f.tgt p c q z
    have h3 := f.nn
    have h4 : ([[]] : Mvs).length ≤ (tab r).length := l2
    exact ⟨by unfold tab; omega, h2.2⟩
end Cut
namespace Cut
open PySem L2 DL
def tot (M : Mvs) : Nat := M.length + (M.map List.length).sum
theorem tot_snoc (M : Mvs) : tot (M ++ [[]]) = tot M + 1 := by unfold tot; simp; omega
theorem sum_modify : ∀ (l : Mvs) (p : Nat) (e : Str × Nat), ((l.modify p fun x => x ++ [e]).map List.length).sum ≤ (l.map List.length).sum + 1
  | [], p, e => by simp
  | x :: l, 0, e => by simp; omega
  | x :: l, p + 1, e => by
    have := sum_modify l p e
    simp only [List.modify_succ_cons, List.map_cons, List.sum_cons]
    omega
theorem tot_addE (M : Mvs) (p : Nat) (t : Str) (q : Nat) : tot (addE M p t q) ≤ tot M + 1 := by
  have := sum_modify M p (t, q)
  have h2 := addE_len M p t q
  unfold tot
  unfold addE at *
  omega
theorem tot_addA : ∀ (es : List Nat) (M : Mvs) (q : Nat), tot (addA M es q) ≤ tot M + es.length
  | [], M, q => Nat.le_refl _
  | e :: es, M, q => by
    have h1 := tot_addA es (addE M e Str.empty q) q
    have h2 := tot_addE M e Str.empty q
    show tot (addA (addE M e Str.empty q) es q) ≤ _
    rw [List.length_cons]
    omega
theorem tot_close (M : Mvs) (es : List Nat) : tot (closeA M es).1 ≤ tot M + 1 + es.length := by
  have := tot_addA es (M ++ [[]]) M.length
  rw [tot_snoc] at this
  exact this
def cps (lo : Int) (hi : Option Int) : Nat := match hi with
  | some h => h.toNat
  | none => lo.toNat + 1
mutual
def cost : Rx → Nat
  | .set _ => 4
  | .row ps => costL ps
  | .any ps => 3 + ps.length + costL ps
  | .all _ => 0
  | .no _ => 0
  | .again p lo hi => 7 + cps lo hi + cps lo hi * cost p
def costL : List Rx → Nat
  | [] => 0
  | p :: ps => cost p + costL ps
end
theorem copies_tot {f : Mvs → Nat → Mvs × Nat} {c : Nat} (hf : ∀ M s, tot (f M s).1 ≤ tot M + c) (lo : Nat) : ∀ (k : Nat) (M : Mvs) (s : Nat), tot (copies f lo k M s).1 ≤ tot M + k * c ∧ (copies f lo k M s).2.2.length ≤ k + 1
  | 0, M, s => by
    refine ⟨by simp [copies], ?_⟩
    show (if lo = 0 then [s] else []).length ≤ 1
    split <;> simp
  | k + 1, M, s => by
    obtain ⟨h1, h2⟩ := copies_tot hf lo k M s
    have h3 := hf (copies f lo k M s).1 (copies f lo k M s).2.1
    refine ⟨?_, ?_⟩
    · show tot (f _ _).1 ≤ _
      rw [Nat.succ_mul]
      omega
    · show (_ ++ if lo ≤ k + 1 then [_] else []).length ≤ _
      rw [List.length_append]
      split <;> simp <;> omega
mutual
theorem addM_tot : ∀ (r : Rx) (M : Mvs) (s : Nat), tot (addM r M s).1 ≤ tot M + cost r
  | .set t, M, s => by
    have h1 := tot_addE (M ++ [[]]) s Str.empty M.length
    have h2 := tot_addE (addE (M ++ [[]]) s Str.empty M.length ++ [[]]) M.length t (M.length + 1)
    rw [tot_snoc] at h1 h2
    rw [addM, cost]
    try dsimp only
    split
    · rw [tot_snoc]; omega
    · omega
  | .row ps, M, s => by rw [addM, cost]; exact addR_tot ps M s
  | .any ps, M, s => by
    have h1 := tot_addE (M ++ [[]]) s Str.empty M.length
    rw [tot_snoc] at h1
    obtain ⟨h2, h3⟩ := addO_tot ps (addE (M ++ [[]]) s Str.empty M.length) M.length
    have h4 := tot_close (addO ps (addE (M ++ [[]]) s Str.empty M.length) M.length).1 (addO ps (addE (M ++ [[]]) s Str.empty M.length) M.length).2
    rw [addM, cost]
    try dsimp only
    omega
  | .all _, M, s => by rw [addM, cost]; exact Nat.le_refl _
  | .no _, M, s => by rw [addM, cost]; exact Nat.le_refl _
  | .again p lo (some h), M, s => by
    have h1 := tot_addE (M ++ [[]]) s Str.empty M.length
    rw [tot_snoc] at h1
    obtain ⟨h2, h3⟩ := copies_tot (addM_tot p) lo.toNat h.toNat (addE (M ++ [[]]) s Str.empty M.length) M.length
    have h4 := tot_close (copies (addM p) lo.toNat h.toNat (addE (M ++ [[]]) s Str.empty M.length) M.length).1 (copies (addM p) lo.toNat h.toNat (addE (M ++ [[]]) s Str.empty M.length) M.length).2.2
    rw [addM, cost, cps]
    try dsimp only
    omega
  | .again p lo none, M, s => by
    have h1 := tot_addE (M ++ [[]]) s Str.empty M.length
    rw [tot_snoc] at h1
    obtain ⟨h2, h3⟩ := copies_tot (addM_tot p) lo.toNat lo.toNat (addE (M ++ [[]]) s Str.empty M.length) M.length
    rw [addM, cost, cps]
    try dsimp only
    generalize copies (addM p) lo.toNat lo.toNat (addE (M ++ [[]]) s Str.empty M.length) M.length = r at h2 h3
    have h4 := tot_addE (r.1 ++ [[]]) r.2.1 Str.empty r.1.length
    rw [tot_snoc] at h4
    have h5 := addM_tot p (addE (r.1 ++ [[]]) r.2.1 Str.empty r.1.length) r.1.length
    have h6 := tot_addE (addM p (addE (r.1 ++ [[]]) r.2.1 Str.empty r.1.length) r.1.length).1 (addM p (addE (r.1 ++ [[]]) r.2.1 Str.empty r.1.length) r.1.length).2 Str.empty r.1.length
    have h7 := tot_close (around (addM p) r.1 r.2.1).1 [(around (addM p) r.1 r.2.1).2]
    have h8 : tot (around (addM p) r.1 r.2.1).1 ≤ tot r.1 + 1 + 1 + cost p + 1 := by
      show tot (addE _ _ _ _) ≤ _
      omega
    rw [Nat.succ_mul]
    rw [List.length_singleton] at h7
    omega
theorem addR_tot : ∀ (ps : List Rx) (M : Mvs) (s : Nat), tot (addR ps M s).1 ≤ tot M + costL ps
  | [], M, s => by rw [addR, costL]; exact Nat.le_refl _
  | p :: ps, M, s => by
    have h1 := addM_tot p M s
    have h2 := addR_tot ps (addM p M s).1 (addM p M s).2
    rw [addR, costL]
    omega
theorem addO_tot : ∀ (ps : List Rx) (M : Mvs) (s : Nat), tot (addO ps M s).1 ≤ tot M + costL ps ∧ (addO ps M s).2.length = ps.length
  | [], M, s => by rw [addO, costL]; exact ⟨Nat.le_refl _, rfl⟩
  | p :: ps, M, s => by
    have h1 := addM_tot p M s
    obtain ⟨h2, h3⟩ := addO_tot ps (addM p M s).1 s
    rw [addO, costL]
    exact ⟨by dsimp only; omega, by rw [List.length_cons, h3, List.length_cons]⟩
end
theorem tot_len (M : Mvs) : M.length ≤ tot M := by unfold tot; omega
theorem sum_mem : ∀ {l : List Nat} {x : Nat}, x ∈ l → x ≤ l.sum
  | y :: l, x, h => by
    rw [List.sum_cons]
    rcases List.mem_cons.mp h with e | e
    · rw [e]; omega
    · have := sum_mem e; omega
theorem tot_row {M : Mvs} {l : List (Str × Nat)} {p : Nat} (h : M[p]? = some l) : l.length ≤ tot M := by
  have := sum_mem (List.mem_map.mpr ⟨l, List.mem_of_getElem? h, rfl⟩ : l.length ∈ M.map List.length)
  unfold tot
  omega
end Cut
namespace Cut
open PySem L2 DL
noncomputable def tru (p : Prop) : Bool := @decide p (Classical.propDecidable p)
theorem tru_iff {p : Prop} : tru p = true ↔ p := @decide_eq_true_iff p (Classical.propDecidable p)
theorem tru_congr {p q : Prop} (h : p ↔ q) : tru p = tru q := by rw [propext h]
noncomputable def rch (M : Mvs) (R : Nat → Prop) : List Nat := (List.range M.length).filter fun x => tru (R x)
theorem mem_rch {M : Mvs} {R : Nat → Prop} {x : Nat} : x ∈ rch M R ↔ x < M.length ∧ R x := by
  unfold rch
  rw [List.mem_filter, List.mem_range, tru_iff]
theorem rch_sorted (M : Mvs) (R : Nat → Prop) : (rch M R).Pairwise (· < ·) := (List.pairwise_lt_range).filter _
theorem rch_congr {M : Mvs} {R R' : Nat → Prop} (h : ∀ x, x < M.length → (R x ↔ R' x)) : rch M R = rch M R' := by
  unfold rch
  refine List.filter_congr fun x hx => ?_
  exact tru_congr (h x (List.mem_range.mp hx))
theorem sorted_eq : ∀ {xs ys : List Nat}, xs.Pairwise (· < ·) → ys.Pairwise (· < ·) → (∀ x, x ∈ xs ↔ x ∈ ys) → xs = ys
  | [], [], _, _, _ => rfl
  | [], y :: ys, _, _, h => absurd ((h y).mpr (List.mem_cons_self ..)) (by simp)
  | x :: xs, [], _, _, h => absurd ((h x).mp (List.mem_cons_self ..)) (by simp)
  | x :: xs, y :: ys, h1, h2, h => by
    rw [List.pairwise_cons] at h1 h2
    have exy : x = y := by
      rcases List.mem_cons.mp ((h x).mp (List.mem_cons_self ..)) with e | e
      · exact e
      · rcases List.mem_cons.mp ((h y).mpr (List.mem_cons_self ..)) with e' | e'
        · exact e'.symm
        · have := h1.1 y e'
          have := h2.1 x e
          omega
    subst exy
    rw [sorted_eq h1.2 h2.2 fun z => ?_]
    constructor
    · intro hz
      rcases List.mem_cons.mp ((h z).mp (List.mem_cons_of_mem _ hz)) with e | e
      · have := h1.1 z hz; omega
      · exact e
    · intro hz
      rcases List.mem_cons.mp ((h z).mpr (List.mem_cons_of_mem _ hz)) with e | e
      · have := h2.1 z hz; omega
      · exact e
theorem sorted_rch {M : Mvs} {R : Nat → Prop} {ks : List Nat} {ys : List Int} (nd : ks.Nodup) (hk : ∀ x, x ∈ ks ↔ x < M.length ∧ R x) (hp : ys.Perm (ks.map fun k : Nat => (k : Int))) (hs : ys.Pairwise (· ≤ ·)) : ys = (rch M R).map fun k : Nat => (k : Int) := by
  have h1 : ys = (ys.map Int.toNat).map fun k : Nat => (k : Int) := by
    rw [List.map_map]
    conv => lhs; rw [← List.map_id ys]
    refine List.map_congr_left fun y hy => ?_
    obtain ⟨k, _, rfl⟩ := List.mem_map.mp (hp.mem_iff.mp hy)
    simp
  have hp2 : (ys.map Int.toNat).Perm ks := by
    have := hp.map Int.toNat
    rw [List.map_map] at this
    have e : ks.map (Int.toNat ∘ fun k : Nat => (k : Int)) = ks := by
      conv => rhs; rw [← List.map_id ks]
      refine List.map_congr_left fun y hy => ?_
      simp
    rw [e] at this
    exact this
  rw [h1]
  congr 1
  refine sorted_eq ?_ (rch_sorted M R) fun x => ?_
  · have nd2 : (ys.map Int.toNat).Nodup := hp2.nodup_iff.mpr nd
    have hs2 : (ys.map Int.toNat).Pairwise (· ≤ ·) := by
      rw [List.pairwise_map]
      exact hs.imp fun {a b} h => by omega
    exact (hs2.and nd2).imp fun {a b} h => by omega
  · rw [hp2.mem_iff, hk, mem_rch]
noncomputable def clo (M : Mvs) (ps : List Nat) : List Nat := rch M fun x => ∃ p ∈ ps, Pth (EM M) p [] x
noncomputable def run (M : Mvs) (w : Tx) : List Nat := rch M fun x => Pth (EM M) 0 w x
def stp (M : Mvs) (xs : List Nat) (c : Nat) : List Nat := xs.flatMap fun x => ((M.getD x []).filter fun e => decide (e.1 ≠ Str.empty) && decide (c ∈ e.1.cps.toList)).map (·.2)
theorem Pth.split {S : Eds} {p q : Nat} {w : Tx} {c : Nat} (x : Pth S p (w ++ [c]) q) : ∃ a cs b, Pth S p w a ∧ S a cs b ∧ c ∈ cs ∧ Pth S b [] q := by
  generalize e : w ++ [c] = v at x
  induction x generalizing w with
  | nil p => simp at e
  | eps z y ih =>
    obtain ⟨a, cs, b, h1, h2, h3, h4⟩ := ih e
    exact ⟨a, cs, b, .eps z h1, h2, h3, h4⟩
  | chr z m y ih =>
    cases w with
    | nil =>
      simp at e
      obtain ⟨rfl, rfl⟩ := e
      exact ⟨_, _, _, .nil _, z, m, y⟩
    | cons d w =>
      simp at e
      obtain ⟨rfl, e⟩ := e
      obtain ⟨a, cs, b, h1, h2, h3, h4⟩ := ih e
      exact ⟨a, cs, b, .chr z m h1, h2, h3, h4⟩
theorem mem_stp {M : Mvs} {xs : List Nat} {c q : Nat} : q ∈ stp M xs c ↔ ∃ x ∈ xs, ∃ cs, EM M x cs q ∧ c ∈ cs := by
  unfold stp
  rw [List.mem_flatMap]
  constructor
  · rintro ⟨x, hx, h⟩
    obtain ⟨e, he, rfl⟩ := List.mem_map.mp h
    obtain ⟨he, hc⟩ := List.mem_filter.mp he
    rw [Bool.and_eq_true] at hc
    cases hm : M[x]? with
    | none => rw [List.getD_eq_getElem?_getD, hm] at he; cases he
    | some l =>
      rw [List.getD_eq_getElem?_getD, hm] at he
      exact ⟨x, hx, e.1.cps.toList, ⟨l, e.1, hm, he, rfl⟩, of_decide_eq_true hc.2⟩
  · rintro ⟨x, hx, cs, ⟨l, t, h1, h2, rfl⟩, hc⟩
    refine ⟨x, hx, List.mem_map.mpr ⟨(t, q), List.mem_filter.mpr ⟨by rw [List.getD_eq_getElem?_getD, h1]; exact h2, ?_⟩, rfl⟩⟩
    rw [Bool.and_eq_true]
    exact ⟨decide_eq_true (fun (z : t = Str.empty) => by rw [z] at hc; cases hc), decide_eq_true hc⟩
theorem run_nil (M : Mvs) : clo M [0] = run M [] := rch_congr fun x _ => ⟨fun ⟨p, hp, h⟩ => by rw [List.mem_singleton.mp hp] at h; exact h, fun h => ⟨0, List.mem_singleton.mpr rfl, h⟩⟩
theorem run_snoc {M : Mvs} (hl : ∀ p c q, EM M p c q → p < M.length ∧ q < M.length) (w : Tx) (c : Nat) : clo M (stp M (run M w) c) = run M (w ++ [c]) := by
  refine rch_congr fun x _ => ⟨?_, fun h => ?_⟩
  · rintro ⟨p, hp, h⟩
    obtain ⟨y, hy, cs, h1, h2⟩ := mem_stp.mp hp
    have h3 := (mem_rch.mp hy).2
    exact h3.trans (.chr h1 h2 h)
  · obtain ⟨a, cs, b, h1, h2, h3, h4⟩ := h.split
    exact ⟨b, mem_stp.mpr ⟨a, mem_rch.mpr ⟨(hl _ _ _ h2).1, h1⟩, cs, h2, h3⟩, h4⟩
end Cut
namespace Cut
open PySem L2 DL
mutual
def costA : Rx → Nat
  | .set s => cost (.set s)
  | .row ps => cost (.row ps)
  | .again p lo hi => cost (.again p lo hi)
  | .any ps => cost (.any ps) + costAL ps
  | .all ps => costAL ps
  | .no p => costA p
def costAL : List Rx → Nat
  | [] => 0
  | p :: ps => costA p + costAL ps
end
theorem costAL_mem : ∀ {ps : List Rx} {p : Rx}, p ∈ ps → costA p ≤ costAL ps
  | q :: qs, p, h => by
    rw [costAL]
    rcases List.mem_cons.mp h with e | e
    · rw [e]; omega
    · have := costAL_mem e; omega
theorem costA_plain {r : Rx} (h : plain r = true) : cost r ≤ costA r := by
  cases r with
  | set s => exact Nat.le_refl _
  | row ps => exact Nat.le_refl _
  | again p lo hi => exact Nat.le_refl _
  | any ps => rw [costA]; omega
  | all ps => rw [plain] at h; cases h
  | no p => rw [plain] at h; cases h
theorem costA_parts {r : Rx} (h : plain r = false) (hh : hasP r = true) : ∀ p ∈ r.parts, costA p ≤ costA r ∧ hasP p = true := by
  intro p hp
  cases r with
  | set s => rw [plain] at h; cases h
  | row ps => rw [plain] at h; rw [hasP, h] at hh; cases hh
  | again p lo hi => rw [plain] at h; rw [hasP, h] at hh; cases hh
  | any ps =>
    have := costAL_mem (show p ∈ ps from hp)
    rw [hasP, hasPL_map, List.all_eq_true] at hh
    exact ⟨by rw [costA]; omega, hh _ (List.mem_map.mpr ⟨p, hp, rfl⟩)⟩
  | all ps =>
    have := costAL_mem (show p ∈ ps from hp)
    rw [hasP, hasPL_map, List.all_eq_true] at hh
    exact ⟨by rw [costA]; exact this, hh _ (List.mem_map.mpr ⟨p, hp, rfl⟩)⟩
  | no q =>
    rw [hasP] at hh
    rw [List.mem_singleton.mp (show p ∈ [q] from hp)]
    exact ⟨by rw [costA]; exact Nat.le_refl _, hh⟩
end Cut
namespace Cut
open PySem L2 DL
theorem tru_not (p : Prop) : (!tru p) = tru (¬ p) := by
  rw [Bool.eq_iff_iff, tru_iff, Bool.not_eq_true', Bool.eq_false_iff]
  exact not_congr tru_iff
theorem tru_or (p q : Prop) : (tru p || tru q) = tru (p ∨ q) := by
  rw [Bool.eq_iff_iff, Bool.or_eq_true, tru_iff, tru_iff, tru_iff]
theorem tru_and (p q : Prop) : (tru p && tru q) = tru (p ∧ q) := by
  rw [Bool.eq_iff_iff, Bool.and_eq_true, tru_iff, tru_iff, tru_iff]
theorem tru_any (w : Tx) : ∀ ps : List Rx, (ps.map fun p => tru (Lg p w)).any id = tru (LgO ps w)
  | [] => by rw [LgO]; exact (Bool.eq_false_iff.mpr fun z => tru_iff.mp z).symm
  | p :: ps => by
    rw [List.map_cons, List.any_cons, tru_any w ps, LgO, ← tru_or]; rfl
theorem tru_all (w : Tx) : ∀ ps : List Rx, (ps.map fun p => tru (Lg p w)).all id = tru (LgA ps w)
  | [] => by rw [LgA]; exact (tru_iff.mpr trivial).symm
  | p :: ps => by
    rw [List.map_cons, List.all_cons, tru_all w ps, LgA, ← tru_and]; rfl
theorem tru_dec {p : Prop} [h : Decidable p] : tru p = decide p := by
  rw [Bool.eq_iff_iff, tru_iff, decide_eq_true_iff]
def lens (M : Mvs) (xs : List Nat) : Nat := (xs.map fun x => (M.getD x []).length).sum
theorem sum_filter_le (f : Nat → Nat) (p : Nat → Bool) : ∀ l : List Nat, ((l.filter p).map f).sum ≤ (l.map f).sum
  | [] => Nat.le_refl _
  | x :: l => by
    have := sum_filter_le f p l
    rw [List.filter_cons]
    split
    · rw [List.map_cons, List.sum_cons, List.map_cons, List.sum_cons]; omega
    · rw [List.map_cons, List.sum_cons]; omega
theorem range_lens (M : Mvs) : (List.range M.length).map (fun x => (M.getD x []).length) = M.map List.length := by
  refine List.ext_getElem (by simp) fun i h1 h2 => ?_
  simp at h1 h2
  simp [h1]
theorem lens_rch (M : Mvs) (R : Nat → Prop) : lens M (rch M R) ≤ tot M := by
  have := sum_filter_le (fun x => (M.getD x []).length) (fun x => tru (R x)) (List.range M.length)
  rw [range_lens] at this
  unfold lens rch tot
  omega
end Cut
namespace Cut
open PySem L2 DL
inductive GP (ch : Nat → Tx) (FO : Nat → Nat → Prop) : Nat → Tx → Nat → Prop
  | one {s c : Nat} : c ∈ ch s → GP ch FO s [c] s
  | cons {s t e c : Nat} {w : Tx} : c ∈ ch s → FO s t → GP ch FO t w e → GP ch FO s (c :: w) e
section
variable {ch ch' : Nat → Tx} {FO F F1 F2 : Nat → Nat → Prop}
theorem GP.mono (h : ∀ s t, F1 s t → F2 s t) {s e : Nat} {w : Tx} (x : GP ch F1 s w e) : GP ch F2 s w e := by
  induction x with
  | one m => exact .one m
  | cons m f _ ih => exact .cons m (h _ _ f) ih
theorem GP.ne {s e : Nat} {w : Tx} (x : GP ch FO s w e) : w ≠ [] := by cases x <;> exact fun z => nomatch z
theorem GP.stay {G : Nat → Prop} (h : ∀ s t, G s → F1 s t → F2 s t ∧ G t) (hc : ∀ s, G s → ch s = ch' s) {s e : Nat} {w : Tx} (x : GP ch F1 s w e) (hs : G s) : GP ch' F2 s w e ∧ G e := by
  induction x with
  | one m => exact ⟨.one (by rw [← hc _ hs]; exact m), hs⟩
  | cons m f _ ih =>
    obtain ⟨a, b⟩ := h _ _ hs f
    obtain ⟨c, d⟩ := ih b
    exact ⟨.cons (by rw [← hc _ hs]; exact m) a c, d⟩
theorem GP.app {s l f e : Nat} {u v : Tx} (x : GP ch FO s u l) (h : FO l f) (y : GP ch FO f v e) : GP ch FO s (u ++ v) e := by
  induction x with
  | one m => exact .cons m h y
  | cons m g _ ih => exact .cons m g (ih h)
theorem GP.snoc {s e : Nat} {w : Tx} {c : Nat} : w ≠ [] → (GP ch FO s (w ++ [c]) e ↔ ∃ l, GP ch FO s w l ∧ FO l e ∧ c ∈ ch e) := by
  intro hw
  constructor
  · intro x
    induction w generalizing s with
    | nil => exact absurd rfl hw
    | cons d w ih =>
      cases w with
      | nil =>
        cases x with
        | cons m f y =>
          cases y with
          | one m2 => exact ⟨_, .one m, f, m2⟩
          | cons _ _ z => exact absurd rfl z.ne
      | cons d2 w =>
        cases x with
        | cons m f y =>
          obtain ⟨l, h1, h2, h3⟩ := ih (fun z => nomatch z) y
          exact ⟨l, .cons m f h1, h2, h3⟩
  · rintro ⟨l, x, f, m⟩
    exact x.app f (.one m)
end
structure GF (ch : Nat → Tx) (FO : Nat → Nat → Prop) (n n' : Nat) (nl : Bool) (fi la : List Nat) (L : Lan) : Prop where
  nn : n ≤ n'
  fin : ∀ s ∈ fi, n ≤ s ∧ s < n'
  lin : ∀ s ∈ la, n ≤ s ∧ s < n'
  fo : ∀ s t, FO s t → (n ≤ s ∧ s < n') ∧ n ≤ t ∧ t < n'
  lan : ∀ w, L w ↔ (w = [] ∧ nl = true) ∨ ∃ s ∈ fi, ∃ e ∈ la, GP ch FO s w e
def Joi (F1 F2 : Nat → Nat → Prop) (la fi : List Nat) : Nat → Nat → Prop := fun s t => F1 s t ∨ F2 s t ∨ (s ∈ la ∧ t ∈ fi)
section
variable {ch ch' : Nat → Tx} {F F1 F2 : Nat → Nat → Prop} {n m k : Nat} {nl nl1 nl2 : Bool} {fi la fi1 la1 fi2 la2 : List Nat} {L L' L1 L2 : Lan}
theorem GF.congr (a : GF ch F n m nl fi la L) (h : ∀ w, L w ↔ L' w) : GF ch F n m nl fi la L' := ⟨a.nn, a.fin, a.lin, a.fo, fun w => (h w).symm.trans (a.lan w)⟩
theorem GF.chg (a : GF ch F n m nl fi la L) (h : ∀ s, n ≤ s ∧ s < m → ch' s = ch s) : GF ch' F n m nl fi la L := ⟨a.nn, a.fin, a.lin, a.fo, fun w => (a.lan w).trans (by
  constructor
  · rintro (z | ⟨s, hs, e, he, x⟩)
    · exact .inl z
    · exact .inr ⟨s, hs, e, he, (x.stay (ch' := ch') (F2 := F) (G := fun s => n ≤ s ∧ s < m) (fun s t _ f => ⟨f, (a.fo s t f).2⟩) (fun s hs => (h s hs).symm) (a.fin s hs)).1⟩
  · rintro (z | ⟨s, hs, e, he, x⟩)
    · exact .inl z
    · exact .inr ⟨s, hs, e, he, (x.stay (ch' := ch) (F2 := F) (G := fun s => n ≤ s ∧ s < m) (fun s t _ f => ⟨f, (a.fo s t f).2⟩) (fun s hs => h s hs) (a.fin s hs)).1⟩)⟩
theorem GF.nil (n : Nat) : GF ch (fun _ _ => False) n n true [] [] (fun w => w = []) := ⟨Nat.le_refl _, fun _ z => (nomatch z), fun _ z => (nomatch z), fun _ _ z => z.elim, fun w => ⟨fun h => .inl ⟨h, rfl⟩, fun h => h.elim (·.1) fun ⟨_, z, _⟩ => nomatch z⟩⟩
theorem GF.non (n : Nat) : GF ch (fun _ _ => False) n n false [] [] (fun _ => False) := ⟨Nat.le_refl _, fun _ z => (nomatch z), fun _ z => (nomatch z), fun _ _ z => z.elim, fun w => ⟨False.elim, fun h => h.elim (fun z => nomatch z.2) fun ⟨_, z, _⟩ => nomatch z⟩⟩
theorem GF.set {n : Nat} {cs : Tx} (h : ch n = cs) : GF ch (fun _ _ => False) n (n + 1) false [n] [n] (fun w => ∃ c, w = [c] ∧ c ∈ cs) := ⟨by omega, fun s z => by rw [List.mem_singleton.mp z]; omega, fun s z => by rw [List.mem_singleton.mp z]; omega, fun _ _ z => z.elim, fun w => by
  constructor
  · rintro ⟨c, rfl, hc⟩
    exact .inr ⟨n, List.mem_singleton.mpr rfl, n, List.mem_singleton.mpr rfl, .one (by rw [h]; exact hc)⟩
  · rintro (⟨_, z⟩ | ⟨s, hs, e, he, x⟩)
    · cases z
    · rw [List.mem_singleton.mp hs] at x
      cases x with
      | one m => exact ⟨_, rfl, by rw [← h]; exact m⟩
      | cons _ f _ => exact f.elim⟩
theorem GP.cross (a : GF ch F1 n m nl1 fi1 la1 L1) (b : GF ch F2 m k nl2 fi2 la2 L2) {s e : Nat} {w : Tx} (x : GP ch (Joi F1 F2 la1 fi2) s w e) : (n ≤ s ∧ s < m → (GP ch F1 s w e ∧ n ≤ e ∧ e < m) ∨ ∃ u v, w = u ++ v ∧ ∃ l ∈ la1, GP ch F1 s u l ∧ ∃ f ∈ fi2, GP ch F2 f v e ∧ m ≤ e) ∧ (m ≤ s → GP ch F2 s w e ∧ m ≤ e) := by
  have back : ∀ {s e : Nat} {w : Tx}, GP ch (Joi F1 F2 la1 fi2) s w e → m ≤ s → GP ch F2 s w e ∧ m ≤ e := fun x h => x.stay (G := fun s => m ≤ s) (fun s t hs z => by
    rcases z with z | z | ⟨z, _⟩
    · have := (a.fo s t z).1; omega
    · exact ⟨z, (b.fo s t z).2.1⟩
    · have := a.lin s z; omega) (fun _ _ => rfl) h
  refine ⟨?_, back x⟩
  induction x with
  | one hc => exact fun h => .inl ⟨.one hc, h⟩
  | @cons s t e c w hc f y ih =>
    intro h
    rcases f with f | f | ⟨f, g⟩
    · rcases ih (a.fo s t f).2 with ⟨p, q⟩ | ⟨u, v, rfl, l, hl, p, f', hf, q, r⟩
      · exact .inl ⟨.cons hc f p, q⟩
      · exact .inr ⟨c :: u, v, rfl, l, hl, .cons hc f p, f', hf, q, r⟩
    · have := (b.fo s t f).1; omega
    · obtain ⟨p, q⟩ := back y (b.fin t g).1
      exact .inr ⟨[c], w, rfl, s, f, .one hc, t, g, p, q⟩
theorem GF.seq (a : GF ch F1 n m nl1 fi1 la1 L1) (b : GF ch F2 m k nl2 fi2 la2 L2) : GF ch (Joi F1 F2 la1 fi2) n k (nl1 && nl2) (fi1 ++ if nl1 = true then fi2 else []) (la2 ++ if nl2 = true then la1 else []) (Lc L1 L2) := by
  have an := a.nn
  have bn := b.nn
  have f1 : ∀ {s t}, F1 s t → Joi F1 F2 la1 fi2 s t := fun z => .inl z
  have f2 : ∀ {s t}, F2 s t → Joi F1 F2 la1 fi2 s t := fun z => .inr (.inl z)
  refine ⟨by omega, fun s hs => ?_, fun s hs => ?_, fun s t h => ?_, fun w => ?_⟩
  · rcases List.mem_append.mp hs with hs | hs
    · have := a.fin s hs; omega
    · split at hs
      · have := b.fin s hs; omega
      · cases hs
  · rcases List.mem_append.mp hs with hs | hs
    · have := b.lin s hs; omega
    · split at hs
      · have := a.lin s hs; omega
      · cases hs
  · rcases h with h | h | ⟨h, g⟩
    · have := a.fo s t h; omega
    · have := b.fo s t h; omega
    · have := a.lin s h; have := b.fin t g; omega
  · constructor
    · rintro ⟨u, v, rfl, hu, hv⟩
      rcases (a.lan u).mp hu with ⟨rfl, n1⟩ | ⟨s, hs, l, hl, x⟩
      · rcases (b.lan v).mp hv with ⟨rfl, n2⟩ | ⟨f, hf, e, he, y⟩
        · exact .inl ⟨rfl, by rw [n1, n2]; rfl⟩
        · exact .inr ⟨f, List.mem_append_right _ (by rw [if_pos n1]; exact hf), e, List.mem_append_left _ he, y.mono fun _ _ => f2⟩
      · rcases (b.lan v).mp hv with ⟨rfl, n2⟩ | ⟨f, hf, e, he, y⟩
        · exact .inr ⟨s, List.mem_append_left _ hs, l, List.mem_append_right _ (by rw [if_pos n2]; exact hl), by rw [List.append_nil]; exact x.mono fun _ _ => f1⟩
        · exact .inr ⟨s, List.mem_append_left _ hs, e, List.mem_append_left _ he, (x.mono fun _ _ => f1).app (.inr (.inr ⟨hl, hf⟩)) (y.mono fun _ _ => f2)⟩
    · rintro (⟨rfl, z⟩ | ⟨s, hs, e, he, x⟩)
      · rw [Bool.and_eq_true] at z
        exact ⟨[], [], rfl, (a.lan []).mpr (.inl ⟨rfl, z.1⟩), (b.lan []).mpr (.inl ⟨rfl, z.2⟩)⟩
      · obtain ⟨c1, c2⟩ := GP.cross a b x
        rcases List.mem_append.mp hs with hs | hs
        · rcases c1 (a.fin s hs) with ⟨y, q⟩ | ⟨u, v, rfl, l, hl, y, f, hf, z, q⟩
          · rcases List.mem_append.mp he with he | he
            · have := b.lin e he; omega
            · split at he
              · rename_i n2
                exact ⟨w, [], (List.append_nil _).symm, (a.lan w).mpr (.inr ⟨s, hs, e, he, y⟩), (b.lan []).mpr (.inl ⟨rfl, n2⟩)⟩
              · cases he
          · rcases List.mem_append.mp he with he | he
            · exact ⟨u, v, rfl, (a.lan u).mpr (.inr ⟨s, hs, l, hl, y⟩), (b.lan v).mpr (.inr ⟨f, hf, e, he, z⟩)⟩
            · split at he
              · have := a.lin e he; omega
              · cases he
        · split at hs
          · rename_i n1
            obtain ⟨y, q⟩ := c2 (b.fin s hs).1
            rcases List.mem_append.mp he with he | he
            · exact ⟨[], w, rfl, (a.lan []).mpr (.inl ⟨rfl, n1⟩), (b.lan w).mpr (.inr ⟨s, hs, e, he, y⟩)⟩
            · split at he
              · have := a.lin e he; omega
              · cases he
          · cases hs
theorem GF.opt (a : GF ch F n m nl fi la L) : GF ch F n m true fi la (fun w => w = [] ∨ L w) := ⟨a.nn, a.fin, a.lin, a.fo, fun w => by
  constructor
  · rintro (z | z)
    · exact .inl ⟨z, rfl⟩
    · rcases (a.lan w).mp z with z | z
      · exact .inl ⟨z.1, rfl⟩
      · exact .inr z
  · rintro (z | z)
    · exact .inl z.1
    · exact .inr ((a.lan w).mpr (.inr z))⟩
def Lop (F : Nat → Nat → Prop) (la fi : List Nat) : Nat → Nat → Prop := fun s t => F s t ∨ (s ∈ la ∧ t ∈ fi)
theorem GP.turn {s e : Nat} {w : Tx} (x : GP ch (Lop F la fi) s w e) : GP ch F s w e ∨ ∃ u v, w = u ++ v ∧ ∃ l ∈ la, GP ch F s u l ∧ ∃ f ∈ fi, GP ch (Lop F la fi) f v e := by
  induction x with
  | one hc => exact .inl (.one hc)
  | @cons s t e c w hc f y ih =>
    rcases f with f | ⟨f, g⟩
    · rcases ih with z | ⟨u, v, rfl, l, hl, p, f', hf, q⟩
      · exact .inl (.cons hc f z)
      · exact .inr ⟨c :: u, v, rfl, l, hl, .cons hc f p, f', hf, q⟩
    · exact .inr ⟨[c], w, rfl, s, f, .one hc, t, g, y⟩
theorem GF.loop (a : GF ch F n m nl fi la L) : GF ch (Lop F la fi) n m true fi la (fun w => ∃ j, Lp L j w) := ⟨a.nn, a.fin, a.lin, fun s t h => by
  rcases h with h | ⟨h, g⟩
  · exact a.fo s t h
  · exact ⟨a.lin s h, a.fin t g⟩, fun w => by
  have f1 : ∀ s t, F s t → Lop F la fi s t := fun _ _ z => .inl z
  constructor
  · rintro ⟨j, h⟩
    induction j generalizing w with
    | zero => exact .inl ⟨h, rfl⟩
    | succ j ih =>
      obtain ⟨u, v, rfl, hu, hv⟩ := (Lp_front L j w).mp h
      rcases (a.lan u).mp hu with ⟨rfl, _⟩ | ⟨s, hs, l, hl, x⟩
      · exact ih v hv
      · rcases ih v hv with ⟨rfl, _⟩ | ⟨f, hf, e, he, y⟩
        · exact .inr ⟨s, hs, l, hl, by rw [List.append_nil]; exact x.mono f1⟩
        · exact .inr ⟨s, hs, e, he, (x.mono f1).app (.inr ⟨hl, hf⟩) y⟩
  · rintro (⟨rfl, _⟩ | ⟨s, hs, e, he, x⟩)
    · exact ⟨0, rfl⟩
    · have key : ∀ (k : Nat) (w : Tx) (s : Nat), w.length ≤ k → s ∈ fi → GP ch (Lop F la fi) s w e → ∃ j, Lp L j w := by
        intro k
        induction k with
        | zero => exact fun w s hl _ x => absurd (List.eq_nil_of_length_eq_zero (by omega)) x.ne
        | succ k ih =>
          intro w s hl hs x
          rcases x.turn with y | ⟨u, v, rfl, l, hl', y, f, hf, z⟩
          · exact ⟨1, (Lp_front L 0 w).mpr ((Lc_nil_r _ _).mpr ((a.lan w).mpr (.inr ⟨s, hs, e, he, y⟩)))⟩
          · have hu := List.length_pos_iff.mpr y.ne
            rw [List.length_append] at hl
            obtain ⟨j, hj⟩ := ih v f (by omega) hf z
            exact ⟨j + 1, (Lp_front L j _).mpr ⟨u, v, rfl, (a.lan u).mpr (.inr ⟨s, hs, l, hl', y⟩), hj⟩⟩
      exact key w.length w s (Nat.le_refl _) hs x⟩
theorem GF.uni (a : GF ch F1 n m nl1 fi1 la1 L1) (b : GF ch F2 m k nl2 fi2 la2 L2) : GF ch (fun s t => F1 s t ∨ F2 s t) n k (nl1 || nl2) (fi1 ++ fi2) (la1 ++ la2) (fun w => L1 w ∨ L2 w) := by
  have an := a.nn
  have bn := b.nn
  refine ⟨by omega, fun s hs => ?_, fun s hs => ?_, fun s t h => ?_, fun w => ?_⟩
  · rcases List.mem_append.mp hs with hs | hs
    · have := a.fin s hs; omega
    · have := b.fin s hs; omega
  · rcases List.mem_append.mp hs with hs | hs
    · have := a.lin s hs; omega
    · have := b.lin s hs; omega
  · rcases h with h | h
    · have := a.fo s t h; omega
    · have := b.fo s t h; omega
  · have st1 : ∀ {s e w}, GP ch (fun s t => F1 s t ∨ F2 s t) s w e → s < m → GP ch F1 s w e ∧ e < m := fun x h => x.stay (G := fun s => s < m) (fun s t hs z => by
      rcases z with z | z
      · exact ⟨z, (a.fo s t z).2.2⟩
      · have := (b.fo s t z).1; omega) (fun _ _ => rfl) h
    have st2 : ∀ {s e w}, GP ch (fun s t => F1 s t ∨ F2 s t) s w e → m ≤ s → GP ch F2 s w e ∧ m ≤ e := fun x h => x.stay (G := fun s => m ≤ s) (fun s t hs z => by
      rcases z with z | z
      · have := (a.fo s t z).1; omega
      · exact ⟨z, (b.fo s t z).2.1⟩) (fun _ _ => rfl) h
    constructor
    · rintro (h | h)
      · rcases (a.lan w).mp h with ⟨z, e⟩ | ⟨s, hs, e, he, x⟩
        · exact .inl ⟨z, by rw [e]; rfl⟩
        · exact .inr ⟨s, List.mem_append_left _ hs, e, List.mem_append_left _ he, x.mono fun _ _ => .inl⟩
      · rcases (b.lan w).mp h with ⟨z, e⟩ | ⟨s, hs, e, he, x⟩
        · exact .inl ⟨z, by rw [e]; exact Bool.or_true _⟩
        · exact .inr ⟨s, List.mem_append_right _ hs, e, List.mem_append_right _ he, x.mono fun _ _ => .inr⟩
    · rintro (⟨z, e⟩ | ⟨s, hs, e, he, x⟩)
      · rcases Bool.or_eq_true .. ▸ e with e | e
        · exact .inl ((a.lan w).mpr (.inl ⟨z, e⟩))
        · exact .inr ((b.lan w).mpr (.inl ⟨z, e⟩))
      · rcases List.mem_append.mp hs with hs | hs
        · obtain ⟨y, q⟩ := st1 x (a.fin s hs).2
          rcases List.mem_append.mp he with he | he
          · exact .inl ((a.lan w).mpr (.inr ⟨s, hs, e, he, y⟩))
          · have := b.lin e he; omega
        · obtain ⟨y, q⟩ := st2 x (b.fin s hs).1
          rcases List.mem_append.mp he with he | he
          · have := a.lin e he; omega
          · exact .inr ((b.lan w).mpr (.inr ⟨s, hs, e, he, y⟩))
end
abbrev Sp := List (Str × List Nat)
structure Sr where
  nl : Bool
  fi : List Nat
  la : List Nat
def extd (S : Sp) (la fi : List Nat) : Sp := la.foldl (fun S l => S.modify l fun x => (x.1, x.2 ++ fi)) S
abbrev Mk := Sp → Sp × Sr
def stC (x : Sp × Sr) (f : Mk) (op lp : Bool) : Sp × Sr :=
  (extd (f x.1).1 (x.2.la ++ if lp = true then (f x.1).2.la else []) (f x.1).2.fi, ⟨x.2.nl && ((f x.1).2.nl || op), x.2.fi ++ (if x.2.nl = true then (f x.1).2.fi else []), (f x.1).2.la ++ if ((f x.1).2.nl || op) = true then x.2.la else []⟩)
def chC (x : Sp × Sr) : List (Mk × Bool × Bool) → Sp × Sr
  | [] => x
  | (f, op, lp) :: ps => chC (stC x f op lp) ps
def unC (x : Sp × Sr) : List Mk → Sp × Sr
  | [] => x
  | f :: fs => unC ((f x.1).1, ⟨x.2.nl || (f x.1).2.nl, x.2.fi ++ (f x.1).2.fi, x.2.la ++ (f x.1).2.la⟩) fs
def agC (f : Mk) (lo : Nat) : Option Nat → List (Mk × Bool × Bool)
  | none => List.replicate lo (f, false, false) ++ [(f, true, true)]
  | some h => List.replicate lo (f, false, false) ++ List.replicate (h - lo) (f, true, false)
mutual
def spF : Rx → Mk
  | .set s => fun S => (S ++ [(s, [])], ⟨false, [S.length], [S.length]⟩)
  | .row ps => fun S => chC (S, ⟨true, [], []⟩) ((spL ps).map fun f => (f, false, false))
  | .any ps => fun S => unC (S, ⟨false, [], []⟩) (spL ps)
  | .again p lo hi => fun S => chC (S, ⟨true, [], []⟩) (agC (spF p) lo.toNat (hi.map Int.toNat))
  | .all _ => fun S => (S, ⟨false, [], []⟩)
  | .no _ => fun S => (S, ⟨false, [], []⟩)
def spL : List Rx → List Mk
  | [] => []
  | p :: ps => spF p :: spL ps
end
def fo (S : Sp) (s t : Nat) : Prop := ∃ x, S[s]? = some x ∧ t ∈ x.2
def chP (S : Sp) (s : Nat) : Tx := match S[s]? with
  | some x => x.1.cps.toList
  | none => []
theorem extd_len : ∀ (la : List Nat) (S : Sp) (fi : List Nat), (extd S la fi).length = S.length
  | [], S, fi => rfl
  | l :: la, S, fi => by
    show (extd (S.modify l _) la fi).length = _
    rw [extd_len la, List.length_modify]
theorem extd_ch : ∀ (la : List Nat) (S : Sp) (fi : List Nat) (s : Nat), chP (extd S la fi) s = chP S s
  | [], S, fi, s => rfl
  | l :: la, S, fi, s => by
    show chP (extd (S.modify l _) la fi) s = _
    rw [extd_ch la]
    unfold chP
    rw [List.getElem?_modify]
    cases S[s]? with
    | none => rfl
    | some x => by_cases h : l = s <;> simp [h]
theorem extd_fo : ∀ (la : List Nat) (S : Sp) (fi : List Nat) (s t : Nat), fo (extd S la fi) s t ↔ fo S s t ∨ (s < S.length ∧ s ∈ la ∧ t ∈ fi)
  | [], S, fi, s, t => ⟨.inl, fun h => h.elim id fun z => nomatch z.2.1⟩
  | l :: la, S, fi, s, t => by
    show fo (extd (S.modify l _) la fi) s t ↔ _
    rw [extd_fo la, List.length_modify]
    have h1 : fo (S.modify l fun x => (x.1, x.2 ++ fi)) s t ↔ fo S s t ∨ (s < S.length ∧ s = l ∧ t ∈ fi) := by
      unfold fo
      rw [List.getElem?_modify]
      cases e : S[s]? with
      | none =>
        have := List.getElem?_eq_none_iff.mp e
        simp
        omega
      | some x =>
        have hl : s < S.length := (List.getElem?_eq_some_iff.mp e).1
        by_cases h : l = s
        · subst h
          simp [hl]
        · simp [h, hl]
          exact fun z => absurd z.symm h
    rw [h1, List.mem_cons]
    constructor
    · rintro ((z | ⟨a, b, c⟩) | ⟨a, b, c⟩)
      · exact .inl z
      · exact .inr ⟨a, .inl b, c⟩
      · exact .inr ⟨a, .inr b, c⟩
    · rintro (z | ⟨a, b | b, c⟩)
      · exact .inl (.inl z)
      · exact .inl (.inr ⟨a, b, c⟩)
      · exact .inr ⟨a, b, c⟩
structure GrS (S : Sp) (x : Sp × Sr) (L : Lan) : Prop where
  le : S.length ≤ x.1.length
  ch : ∀ s, s < S.length → chP x.1 s = chP S s
  gf : ∃ F, GF (chP x.1) F S.length x.1.length x.2.nl x.2.fi x.2.la L ∧ ∀ s t, fo x.1 s t ↔ fo S s t ∨ F s t
theorem GrS.congr {S : Sp} {x : Sp × Sr} {L L' : Lan} (a : GrS S x L) (h : ∀ w, L w ↔ L' w) : GrS S x L' := ⟨a.le, a.ch, let ⟨F, g, e⟩ := a.gf; ⟨F, g.congr h, e⟩⟩
def ItL (L : Lan) (op lp : Bool) : Lan := if lp = true then fun w => ∃ j, Lp L j w else if op = true then fun w => w = [] ∨ L w else L
theorem GrS.step {S : Sp} {x : Sp × Sr} {L L1 : Lan} {f : Mk} {op lp : Bool} (a : GrS S x L) (b : GrS x.1 (f x.1) L1) (ol : lp = true → op = true) : GrS S (stC x f op lp) (Lc L (ItL L1 op lp)) := by
  obtain ⟨F1, g1, e1⟩ := a.gf
  obtain ⟨F2, g2, e2⟩ := b.gf
  have al := a.le
  have bl := b.le
  refine ⟨?_, fun s hs => ?_, ?_⟩
  · show S.length ≤ (extd _ _ _).length
    rw [extd_len]; omega
  · show chP (extd _ _ _) s = _
    rw [extd_ch, b.ch s (by omega), a.ch s hs]
  · have g1' : GF (chP (stC x f op lp).1) F1 S.length x.1.length x.2.nl x.2.fi x.2.la L := g1.chg fun s hs => by
      show chP (extd _ _ _) s = _
      rw [extd_ch, b.ch s hs.2]
    have g2' : GF (chP (stC x f op lp).1) (if lp = true then Lop F2 (f x.1).2.la (f x.1).2.fi else F2) x.1.length (stC x f op lp).1.length ((f x.1).2.nl || op) (f x.1).2.fi (f x.1).2.la (ItL L1 op lp) := by
      have z : GF (chP (stC x f op lp).1) F2 x.1.length (stC x f op lp).1.length (f x.1).2.nl (f x.1).2.fi (f x.1).2.la L1 := by
        have := g2.chg (ch' := chP (stC x f op lp).1) fun s hs => by
          show chP (extd _ _ _) s = _
          rw [extd_ch]
        show GF _ F2 _ (extd _ _ _).length _ _ _ _
        rw [extd_len]; exact this
      cases lp with
      | true => rw [ol rfl, Bool.or_true, if_pos rfl]; exact z.loop
      | false =>
        rw [if_neg (by decide)]
        unfold ItL
        rw [if_neg (by decide)]
        cases op with
        | true => rw [Bool.or_true]; exact z.opt
        | false => rw [Bool.or_false]; exact z
    refine ⟨_, g1'.seq g2', fun s t => ?_⟩
    show fo (extd _ _ _) s t ↔ _
    rw [extd_fo, e2, e1]
    have r1 : ∀ s ∈ x.2.la, s < (f x.1).1.length := fun s hs => by have := g1.lin s hs; omega
    have r2 : ∀ s ∈ (f x.1).2.la, s < (f x.1).1.length := fun s hs => by have := g2.lin s hs; omega
    cases lp with
    | true =>
      rw [if_pos rfl, if_pos rfl]
      unfold Joi Lop
      constructor
      · rintro ((z | z) | ⟨p, q, r⟩)
        · rcases z with z | z
          · exact .inl z
          · exact .inr (.inl z)
        · exact .inr (.inr (.inl (.inl z)))
        · rcases List.mem_append.mp q with q | q
          · exact .inr (.inr (.inr ⟨q, r⟩))
          · exact .inr (.inr (.inl (.inr ⟨q, r⟩)))
      · rintro (z | z | (z | ⟨q, r⟩) | ⟨q, r⟩)
        · exact .inl (.inl (.inl z))
        · exact .inl (.inl (.inr z))
        · exact .inl (.inr z)
        · exact .inr ⟨r2 s q, List.mem_append_right _ q, r⟩
        · exact .inr ⟨r1 s q, List.mem_append_left _ q, r⟩
    | false =>
      rw [if_neg (by decide), if_neg (by decide), List.append_nil]
      unfold Joi
      constructor
      · rintro ((z | z) | ⟨p, q, r⟩)
        · rcases z with z | z
          · exact .inl z
          · exact .inr (.inl z)
        · exact .inr (.inr (.inl z))
        · exact .inr (.inr (.inr ⟨q, r⟩))
      · rintro (z | z | z | ⟨q, r⟩)
        · exact .inl (.inl (.inl z))
        · exact .inl (.inl (.inr z))
        · exact .inl (.inr z)
        · exact .inr ⟨r1 s q, q, r⟩
theorem GrS.union {S : Sp} {x : Sp × Sr} {L L1 : Lan} {f : Mk} (a : GrS S x L) (b : GrS x.1 (f x.1) L1) : GrS S ((f x.1).1, ⟨x.2.nl || (f x.1).2.nl, x.2.fi ++ (f x.1).2.fi, x.2.la ++ (f x.1).2.la⟩) (fun w => L w ∨ L1 w) := by
  obtain ⟨F1, g1, e1⟩ := a.gf
  obtain ⟨F2, g2, e2⟩ := b.gf
  refine ⟨Nat.le_trans a.le b.le, fun s hs => by rw [← a.ch s hs]; exact b.ch s (Nat.lt_of_lt_of_le hs a.le), _, (g1.chg fun s hs => b.ch s hs.2).uni g2, fun s t => ?_⟩
  show fo (f x.1).1 s t ↔ _
  rw [e2, e1, or_assoc]
theorem GrS.refl (S : Sp) : GrS S (S, ⟨true, [], []⟩) (fun w => w = []) := ⟨Nat.le_refl _, fun _ _ => rfl, _, GF.nil _, fun _ _ => ⟨.inl, fun h => h.elim id False.elim⟩⟩
theorem GrS.none (S : Sp) : GrS S (S, ⟨false, [], []⟩) (fun _ => False) := ⟨Nat.le_refl _, fun _ _ => rfl, _, GF.non _, fun _ _ => ⟨.inl, fun h => h.elim id False.elim⟩⟩
theorem GrS.set (S : Sp) (t : Str) : GrS S (S ++ [(t, [])], ⟨false, [S.length], [S.length]⟩) (Lg (.set t)) := by
  have hc : chP (S ++ [(t, [])]) S.length = t.cps.toList := by
    unfold chP
    rw [List.getElem?_append_right (Nat.le_refl _), Nat.sub_self]; rfl
  refine ⟨by rw [List.length_append]; omega, fun s hs => ?_, fun _ _ => False, ?_, fun a b => ?_⟩
  · unfold chP
    rw [List.getElem?_append_left hs]
  · have := GF.set (ch := chP (S ++ [(t, [])])) hc
    rw [List.length_append]
    exact this
  · unfold fo
    rw [or_false]
    constructor
    · rintro ⟨x, h1, h2⟩
      by_cases h : a < S.length
      · rw [List.getElem?_append_left h] at h1; exact ⟨x, h1, h2⟩
      · rw [List.getElem?_append_right (by omega)] at h1
        have := List.mem_of_getElem? h1
        rw [List.mem_singleton.mp this] at h2
        cases h2
    · rintro ⟨x, h1, h2⟩
      exact ⟨x, by rw [List.getElem?_append_left (List.getElem?_eq_some_iff.mp h1).1]; exact h1, h2⟩
def Mks (f : Mk) (L : Lan) : Prop := ∀ S, GrS S (f S) L
theorem rep_ok {f : Mk} {L1 : Lan} (hf : Mks f L1) : ∀ (k : Nat) {S : Sp} {x : Sp × Sr} {L : Lan} (ps : List (Mk × Bool × Bool)), GrS S x L → ∃ y, chC x (List.replicate k (f, false, false) ++ ps) = chC y ps ∧ GrS S y (Lc L (Lp L1 k))
  | 0, S, x, L, ps, a => ⟨x, rfl, a.congr fun w => (Lc_nil_r L w).symm⟩
  | k + 1, S, x, L, ps, a => by
    have b := a.step (hf x.1) (op := false) (lp := false) (fun z => z)
    obtain ⟨y, h1, h2⟩ := rep_ok hf k ps b
    refine ⟨y, h1, h2.congr fun w => ?_⟩
    rw [Lc_assoc]
    refine Lc_congr (fun _ => Iff.rfl) (fun w => ?_) w
    rw [Lp_front]
    exact Iff.rfl
theorem opt_ok {f : Mk} {L1 : Lan} (hf : Mks f L1) (lo : Nat) : ∀ (k j : Nat) {S : Sp} {x : Sp × Sr}, GrS S x (fun w => ∃ i, lo ≤ i ∧ i ≤ lo + j ∧ Lp L1 i w) → GrS S (chC x (List.replicate k (f, true, false))) (fun w => ∃ i, lo ≤ i ∧ i ≤ lo + (j + k) ∧ Lp L1 i w)
  | 0, j, S, x, a => a
  | k + 1, j, S, x, a => by
    have b := a.step (hf x.1) (op := true) (lp := false) (fun z => nomatch z)
    have b' : GrS S (stC x f true false) (fun w => ∃ i, lo ≤ i ∧ i ≤ lo + (j + 1) ∧ Lp L1 i w) := b.congr fun w => by
      constructor
      · rintro ⟨u, v, rfl, ⟨i, i1, i2, hu⟩, hv⟩
        rcases (show v = [] ∨ L1 v from hv) with rfl | hv
        · exact ⟨i, i1, by omega, by rw [List.append_nil]; exact hu⟩
        · exact ⟨i + 1, by omega, by omega, u, v, rfl, hu, hv⟩
      · rintro ⟨i, i1, i2, h⟩
        by_cases hi : i ≤ lo + j
        · exact ⟨w, [], (List.append_nil _).symm, ⟨i, i1, hi, h⟩, .inl rfl⟩
        · have e : i = (lo + j) + 1 := by omega
          subst e
          obtain ⟨u, v, rfl, hu, hv⟩ := h
          exact ⟨u, v, rfl, ⟨lo + j, by omega, by omega, hu⟩, .inr hv⟩
    have := opt_ok hf lo k (j + 1) b'
    refine this.congr fun w => ?_
    rw [show j + 1 + k = j + (k + 1) by omega]
theorem ag_ok {f : Mk} {L1 : Lan} (hf : Mks f L1) (lo : Nat) (hi : Option Nat) (h : ∀ x, hi = some x → lo ≤ x) : Mks (fun S => chC (S, ⟨true, [], []⟩) (agC f lo hi)) (fun w => ∃ n, lo ≤ n ∧ (∀ x, hi = some x → n ≤ x) ∧ Lp L1 n w) := fun S => by
  cases hi with
  | none =>
    obtain ⟨y, h1, h2⟩ := rep_ok hf lo [(f, true, true)] (GrS.refl S)
    have b := h2.step (hf y.1) (op := true) (lp := true) (fun z => z)
    show GrS S (chC _ (List.replicate lo (f, false, false) ++ [(f, true, true)])) _
    rw [h1]
    refine b.congr fun w => ?_
    rw [Lc_congr (Lc_nil_l _) (fun _ => Iff.rfl) w]
    constructor
    · rintro ⟨u, v, rfl, hu, j, hv⟩
      exact ⟨lo + j, by omega, fun _ z => (nomatch z), (Lp_add L1 lo j _).mpr ⟨u, v, rfl, hu, hv⟩⟩
    · rintro ⟨n, hn, _, hw⟩
      obtain ⟨j, rfl⟩ : ∃ j, n = lo + j := ⟨n - lo, by omega⟩
      obtain ⟨u, v, rfl, hu, hv⟩ := (Lp_add L1 lo j _).mp hw
      exact ⟨u, v, rfl, hu, j, hv⟩
  | some x =>
    have hx := h x rfl
    obtain ⟨y, h1, h2⟩ := rep_ok hf lo (List.replicate (x - lo) (f, true, false)) (GrS.refl S)
    show GrS S (chC _ (List.replicate lo (f, false, false) ++ List.replicate (x - lo) (f, true, false))) _
    rw [h1]
    have h3 : GrS S y (fun w => ∃ i, lo ≤ i ∧ i ≤ lo + 0 ∧ Lp L1 i w) := h2.congr fun w => by
      rw [Lc_nil_l]
      exact ⟨fun z => ⟨lo, Nat.le_refl _, Nat.le_refl _, z⟩, fun ⟨i, i1, i2, z⟩ => by rw [show lo = i by omega]; exact z⟩
    refine (opt_ok hf lo (x - lo) 0 h3).congr fun w => ?_
    constructor
    · rintro ⟨i, i1, i2, z⟩
      exact ⟨i, i1, fun y e => by cases e; omega, z⟩
    · rintro ⟨i, i1, i2, z⟩
      have := i2 x rfl
      exact ⟨i, i1, by omega, z⟩
mutual
theorem spF_ok : ∀ (r : Rx), plain r = true → okR r = true → Mks (spF r) (Lg r)
  | .set s, _, _ => fun S => GrS.set S s
  | .row ps, hp, ho => fun S => by
    rw [plain] at hp
    rw [okR, Bool.and_eq_true] at ho
    have := row_ok ps hp ho.2 (GrS.refl S)
    exact this.congr fun w => Lc_nil_l _ w
  | .any ps, hp, ho => fun S => by
    rw [plain] at hp
    rw [okR, Bool.and_eq_true] at ho
    have := any_ok ps hp ho.2 (GrS.none S)
    exact this.congr fun w => ⟨fun h => h.elim False.elim id, .inr⟩
  | .again p lo hi, hp, ho => fun S => by
    rw [plain] at hp
    rw [okR, Bool.and_eq_true, Bool.and_eq_true, Bool.and_eq_true] at ho
    obtain ⟨⟨⟨ho1, ho2⟩, ho3⟩, ho4⟩ := ho
    have l0 : 0 ≤ lo := of_decide_eq_true ho2
    have hh : ∀ h, hi = some h → lo ≤ h := by
      rintro h rfl
      rw [hiOk, Bool.and_eq_true] at ho4
      exact of_decide_eq_true ho4.1
    have := ag_ok (spF_ok p hp ho1) lo.toNat (hi.map Int.toNat) (fun x hx => by
      obtain ⟨y, rfl, rfl⟩ := Option.map_eq_some_iff.mp hx
      have := hh y rfl
      omega)
    refine (this S).congr fun w => ?_
    constructor
    · rintro ⟨n, a, b, c⟩
      refine ⟨n, by omega, fun h hx => ?_, c⟩
      subst hx
      have := b h.toNat rfl
      have := hh h rfl
      omega
    · rintro ⟨n, a, b, c⟩
      refine ⟨n, by omega, fun x hx => ?_, c⟩
      obtain ⟨y, rfl, rfl⟩ := Option.map_eq_some_iff.mp hx
      have := b y rfl
      omega
  | .all ps, hp, _ => by rw [plain] at hp; cases hp
  | .no p, hp, _ => by rw [plain] at hp; cases hp
theorem row_ok : ∀ (ps : List Rx), (plainL ps).all id = true → okRL ps = true → ∀ {S : Sp} {x : Sp × Sr} {L : Lan}, GrS S x L → GrS S (chC x ((spL ps).map fun f => (f, false, false))) (Lc L (LgR ps))
  | [], _, _, S, x, L, a => a.congr fun w => (Lc_nil_r L w).symm
  | p :: ps, hp, ho, S, x, L, a => by
    rw [plainL, List.all_cons, Bool.and_eq_true] at hp
    rw [okRL, Bool.and_eq_true] at ho
    have b := a.step (spF_ok p hp.1 ho.1 x.1) (op := false) (lp := false) (fun z => z)
    refine (row_ok ps hp.2 ho.2 b).congr fun w => ?_
    rw [Lc_assoc]
    exact Iff.rfl
theorem any_ok : ∀ (ps : List Rx), (plainL ps).all id = true → okRL ps = true → ∀ {S : Sp} {x : Sp × Sr} {L : Lan}, GrS S x L → GrS S (unC x (spL ps)) (fun w => L w ∨ LgO ps w)
  | [], _, _, S, x, L, a => a.congr fun w => ⟨.inl, fun h => h.elim id False.elim⟩
  | p :: ps, hp, ho, S, x, L, a => by
    rw [plainL, List.all_cons, Bool.and_eq_true] at hp
    rw [okRL, Bool.and_eq_true] at ho
    have b := a.union (spF_ok p hp.1 ho.1 x.1)
    refine (any_ok ps hp.2 ho.2 b).congr fun w => ?_
    rw [or_assoc]
    exact Iff.rfl
end
end Cut
namespace Cut
open PySem L2 DL ML
mutual
def sub : Rx → List Rx
  | .set s => [.set s]
  | .no p => .no p :: sub p
  | .again p lo hi => .again p lo hi :: sub p
  | .any ps => .any ps :: subL ps
  | .all ps => .all ps :: subL ps
  | .row ps => subR ps
def subL : List Rx → List Rx
  | [] => []
  | p :: ps => sub p ++ subL ps
def subR : List Rx → List Rx
  | [] => [.row []]
  | p :: ps => .row (p :: ps) :: (sub p ++ subR ps)
end
theorem subR_self (ps : List Rx) : .row ps ∈ subR ps := by cases ps <;> rw [subR] <;> exact List.mem_cons_self ..
theorem sub_self (r : Rx) : r ∈ sub r := by
  cases r <;> rw [sub] <;> first | exact List.mem_cons_self .. | exact subR_self _
theorem subL_mem {p : Rx} : ∀ {ps : List Rx}, p ∈ ps → ∀ x ∈ sub p, x ∈ subL ps
  | q :: ps, h, x, hx => by
    rw [subL]
    rcases List.mem_cons.mp h with e | h
    · exact List.mem_append.mpr (.inl (e ▸ hx))
    · exact List.mem_append.mpr (.inr (subL_mem h x hx))
def nxt : Rx → List Rx
  | .set _ => []
  | .no p => [p]
  | .again p _ _ => [p]
  | .any ps => ps
  | .all ps => ps
  | .row [] => []
  | .row (p :: ps) => [p, .row ps]
mutual
theorem sub_nxt : ∀ (R r : Rx), r ∈ sub R → ∀ p ∈ nxt r, p ∈ sub R
  | .set s, r, h, p, hp => by
    rw [sub] at h
    rw [List.mem_singleton.mp h] at hp
    cases hp
  | .no q, r, h, p, hp => by
    rw [sub] at h ⊢
    rcases List.mem_cons.mp h with e | h
    · subst e
      rw [List.mem_singleton.mp hp]
      exact List.mem_cons_of_mem _ (sub_self q)
    · exact List.mem_cons_of_mem _ (sub_nxt q r h p hp)
  | .again q lo hi, r, h, p, hp => by
    rw [sub] at h ⊢
    rcases List.mem_cons.mp h with e | h
    · subst e
      rw [List.mem_singleton.mp hp]
      exact List.mem_cons_of_mem _ (sub_self q)
    · exact List.mem_cons_of_mem _ (sub_nxt q r h p hp)
  | .any ps, r, h, p, hp => by
    rw [sub] at h ⊢
    rcases List.mem_cons.mp h with e | h
    · subst e
      exact List.mem_cons_of_mem _ (subL_mem hp p (sub_self p))
    · exact List.mem_cons_of_mem _ (subL_nxt ps r h p hp)
  | .all ps, r, h, p, hp => by
    rw [sub] at h ⊢
    rcases List.mem_cons.mp h with e | h
    · subst e
      exact List.mem_cons_of_mem _ (subL_mem hp p (sub_self p))
    · exact List.mem_cons_of_mem _ (subL_nxt ps r h p hp)
  | .row ps, r, h, p, hp => by
    rw [sub] at h ⊢
    exact subR_nxt ps r h p hp
theorem subL_nxt : ∀ (ps : List Rx) (r : Rx), r ∈ subL ps → ∀ p ∈ nxt r, p ∈ subL ps
  | [], r, h, p, hp => by rw [subL] at h; cases h
  | q :: ps, r, h, p, hp => by
    rw [subL] at h ⊢
    rcases List.mem_append.mp h with h | h
    · exact List.mem_append.mpr (.inl (sub_nxt q r h p hp))
    · exact List.mem_append.mpr (.inr (subL_nxt ps r h p hp))
theorem subR_nxt : ∀ (ps : List Rx) (r : Rx), r ∈ subR ps → ∀ p ∈ nxt r, p ∈ subR ps
  | [], r, h, p, hp => by
    rw [subR] at h
    rw [List.mem_singleton.mp h] at hp
    cases hp
  | q :: ps, r, h, p, hp => by
    rw [subR] at h ⊢
    rcases List.mem_cons.mp h with e | h
    · subst e
      rcases List.mem_cons.mp hp with e | hp
      · rw [e]; exact List.mem_cons_of_mem _ (List.mem_append.mpr (.inl (sub_self q)))
      · rw [List.mem_singleton.mp hp]
        exact List.mem_cons_of_mem _ (List.mem_append.mpr (.inr (subR_self ps)))
    · refine List.mem_cons_of_mem _ ?_
      rcases List.mem_append.mp h with h | h
      · exact List.mem_append.mpr (.inl (sub_nxt q r h p hp))
      · exact List.mem_append.mpr (.inr (subR_nxt ps r h p hp))
end
end Cut
namespace Cut
open PySem L2 DL
mutual
def sd : D → Bool
  | .non | .int _ | .str _ => true
  | .tup ds => decide (ds.length ≤ 10000) && sdL ds
  | _ => false
def sdL : List D → Bool
  | [] => true
  | d :: ds => sd d && sdL ds
end
mutual
theorem sd_toD : ∀ r, okR r = true → sd (toD r) = true
  | .set s, _ => rfl
  | .row ps, h => by
    rw [okR, Bool.and_eq_true] at h
    have := of_decide_eq_true h.1
    rw [toD, sd, sdL, sd_toDL ps h.2, List.length_cons, toDL_len, decide_eq_true (by omega)]; rfl
  | .any ps, h => by
    rw [okR, Bool.and_eq_true] at h
    have := of_decide_eq_true h.1
    rw [toD, sd, sdL, sd_toDL ps h.2, List.length_cons, toDL_len, decide_eq_true (by omega)]; rfl
  | .all ps, h => by
    rw [okR, Bool.and_eq_true] at h
    have := of_decide_eq_true h.1
    rw [toD, sd, sdL, sd_toDL ps h.2, List.length_cons, toDL_len, decide_eq_true (by omega)]; rfl
  | .no p, h => by
    rw [okR] at h
    rw [toD, sd, sdL, sdL, sd_toD p h]; rfl
  | .again p lo hi, h => by
    rw [okR, Bool.and_eq_true, Bool.and_eq_true, Bool.and_eq_true] at h
    rw [toD, sd, sdL, sdL, sdL, sdL, sd_toD p h.1.1.1]
    cases hi <;> rfl
theorem sd_toDL : ∀ ps, okRL ps = true → sdL (toDL ps) = true
  | [], _ => rfl
  | p :: ps, h => by
    rw [okRL, Bool.and_eq_true] at h
    rw [toDL, sdL, sd_toD p h.1, sd_toDL ps h.2]; rfl
end
mutual
theorem eqv_sd : ∀ d e : D, sd d = true → sd e = true → (PyData.eqv d.py e.py = true ↔ d = e)
  | .non, e, _, h => by cases e <;> simp [sd, D.py, PyData.eqv] at h ⊢
  | .int i, e, _, h => by cases e <;> simp [sd, D.py, PyData.eqv] at h ⊢
  | .str x, e, _, h => by cases e <;> simp [sd, D.py, PyData.eqv] at h ⊢
  | .tup ds, .tup es, h, h' => by
    rw [sd, Bool.and_eq_true] at h h'
    rw [D.py, D.py, PyData.eqv, eqvL_sd ds es h.2 h'.2]
    exact ⟨fun z => by rw [z], fun z => by cases z; rfl⟩
  | .tup ds, .non, _, _ => by simp [D.py, PyData.eqv]
  | .tup ds, .int _, _, _ => by simp [D.py, PyData.eqv]
  | .tup ds, .str _, _, _ => by simp [D.py, PyData.eqv]
  | .tup ds, .bl _, _, h => by simp [sd] at h
  | .tup ds, .lst _, _, h => by simp [sd] at h
  | .tup ds, .obj _ _, _, h => by simp [sd] at h
  | .tup ds, .ty _, _, h => by simp [sd] at h
  | .tup ds, .raw _, _, h => by simp [sd] at h
  | .tup ds, .scr _, _, h => by simp [sd] at h
  | .bl _, _, h, _ | .lst _, _, h, _ | .obj _ _, _, h, _ | .ty _, _, h, _ | .raw _, _, h, _ | .scr _, _, h, _ => by simp [sd] at h
theorem eqvL_sd : ∀ ds es : List D, sdL ds = true → sdL es = true → (PyData.eqvAll (pyL ds) (pyL es) = true ↔ ds = es)
  | [], [], _, _ => by simp [pyL, PyData.eqvAll]
  | [], _ :: _, _, _ => by simp [pyL, PyData.eqvAll]
  | _ :: _, [], _, _ => by simp [pyL, PyData.eqvAll]
  | d :: ds, e :: es, h, h' => by
    rw [sdL, Bool.and_eq_true] at h h'
    rw [pyL, pyL, PyData.eqvAll, Bool.and_eq_true, eqv_sd d e h.1 h'.1, eqvL_sd ds es h.2 h'.2]
    exact ⟨fun ⟨z1, z2⟩ => by rw [z1, z2], fun z => by cases z; exact ⟨rfl, rfl⟩⟩
end
theorem CH_lt : ∀ c ∈ CH, c < 1114112 := by rw [CH_eq]; decide
theorem strOk_set {A s : Str} (hA : Alp A) (h : isSetM A [.str s] = true) : PyData.strOk s = true := by
  have e : s = ofL (A.cps.toList.filter fun c => decide (c ∈ s.cps.toList)) := of_decide_eq_true h
  unfold PyData.strOk
  rw [Array.all_eq_true_iff_forall_mem]
  intro c hc
  rw [e] at hc
  have hc' : c ∈ (ofL (A.cps.toList.filter fun c => decide (c ∈ s.cps.toList))).cps.toList := Array.mem_toList_iff.mpr hc
  have : c ∈ A.cps.toList := by
    have h2 : c ∈ A.cps.toList.filter fun c => decide (c ∈ s.cps.toList) := by simpa using hc'
    exact (List.mem_filter.mp h2).1
  exact decide_eq_true (CH_lt c (hA.ch c this))
mutual
theorem lay_toD {A : Str} (hA : Alp A) : ∀ r, stR A r = true → (toD r).py.canLay0 = true ∧ (toD r).okP = true ∧ (toD r).py.depth ≤ rdep r + 1
  | .set s, h => by
    rw [stR, Bool.and_eq_true] at h
    refine ⟨?_, rfl, ?_⟩
    · show (PyData.strOk _ && (PyData.strOk s && true)) = true
      rw [strOk_set hA h.1]; decide +kernel
    · simp [toD, D.py, pyL, PyData.depth, PyData.depthAll]
  | .row ps, h => by
    rw [stR] at h
    obtain ⟨h1, h2, h3⟩ := lay_toDL hA ps h
    refine ⟨?_, ?_, ?_⟩
    · show (PyData.strOk _ && PyData.canLayAll0 (pyL (toDL ps))) = true
      rw [h1]; decide +kernel
    · show (true && okL (toDL ps)) = true
      rw [h2]; rfl
    · simp only [toD, D.py, pyL, PyData.depth, PyData.depthAll, rdep]; omega
  | .any ps, h => by
    rw [stR] at h
    obtain ⟨h1, h2, h3⟩ := lay_toDL hA ps h
    refine ⟨?_, ?_, ?_⟩
    · show (PyData.strOk _ && PyData.canLayAll0 (pyL (toDL ps))) = true
      rw [h1]; decide +kernel
    · show (true && okL (toDL ps)) = true
      rw [h2]; rfl
    · simp only [toD, D.py, pyL, PyData.depth, PyData.depthAll, rdep]; omega
  | .all ps, h => by
    rw [stR] at h
    obtain ⟨h1, h2, h3⟩ := lay_toDL hA ps h
    refine ⟨?_, ?_, ?_⟩
    · show (PyData.strOk _ && PyData.canLayAll0 (pyL (toDL ps))) = true
      rw [h1]; decide +kernel
    · show (true && okL (toDL ps)) = true
      rw [h2]; rfl
    · simp only [toD, D.py, pyL, PyData.depth, PyData.depthAll, rdep]; omega
  | .no p, h => by
    rw [stR] at h
    obtain ⟨h1, h2, h3⟩ := lay_toD hA p h
    refine ⟨?_, ?_, ?_⟩
    · show (PyData.strOk _ && ((toD p).py.canLay0 && true)) = true
      rw [h1]; decide +kernel
    · show (true && ((toD p).okP && true)) = true
      rw [h2]; rfl
    · simp only [toD, D.py, pyL, PyData.depth, PyData.depthAll, rdep]; omega
  | .again p lo hi, h => by
    rw [stR] at h
    obtain ⟨h1, h2, h3⟩ := lay_toD hA p h
    refine ⟨?_, ?_, ?_⟩
    · show (PyData.strOk _ && ((toD p).py.canLay0 && (true && ((hiD hi).py.canLay0 && true)))) = true
      rw [h1, show (hiD hi).py.canLay0 = true by cases hi <;> rfl]; decide +kernel
    · show (true && ((toD p).okP && (true && ((hiD hi).okP && true)))) = true
      rw [h2, show (hiD hi).okP = true by cases hi <;> rfl]; rfl
    · have : (hiD hi).py.depth = 0 := by cases hi <;> simp [hiD, D.py, PyData.depth]
      simp only [toD, D.py, pyL, PyData.depth, PyData.depthAll, rdep, this]; omega
theorem lay_toDL {A : Str} (hA : Alp A) : ∀ ps, stRL A ps = true → PyData.canLayAll0 (pyL (toDL ps)) = true ∧ okL (toDL ps) = true ∧ PyData.depthAll (pyL (toDL ps)) ≤ rdepL ps + 1
  | [], _ => ⟨rfl, rfl, by simp [toDL, pyL, PyData.depthAll]⟩
  | p :: ps, h => by
    rw [stRL, Bool.and_eq_true] at h
    obtain ⟨h1, h2, h3⟩ := lay_toD hA p h.1
    obtain ⟨g1, g2, g3⟩ := lay_toDL hA ps h.2
    refine ⟨?_, ?_, ?_⟩
    · show ((toD p).py.canLay0 && PyData.canLayAll0 (pyL (toDL ps))) = true
      rw [h1, g1]; rfl
    · show ((toD p).okP && okL (toDL ps)) = true
      rw [h2, g2]; rfl
    · simp only [toDL, pyL, PyData.depthAll, rdepL]; omega
end
end Cut
namespace Cut
open PySem L2 DL ML
theorem mx1_ge (j : Int) : 1 ≤ mx1 j ∧ j ≤ mx1 j := by unfold mx1; split <;> omega
theorem mx1_id {j : Int} (h : 1 ≤ j) : mx1 j = j := by unfold mx1; split <;> omega
mutual
theorem wd_one : ∀ r, okR r = true → 1 ≤ wd r
  | .set _, _ => Int.le_refl _
  | .row ps, _ => by rw [wd_row]; exact (mx1_ge _).1
  | .any ps, _ => by rw [wd_any]; exact (mx1_ge _).1
  | .all ps, _ => by rw [wd_all]; exact (mx1_ge _).1
  | .no p, _ => by rw [wd_no]; exact (mx1_ge _).1
  | .again p lo none, h => by
    rw [okR] at h
    simp only [Bool.and_eq_true, decide_eq_true_eq] at h
    have h1 := (mx1_ge (wd p)).1
    have h2 : (1 : Int) ≤ lo + 1 := by omega
    have := Int.mul_le_mul h1 h2 (by decide) (by omega)
    rw [wd]; omega
  | .again p lo (some x), h => by
    have := Int.mul_le_mul (mx1_ge (wd p)).1 (mx1_ge x).1 (by decide) (by have := (mx1_ge (wd p)).1; omega)
    rw [wd]; omega
end
mutual
theorem cnt_one : ∀ r, 1 ≤ cnt r
  | .set _ => Int.le_refl _
  | .row ps => by rw [cnt]; have := cntL_nn ps; omega
  | .any ps => by rw [cnt]; have := cntL_nn ps; omega
  | .all ps => by rw [cnt]; have := cntL_nn ps; omega
  | .no p => by rw [cnt]; have := cnt_one p; omega
  | .again p _ _ => by rw [cnt]; have := cnt_one p; omega
theorem cntL_nn : ∀ ps, (ps.length : Int) ≤ (cntL ps).sum
  | [] => by rw [cntL]; exact Int.le_refl _
  | p :: ps => by rw [cntL, List.sum_cons, List.length_cons]; have := cnt_one p; have := cntL_nn ps; omega
end
theorem wdL_nn : ∀ ps, okRL ps = true → (ps.length : Int) ≤ (wdL ps).sum
  | [], _ => by rw [wdL]; exact Int.le_refl _
  | p :: ps, h => by
    rw [okRL, Bool.and_eq_true] at h
    rw [wdL, List.sum_cons, List.length_cons]; have := wd_one p h.1; have := wdL_nn ps h.2; omega
theorem mulP {a b c d : Int} (ha : 0 ≤ a) (hb : 0 ≤ b) (hc : 0 ≤ c) (hd : 0 ≤ d) : a * b + c * d ≤ (a + c) * (b + d) := by
  have h1 := Int.mul_nonneg ha hd
  have h2 := Int.mul_nonneg hc hb
  rw [Int.add_mul, Int.mul_add, Int.mul_add]; omega
mutual
theorem cost_le : ∀ r, okR r = true → (cost r : Int) ≤ 12 * (cnt r * wd r)
  | .set _, _ => by rw [cost, cnt, wd]; decide
  | .row ps, h => by
    rw [okR, Bool.and_eq_true] at h
    have h1 := costL_le ps h.2
    have h2 := cntL_nn ps
    have h3 := wdL_nn ps h.2
    have h4 := Int.mul_le_mul (show (cntL ps).sum ≤ 1 + (cntL ps).sum by omega) (mx1_ge (wdL ps).sum).2 (by omega) (by omega)
    rw [cost, cnt, wd_row]; omega
  | .any ps, h => by
    rw [okR, Bool.and_eq_true] at h
    have h1 := costL_le ps h.2
    have h2 := cntL_nn ps
    have h3 := wdL_nn ps h.2
    have h5 := mx1_ge (wdL ps).sum
    have h4 := Int.mul_le_mul (Int.le_refl (cntL ps).sum) h5.2 (by omega) (by omega)
    rw [cost, cnt, wd_any, Int.add_mul]; omega
  | .all ps, h => by
    have h2 := cntL_nn ps
    have h5 := mx1_ge (wdL ps).sum
    have := Int.mul_nonneg (show 0 ≤ 1 + (cntL ps).sum by omega) (show 0 ≤ mx1 (wdL ps).sum by omega)
    rw [cost, cnt, wd_all]; omega
  | .no p, h => by
    have h2 := cnt_one p
    have h5 := mx1_ge (wd p)
    have := Int.mul_nonneg (show 0 ≤ 1 + cnt p by omega) (show 0 ≤ mx1 (wd p) by omega)
    rw [cost, cnt, wd_no]; omega
  | .again p lo hi, h => by
    have h0 := wd_one _ h
    rw [okR] at h
    simp only [Bool.and_eq_true, decide_eq_true_eq] at h
    obtain ⟨⟨⟨hp, lo0⟩, lo4⟩, hhi⟩ := h
    have h1 := cost_le p hp
    have h2 := cnt_one p
    have h3 := wd_one p hp
    obtain ⟨M, eM, M1, Mk⟩ : ∃ M : Int, wd (.again p lo hi) = wd p * M ∧ 1 ≤ M ∧ (cps lo hi : Int) ≤ M := by
      cases hi with
      | none => exact ⟨lo + 1, by rw [wd, mx1_id h3], by omega, by unfold cps; dsimp only; omega⟩
      | some x => exact ⟨mx1 x, by rw [wd, mx1_id h3], (mx1_ge x).1, by unfold cps; dsimp only; have := mx1_ge x; omega⟩
    have g1 := Int.mul_le_mul Mk h1 (by omega) (by omega)
    have g2 := Int.mul_le_mul h3 (Int.le_refl M) (by omega) (by omega)
    rw [cost, cnt, eM, Int.add_mul]
    push_cast
    have g3 : M * (12 * (cnt p * wd p)) = 12 * (cnt p * (wd p * M)) := by
      rw [Int.mul_left_comm, Int.mul_comm M, Int.mul_assoc]
    omega
theorem costL_le : ∀ ps, okRL ps = true → (costL ps : Int) ≤ 12 * ((cntL ps).sum * (wdL ps).sum)
  | [], _ => by rw [costL, cntL, wdL]; decide
  | p :: ps, h => by
    rw [okRL, Bool.and_eq_true] at h
    have h1 := cost_le p h.1
    have h2 := costL_le ps h.2
    have := wd_one p h.1
    have := wdL_nn ps h.2
    have := cnt_one p
    have := cntL_nn ps
    have h3 := mulP (a := cnt p) (b := wd p) (c := (cntL ps).sum) (d := (wdL ps).sum) (by omega) (by omega) (by omega) (by omega)
    rw [costL, cntL, wdL, List.sum_cons, List.sum_cons]
    push_cast
    omega
end
mutual
theorem costA_le : ∀ r n, okR r = true → rdep r ≤ n → (costA r : Int) ≤ 12 * (cnt r * wd r) * (n + 1)
  | .set s, n, h, _ => by
    have h1 := cost_le (.set s) h
    have h2 : 0 ≤ 12 * (cnt (.set s) * wd (.set s)) := by rw [cnt, wd]; decide
    have h3 := Int.mul_nonneg h2 (show 0 ≤ (n : Int) by omega)
    rw [costA, Int.mul_add]; omega
  | .row ps, n, h, _ => by
    have h1 := cost_le (.row ps) h
    have h2 : 0 ≤ 12 * (cnt (.row ps) * wd (.row ps)) := by omega
    have h3 := Int.mul_nonneg h2 (show 0 ≤ (n : Int) by omega)
    rw [costA, Int.mul_add]; omega
  | .again p lo hi, n, h, _ => by
    have h1 := cost_le (.again p lo hi) h
    have h2 : 0 ≤ 12 * (cnt (.again p lo hi) * wd (.again p lo hi)) := by omega
    have h3 := Int.mul_nonneg h2 (show 0 ≤ (n : Int) by omega)
    rw [costA, Int.mul_add]; omega
  | .any ps, 0, h, hd => by rw [rdep] at hd; omega
  | .any ps, n + 1, h, hd => by
    have h1 := cost_le (.any ps) h
    rw [rdep] at hd
    rw [okR, Bool.and_eq_true] at h
    have h2 := costAL_le ps n h.2 (by omega)
    have := cntL_nn ps
    have := wdL_nn ps h.2
    have g := Int.mul_le_mul (show (cntL ps).sum ≤ cnt (.any ps) by rw [cnt]; omega) (show (wdL ps).sum ≤ wd (.any ps) by rw [wd_any]; exact (mx1_ge _).2) (by omega) (by rw [cnt]; omega)
    have g2 := Int.mul_le_mul_of_nonneg_right (show 12 * ((cntL ps).sum * (wdL ps).sum) ≤ 12 * (cnt (.any ps) * wd (.any ps)) by omega) (show 0 ≤ (n : Int) + 1 by omega)
    rw [costA]
    push_cast
    rw [Int.mul_add _ ((n : Int) + 1)]
    omega
  | .all ps, 0, h, hd => by rw [rdep] at hd; omega
  | .all ps, n + 1, h, hd => by
    rw [rdep] at hd
    rw [okR, Bool.and_eq_true] at h
    have h2 := costAL_le ps n h.2 (by omega)
    have := cntL_nn ps
    have := wdL_nn ps h.2
    have h1 : 0 ≤ cnt (.all ps) * wd (.all ps) := Int.mul_nonneg (by rw [cnt]; omega) (by rw [wd_all]; have := mx1_ge (wdL ps).sum; omega)
    have g := Int.mul_le_mul (show (cntL ps).sum ≤ cnt (.all ps) by rw [cnt]; omega) (show (wdL ps).sum ≤ wd (.all ps) by rw [wd_all]; exact (mx1_ge _).2) (by omega) (by rw [cnt]; omega)
    have g2 := Int.mul_le_mul_of_nonneg_right (show 12 * ((cntL ps).sum * (wdL ps).sum) ≤ 12 * (cnt (.all ps) * wd (.all ps)) by omega) (show 0 ≤ (n : Int) + 1 by omega)
    rw [costA]
    push_cast
    rw [Int.mul_add _ ((n : Int) + 1)]
    omega
  | .no p, 0, h, hd => by rw [rdep] at hd; omega
  | .no p, n + 1, h, hd => by
    rw [rdep] at hd
    rw [okR] at h
    have h2 := costA_le p n h (by omega)
    have := cnt_one p
    have := wd_one p h
    have h1 : 0 ≤ cnt (.no p) * wd (.no p) := Int.mul_nonneg (by rw [cnt]; omega) (by rw [wd_no]; have := mx1_ge (wd p); omega)
    have g := Int.mul_le_mul (show cnt p ≤ cnt (.no p) by rw [cnt]; omega) (show wd p ≤ wd (.no p) by rw [wd_no]; exact (mx1_ge _).2) (by omega) (by rw [cnt]; omega)
    have g2 := Int.mul_le_mul_of_nonneg_right (show 12 * (cnt p * wd p) ≤ 12 * (cnt (.no p) * wd (.no p)) by omega) (show 0 ≤ (n : Int) + 1 by omega)
    rw [costA]
    push_cast
    rw [Int.mul_add _ ((n : Int) + 1)]
    omega
theorem costAL_le : ∀ ps n, okRL ps = true → rdepL ps ≤ n → (costAL ps : Int) ≤ 12 * ((cntL ps).sum * (wdL ps).sum) * (n + 1)
  | [], n, _, _ => by rw [costAL, cntL, wdL]; simp
  | p :: ps, n, h, hd => by
    rw [rdepL] at hd
    rw [okRL, Bool.and_eq_true] at h
    have h1 := costA_le p n h.1 (by omega)
    have h2 := costAL_le ps n h.2 (by omega)
    have := wd_one p h.1
    have := wdL_nn ps h.2
    have := cnt_one p
    have := cntL_nn ps
    have h3 := mulP (a := cnt p) (b := wd p) (c := (cntL ps).sum) (d := (wdL ps).sum) (by omega) (by omega) (by omega) (by omega)
    have g2 := Int.mul_le_mul_of_nonneg_right (show 12 * (cnt p * wd p) + 12 * ((cntL ps).sum * (wdL ps).sum) ≤ 12 * ((cnt p + (cntL ps).sum) * (wd p + (wdL ps).sum)) by omega) (show 0 ≤ (n : Int) + 1 by omega)
    rw [Int.add_mul] at g2
    rw [costAL, cntL, wdL, List.sum_cons, List.sum_cons]
    push_cast
    omega
end
mutual
theorem sub_ok (S : Str) : ∀ R, okR R = true → stR S R = true → ∀ x ∈ sub R, okR x = true ∧ stR S x = true ∧ rdep x ≤ rdep R
  | .set s, h1, h2, x, hx => by
    rw [sub] at hx
    rw [List.mem_singleton.mp hx]; exact ⟨h1, h2, Nat.le_refl _⟩
  | .no p, h1, h2, x, hx => by
    rw [sub] at hx
    rcases List.mem_cons.mp hx with e | hx
    · rw [e]; exact ⟨h1, h2, Nat.le_refl _⟩
    · obtain ⟨a, b, c⟩ := sub_ok S p h1 h2 x hx
      exact ⟨a, b, by rw [rdep]; omega⟩
  | .again p lo hi, h1, h2, x, hx => by
    rw [sub] at hx
    rcases List.mem_cons.mp hx with e | hx
    · rw [e]; exact ⟨h1, h2, Nat.le_refl _⟩
    · rw [okR] at h1
      simp only [Bool.and_eq_true] at h1
      obtain ⟨a, b, c⟩ := sub_ok S p h1.1.1.1 h2 x hx
      exact ⟨a, b, by rw [rdep]; omega⟩
  | .any ps, h1, h2, x, hx => by
    rw [sub] at hx
    rcases List.mem_cons.mp hx with e | hx
    · rw [e]; exact ⟨h1, h2, Nat.le_refl _⟩
    · rw [okR, Bool.and_eq_true] at h1
      obtain ⟨a, b, c⟩ := subL_ok S ps h1.2 h2 x hx
      exact ⟨a, b, by rw [rdep]; omega⟩
  | .all ps, h1, h2, x, hx => by
    rw [sub] at hx
    rcases List.mem_cons.mp hx with e | hx
    · rw [e]; exact ⟨h1, h2, Nat.le_refl _⟩
    · rw [okR, Bool.and_eq_true] at h1
      obtain ⟨a, b, c⟩ := subL_ok S ps h1.2 h2 x hx
      exact ⟨a, b, by rw [rdep]; omega⟩
  | .row ps, h1, h2, x, hx => by
    rw [sub] at hx
    rw [okR, Bool.and_eq_true, decide_eq_true_eq] at h1
    obtain ⟨a, b, c⟩ := subR_ok S ps h1.1 h1.2 h2 x hx
    exact ⟨a, b, by rw [rdep]; omega⟩
theorem subL_ok (S : Str) : ∀ ps, okRL ps = true → stRL S ps = true → ∀ x ∈ subL ps, okR x = true ∧ stR S x = true ∧ rdep x ≤ rdepL ps
  | [], _, _, x, hx => by rw [subL] at hx; cases hx
  | p :: ps, h1, h2, x, hx => by
    rw [subL] at hx
    rw [okRL, Bool.and_eq_true] at h1
    rw [stRL, Bool.and_eq_true] at h2
    rw [rdepL]
    rcases List.mem_append.mp hx with hx | hx
    · obtain ⟨a, b, c⟩ := sub_ok S p h1.1 h2.1 x hx
      exact ⟨a, b, by omega⟩
    · obtain ⟨a, b, c⟩ := subL_ok S ps h1.2 h2.2 x hx
      exact ⟨a, b, by omega⟩
theorem subR_ok (S : Str) : ∀ ps, ps.length ≤ 9999 → okRL ps = true → stRL S ps = true → ∀ x ∈ subR ps, okR x = true ∧ stR S x = true ∧ rdep x ≤ rdepL ps + 1
  | [], _, _, _, x, hx => by
    rw [subR] at hx
    rw [List.mem_singleton.mp hx]
    exact ⟨rfl, rfl, by rw [rdep]; exact Nat.le_refl _⟩
  | p :: ps, hl, h1, h2, x, hx => by
    have k1 := h1
    have k2 := h2
    rw [okRL, Bool.and_eq_true] at h1
    rw [stRL, Bool.and_eq_true] at h2
    rw [subR] at hx
    rcases List.mem_cons.mp hx with e | hx
    · rw [e]; exact ⟨by rw [okR, k1, decide_eq_true hl]; rfl, k2, by rw [rdep]; exact Nat.le_refl _⟩
    rw [rdepL]
    rcases List.mem_append.mp hx with hx | hx
    · obtain ⟨a, b, c⟩ := sub_ok S p h1.1 h2.1 x hx
      exact ⟨a, b, by omega⟩
    · obtain ⟨a, b, c⟩ := subR_ok S ps (by rw [List.length_cons] at hl; omega) h1.2 h2.2 x hx
      exact ⟨a, b, by omega⟩
end
mutual
theorem sub_len : ∀ R, ((sub R).length : Int) + 1 ≤ 2 * cnt R
  | .set s => by rw [sub, cnt, List.length_singleton]; decide
  | .no p => by rw [sub, cnt, List.length_cons]; have := sub_len p; omega
  | .again p _ _ => by rw [sub, cnt, List.length_cons]; have := sub_len p; omega
  | .any ps => by rw [sub, cnt, List.length_cons]; have := subL_len ps; omega
  | .all ps => by rw [sub, cnt, List.length_cons]; have := subL_len ps; omega
  | .row ps => by rw [sub, cnt]; have := subR_len ps; omega
theorem subL_len : ∀ ps, ((subL ps).length : Int) ≤ 2 * (cntL ps).sum
  | [] => by rw [subL, cntL]; decide
  | p :: ps => by rw [subL, cntL, List.length_append, List.sum_cons]; have := sub_len p; have := subL_len ps; omega
theorem subR_len : ∀ ps, ((subR ps).length : Int) ≤ 1 + 2 * (cntL ps).sum
  | [] => by rw [subR, cntL]; decide
  | p :: ps => by rw [subR, cntL, List.length_cons, List.length_append, List.sum_cons]; have := sub_len p; have := subR_len ps; omega
end
end Cut
namespace Cut
open PySem L2 DL
theorem extd_get : ∀ (la : List Nat) (S : Sp) (fi : List Nat) (s : Nat), la.Nodup → (extd S la fi)[s]? = (S[s]?).map fun y => if s ∈ la then (y.1, y.2 ++ fi) else y
  | [], S, fi, s, _ => by
    show S[s]? = _
    cases S[s]? <;> simp
  | l :: la, S, fi, s, h => by
    rw [List.nodup_cons] at h
    show (extd (S.modify l _) la fi)[s]? = _
    rw [extd_get la _ fi s h.2, List.getElem?_modify]
    cases S[s]? with
    | none => rfl
    | some y =>
      by_cases e : l = s
      · subst e
        simp [h.1]
      · have : s ≠ l := fun z => e z.symm
        simp [e, this]
structure FwS (D : Nat) (S : Sp) (x : Sp × Sr) (n : Nat) : Prop where
  le : S.length ≤ x.1.length
  ln : x.1.length ≤ S.length + n
  fi : x.2.fi.length ≤ x.1.length - S.length
  la : x.2.la.length ≤ x.1.length - S.length
  nd : x.2.la.Nodup
  lr : ∀ s ∈ x.2.la, S.length ≤ s ∧ s < x.1.length
  fo : ∀ s y, S.length ≤ s → x.1[s]? = some y → y.2.length ≤ D * (x.1.length - S.length)
  old : ∀ s, s < S.length → x.1[s]? = S[s]?
theorem FwS.wk {D D' n n' : Nat} {S : Sp} {x : Sp × Sr} (a : FwS D S x n) (h : D ≤ D') (g : n ≤ n') : FwS D' S x n' := ⟨a.le, by have := a.ln; omega, a.fi, a.la, a.nd, a.lr, fun s y h1 h2 => Nat.le_trans (a.fo s y h1 h2) (Nat.mul_le_mul_right _ h), a.old⟩
theorem ite_len {b : Bool} (l : List Nat) : (if b = true then l else []).length ≤ l.length := by split <;> simp
theorem ite_mem {b : Bool} {l : List Nat} {x : Nat} (h : x ∈ if b = true then l else []) : x ∈ l := by
  split at h
  · exact h
  · cases h
theorem ite_nd {b : Bool} {l : List Nat} (h : l.Nodup) : (if b = true then l else []).Nodup := by split <;> simp [h]
theorem app_nd {l m : List Nat} {k : Nat} (h1 : l.Nodup) (h2 : m.Nodup) (a : ∀ x ∈ l, x < k) (b : ∀ x ∈ m, k ≤ x) : (l ++ m).Nodup ∧ (m ++ l).Nodup := by
  have g : ∀ x ∈ l, ∀ y ∈ m, x ≠ y := fun x hx y hy e => by
    have := a x hx
    have := b y hy
    omega
  rw [List.nodup_append, List.nodup_append]
  exact ⟨⟨h1, h2, g⟩, h2, h1, fun x hx y hy => (g y hy x hx).symm⟩
theorem FwS.step {D n m : Nat} {S : Sp} {x : Sp × Sr} {f : Mk} {op lp : Bool} (a : FwS (D + 1) S x n) (b : FwS D x.1 (f x.1) m) : FwS (D + 1) S (stC x f op lp) (n + m) := by
  have al := a.le
  have bl := b.le
  have ln := a.ln
  have bn := b.ln
  have af := a.fi
  have bf := b.fi
  have aa := a.la
  have ba := b.la
  have len : (stC x f op lp).1.length = (f x.1).1.length := extd_len _ _ _
  have nd : (x.2.la ++ if lp = true then (f x.1).2.la else []).Nodup := (app_nd (k := x.1.length) a.nd (ite_nd b.nd) (fun s hs => (a.lr s hs).2) fun s hs => (b.lr s (ite_mem hs)).1).1
  refine ⟨by rw [len]; omega, by rw [len]; omega, ?_, ?_, ?_, fun s hs => ?_, fun s y h1 h2 => ?_, fun s hs => ?_⟩
  · rw [len]
    show (x.2.fi ++ if x.2.nl = true then (f x.1).2.fi else []).length ≤ _
    have := ite_len (b := x.2.nl) (f x.1).2.fi
    rw [List.length_append]; omega
  · rw [len]
    show ((f x.1).2.la ++ if ((f x.1).2.nl || op) = true then x.2.la else []).length ≤ _
    have := ite_len (b := (f x.1).2.nl || op) x.2.la
    rw [List.length_append]; omega
  · exact (app_nd (k := x.1.length) (ite_nd a.nd) b.nd (fun s hs => (a.lr s (ite_mem hs)).2) fun s hs => (b.lr s hs).1).2
  · rw [len]
    rcases List.mem_append.mp hs with hs | hs
    · have := b.lr s hs; omega
    · have := a.lr s (ite_mem hs); omega
  · rw [len]
    have h2 : (extd (f x.1).1 (x.2.la ++ if lp = true then (f x.1).2.la else []) (f x.1).2.fi)[s]? = some y := h2
    rw [extd_get _ _ _ _ nd] at h2
    obtain ⟨z, hz, e⟩ := Option.map_eq_some_iff.mp h2
    have hy : y.2.length ≤ z.2.length + (f x.1).2.fi.length := by
      rw [← e]
      by_cases hm : s ∈ x.2.la ++ (if lp = true then (f x.1).2.la else [])
      · rw [if_pos hm, List.length_append]; omega
      · rw [if_neg hm]; omega
    have e1 : (D + 1) * ((f x.1).1.length - S.length) = (D + 1) * (x.1.length - S.length) + (D + 1) * ((f x.1).1.length - x.1.length) := by
      rw [← Nat.mul_add]; congr 1; omega
    have e2 : (D + 1) * ((f x.1).1.length - x.1.length) = D * ((f x.1).1.length - x.1.length) + ((f x.1).1.length - x.1.length) := Nat.succ_mul _ _
    by_cases hs : s < x.1.length
    · rw [b.old s hs] at hz
      have := a.fo s z h1 hz
      omega
    · have := b.fo s z (by omega) hz
      omega
  · show (extd (f x.1).1 (x.2.la ++ if lp = true then (f x.1).2.la else []) (f x.1).2.fi)[s]? = _
    rw [extd_get _ _ _ _ nd, b.old s (by omega), a.old s hs]
    cases S[s]? with
    | none => rfl
    | some y =>
      have z0 : s ∉ x.2.la ++ (if lp = true then (f x.1).2.la else []) := fun z => ?_
      · show some (if _ then _ else _) = some _
        rw [if_neg z0]
      rcases List.mem_append.mp z with z | z
      · have := (a.lr s z).1; omega
      · have := (b.lr s (ite_mem z)).1; omega
theorem FwS.union {D n m : Nat} {S : Sp} {x : Sp × Sr} {f : Mk} (a : FwS D S x n) (b : FwS D x.1 (f x.1) m) : FwS D S ((f x.1).1, ⟨x.2.nl || (f x.1).2.nl, x.2.fi ++ (f x.1).2.fi, x.2.la ++ (f x.1).2.la⟩) (n + m) := by
  have al := a.le
  have bl := b.le
  have ln := a.ln
  have bn := b.ln
  have af := a.fi
  have bf := b.fi
  have aa := a.la
  have ba := b.la
  refine ⟨by dsimp only; omega, by dsimp only; omega, ?_, ?_, ?_, fun s hs => ?_, fun s y h1 h2 => ?_, fun s hs => ?_⟩
  · show (x.2.fi ++ (f x.1).2.fi).length ≤ (f x.1).1.length - _
    rw [List.length_append]; omega
  · show (x.2.la ++ (f x.1).2.la).length ≤ (f x.1).1.length - _
    rw [List.length_append]; omega
  · exact (app_nd (k := x.1.length) a.nd b.nd (fun s hs => (a.lr s hs).2) fun s hs => (b.lr s hs).1).1
  · show _ ∧ s < (f x.1).1.length
    rcases List.mem_append.mp hs with hs | hs
    · have := a.lr s hs; omega
    · have := b.lr s hs; omega
  · have h2 : (f x.1).1[s]? = some y := h2
    show _ ≤ D * ((f x.1).1.length - S.length)
    have e1 : D * ((f x.1).1.length - S.length) = D * (x.1.length - S.length) + D * ((f x.1).1.length - x.1.length) := by
      rw [← Nat.mul_add]; congr 1; omega
    by_cases hs : s < x.1.length
    · rw [b.old s hs] at h2
      have := a.fo s y h1 h2
      omega
    · have := b.fo s y (by omega) h2
      omega
  · show (f x.1).1[s]? = _
    rw [b.old s (by omega), a.old s hs]
theorem FwS.nil (D : Nat) (S : Sp) (b : Bool) : FwS D S (S, ⟨b, [], []⟩) 0 := ⟨Nat.le_refl _, Nat.le_refl _, Nat.zero_le _, Nat.zero_le _, List.nodup_nil, fun _ h => (nomatch h), fun s y h1 h2 => by
  have := (List.getElem?_eq_some_iff.mp h2).1
  exact absurd h1 (by have : s < S.length := this; omega), fun _ _ => rfl⟩
theorem FwS.set (S : Sp) (t : Str) : FwS 0 S (S ++ [(t, [])], ⟨false, [S.length], [S.length]⟩) 1 := by
  have l1 : (S ++ [(t, ([] : List Nat))]).length = S.length + 1 := by rw [List.length_append]; rfl
  refine ⟨by dsimp only; omega, by dsimp only; omega, ?_, ?_, (by simp), fun s hs => ?_, fun s y h1 h2 => ?_, fun s hs => ?_⟩
  · show 1 ≤ (S ++ [(t, ([] : List Nat))]).length - _; omega
  · show 1 ≤ (S ++ [(t, ([] : List Nat))]).length - _; omega
  · rw [List.mem_singleton.mp hs]; show _ ∧ _ < (S ++ [(t, ([] : List Nat))]).length; omega
  · have h2 : (S ++ [(t, ([] : List Nat))])[s]? = some y := h2
    rw [List.getElem?_append_right h1] at h2
    have := List.mem_of_getElem? h2
    rw [List.mem_singleton.mp this]
    exact Nat.zero_le _
  · exact List.getElem?_append_left hs
def FwM (D : Nat) (f : Mk) (n : Nat) : Prop := ∀ S, FwS D S (f S) n
theorem ch_few {D : Nat} : ∀ (ps : List (Mk × Bool × Bool)) (ns : List Nat), Paired (fun p n => FwM D p.1 n) ps ns → ∀ {n : Nat} {S : Sp} {x : Sp × Sr}, FwS (D + 1) S x n → FwS (D + 1) S (chC x ps) (n + ns.sum)
  | [], _, .nil, n, S, x, a => a
  | (f, op, lp) :: ps, m :: ns, .cons h t, n, S, x, a => by
    have := ch_few ps ns t (a.step (h x.1) (op := op) (lp := lp))
    rw [List.sum_cons, ← Nat.add_assoc]
    exact this
theorem un_few {D : Nat} : ∀ (fs : List Mk) (ns : List Nat), Paired (fun f n => FwM D f n) fs ns → ∀ {n : Nat} {S : Sp} {x : Sp × Sr}, FwS D S x n → FwS D S (unC x fs) (n + ns.sum)
  | [], _, .nil, n, S, x, a => a
  | f :: fs, m :: ns, .cons h t, n, S, x, a => by
    have := un_few fs ns t (a.union (h x.1))
    rw [List.sum_cons, ← Nat.add_assoc]
    exact this
theorem pr_rep {α β : Type} {R : α → β → Prop} {a : α} {b : β} (h : R a b) : ∀ k, Paired R (List.replicate k a) (List.replicate k b)
  | 0 => .nil
  | k + 1 => .cons h (pr_rep h k)
theorem pr_app {α β : Type} {R : α → β → Prop} : ∀ {as as' : List α} {bs bs' : List β}, Paired R as bs → Paired R as' bs' → Paired R (as ++ as') (bs ++ bs')
  | _, _, _, _, .nil, g => g
  | _, _, _, _, .cons h t, g => .cons h (pr_app t g)
mutual
def ns : Rx → Nat
  | .set _ => 1
  | .row ps | .any ps => (nsL ps).sum
  | .all _ | .no _ => 0
  | .again p lo none => ns p * (lo.toNat + 1)
  | .again p lo (some h) => ns p * (lo.toNat + (h.toNat - lo.toNat))
def nsL : List Rx → List Nat
  | [] => []
  | p :: ps => ns p :: nsL ps
end
mutual
theorem spF_few : ∀ r : Rx, FwM (rdep r) (spF r) (ns r)
  | .set s => fun S => by rw [rdep, ns]; exact FwS.set S s
  | .row ps => fun S => by
    rw [rdep, ns]
    have := ch_few _ _ (spL_few ps).1 (FwS.nil (rdepL ps + 1) S true)
    rw [Nat.zero_add] at this
    exact this
  | .any ps => fun S => by
    rw [rdep, ns]
    have := un_few _ _ (spL_few ps).2 (FwS.nil (rdepL ps) S false)
    rw [Nat.zero_add] at this
    exact this.wk (by omega) (Nat.le_refl _)
  | .again p lo none => fun S => by
    rw [rdep, ns]
    have := ch_few (D := rdep p) (agC (spF p) lo.toNat none) (List.replicate lo.toNat (ns p) ++ [ns p]) (pr_app (pr_rep (R := fun (q : Mk × Bool × Bool) n => FwM (rdep p) q.1 n) (spF_few p) _) (.cons (spF_few p) .nil)) (FwS.nil (rdep p + 1) S true)
    refine this.wk (Nat.le_refl _) ?_
    rw [List.sum_append_nat, List.sum_replicate_nat, List.sum_cons, List.sum_nil, Nat.mul_add, Nat.mul_comm]; omega
  | .again p lo (some h) => fun S => by
    rw [rdep, ns]
    have := ch_few (D := rdep p) (agC (spF p) lo.toNat (some h.toNat)) (List.replicate lo.toNat (ns p) ++ List.replicate (h.toNat - lo.toNat) (ns p)) (pr_app (pr_rep (R := fun (q : Mk × Bool × Bool) n => FwM (rdep p) q.1 n) (spF_few p) _) (pr_rep (R := fun (q : Mk × Bool × Bool) n => FwM (rdep p) q.1 n) (spF_few p) _)) (FwS.nil (rdep p + 1) S true)
    refine this.wk (Nat.le_refl _) ?_
    rw [List.sum_append_nat, List.sum_replicate_nat, List.sum_replicate_nat, Nat.mul_add, Nat.mul_comm lo.toNat, Nat.mul_comm (h.toNat - lo.toNat)]; omega
  | .all ps => fun S => by rw [ns]; exact FwS.nil _ S false
  | .no p => fun S => by rw [ns]; exact FwS.nil _ S false
theorem spL_few : ∀ ps : List Rx, Paired (fun p n => FwM (rdepL ps) p.1 n) ((spL ps).map fun f => (f, false, false)) (nsL ps) ∧ Paired (fun f n => FwM (rdepL ps) f n) (spL ps) (nsL ps)
  | [] => ⟨.nil, .nil⟩
  | p :: ps => by
    obtain ⟨a, b⟩ := spL_few ps
    have h := spF_few p
    rw [rdepL]
    refine ⟨.cons (fun S => (h S).wk (by omega) (Nat.le_refl _)) ?_, .cons (fun S => (h S).wk (by omega) (Nat.le_refl _)) ?_⟩
    · exact Paired.mapP a fun x p g S => (g S).wk (by omega) (Nat.le_refl _)
    · exact Paired.mapP b fun x p g S => (g S).wk (by omega) (Nat.le_refl _)
end
mutual
theorem ns_wd : ∀ r : Rx, okR r = true → ((ns r : Nat) : Int) ≤ wd r
  | .set _, _ => by rw [ns, wd]; decide
  | .row ps, h => by
    rw [okR, Bool.and_eq_true] at h
    have := nsL_wd ps h.2
    have := mx1_ge (wdL ps).sum
    rw [ns, wd]; omega
  | .any ps, h => by
    rw [okR, Bool.and_eq_true] at h
    have := nsL_wd ps h.2
    have := mx1_ge (wdL ps).sum
    rw [ns, wd]; omega
  | .all ps, h => by
    have := mx1_ge (wdL ps).sum
    rw [ns, wd]; omega
  | .no p, h => by
    have := mx1_ge (wd p)
    rw [ns, wd]; omega
  | .again p lo none, h => by
    rw [okR, Bool.and_eq_true, Bool.and_eq_true, Bool.and_eq_true] at h
    have h1 := ns_wd p h.1.1.1
    have h2 := mx1_ge (wd p)
    have h3 : 0 ≤ lo := of_decide_eq_true h.1.1.2
    rw [ns, wd, Int.natCast_mul]
    exact Int.mul_le_mul (by omega) (by omega) (by omega) (by omega)
  | .again p lo (some hi), h => by
    rw [okR, Bool.and_eq_true, Bool.and_eq_true, Bool.and_eq_true] at h
    have h1 := ns_wd p h.1.1.1
    have h2 := mx1_ge (wd p)
    have h3 : 0 ≤ lo := of_decide_eq_true h.1.1.2
    have h4 := h.2
    rw [hiOk, Bool.and_eq_true] at h4
    have h5 : lo ≤ hi := of_decide_eq_true h4.1
    have h6 := mx1_ge hi
    rw [ns, wd, Int.natCast_mul]
    exact Int.mul_le_mul (by omega) (by omega) (by omega) (by omega)
theorem nsL_wd : ∀ ps : List Rx, okRL ps = true → (((nsL ps).sum : Nat) : Int) ≤ (wdL ps).sum
  | [], _ => Int.le_refl _
  | p :: ps, h => by
    rw [okRL, Bool.and_eq_true] at h
    have := ns_wd p h.1
    have := nsL_wd ps h.2
    rw [nsL, wdL, List.sum_cons, List.sum_cons]; omega
end
section
variable (r : Rx)
def spS : Sp := (spF r []).1
def spR : Sr := (spF r []).2
def rcS (w : Tx) (s : Nat) : Prop := ∃ f ∈ (spR r).fi, GP (chP (spS r)) (fo (spS r)) f w s
noncomputable def setS (w : Tx) : List Nat := (List.range (spS r).length).filter fun s => tru (rcS r w s)
end
section
variable {r : Rx}
end
end Cut
namespace Cut
open PySem L2 DL ML
local macro_rules | `(tactic| walk_at "m") => `(tactic| repeat (first | with_reducible refine ⟨_, rfl, ?_⟩ | refine ⟨_, rfl, ?_⟩ | refine ⟨rfl, ?_⟩ | refine ⟨_, _, rfl, rfl, ?_⟩ | refine ⟨_, _, rfl, ?_⟩ | refine iteT ?_ | refine iteF ?_ | refine ⟨⟨_, rfl⟩, ?_⟩ | refine ⟨Nat.le_of_ble_eq_true rfl, ?_⟩ | refine ⟨(by decide), ?_⟩ | refine ⟨_, ix_t0 _ _, ?_⟩ | refine ⟨_, ix_l0 _ _, ?_⟩))
abbrev s_add_row : Stmt := top 6
abbrev N_add_row : List Str := ["moves", "start", "parts", "place", "part"]
theorem sc_add_row : FnScope N_add_row ["moves", "start", "parts"] (defScope s_add_row) := ⟨rfl, rfl, rfl, by decide +kernel, rfl, by decide +kernel, by decide +kernel⟩
abbrev s_add_any : Stmt := top 7
abbrev N_add_any : List Str := ["moves", "start", "parts", "ends", "part", "end"]
theorem sc_add_any : FnScope N_add_any ["moves", "start", "parts"] (defScope s_add_any) := ⟨rfl, rfl, rfl, by decide +kernel, rfl, by decide +kernel, by decide +kernel⟩
abbrev s_add_again : Stmt := top 8
abbrev N_add_again : List Str := ["moves", "start", "expression", "word", "part", "low", "high", "place", "ends", "count", "end"]
theorem sc_add_again : FnScope N_add_again ["moves", "start", "expression"] (defScope s_add_again) := ⟨rfl, rfl, rfl, by decide +kernel, rfl, by decide +kernel, by decide +kernel⟩
abbrev s_add_moves : Stmt := top 9
abbrev N_add_moves : List Str := ["moves", "start", "expression", "word", "parts", "entry"]
theorem sc_add_moves : FnScope N_add_moves ["moves", "start", "expression"] (defScope s_add_moves) := ⟨rfl, rfl, rfl, by decide +kernel, rfl, by decide +kernel, by decide +kernel⟩
def edD (e : Str × Nat) : D := .tup [.str e.1, .int (e.2 : Nat)]
abbrev rw1 (a : Addr) : D := .raw (.ref a)
structure MvO (h : Hd) (m : Addr) (as : List Addr) (M : Mvs) : Prop where
  top : h m = some (.lst (as.map rw1))
  len : as.length = M.length
  row : ∀ (i : Nat) (a : Addr) (l : List (Str × Nat)), as[i]? = some a → M[i]? = some l → h a = some (.lst (l.map edD))
  nm : m ∉ as
  nd : as.Nodup
structure Grh (m : Addr) (h h' : Hd) (as as' : List Addr) : Prop where
  fr : ∀ b o, h b = some o → b ≠ m → b ∉ as → h' b = some o
  nw : ∀ a ∈ as', a ∈ as ∨ h a = none
  kp : ∀ a ∈ as, a ∈ as'
theorem Grh.refl (m : Addr) (h : Hd) (as : List Addr) : Grh m h h as as := ⟨fun _ _ q _ _ => q, fun _ q => .inl q, fun _ q => q⟩
theorem MvO.known {h : Hd} {m : Addr} {as : List Addr} {M : Mvs} (x : MvO h m as M) {a : Addr} (ha : a ∈ as) : ∃ o, h a = some o := by
  obtain ⟨i, hi⟩ := List.mem_iff_getElem?.mp ha
  have : i < M.length := by rw [← x.len]; exact (List.getElem?_eq_some_iff.mp hi).1
  exact ⟨_, x.row i a _ hi (List.getElem?_eq_getElem this)⟩
theorem Grh.trans {m : Addr} {h h1 h2 : Hd} {as as1 as2 : List Addr} {M1 : Mvs} (g1 : Grh m h h1 as as1) (o1 : MvO h1 m as1 M1) (g2 : Grh m h1 h2 as1 as2) : Grh m h h2 as as2 := by
  refine ⟨fun b o q hb hn => g2.fr b o (g1.fr b o q hb hn) hb fun z => ?_, fun a ha => ?_, fun a ha => g2.kp a (g1.kp a ha)⟩
  · rcases g1.nw b z with z | z
    · exact hn z
    · rw [q] at z; cases z
  · rcases g2.nw a ha with z | z
    · exact g1.nw a z
    · cases e : h a with
      | none => exact .inr rfl
      | some o =>
        by_cases hm : a = m
        · rw [hm, o1.top] at z; cases z
        · by_cases hi : a ∈ as
          · exact .inl hi
          · rw [g1.fr a o e hm hi] at z; cases z
theorem Grh.gone {m : Addr} {h h1 : Hd} {as as1 : List Addr} {M1 : Mvs} (g1 : Grh m h h1 as as1) (o1 : MvO h1 m as1 M1) {b : Addr} (hb : h1 b = none) : h b = none := by
  cases e : h b with
  | none => rfl
  | some o =>
    by_cases hm : b = m
    · rw [hm, o1.top] at hb; cases hb
    · by_cases hi : b ∈ as
      · obtain ⟨o, z⟩ := o1.known (g1.kp b hi)
        rw [hb] at z; cases z
      · rw [g1.fr b o e hm hi] at hb; cases hb
theorem MvO.snoc {h : Hd} {m a : Addr} {as : List Addr} {M : Mvs} (x : MvO h m as M) (ha : h a = none) : MvO (put (put h a (.lst [])) m (.lst (as.map rw1 ++ [rw1 a]))) m (as ++ [a]) (M ++ [[]]) ∧ Grh m h (put (put h a (.lst [])) m (.lst (as.map rw1 ++ [rw1 a]))) as (as ++ [a]) := by
  have ham : a ≠ m := fun z => by rw [z, x.top] at ha; cases ha
  have haa : a ∉ as := fun z => by obtain ⟨o, e⟩ := x.known z; rw [ha] at e; cases e
  refine ⟨⟨?_, ?_, fun i b l h1 h2 => ?_, ?_, ?_⟩, fun b o q hb hn => ?_, fun b hb => ?_, fun b hb => List.mem_append_left _ hb⟩
  · rw [put_same, List.map_append]; rfl
  · simp [x.len]
  · rw [List.getElem?_append] at h1
    split at h1
    · rename_i hi
      rw [List.getElem?_append_left (by rw [← x.len]; exact hi)] at h2
      have hb : b ∈ as := List.mem_of_getElem? h1
      rw [put_ne (fun (z : b = m) => x.nm (z ▸ hb)), put_ne (fun (z : b = a) => haa (z ▸ hb))]
      exact x.row i b l h1 h2
    · rename_i hi
      rw [List.getElem?_append_right (by rw [← x.len]; omega)] at h2
      have e1 := List.mem_singleton.mp (List.mem_of_getElem? h1)
      have e2 := List.mem_singleton.mp (List.mem_of_getElem? h2)
      rw [e1, e2, put_ne ham, put_same]
      rfl
  · intro z
    rcases List.mem_append.mp z with z | z
    · exact x.nm z
    · exact ham (List.mem_singleton.mp z).symm
  · exact List.nodup_append.mpr ⟨x.nd, by simp, fun b hb c hc z => haa (by rw [← List.mem_singleton.mp hc, ← z]; exact hb)⟩
  · rw [put_ne hb, put_ne (hd_ne q ha)]; exact q
  · rcases List.mem_append.mp hb with hb | hb
    · exact .inl hb
    · rw [List.mem_singleton.mp hb]; exact .inr ha
theorem MvO.edge {h : Hd} {m a : Addr} {as : List Addr} {M : Mvs} {p : Nat} {l : List (Str × Nat)} (x : MvO h m as M) (h1 : as[p]? = some a) (h2 : M[p]? = some l) (t : Str) (q : Nat) : MvO (put h a (.lst (l.map edD ++ [edD (t, q)]))) m as (addE M p t q) ∧ Grh m h (put h a (.lst (l.map edD ++ [edD (t, q)]))) as as := by
  have ha : a ∈ as := List.mem_of_getElem? h1
  refine ⟨⟨?_, ?_, fun i b k g1 g2 => ?_, x.nm, x.nd⟩, fun b o z hb hn => ?_, fun b hb => .inl hb, fun b hb => hb⟩
  · rw [put_ne (fun (z : m = a) => x.nm (z ▸ ha))]; exact x.top
  · rw [addE_len]; exact x.len
  · unfold addE at g2
    rw [List.getElem?_modify] at g2
    obtain ⟨k0, e1, e2⟩ := Option.map_eq_some_iff.mp g2
    by_cases hp : p = i
    · subst hp
      rw [h1] at g1
      cases g1
      rw [h2] at e1
      cases e1
      rw [if_pos rfl] at e2
      rw [put_same, ← e2]
      simp
    · rw [if_neg hp] at e2
      have e2 : k0 = k := e2
      subst e2
      have hba : b ≠ a := fun z => by
        subst z
        obtain ⟨l1, e1'⟩ := List.getElem?_eq_some_iff.mp h1
        obtain ⟨l2, e2'⟩ := List.getElem?_eq_some_iff.mp g1
        rcases Nat.lt_or_gt_of_ne hp with hlt | hlt
        · exact List.pairwise_iff_getElem.mp x.nd p i l1 l2 hlt (e1'.trans e2'.symm)
        · exact List.pairwise_iff_getElem.mp x.nd i p l2 l1 hlt (e2'.trans e1'.symm)
      rw [put_ne hba]
      exact x.row i b k0 g1 e1
  · rw [put_ne (fun (y : b = a) => hn (y ▸ ha))]; exact z
theorem MvO.get {h : Hd} {m : Addr} {as : List Addr} {M : Mvs} {p : Nat} (x : MvO h m as M) (hp : p < M.length) : ∃ a l, as[p]? = some a ∧ M[p]? = some l ∧ h a = some (.lst (l.map edD)) ∧ atI (as.map rw1) (p : Nat) = some (rw1 a) ∧ l.length ≤ tot M := by
  have hp' : p < as.length := by rw [x.len]; exact hp
  refine ⟨as[p], M[p], List.getElem?_eq_getElem hp', List.getElem?_eq_getElem hp, x.row p _ _ (List.getElem?_eq_getElem hp') (List.getElem?_eq_getElem hp), ?_, tot_row (List.getElem?_eq_getElem hp)⟩
  rw [atI_get (by omega) (by rw [List.length_map]; omega), Int.toNat_natCast, List.getElem?_map, List.getElem?_eq_getElem hp']
  rfl
theorem rangeD_succ (lo : Int) (n : Nat) : rangeD lo (n + 1) = .int lo :: rangeD (lo + 1) n := by
  unfold rangeD
  rw [List.range_succ_eq_map, List.map_cons, List.map_map]
  congr 1
  · simp
  · refine List.map_congr_left fun i _ => ?_
    show D.int (lo + ((i + 1 : Nat) : Int)) = D.int (lo + 1 + (i : Nat))
    congr 1; omega
def endsD (es : List Nat) : List D := es.map fun e => .int (e : Nat)
def agn (p : Rx) (lo : Int) (hi : Option Int) (M : Mvs) (s : Nat) : Mvs × Nat := match hi with
  | some h => closeA (copies (addM p) lo.toNat h.toNat M s).1 (copies (addM p) lo.toNat h.toNat M s).2.2
  | none => closeA (around (addM p) (copies (addM p) lo.toNat lo.toNat M s).1 (copies (addM p) lo.toNat lo.toNat M s).2.1).1 [(around (addM p) (copies (addM p) lo.toNat lo.toNat M s).1 (copies (addM p) lo.toNat lo.toNat M s).2.1).2]
theorem addM_again (p : Rx) (lo : Int) (hi : Option Int) (M : Mvs) (s : Nat) : addM (.again p lo hi) M s = agn p lo hi (addE (M ++ [[]]) s Str.empty M.length) M.length := by
  cases hi <;> rw [addM] <;> rfl
section
variable {P : Program} {w : World} {K : Fg} {mg : Str → Option Value} {base : Heap} {f f2 f3 f4 : Addr} {fd fd2 fd3 fd4 : FuncData}
def g_mv (n : Nat) : FM := fun ds h Q _ => ∃ m as M s r, ds = [rw1 m, .int (s : Nat), toD r] ∧ MvO h m as M ∧ s < M.length ∧ plain r = true ∧ okR r = true ∧ rdep r < n ∧ tot M + cost r ≤ 15000 ∧ ∀ h' as', MvO h' m as' (addM r M s).1 → Grh m h h' as as' → Q (.fz (.int ((addM r M s).2 : Nat))) h'
def g_mvr (n : Nat) : FM := fun ds h Q _ => ∃ m as M s ps, ds = [rw1 m, .int (s : Nat), .lst (toDL ps)] ∧ MvO h m as M ∧ s < M.length ∧ (plainL ps).all id = true ∧ okRL ps = true ∧ rdepL ps < n ∧ tot M + costL ps ≤ 15000 ∧ ∀ h' as', MvO h' m as' (addR ps M s).1 → Grh m h h' as as' → Q (.fz (.int ((addR ps M s).2 : Nat))) h'
theorem ok_addrow (n : Nat) (A : At K mg "add_row" ["moves", "start", "parts"] s_add_row f fd) (c_add_moves : FnM P w K mg base "add_moves" (2 * n + 1) 3 (g_mv n)) : FnM P w K mg base "add_row" (2 * n + 2) 3 (g_mvr n) := by
  refine A.fnM (okM (k := 2 * n + 1) A.fn sc_add_row (by decide) (fun cdv A outer s H E hr tk po => (mss_cons (ms_set 3 sc_add_row.nd rfl (by first | exact Or.inl rfl | exact Or.inr rfl) (me_v 1))
      (mss_cons (ms_for po rfl (mi_seq (me_v 2)) (mg_n 4 sc_add_row.nd rfl (by first | exact Or.inl rfl | exact Or.inr rfl)) (mss_one (ms_set 3 sc_add_row.nd rfl (by first | exact Or.inl rfl | exact Or.inr rfl) (me_cM c_add_moves tk (hr.mono (by omega)) (by rfl) (ma_cons (me_v 0) (ma_cons (me_v 3) (ma_cons (me_v 4) ma_nil)))))))
      (mss_one (ms_ret (me_v 3)))))) ?_)
  rintro ds h Q E hl ⟨m, as, M, s, ps, rfl, hM, hs, hp, ho, hd, ht, q⟩
  walk_at "m"
  refine loopM_inv (fun ds ρ h' => ∃ ps' as' M' s' x, ds = toDL ps' ∧ ρ = [some (rw1 m), some (.int (s : Nat)), some (.lst (toDL ps)), some (.int ((s' : Nat) : Int)), x] ∧ MvO h' m as' M' ∧ s' < M'.length ∧ (plainL ps').all id = true ∧ okRL ps' = true ∧ rdepL ps' < n ∧ tot M' + costL ps' ≤ 15000 ∧ Grh m h h' as as' ∧ addR ps' M' s' = addR ps M s) _ _ _ ⟨ps, as, M, s, none, rfl, rfl, hM, hs, hp, ho, hd, ht, Grh.refl _ _ _, rfl⟩ ?_ ?_
  rotate_left
  · rintro ρ h' ⟨ps', as', M', s', x, e, rfl, y1, y2, y3, y4, y5, y6, y7, y8⟩
    cases ps' with
    | cons _ _ => cases e
    | nil =>
      rw [addR] at y8
      walk_at "m"
      have e1 : (addR ps M s).1 = M' := by rw [← y8]
      have e2 : (addR ps M s).2 = s' := by rw [← y8]
      have := q h' as' (by rw [e1]; exact y1) y7
      rw [e2] at this
      exact this
  rintro d es ρ h' R ⟨ps', as', M', s', x, e, rfl, y1, y2, y3, y4, y5, y6, y7, y8⟩ hR
  cases ps' with
  | nil => cases e
  | cons p ps2 =>
    rw [toDL] at e
    injection e with e1 e2
    subst e1 e2
    rw [plainL, List.all_cons, Bool.and_eq_true] at y3
    rw [okRL, Bool.and_eq_true] at y4
    rw [rdepL] at y5
    rw [costL] at y6
    rw [addR] at y8
    walk_at "m"
    refine ⟨m, as', M', s', p, rfl, y1, y2, y3.1, y4.1, by omega, by omega, fun h'' as'' z1 z2 => ?_⟩
    have g := addM_ok p y3.1 y4.1 M' s' y2
    have hc := addM_tot p M' s'
    exact hR _ _ ⟨ps2, as'', _, _, _, rfl, rfl, z1, g.lt.1, y3.2, y4.2, by omega, by omega, y7.trans y1 z2, y8⟩
def g_mva (n : Nat) : FM := fun ds h Q _ => ∃ m as M s ps, ds = [rw1 m, .int (s : Nat), .lst (toDL ps)] ∧ MvO h m as M ∧ s < M.length ∧ (plainL ps).all id = true ∧ okRL ps = true ∧ rdepL ps < n ∧ ps.length ≤ 9999 ∧ tot M + costL ps + ps.length + 1 ≤ 15000 ∧ ∀ h' as', MvO h' m as' (closeA (addO ps M s).1 (addO ps M s).2).1 → Grh m h h' as as' → Q (.fz (.int ((closeA (addO ps M s).1 (addO ps M s).2).2 : Nat))) h'
theorem len_v {h : Hd} {m : Addr} {as : List Addr} {M : Mvs} (x : MvO h m as M) : lenD ([rw1 m].map (vw h)) = some (.fz (.int (M.length : Nat))) := by
  have e : vw h (.raw (.ref m)) = .lst (as.map rw1) := by
    show (match h m with | some (.lst xs) => D.lst xs | _ => D.raw (.ref m)) = _
    rw [x.top]
  show lenD [vw h (.raw (.ref m))] = _
  rw [e]
  show some (Res.fz (.int ((as.map rw1).length : Nat))) = _
  rw [List.length_map, x.len]
theorem addO_lt {ps : List Rx} {M : Mvs} {s : Nat} (hp : (plainL ps).all id = true) (ho : okRL ps = true) (hs : s < M.length) : M.length ≤ (addO ps M s).1.length ∧ ∀ e ∈ (addO ps M s).2, e < (addO ps M s).1.length := by
  obtain ⟨S, f, _⟩ := addO_ok ps hp ho M s hs M [] (fun _ => False) ⟨_, Fan.nil hs, fun _ _ _ => ⟨.inl, fun h => h.elim id False.elim⟩⟩
  rw [List.nil_append] at f
  have nn := f.nn
  have sn := f.sn
  exact ⟨nn, fun e he => by have := f.en e he; omega⟩
def τEnd (i j : Nat) : TMS := mFor (mSeqI (mV i)) (gM j) (mDrop (mApp (mIxO (mV 0) (mV j)) (mACons (mTup (mACons (mK (.str "")) (mACons (mBin subD (mCallGV lenD (mACons (mV 0) mANil)) (mK (.int 1))) mANil))) mANil)))
theorem end_loop {ω : Wω} {j : Nat} {PD : MEnds} {m : Addr} {h0 : Hd} {as0 : List Addr} {fi : Nat} (ρ0 : Me → Prop) (hρ : ∀ ρ x, ρ0 ρ → ρ0 (ρ.set j x)) (h0m : ∀ ρ, ρ0 ρ → j ≠ 0 ∧ ρ[0]? = some (some (rw1 m)) ∧ j < ρ.length) :
    ∀ (es : List Nat) (M : Mvs) (as : List Addr) (ρ : Me) (h : Hd), ρ0 ρ → MvO h m as M → Grh m h0 h as0 as → M.length = fi + 1 → (∀ e ∈ es, e < M.length) → tot M + es.length ≤ 15000 →
    (∀ ρ' h' as', ρ0 ρ' → MvO h' m as' (addA M es fi) → Grh m h0 h' as0 as' → PD.nx ρ' h') →
    loopM ω (gM j) (mDrop (mApp (mIxO (mV 0) (mV j)) (mACons (mTup (mACons (mK (.str "")) (mACons (mBin subD (mCallGV lenD (mACons (mV 0) mANil)) (mK (.int 1))) mANil))) mANil))) PD (es.map fun e => .int (e : Nat)) ρ h
  | [], M, as, ρ, h, r0, hM, hG, hl, he, ht, q => by rw [List.map_nil]; exact loop_end (q ρ h as r0 hM hG)
  | e :: es, M, as, ρ, h, r0, hM, hG, hl, he, ht, q => by
    rw [List.map_cons]
    refine loop_step ?_
    obtain ⟨hj, hm, hjl⟩ := h0m ρ r0
    obtain ⟨a, l, g1, g2, g3, g4, g5⟩ := hM.get (he e (List.mem_cons_self ..))
    rw [List.length_cons] at ht
    have hm' : (ρ.set j (some (.int (e : Nat))))[0]? = some (some (rw1 m)) := by rw [List.getElem?_set_ne hj]; exact hm
    show mDrop _ _ _ _ _
    refine ⟨_, hm', _, by rw [List.getElem?_set_self hjl], m, _, _, _, rfl, hM.top, rfl, g4, a, _, rfl, g3, ?_⟩
    refine ⟨_, hm', _, len_v hM, rfl, ?_⟩
    refine ⟨_, rfl, by show 2 ≤ 16000; decide, _, _, g3, rfl, by rw [List.length_map]; omega, ?_⟩
    obtain ⟨k1, k2⟩ := hM.edge g1 g2 Str.empty fi
    have ee : (D.tup [.str "", .int ((M.length : Nat) - 1)]) = edD (Str.empty, fi) := by rw [hl]; exact congrArg (fun z : Int => D.tup [.str Str.empty, .int z]) (show ((fi + 1 : Nat) : Int) - 1 = (fi : Nat) by omega)
    show loopM ω _ _ PD _ _ (put h a (.lst (l.map edD ++ [D.tup [.str "", .int ((M.length : Nat) - 1)]])))
    rw [ee]
    have ht2 := tot_addE M e Str.empty fi
    refine end_loop ρ0 hρ h0m es _ as _ _ (hρ _ _ r0) k1 (hG.trans hM k2) (by rw [addE_len]; exact hl) (fun x hx => by rw [addE_len]; exact he x (List.mem_cons_of_mem _ hx)) (by omega) fun ρ' h' as' z1 z2 z3 => q ρ' h' as' z1 z2 z3
theorem ok_addany (n : Nat) (A : At K mg "add_any" ["moves", "start", "parts"] s_add_any f fd) (m_len : mg "len" = none) (c_add_moves : FnM P w K mg base "add_moves" (2 * n + 1) 3 (g_mv n)) : FnM P w K mg base "add_any" (2 * n + 2) 3 (g_mva n) := by
  refine A.fnM (okM (k := 2 * n + 1) A.fn sc_add_any (by decide) (fun cdv A outer s H E hr tk po => (mss_cons (ms_setLc (i := 3) (own := [("part", 4)]) rfl sc_add_any.nd rfl rfl (sw_true rfl rfl rfl (by decide +kernel)) (mi_seq (me_v 2)) (blkOk_by (N := N_add_any) (sc := defScope s_add_any) (own := [("part", 4)]) (by decide +kernel)) (fun _ _ _ _ _ => (mg_n 4 sc_add_any.nd rfl (by first | exact Or.inl rfl | exact Or.inr rfl))) (fun _ _ _ _ _ => mts_nil) (fun _ _ _ _ _ => (me_cM c_add_moves takes0 (hr.mono (by omega)) (by rfl) (ma_cons (me_v 0) (ma_cons (me_v 1) (ma_cons (me_v 4) ma_nil))))))
      (mss_cons (ms_expr (me_app (me_v 0) (ma_cons (me_own (me_lst ma_nil)) ma_nil)))
      (mss_cons (ms_for po rfl (mi_seq (me_v 3)) (mg_n 5 sc_add_any.nd rfl (by first | exact Or.inl rfl | exact Or.inr rfl)) (mss_one (ms_expr (me_app (me_ixO (me_v 0) (me_v 5) (fun _ _ => rfl)) (ma_cons (me_tup (ma_cons me_str (ma_cons (me_sub (me_lenV (by rfl) m_len (ma_cons (me_v 0) ma_nil)) me_int) ma_nil))) ma_nil)))))
      (mss_one (ms_ret (me_sub (me_lenV (by rfl) m_len (ma_cons (me_v 0) ma_nil)) me_int))))))) ?_)
  rintro ds h Q E hl ⟨m, as, M, s, ps, rfl, hM, hs, hp, ho, hd, hn, ht, q⟩
  walk_at "m"
  refine lcM_inv (fun ds h' acc => ∃ ps' as' M' es, ds = toDL ps' ∧ MvO h' m as' M' ∧ s < M'.length ∧ (plainL ps').all id = true ∧ okRL ps' = true ∧ rdepL ps' < n ∧ tot M' + costL ps' + ps.length + 1 ≤ 15000 ∧ Grh m h h' as as' ∧ acc = es.map (fun e : Nat => D.int e) ∧ es.length + ps'.length = ps.length ∧ (addO ps' M' s).1 = (addO ps M s).1 ∧ es ++ (addO ps' M' s).2 = (addO ps M s).2) _ _ _ ⟨ps, as, M, [], rfl, hM, hs, hp, ho, hd, ht, Grh.refl _ _ _, rfl, by simp, rfl, by simp⟩ ?_ ?_
  · rintro d es0 h' acc R ⟨ps', as', M', es, e, y1, y2, y3, y4, y5, y6, y7, rfl, y8, y9, y10⟩ hR
    cases ps' with
    | nil => cases e
    | cons p ps2 =>
      rw [toDL] at e
      injection e with e1 e2
      subst e1 e2
      rw [plainL, List.all_cons, Bool.and_eq_true] at y3
      rw [okRL, Bool.and_eq_true] at y4
      rw [rdepL] at y5
      rw [costL] at y6
      rw [addO] at y9 y10
      rw [List.length_cons] at y8
      walk_at "m"
      refine ⟨m, as', M', s, p, rfl, y1, y2, y3.1, y4.1, by omega, by omega, fun h'' as'' z1 z2 => ⟨by rw [List.length_map]; omega, ?_⟩⟩
      have g := addM_ok p y3.1 y4.1 M' s y2
      have hc := addM_tot p M' s
      refine hR _ _ ⟨ps2, as'', _, es ++ [(addM p M' s).2], rfl, z1, by have := g.lt.2; omega, y3.2, y4.2, by omega, by omega, y7.trans y1 z2, by rw [List.map_append]; rfl, by rw [List.length_append, List.length_singleton]; omega, y9, ?_⟩
      rw [List.append_assoc]; exact y10
  rintro h' acc ⟨ps', as', M', es, e, y1, y2, y3, y4, y5, y6, y7, rfl, y8, y9, y10⟩
  cases ps' with
  | cons _ _ => cases e
  | nil =>
    rw [addO] at y9 y10
    rw [List.append_nil] at y10
    have y9 : M' = (addO ps M s).1 := y9
    subst y9 y10
    obtain ⟨l1, l2⟩ := addO_lt hp ho hs
    have t1 := addO_tot ps M s
    walk_at "m"
    refine ⟨m, _, rfl, y1.top, ?_⟩
    walk_at "m"
    intro a ha
    have ham : a ≠ m := fun z => by rw [z, y1.top] at ha; cases ha
    refine ⟨_, _, by rw [put_ne (Ne.symm ham)]; exact y1.top, rfl, by have := y1.len; have := tot_len (addO ps M s).1; rw [List.length_map]; omega, ?_⟩
    obtain ⟨k1, k2⟩ := y1.snoc ha
    have t2 := tot_snoc (addO ps M s).1
    walk_at "m"
    refine end_loop (j := 5) (fi := (addO ps M s).1.length) (fun ρ => ∃ x y, ρ = [some (rw1 m), some (.int (s : Nat)), some (.lst (toDL ps)), some (.lst ((addO ps M s).2.map fun e : Nat => D.int e)), x, y]) ?_ ?_ (addO ps M s).2 ((addO ps M s).1 ++ [[]]) _ _ _ ⟨_, _, rfl⟩ k1 (y7.trans y1 k2) (by simp) (fun e he => by have := l2 e he; rw [List.length_append, List.length_singleton]; omega) (by omega) ?_
    · rintro ρ x ⟨u, v, rfl⟩; exact ⟨u, x, rfl⟩
    · rintro ρ ⟨u, v, rfl⟩; exact ⟨by decide, rfl, by show 5 < 6; decide⟩
    · rintro ρ h'' as'' ⟨u, v, rfl⟩ z1 z2
      walk_at "m"
      refine ⟨_, len_v z1, rfl, ?_⟩
      walk_at "m"
      have e3 : (addA ((addO ps M s).1 ++ [[]]) (addO ps M s).2 (addO ps M s).1.length).length = (addO ps M s).1.length + 1 := by rw [addA_len]; simp
      have q2 := q h'' as'' z1 z2
      rw [e3]
      show Q (.fz (.int (((addO ps M s).1.length + 1 : Nat) - 1))) h''
      rw [show (((addO ps M s).1.length + 1 : Nat) : Int) - 1 = (((addO ps M s).1.length : Nat) : Int) by omega]
      exact q2
theorem MvO.apart {h : Hd} {m b : Addr} {as : List Addr} {M : Mvs} {o : Ob} (x : MvO h m as M) (hb : b ≠ m ∧ b ∉ as) : MvO (put h b o) m as M := by
  refine ⟨?_, x.len, fun i a l h1 h2 => ?_, x.nm, x.nd⟩
  · rw [put_ne (Ne.symm hb.1)]; exact x.top
  · rw [put_ne (fun (z : a = b) => hb.2 (z ▸ List.mem_of_getElem? h1))]; exact x.row i a l h1 h2
theorem MvO.off {h : Hd} {m b : Addr} {as : List Addr} {M : Mvs} (x : MvO h m as M) (hb : b ≠ m ∧ b ∉ as) : MvO (off h b) m as M := by
  refine ⟨?_, x.len, fun i a l h1 h2 => ?_, x.nm, x.nd⟩
  · rw [off_ne (Ne.symm hb.1)]; exact x.top
  · rw [off_ne (fun (z : a = b) => hb.2 (z ▸ List.mem_of_getElem? h1))]; exact x.row i a l h1 h2
theorem MvO.free {h : Hd} {m b : Addr} {as : List Addr} {M : Mvs} (x : MvO h m as M) (hb : h b = none) : b ≠ m ∧ b ∉ as :=
  ⟨fun z => (by rw [z, x.top] at hb; cases hb), fun z => (by obtain ⟨o, e⟩ := x.known z; rw [hb] at e; cases e)⟩
theorem Grh.apart {m b : Addr} {h h1 : Hd} {as as1 : List Addr} {o : Ob} (g : Grh m h h1 as as1) (hb : h b = none) : Grh m h (put h1 b o) as as1 := ⟨fun c u q hm hn => by rw [put_ne (hd_ne q hb)]; exact g.fr c u q hm hn, g.nw, g.kp⟩
theorem Grh.offp {m b : Addr} {h h1 : Hd} {as as1 : List Addr} (g : Grh m h h1 as as1) (hb : h b = none) : Grh m h (off h1 b) as as1 := ⟨fun c u q hm hn => by rw [off_ne (hd_ne q hb)]; exact g.fr c u q hm hn, g.nw, g.kp⟩
theorem Grh.aside {m b : Addr} {h h1 : Hd} {as as1 : List Addr} {o : Ob} (g : Grh m h h1 as as1) (q : h b = some o) (hb : b ≠ m ∧ b ∉ as) : h1 b = some o ∧ b ∉ as1 := ⟨g.fr b o q hb.1 hb.2, fun z => by
  rcases g.nw b z with z | z
  · exact hb.2 z
  · rw [q] at z; cases z⟩
def g_mvg (n : Nat) : FM := fun ds h Q _ => ∃ m as M s p lo hi, ds = [rw1 m, .int (s : Nat), toD (.again p lo hi)] ∧ MvO h m as M ∧ s < M.length ∧ plain p = true ∧ okR (.again p lo hi) = true ∧ rdep p < n ∧ tot M + cost (.again p lo hi) ≤ 15002 ∧
  ∀ h' as', MvO h' m as' (agn p lo hi M s).1 → Grh m h h' as as' → Q (.fz (.int ((agn p lo hi M s).2 : Nat))) h'
theorem cps_le {p : Rx} {lo : Int} {hi : Option Int} (ho : okR (.again p lo hi) = true) : cps lo hi ≤ 5 := by
  rw [okR, Bool.and_eq_true, Bool.and_eq_true, Bool.and_eq_true] at ho
  obtain ⟨⟨⟨_, ho2⟩, ho3⟩, ho4⟩ := ho
  have l0 : 0 ≤ lo := of_decide_eq_true ho2
  have l4 : lo ≤ 4 := of_decide_eq_true ho3
  cases hi with
  | none => show lo.toNat + 1 ≤ 5; omega
  | some v =>
    rw [hiOk, Bool.and_eq_true] at ho4
    have h4 : v ≤ 4 := of_decide_eq_true ho4.2
    show v.toNat ≤ 5
    omega
theorem ok_addagain (n : Nat) (A : At K mg "add_again" ["moves", "start", "expression"] s_add_again f fd) (m_len : mg "len" = none) (m_range : mg "range" = none) (m_int : mg "int" = none) (c_add_moves : FnM P w K mg base "add_moves" (2 * n + 1) 3 (g_mv n)) : FnM P w K mg base "add_again" (2 * n + 2) 3 (g_mvg n) := by
  refine A.fnM (okM (k := 2 * n + 1) A.fn sc_add_again (by decide) (fun cdv A outer s H E hr tk po => (mss_cons (ms_asg (me_v 2) (mg_tup (n := 4) rfl (mgs_cons (mg_n 3 sc_add_again.nd rfl (by first | exact Or.inl rfl | exact Or.inr rfl)) (mgs_cons (mg_n 4 sc_add_again.nd rfl (by first | exact Or.inl rfl | exact Or.inr rfl)) (mgs_cons (mg_n 5 sc_add_again.nd rfl (by first | exact Or.inl rfl | exact Or.inr rfl)) (mgs_cons (mg_n 6 sc_add_again.nd rfl (by first | exact Or.inl rfl | exact Or.inr rfl)) mgs_nil))))))
      (mss_cons (ms_set 7 sc_add_again.nd rfl (by first | exact Or.inl rfl | exact Or.inr rfl) (me_v 1))
      (mss_cons (ms_set 8 sc_add_again.nd rfl (by first | exact Or.inl rfl | exact Or.inr rfl) (me_own (me_mul (me_lst (ma_cons (me_v 7) ma_nil)) (me_intc (by rfl) m_int (ma_cons (me_eq hr (me_v 5) me_int) ma_nil)))))
      (mss_cons (ms_for po rfl (mi_range2 (by rfl) m_range (ma_cons me_int (ma_cons (me_if (mt_is (me_v 6) me_non) (me_add (me_v 5) me_int) (me_add (me_v 6) me_int)) ma_nil))) (mg_n 9 sc_add_again.nd rfl (by first | exact Or.inl rfl | exact Or.inr rfl)) (mss_cons (ms_set 7 sc_add_again.nd rfl (by first | exact Or.inl rfl | exact Or.inr rfl) (me_cM c_add_moves tk (hr.mono (by omega)) (by rfl) (ma_cons (me_v 0) (ma_cons (me_v 7) (ma_cons (me_v 4) ma_nil)))))
      (mss_one (ms_if (mt_ge (me_v 9) (me_v 5)) (mss_one (ms_expr (me_app (me_v 8) (ma_cons (me_v 7) ma_nil)))) mss_nil))))
      (mss_cons (ms_if (mt_is (me_v 6) me_non) (mss_cons (ms_expr (me_app (me_v 0) (ma_cons (me_own (me_lst ma_nil)) ma_nil)))
      (mss_cons (ms_expr (me_app (me_ixO (me_v 0) (me_v 7) (fun _ _ => rfl)) (ma_cons (me_tup (ma_cons me_str (ma_cons (me_sub (me_lenV (by rfl) m_len (ma_cons (me_v 0) ma_nil)) me_int) ma_nil))) ma_nil)))
      (mss_cons (ms_set 7 sc_add_again.nd rfl (by first | exact Or.inl rfl | exact Or.inr rfl) (me_sub (me_lenV (by rfl) m_len (ma_cons (me_v 0) ma_nil)) me_int))
      (mss_cons (ms_expr (me_app (me_ixO (me_v 0) (me_cM c_add_moves tk (hr.mono (by omega)) (by rfl) (ma_cons (me_v 0) (ma_cons (me_v 7) (ma_cons (me_v 4) ma_nil)))) (fun _ _ => rfl)) (ma_cons (me_tup (ma_cons me_str (ma_cons (me_v 7) ma_nil))) ma_nil)))
      (mss_one (ms_set 8 sc_add_again.nd rfl (by first | exact Or.inl rfl | exact Or.inr rfl) (me_own (me_lst (ma_cons (me_v 7) ma_nil))))))))) mss_nil)
      (mss_cons (ms_expr (me_app (me_v 0) (ma_cons (me_own (me_lst ma_nil)) ma_nil)))
      (mss_cons (ms_fzs 8 (ms_for po rfl (mi_seq (me_v 8)) (mg_n 10 sc_add_again.nd rfl (by first | exact Or.inl rfl | exact Or.inr rfl)) (mss_one (ms_expr (me_app (me_ixO (me_v 0) (me_v 10) (fun _ _ => rfl)) (ma_cons (me_tup (ma_cons me_str (ma_cons (me_sub (me_lenV (by rfl) m_len (ma_cons (me_v 0) ma_nil)) me_int) ma_nil))) ma_nil))))))
      (mss_one (ms_ret (me_sub (me_lenV (by rfl) m_len (ma_cons (me_v 0) ma_nil)) me_int))))))))))) ?_)
  rintro ds h Q E hl ⟨m, as, M, s, p, lo, hi, rfl, hM, hs, hp, ho, hd, ht, q⟩
  have hcp := cps_le ho
  rw [okR, Bool.and_eq_true, Bool.and_eq_true, Bool.and_eq_true] at ho
  obtain ⟨⟨⟨ho1, ho2⟩, ho3⟩, ho4⟩ := ho
  have l0 : 0 ≤ lo := of_decide_eq_true ho2
  have l4 : lo ≤ 4 := of_decide_eq_true ho3
  rw [cost] at ht
  have hf := fun M s => addM_ok p hp ho1 M s
  refine ⟨_, rfl, _, rfl, rfl, _, _, rfl, _, _, rfl, _, _, rfl, _, _, rfl, rfl, ?_⟩
  walk_at "m"
  have hmul : ∀ b : Bool, mulD (.lst [.int (s : Nat)]) (.int (if b = true then 1 else 0)) = some (.fr (if b = true then [.int (s : Nat)] else [])) := fun b => by cases b <;> rfl
  refine ⟨_, hmul _, _, rfl, fun b hb => ?_⟩
  have he0 : (if eqB (.int lo) (.int 0) = true then [D.int (s : Nat)] else []) = endsD (if lo.toNat = 0 then [s] else []) := by
    by_cases hz : lo = 0
    · rw [if_pos (show eqB (.int lo) (.int 0) = true from decide_eq_true hz), if_pos (by omega)]; rfl
    · rw [if_neg (show ¬ eqB (.int lo) (.int 0) = true from fun z => hz (of_decide_eq_true z)), if_neg (by omega)]; rfl
  have loop : ∀ (Kc : Nat) (PD : MEnds) (e2 e3 e6 x0 y : Option D), Kc ≤ 5 → tot M + Kc * cost p ≤ 14995 →
      (∀ h' as' x, MvO h' m as' (copies (addM p) lo.toNat Kc M s).1 → Grh m h h' as as' → b ∉ as' → h' b = some (.lst (endsD (copies (addM p) lo.toNat Kc M s).2.2)) → PD.nx [some (rw1 m), some (.int (s : Nat)), e2, e3, some (toD p), some (.int lo), e6, some (.int ((copies (addM p) lo.toNat Kc M s).2.1 : Nat)), some (rw1 b), x, y] h') →
      loopM (fun x _ h => E x h) (gM 9) (mSeq (mSet 7 (mCallM (g_mv n) (mACons (mV 0) (mACons (mV 7) (mACons (mV 4) mANil))))) (mIf (mT (mBin geD (mV 9) (mV 5))) (mDrop (mApp (mV 8) (mACons (mV 7) mANil))) mNext)) PD (rangeD 1 Kc)
        [some (rw1 m), some (.int (s : Nat)), e2, e3, some (toD p), some (.int lo), e6, some (.int (s : Nat)), some (rw1 b), x0, y] (put h b (.lst (endsD (if lo.toNat = 0 then [s] else [])))) := by
    intro Kc PD e2 e3 e6 x0 y hK htt fin
    refine loopM_inv (fun ds ρ h' => ∃ k as' x, ds = rangeD (1 + (k : Nat)) (Kc - k) ∧ k ≤ Kc ∧ ρ = [some (rw1 m), some (.int (s : Nat)), e2, e3, some (toD p), some (.int lo), e6, some (.int ((copies (addM p) lo.toNat k M s).2.1 : Nat)), some (rw1 b), x, y] ∧ MvO h' m as' (copies (addM p) lo.toNat k M s).1 ∧ Grh m h h' as as' ∧ b ∉ as' ∧ h' b = some (.lst (endsD (copies (addM p) lo.toNat k M s).2.2))) _ _ _ ⟨0, as, x0, by rw [Nat.sub_zero]; rfl, Nat.zero_le _, rfl, hM.apart (hM.free hb), (Grh.refl _ _ _).apart hb, (hM.free hb).2, put_same⟩ ?_ ?_
    · rintro d es ρ h' R ⟨k, as', x, e1, hk, rfl, z1, z2, z4, z3⟩ hR
      obtain ⟨j, hj⟩ : ∃ j, Kc - k = j + 1 := by
        cases hkk : Kc - k with
        | zero => rw [hkk] at e1; cases e1
        | succ j => exact ⟨j, rfl⟩
      rw [hj, rangeD_succ] at e1
      injection e1 with e1 e4
      subst e1
      obtain ⟨c1, c2⟩ := copies_tot (addM_tot p) lo.toNat k M s
      have hkc : k * cost p + cost p ≤ Kc * cost p := by
        rw [← Nat.succ_mul]; exact Nat.mul_le_mul_right _ (by omega)
      have G := copies_ok hf lo.toNat k M s hs
      walk_at "m"
      refine ⟨m, as', _, _, p, rfl, z1, G.grw.lt.1, hp, ho1, hd, by omega, fun h2 as2 w1 w2 => ?_⟩
      have hb2 : b ≠ m ∧ b ∉ as' := ⟨(hM.free hb).1, z4⟩
      obtain ⟨w3, w4⟩ := w2.aside z3 hb2
      walk_at "m"
      refine ifd (p := lo.toNat ≤ k + 1) (decide_eq_decide.mpr (by omega)) (fun hle => ?_) (fun hle => ?_)
      · walk_at "m"
        refine ⟨b, _, rfl, w3, ?_⟩
        walk_at "m"
        refine ⟨_, _, w3, rfl, by unfold endsD; rw [List.length_map]; omega, ?_⟩
        refine hR _ _ ⟨k + 1, as2, _, by rw [e4, show Kc - (k + 1) = j by omega]; congr 1, by omega, rfl, w1.apart ⟨hb2.1, w4⟩, ((z2.trans z1 w2).apart hb), w4, ?_⟩
        rw [put_same, copies, if_pos hle]
        unfold endsD
        rw [List.map_append]
        rfl
      · refine hR _ _ ⟨k + 1, as2, _, by rw [e4, show Kc - (k + 1) = j by omega]; congr 1, by omega, rfl, w1, z2.trans z1 w2, w4, ?_⟩
        rw [w3, copies, if_neg hle, List.append_nil]
    · rintro ρ h' ⟨k, as', x, e1, hk, rfl, z1, z2, z4, z3⟩
      have : k = Kc := by
        cases hkk : Kc - k with
        | zero => omega
        | succ j => rw [hkk, rangeD_succ] at e1; cases e1
      subst this
      exact fin h' as' x z1 z2 z4 z3
  have fin : ∀ (M1 : Mvs) (as1 : List Addr) (es : List Nat) (b' : Addr) (h1 : Hd) (e2 e3 e4 e5 e6 e7 x y : Option D), MvO h1 m as1 M1 → Grh m h h1 as as1 → h b' = none → b' ≠ m ∧ b' ∉ as1 → h1 b' = some (.lst (endsD es)) → (∀ e ∈ es, e < M1.length) → tot M1 + 1 + es.length ≤ 15000 → closeA M1 es = agn p lo hi M s →
      mSeq (mDrop (mApp (mV 0) (mACons (mOwn (mLst mANil)) mANil))) (mSeq (mFzS 8 (τEnd 8 10)) (mRet (mBin subD (mCallGV lenD (mACons (mV 0) mANil)) (mK (.int 1))))) (fun x _ h => E x h) { nx := fun _ h => Q (.fz .non) h, rt := fun r h => Q r h }
        [some (rw1 m), some (.int (s : Nat)), e2, e3, e4, e5, e6, e7, some (rw1 b'), x, y] h1 := by
    intro M1 as1 es b' h1 e2 e3 e4 e5 e6 e7 x y y1 y2 y3 y4 y5 y6 y7 y8
    walk_at "m"
    refine ⟨m, _, rfl, y1.top, ?_⟩
    walk_at "m"
    intro a ha
    have ham : a ≠ m := fun z => by rw [z, y1.top] at ha; cases ha
    have t0 := tot_len M1
    refine ⟨_, _, by rw [put_ne (Ne.symm ham)]; exact y1.top, rfl, by have := y1.len; rw [List.length_map]; omega, ?_⟩
    obtain ⟨k1, k2⟩ := y1.snoc ha
    have t2 := tot_snoc M1
    have hba : b' ≠ a := fun z => by rw [← z, y5] at ha; cases ha
    have hb1 : b' ∉ as1 ++ [a] := fun z => by
      rcases List.mem_append.mp z with z | z
      · exact y4.2 z
      · exact hba (List.mem_singleton.mp z)
    refine ⟨b', _, rfl, by rw [put_ne y4.1, put_ne hba]; exact y5, ?_⟩
    refine ⟨_, rfl, _, rfl, ?_⟩
    refine end_loop (j := 10) (fi := M1.length) (fun ρ => ∃ y, ρ = [some (rw1 m), some (.int (s : Nat)), e2, e3, e4, e5, e6, e7, some (.lst (endsD es)), x, y]) ?_ ?_ es (M1 ++ [[]]) (as1 ++ [a]) _ _ ⟨_, rfl⟩ (k1.off ⟨y4.1, hb1⟩) ((y2.trans y1 k2).offp y3) (by simp) (fun e he => by have := y6 e he; rw [List.length_append, List.length_singleton]; omega) (by omega) ?_
    · rintro ρ x ⟨v, rfl⟩; exact ⟨x, rfl⟩
    · rintro ρ ⟨v, rfl⟩; exact ⟨by decide, rfl, by show 10 < 11; decide⟩
    · rintro ρ h'' as'' ⟨v, rfl⟩ z1 z2
      walk_at "m"
      refine ⟨_, len_v z1, rfl, ?_⟩
      walk_at "m"
      have q2 := q h'' as'' (by rw [← y8]; exact z1) z2
      rw [← y8] at q2
      have e3 : (addA (M1 ++ [[]]) es M1.length).length = M1.length + 1 := by rw [addA_len]; simp
      rw [e3]
      show Q (.fz (.int ((M1.length + 1 : Nat) - 1))) h''
      rw [show ((M1.length + 1 : Nat) : Int) - 1 = ((M1.length : Nat) : Int) by omega]
      exact q2
  have hap := hM.free hb
  cases hi with
  | some v =>
    rw [hiOk, Bool.and_eq_true] at ho4
    have h1 : lo ≤ v := of_decide_eq_true ho4.1
    have h4 : v ≤ 4 := of_decide_eq_true ho4.2
    have hcv : cps lo (some v) = v.toNat := rfl
    rw [hcv] at ht
    walk_at "m"
    refine ⟨⟨by omega, by omega, by omega, by omega⟩, ?_⟩
    rw [show ((v + 1 - 1 : Int)).toNat = v.toNat by omega]
    show loopM _ _ _ _ _ _ (put h b (.lst (if eqB (.int lo) (.int 0) = true then [D.int (s : Nat)] else [])))
    rw [he0]
    refine loop v.toNat _ _ _ _ _ _ (by omega) (by omega) fun h' as' x z1 z2 z4 z3 => ?_
    have G := copies_ok hf lo.toNat v.toNat M s hs
    obtain ⟨c1, c2⟩ := copies_tot (addM_tot p) lo.toNat v.toNat M s
    refine ⟨_, rfl, _, rfl, _, rfl, iteF ?_⟩
    refine fin _ as' _ b h' _ _ _ _ _ _ _ _ z1 z2 hb ⟨hap.1, z4⟩ z3 (fun e he => ?_) (by omega) rfl
    obtain ⟨S, fr, _⟩ := G
    have := fr.en e he
    have := fr.fr.nn
    have := fr.fr.sn
    omega
  | none =>
    have hcv : cps lo none = lo.toNat + 1 := rfl
    rw [hcv, Nat.succ_mul] at ht
    walk_at "m"
    refine ⟨⟨by omega, by omega, by omega, by omega⟩, ?_⟩
    rw [show ((lo + 1 - 1 : Int)).toNat = lo.toNat by omega]
    show loopM _ _ _ _ _ _ (put h b (.lst (if eqB (.int lo) (.int 0) = true then [D.int (s : Nat)] else [])))
    rw [he0]
    refine loop lo.toNat _ _ _ _ _ _ (by omega) (by omega) fun h' as' x z1 z2 z4 z3 => ?_
    have G := copies_ok hf lo.toNat lo.toNat M s hs
    obtain ⟨c1, c2⟩ := copies_tot (addM_tot p) lo.toNat lo.toNat M s
    have hgl := G.grw.lt.1
    have hag : agn p lo none M s = closeA (around (addM p) (copies (addM p) lo.toNat lo.toNat M s).1 (copies (addM p) lo.toNat lo.toNat M s).2.1).1 [(around (addM p) (copies (addM p) lo.toNat lo.toNat M s).1 (copies (addM p) lo.toNat lo.toNat M s).2.1).2] := rfl
    generalize copies (addM p) lo.toNat lo.toNat M s = r at z1 z3 c1 c2 hgl hag
    clear loop G
    have t0 := tot_len r.1
    walk_at "m"
    refine ⟨m, _, rfl, z1.top, ?_⟩
    walk_at "m"
    intro a ha
    have ham : a ≠ m := fun z => by rw [z, z1.top] at ha; cases ha
    refine ⟨_, _, by rw [put_ne (Ne.symm ham)]; exact z1.top, rfl, by have := z1.len; rw [List.length_map]; omega, ?_⟩
    obtain ⟨k1, k2⟩ := z1.snoc ha
    have t2 := tot_snoc r.1
    have hll : (r.1 ++ [[]]).length = r.1.length + 1 := by simp
    obtain ⟨a3, l3, g1, g2, g3, g4, g5⟩ := k1.get (p := r.2.1) (by omega)
    walk_at "m"
    refine ⟨m, _, _, _, rfl, k1.top, rfl, g4, a3, _, rfl, g3, ?_⟩
    refine ⟨_, rfl, _, len_v k1, rfl, _, rfl, by show 2 ≤ 16000; decide, _, _, g3, rfl, by rw [List.length_map]; omega, ?_⟩
    obtain ⟨k3, k4⟩ := k1.edge g1 g2 Str.empty r.1.length
    have ee : (D.tup [.str "", .int (((r.1 ++ [[]]).length : Nat) - 1)]) = edD (Str.empty, r.1.length) := by rw [hll]; exact congrArg (fun z : Int => D.tup [.str Str.empty, .int z]) (show ((r.1.length + 1 : Nat) : Int) - 1 = (r.1.length : Nat) by omega)
    dsimp only [dat_fz]
    rw [ee]
    have hl4 : (addE (r.1 ++ [[]]) r.2.1 Str.empty r.1.length).length = r.1.length + 1 := by rw [addE_len]; exact hll
    have t3 := tot_addE (r.1 ++ [[]]) r.2.1 Str.empty r.1.length
    refine ⟨_, rfl, _, len_v k3, rfl, _, rfl, ?_⟩
    dsimp only [dat_fz, List.set]
    rw [show (((addE (r.1 ++ [[]]) r.2.1 Str.empty r.1.length).length : Nat) : Int) - 1 = (r.1.length : Nat) by rw [hl4]; omega]
    refine ⟨_, rfl, _, rfl, _, rfl, _, rfl, m, as' ++ [a], _, r.1.length, p, rfl, k3, by omega, hp, ho1, hd, by omega, fun h5 as5 w1 w2 => ?_⟩
    have G5 := hf (addE (r.1 ++ [[]]) r.2.1 Str.empty r.1.length) r.1.length (by omega)
    have t5 := addM_tot p (addE (r.1 ++ [[]]) r.2.1 Str.empty r.1.length) r.1.length
    obtain ⟨a6, l6, f1, f2, f3, f4, f5⟩ := w1.get G5.lt.1
    refine ⟨m, _, _, _, rfl, w1.top, rfl, f4, a6, _, rfl, f3, ?_⟩
    refine ⟨_, rfl, by show 2 ≤ 16000; decide, _, _, f3, rfl, by rw [List.length_map]; omega, ?_⟩
    obtain ⟨k5, k6⟩ := w1.edge f1 f2 Str.empty r.1.length
    have k7 := (z2.trans z1 ((k2.trans k1 k4).trans k3 w2)).trans w1 k6
    have bb1 : b ≠ a := fun z => by rw [← z, z3] at ha; cases ha
    refine ⟨_, rfl, by show 1 ≤ 16000; decide, _, rfl, fun b2 hb2 => ?_⟩
    have hb3 := k5.free hb2
    rw [hag] at fin
    have t6 := tot_addE (addM p (addE (r.1 ++ [[]]) r.2.1 Str.empty r.1.length) r.1.length).1 (addM p (addE (r.1 ++ [[]]) r.2.1 Str.empty r.1.length) r.1.length).2 Str.empty r.1.length
    refine fin _ as5 [r.1.length] b2 _ _ _ _ _ _ _ _ _ (k5.apart hb3) (k7.apart (k7.gone k5 hb2)) (k7.gone k5 hb2) hb3 put_same (fun e he => ?_) ?_ rfl
    · rw [List.mem_singleton.mp he, addE_len]
      have := G5.lt.2
      omega
    · rw [List.length_singleton]; omega
theorem ne_str (a b : Str) : neD (.str a) (.str b) = some (.fz (.bl (decide (a ≠ b)))) := by
  show some (Res.fz (.bl (!eqS a b))) = _
  rw [eqS_eq]
  by_cases h : a = b <;> simp [h]
theorem okR_tl {r : Rx} (h : okR r = true) : r.tail.length ≤ 9999 := by
  cases r with
  | set s => show 1 ≤ 9999; decide
  | no p => show 1 ≤ 9999; decide
  | again p lo hi => show 3 ≤ 9999; decide
  | row ps => rw [okR, Bool.and_eq_true] at h; have := of_decide_eq_true h.1; show (toDL ps).length ≤ 9999; rw [toDL_len]; omega
  | any ps => rw [okR, Bool.and_eq_true] at h; have := of_decide_eq_true h.1; show (toDL ps).length ≤ 9999; rw [toDL_len]; omega
  | all ps => rw [okR, Bool.and_eq_true] at h; have := of_decide_eq_true h.1; show (toDL ps).length ≤ 9999; rw [toDL_len]; omega
theorem word_ne : eqS "set" "row" = false ∧ eqS "set" "any" = false ∧ eqS "set" "again" = false ∧ eqS "again" "row" = false ∧ eqS "again" "any" = false ∧ eqS "any" "row" = false := by
  refine ⟨?_, ?_, ?_, ?_, ?_, ?_⟩ <;> (rw [eqS_eq]; decide +kernel)
theorem word_eq (x : Str) : eqS x x = true := by rw [eqS_eq]; exact decide_eq_true rfl
theorem ok_addmoves1 (n : Nat) (A : At K mg "add_moves" ["moves", "start", "expression"] s_add_moves f fd) (m_len : mg "len" = none) (c_add_row : FnM P w K mg base "add_row" (2 * n + 2) 3 (g_mvr n)) (c_add_any : FnM P w K mg base "add_any" (2 * n + 2) 3 (g_mva n)) (c_add_again : FnM P w K mg base "add_again" (2 * n + 2) 3 (g_mvg n)) :
    FnM P w K mg base "add_moves" (2 * (n + 1) + 1) 3 (g_mv (n + 1)) := by
  refine A.fnM (okM (k := 2 * n + 2) A.fn sc_add_moves (by decide) (fun cdv A outer s H E hr tk po => (mss_cons (ms_asg (me_v 2) (mg_star (i := 1) rfl (mgs_cons (mg_n 3 sc_add_moves.nd rfl (by first | exact Or.inl rfl | exact Or.inr rfl)) (mgs_star (mg_n 4 sc_add_moves.nd rfl (by first | exact Or.inl rfl | exact Or.inr rfl))))))
      (mss_cons (ms_if (mt_eq hr (me_v 3) me_str) (mss_one (ms_ret (me_cM c_add_row tk (hr.mono (by omega)) (by rfl) (ma_cons (me_v 0) (ma_cons (me_v 1) (ma_cons (me_v 4) ma_nil)))))) mss_nil)
      (mss_cons (ms_expr (me_app (me_v 0) (ma_cons (me_own (me_lst ma_nil)) ma_nil)))
      (mss_cons (ms_set 5 sc_add_moves.nd rfl (by first | exact Or.inl rfl | exact Or.inr rfl) (me_sub (me_lenV (by rfl) m_len (ma_cons (me_v 0) ma_nil)) me_int))
      (mss_cons (ms_expr (me_app (me_ixO (me_v 0) (me_v 1) (fun _ _ => rfl)) (ma_cons (me_tup (ma_cons me_str (ma_cons (me_v 5) ma_nil))) ma_nil)))
      (mss_cons (ms_if (mt_eq hr (me_v 3) me_str) (mss_one (ms_ret (me_cM c_add_any tk (hr.mono (by omega)) (by rfl) (ma_cons (me_v 0) (ma_cons (me_v 5) (ma_cons (me_v 4) ma_nil)))))) mss_nil)
      (mss_cons (ms_if (mt_eq hr (me_v 3) me_str) (mss_one (ms_ret (me_cM c_add_again tk (hr.mono (by omega)) (by rfl) (ma_cons (me_v 0) (ma_cons (me_v 5) (ma_cons (me_v 2) ma_nil)))))) mss_nil)
      (mss_cons (ms_expr (me_app (me_v 0) (ma_cons (me_own (me_lst ma_nil)) ma_nil)))
      (mss_cons (ms_if (mt_ne hr (me_ix (me_v 4) me_int (fun _ _ => rfl)) me_str) (mss_one (ms_expr (me_app (me_ixO (me_v 0) (me_v 5) (fun _ _ => rfl)) (ma_cons (me_tup (ma_cons (me_ix (me_v 4) me_int (fun _ _ => rfl)) (ma_cons (me_add (me_v 5) me_int) ma_nil))) ma_nil)))) mss_nil)
      (mss_one (ms_ret (me_add (me_v 5) me_int))))))))))))) ?_)
  rintro ds h Q E hl ⟨m, as, M, s, r, rfl, hM, hs, hp, ho, hd, ht, q⟩
  have htl := okR_tl ho
  obtain ⟨w1, w2, w3, w4, w5, w6⟩ := word_ne
  have t0 := tot_len M
  have head : ∀ (rest : TMS) (PD : MEnds) (e2 e3 e4 x : Option D), (∀ h' as', MvO h' m as' (addE (M ++ [[]]) s Str.empty M.length) → Grh m h h' as as' → rest (fun x _ h => E x h) PD [some (rw1 m), some (.int (s : Nat)), e2, e3, e4, some (.int (M.length : Nat))] h') →
      mSeq (mDrop (mApp (mV 0) (mACons (mOwn (mLst mANil)) mANil))) (mSeq (mSet 5 (mBin subD (mCallGV lenD (mACons (mV 0) mANil)) (mK (.int 1)))) (mSeq (mDrop (mApp (mIxO (mV 0) (mV 1)) (mACons (mTup (mACons (mK (.str "")) (mACons (mV 5) mANil))) mANil))) rest)) (fun x _ h => E x h) PD [some (rw1 m), some (.int (s : Nat)), e2, e3, e4, x] h := by
    intro rest PD e2 e3 e4 x fin
    refine ⟨_, rfl, m, _, rfl, hM.top, by show 0 ≤ 16000; decide, _, rfl, fun a ha => ?_⟩
    have ham : a ≠ m := fun z => by rw [z, hM.top] at ha; cases ha
    refine ⟨_, _, by rw [put_ne (Ne.symm ham)]; exact hM.top, rfl, by have := hM.len; rw [List.length_map]; omega, ?_⟩
    obtain ⟨k1, k2⟩ := hM.snoc ha
    have hll : (M ++ [[]]).length = M.length + 1 := by simp
    have t1 := tot_snoc M
    obtain ⟨a3, l3, g1, g2, g3, g4, g5⟩ := k1.get (p := s) (by omega)
    refine ⟨_, rfl, _, len_v k1, rfl, _, rfl, ?_⟩
    dsimp only [dat_fz, List.set]
    have e9 : ((List.length (M ++ [[]]) : Nat) : Int) - 1 = ((M.length : Nat) : Int) := by rw [hll]; omega
    rw [e9]
    refine ⟨_, rfl, _, rfl, m, _, _, _, rfl, k1.top, rfl, g4, a3, _, rfl, g3, ?_⟩
    have hcs : 1 ≤ cost r ∨ tot M + 2 ≤ 16000 := .inr (by omega)
    refine ⟨_, rfl, by show 2 ≤ 16000; decide, _, _, g3, rfl, by rw [List.length_map]; omega, ?_⟩
    obtain ⟨k3, k4⟩ := k1.edge g1 g2 Str.empty M.length
    exact fin _ _ k3 (k2.trans k1 k4)
  have t1 := tot_snoc M
  have t2 := tot_addE (M ++ [[]]) s Str.empty M.length
  have hl4 : (addE (M ++ [[]]) s Str.empty M.length).length = M.length + 1 := by rw [addE_len]; simp
  rw [toD_eq]
  refine ⟨_, rfl, [.str r.word], r.tail, .inl rfl, rfl, by rw [List.length_append, List.length_singleton]; omega, ?_⟩
  refine ⟨_, _, rfl, _, _, rfl, rfl, ?_⟩
  cases r with
  | row ps =>
    rw [plain] at hp
    rw [okR, Bool.and_eq_true] at ho
    rw [rdep] at hd
    rw [cost] at ht
    walk_at "m"
    refine ifT (word_eq _) ?_
    walk_at "m"
    refine ⟨m, as, M, s, ps, rfl, hM, hs, hp, ho.2, by omega, by omega, fun h' as' z1 z2 => ?_⟩
    have := q h' as' (by rw [addM]; exact z1) z2
    rw [addM] at this
    exact this
  | all ps => rw [plain] at hp; cases hp
  | no p => rw [plain] at hp; cases hp
  | any ps =>
    have hp' := hp
    rw [plain] at hp
    rw [okR, Bool.and_eq_true] at ho
    have hlen : ps.length ≤ 9999 := of_decide_eq_true ho.1
    rw [rdep] at hd
    rw [cost] at ht
    refine ⟨_, rfl, _, rfl, _, rfl, ifF w6 ?_⟩
    refine head _ _ _ _ _ _ fun h' as' z1 z2 => ?_
    refine ⟨_, rfl, _, rfl, _, rfl, ifT (word_eq _) ?_⟩
    walk_at "m"
    refine ⟨m, as', _, M.length, ps, rfl, z1, by omega, hp, ho.2, by omega, hlen, by omega, fun h2 as2 y1 y2 => ?_⟩
    have := q h2 as2 (by rw [addM]; exact y1) (z2.trans z1 y2)
    rw [addM] at this
    exact this
  | again p lo hi =>
    have ho' := ho
    rw [plain] at hp
    rw [okR, Bool.and_eq_true, Bool.and_eq_true, Bool.and_eq_true] at ho
    rw [rdep] at hd
    refine ⟨_, rfl, _, rfl, _, rfl, ifF w4 ?_⟩
    refine head _ _ _ _ _ _ fun h' as' z1 z2 => ?_
    refine ⟨_, rfl, _, rfl, _, rfl, ifF w5 ?_⟩
    refine ⟨_, rfl, _, rfl, _, rfl, ifT (word_eq _) ?_⟩
    walk_at "m"
    refine ⟨m, as', _, M.length, p, lo, hi, by rw [toD_eq]; rfl, z1, by omega, hp, ho', by omega, by omega, fun h2 as2 y1 y2 => ?_⟩
    have := q h2 as2 (by rw [addM_again]; exact y1) (z2.trans z1 y2)
    rw [addM_again] at this
    exact this
  | set t =>
    rw [cost] at ht
    refine ⟨_, rfl, _, rfl, _, rfl, ifF w1 ?_⟩
    refine head _ _ _ _ _ _ fun h' as' z1 z2 => ?_
    refine ⟨_, rfl, _, rfl, _, rfl, ifF w2 ?_⟩
    refine ⟨_, rfl, _, rfl, _, rfl, ifF w3 ?_⟩
    generalize hN : addE (M ++ [[]]) s Str.empty M.length = N at z1 hl4 t2
    refine ⟨_, rfl, m, _, rfl, z1.top, by show 0 ≤ 16000; decide, _, rfl, fun a ha => ?_⟩
    have ham : a ≠ m := fun z => by rw [z, z1.top] at ha; cases ha
    have t3 := tot_len N
    refine ⟨_, _, by rw [put_ne (Ne.symm ham)]; exact z1.top, rfl, by have := z1.len; rw [List.length_map]; omega, ?_⟩
    obtain ⟨k1, k2⟩ := z1.snoc ha
    have hll : (N ++ [[]]).length = M.length + 2 := by rw [List.length_append, List.length_singleton]; omega
    have t4 := tot_snoc N
    have fin : ∀ h3, (MvO h3 m (as' ++ [a]) (if t = Str.empty then N ++ [[]] else addE (N ++ [[]]) M.length t (M.length + 1))) → Grh m h h3 as (as' ++ [a]) → Q (.fz (.int ((M.length : Nat) + 1))) h3 := fun h3 y1 y2 => by
      have e1 : addM (.set t) M s = ((if t = Str.empty then N ++ [[]] else addE (N ++ [[]]) M.length t (M.length + 1)), M.length + 1) := by rw [addM, hN]
      rw [e1] at q
      have := q h3 _ y1 y2
      exact this
    refine ⟨_, rfl, _, rfl, _, ne_str t Str.empty, _, rfl, ?_⟩
    refine ifd (p := t ≠ Str.empty) rfl (fun hne => ?_) (fun hne => ?_)
    · obtain ⟨a3, l3, g1, g2, g3, g4, g5⟩ := k1.get (p := M.length) (by omega)
      refine ⟨_, rfl, _, rfl, m, _, _, _, rfl, k1.top, rfl, g4, a3, _, rfl, g3, ?_⟩
      refine ⟨_, rfl, _, rfl, _, rfl, _, rfl, by show 2 ≤ 16000; decide, _, _, g3, rfl, by rw [List.length_map]; omega, ?_⟩
      obtain ⟨k3, k4⟩ := k1.edge g1 g2 t (M.length + 1)
      rw [if_neg hne] at fin
      walk_at "m"
      exact fin _ k3 ((z2.trans z1 k2).trans k1 k4)
    · rw [if_pos (Decidable.not_not.mp hne)] at fin
      walk_at "m"
      exact fin _ k1 (z2.trans z1 k2)
theorem ok_addmoves (A : At K mg "add_moves" ["moves", "start", "expression"] s_add_moves f fd) (A2 : At K mg "add_row" ["moves", "start", "parts"] s_add_row f2 fd2) (A3 : At K mg "add_any" ["moves", "start", "parts"] s_add_any f3 fd3) (A4 : At K mg "add_again" ["moves", "start", "expression"] s_add_again f4 fd4)
    (m_len : mg "len" = none) (m_range : mg "range" = none) (m_int : mg "int" = none) : ∀ n, FnM P w K mg base "add_moves" (2 * n + 1) 3 (g_mv n)
  | 0 => A.noneM fun ds h Q E ⟨_, _, _, _, _, _, _, _, _, _, hd, _⟩ => by omega
  | n + 1 => by
    have ih := ok_addmoves A A2 A3 A4 m_len m_range m_int n
    exact ok_addmoves1 n A m_len (ok_addrow n A2 ih) (ok_addany n A3 m_len ih) (ok_addagain n A4 m_len m_range m_int ih)
end
end Cut
namespace Cut
open PySem L2 DL ML
local macro_rules | `(tactic| walk_at "m") => `(tactic| repeat (first | with_reducible refine ⟨_, rfl, ?_⟩ | refine ⟨_, rfl, ?_⟩ | refine ⟨rfl, ?_⟩ | refine ⟨_, _, rfl, rfl, ?_⟩ | refine ⟨_, _, rfl, ?_⟩ | refine iteT ?_ | refine iteF ?_ | refine ⟨⟨_, rfl⟩, ?_⟩ | refine ⟨Nat.le_of_ble_eq_true rfl, ?_⟩ | refine ⟨(by decide), ?_⟩ | refine ⟨_, ix_t0 _ _, ?_⟩ | refine ⟨_, ix_l0 _ _, ?_⟩))
abbrev s_closure : Stmt := top 10
abbrev N_closure : List Str := ["moves", "places", "found", "place", "waiting", "characters"]
theorem sc_closure : FnScope N_closure ["moves", "places"] (defScope s_closure) := ⟨rfl, rfl, rfl, by decide +kernel, rfl, by decide +kernel, by decide +kernel⟩
def mvD (M : Mvs) : D := .lst (M.map fun l => .lst (l.map edD))
def intsD (xs : List Nat) : List D := xs.map fun x => .int (x : Nat)
theorem intsD_map (xs : List Nat) : intsD xs = (xs.map fun x : Nat => (x : Int)).map D.int := by unfold intsD; rw [List.map_map]; rfl
def fdD (ks : List Nat) : List (Key × D) := ks.map fun (k : Nat) => ((Sum.inl (k : Int) : Key), D.bl true)
theorem fd_val (ks : List Nat) (k : Nat) : valD (fdD ks) (.inl (k : Int)) = if k ∈ ks then some (.bl true) else none := by
  induction ks with
  | nil => rfl
  | cons x xs ih =>
    show (if (Sum.inl (x : Int) : Key) = .inl (k : Int) then some (D.bl true) else valD (fdD xs) (.inl (k : Int))) = _
    by_cases h : x = k
    · subst h; simp
    · have h2 : ¬ (Sum.inl (x : Int) : Key) = .inl (k : Int) := fun z => h (by injection z with z; omega)
      rw [if_neg h2, ih]
      by_cases h3 : k ∈ xs
      · rw [if_pos h3, if_pos (List.mem_cons_of_mem _ h3)]
      · rw [if_neg h3, if_neg (fun z => by rcases List.mem_cons.mp z with z | z; exact h z.symm; exact h3 z)]
theorem fd_put (ks : List Nat) (k : Nat) : putKD (fdD ks) (.inl (k : Int)) (.bl true) = fdD (if k ∈ ks then ks else ks ++ [k]) := by
  by_cases h : k ∈ ks
  · rw [if_pos h]
    unfold putKD
    rw [valD_any, fd_val, if_pos h, if_pos (by rfl)]
    unfold fdD
    rw [List.map_map]
    refine List.map_congr_left fun x _ => ?_
    show (if (Sum.inl (x : Int) : Key) = .inl (k : Int) then _ else _) = _
    split <;> rfl
  · rw [if_neg h, putKD_new _ (by rw [fd_val, if_neg h])]
    unfold fdD
    rw [List.map_append]
    rfl
theorem fd_keys (ks : List Nat) : (fdD ks).map (·.1) = (ks.map fun k : Nat => (k : Int)).map Sum.inl := by unfold fdD; rw [List.map_map, List.map_map]; rfl
theorem fd_list (ks : List Nat) : (fdD ks).map (fun kv => keyB kv.1) = intsD ks := by unfold fdD intsD; rw [List.map_map]; rfl
theorem len_own {h : Hd} {a : Addr} {xs : List D} (e : h a = some (.lst xs)) : lenD ([rw1 a].map (vw h)) = some (.fz (.int (xs.length : Nat))) := by
  have e1 : vw h (.raw (.ref a)) = .lst xs := by
    show (match h a with | some (.lst xs) => D.lst xs | _ => D.raw (.ref a)) = _
    rw [e]
  show lenD [vw h (.raw (.ref a))] = _
  rw [e1]
  rfl
section
variable {P : Program} {w : World} {K : Fg} {mg : Str → Option Value} {base : Heap} {f : Addr} {fd : FuncData}
def g_clos : FM := fun ds h Q _ => ∃ M ps, ds = [mvD M, .lst (intsD ps)] ∧ (∀ p ∈ ps, p < M.length) ∧ (∀ p c q, EM M p c q → p < M.length ∧ q < M.length) ∧ tot M ≤ 15000 ∧ ps.length ≤ 15000 ∧ ∀ h', Le h h' → Q (.fz (.tup (intsD (clo M ps)))) h'
theorem ok_clos (A : At K mg "closure" ["moves", "places"] s_closure f fd) (m_len : mg "len" = none) (m_list : mg "list" = none) (m_tuple : mg "tuple" = none) (m_sorted : mg "sorted" = none) : FnM P w K mg base "closure" 1 2 g_clos := by
  refine A.fnM (okM (k := 0) A.fn sc_closure (by decide) (fun cdv A outer s H E hr tk po => (mss_cons (ms_setDc (i := 2) (own := [("place", 3)]) rfl sc_closure.nd rfl rfl (sw_dict rfl rfl rfl (by decide +kernel)) (mi_seq (me_v 1)) (blkOk_by (N := N_closure) (sc := defScope s_closure) (own := [("place", 3)]) (by decide +kernel)) (fun _ _ _ _ _ => (mg_n 3 sc_closure.nd rfl (by first | exact Or.inl rfl | exact Or.inr rfl))) (fun _ _ _ _ _ => mts_nil) (fun _ _ _ _ _ => (me_v 3)) (fun _ _ _ _ _ => me_bl))
      (mss_cons (ms_set 4 sc_closure.nd rfl (by first | exact Or.inl rfl | exact Or.inr rfl) (me_own (me_dlist rfl (by rfl) m_list (ma_cons (me_v 2) ma_nil))))
      (mss_cons (ms_while po (mt_gt (me_lenV (by rfl) m_len (ma_cons (me_v 4) ma_nil)) me_int) (mss_one (ms_for po rfl (mi_seq (me_ix (me_v 0) (me_pop (me_v 4)) (fun _ _ => rfl))) (mg_tup (n := 2) rfl (mgs_cons (mg_n 5 sc_closure.nd rfl (by first | exact Or.inl rfl | exact Or.inr rfl)) (mgs_cons (mg_n 3 sc_closure.nd rfl (by first | exact Or.inl rfl | exact Or.inr rfl)) mgs_nil))) (mss_one (ms_if (MW.mt (mw_and (mt_eq hr (me_v 5) me_str) (mw_and1 (mt_dnotin hr (me_v 3) (me_v 2))))) (mss_cons (ms_dput hr me_bl (me_v 2) (me_v 3))
      (mss_one (ms_expr (me_app (me_v 4) (ma_cons (me_v 3) ma_nil))))) mss_nil)))))
      (mss_one (ms_ret (me_tuple (by rfl) m_tuple (ma_cons (me_dsort rfl (by rfl) m_sorted (ma_cons (me_v 2) ma_nil)) ma_nil)))))))) ?_)
  rintro ds h Q E hl ⟨M, ps, rfl, hps, hE, ht, hpl, q⟩
  have hMl := tot_len M
  walk_at "m"
  intro d hd
  refine dcM_inv (fun ds h' => ∃ rs ks, ds = intsD rs ∧ h' = put h d (.dic (fdD ks)) ∧ ks.Nodup ∧ (∀ x, x ∈ ks ∨ x ∈ rs ↔ x ∈ ps) ∧ ks.length + rs.length ≤ 15000) _ _ ⟨ps, [], rfl, rfl, by simp, fun x => by simp, by simpa using hpl⟩ ?_ ?_
  · rintro x es h' R ⟨rs, ks, e, rfl, nd, hm, hc⟩ hR
    cases rs with
    | nil => cases e
    | cons r rs =>
      injection e with e1 e2
      subst e1 e2
      rw [List.length_cons] at hc
      walk_at "m"
      refine ⟨_, _, put_same, rfl, by unfold fdD; rw [List.length_map]; omega, ?_⟩
      dsimp only [dat_fz]
      rw [put_put, fd_put]
      refine hR _ ⟨rs, _, rfl, rfl, ?_, fun x => ?_, ?_⟩
      · split
        · exact nd
        · rename_i hn
          exact List.nodup_append.mpr ⟨nd, by simp, fun a ha b hb z => hn (by rw [← List.mem_singleton.mp hb, ← z]; exact ha)⟩
      · rw [← hm x]
        split
        · rename_i hn
          constructor
          · rintro (h | h)
            · exact .inl h
            · exact .inr (List.mem_cons_of_mem _ h)
          · rintro (h | h)
            · exact .inl h
            · rcases List.mem_cons.mp h with h | h
              · rw [h]; exact .inl hn
              · exact .inr h
        · simp only [List.mem_append, List.mem_cons, List.not_mem_nil, or_false]
          constructor
          · rintro ((h | h) | h)
            · exact .inl h
            · exact .inr (.inl h)
            · exact .inr (.inr h)
          · rintro (h | h | h)
            · exact .inl (.inl h)
            · exact .inl (.inr h)
            · exact .inr h
      · split
        · omega
        · rw [List.length_append, List.length_singleton]; omega
  rintro h' ⟨rs, ks, e, rfl, nd, hm, hc⟩
  cases rs with
  | cons _ _ => cases e
  | nil =>
    clear e hc
    have hm : ∀ x, x ∈ ks ↔ x ∈ ps := fun x => by rw [← hm x]; simp
    walk_at "m"
    refine ⟨d, _, rfl, put_same, _, rfl, fun b hb => ?_⟩
    have hbd : b ≠ d := fun z => by rw [z, put_same] at hb; cases hb
    rw [fd_list]
    have ndl : ∀ {ks : List Nat}, ks.Nodup → (∀ x ∈ ks, x < M.length ∧ ∃ p ∈ ps, Pth (EM M) p [] x) → ks.length ≤ M.length := fun {ks} nd hk => by
      have := nd.length_le_of_subset (l₂ := List.range M.length) fun x hx => List.mem_range.mpr (hk x hx).1
      rwa [List.length_range] at this
    refine ⟨fun n ρ h' => ∃ ks ws x3 x5, ρ = [some (mvD M), some (.lst (intsD ps)), some (rw1 d), x3, some (rw1 b), x5] ∧ h' = put (put h d (.dic (fdD ks))) b (.lst (intsD ws)) ∧ ks.Nodup ∧ (∀ x ∈ ks, x < M.length ∧ ∃ p ∈ ps, Pth (EM M) p [] x) ∧ (∀ p ∈ ps, p ∈ ks) ∧ (∀ x ∈ ws, x ∈ ks) ∧ (∀ x ∈ ks, x ∉ ws → ∀ q, EM M x [] q → q ∈ ks) ∧ ws.length + 2 * (M.length - ks.length) ≤ n ∧ ws.length ≤ ks.length,
      ⟨_, ks, ks, none, none, rfl, rfl, nd, fun x hx => ⟨hps x ((hm x).mp hx), x, (hm x).mp hx, .nil _⟩, fun p hp => (hm p).mpr hp, fun _ h => h, fun x hx hn => absurd hx hn, Nat.le_refl _, Nat.le_refl _⟩, ?_⟩
    rintro n ρ h' ⟨ks, ws, x3, x5, rfl, rfl, y1, y2, y3, y4, y5, y6, y7⟩
    have hkl := ndl y1 y2
    walk_at "m"
    refine ⟨_, len_own put_same, rfl, ?_⟩
    walk_at "m"
    have hwl : (intsD ws).length = ws.length := by unfold intsD; rw [List.length_map]
    refine ifd (p := 0 < ws.length) (by rw [hwl]; exact decide_eq_decide.mpr (by omega)) (fun hlt => ?_) (fun hlt => ?_)
    · obtain ⟨ws', x, rfl⟩ : ∃ ws' x, ws = ws' ++ [x] := ⟨ws.dropLast, ws.getLast (by intro z; rw [z] at hlt; simp at hlt), (List.dropLast_concat_getLast _).symm⟩
      have hx := y4 x (List.mem_append_right _ (List.mem_singleton.mpr rfl))
      obtain ⟨hxl, p0, hp0, hpx⟩ := y2 x hx
      rw [List.length_append, List.length_singleton] at y6 y7
      walk_at "m"
      refine ⟨b, intsD ws', .int (x : Nat), rfl, by rw [put_same]; unfold intsD; rw [List.map_append]; rfl, ?_⟩
      rw [put_put]
      have hat : ixD (mvD M) (.int (x : Nat)) = some (.fz (.lst ((M[x]).map edD))) := by
        refine ix_lst ?_
        rw [atI_get (by omega) (by rw [List.length_map]; omega), Int.toNat_natCast, List.getElem?_map, List.getElem?_eq_getElem hxl]
        rfl
      refine ⟨_, hat, _, rfl, ?_⟩
      refine loopM_inv (fun ds ρ h' => ∃ es ks' ws2 x3 x5, ds = es.map edD ∧ (∃ pre, M[x] = pre ++ es ∧ ∀ q, (Str.empty, q) ∈ pre → q ∈ ks') ∧ ρ = [some (mvD M), some (.lst (intsD ps)), some (rw1 d), x3, some (rw1 b), x5] ∧ h' = put (put h d (.dic (fdD ks'))) b (.lst (intsD ws2)) ∧ ks'.Nodup ∧ (∀ x ∈ ks', x < M.length ∧ ∃ p ∈ ps, Pth (EM M) p [] x) ∧ (∀ p ∈ ps, p ∈ ks') ∧ (∀ z ∈ ws2, z ∈ ks') ∧ (∀ z ∈ ks', z ∉ ws2 → z ≠ x → ∀ q, EM M z [] q → q ∈ ks') ∧ x ∈ ks' ∧ ws2.length + 2 * (M.length - ks'.length) + 1 ≤ n ∧ ws2.length + 1 ≤ ks'.length) _ _ _ ⟨M[x], ks, ws', x3, x5, rfl, ⟨[], rfl, fun q z => nomatch z⟩, rfl, rfl, y1, y2, y3, fun z hz => y4 z (List.mem_append_left _ hz), fun z hz hn hne => y5 z hz fun w => by rcases List.mem_append.mp w with w | w; exact hn w; exact hne (List.mem_singleton.mp w), hx, by omega, by omega⟩ ?_ ?_
      · rintro e es0 ρ h' R ⟨es, ks', ws2, x3, x5, e1, ⟨pre, hpre, hpe⟩, rfl, rfl, z1, z2, z3, z4, z5, z6, z7, z8⟩ hR
        cases es with
        | nil => cases e1
        | cons e2 es =>
          injection e1 with e3 e4
          subst e3 e4
          obtain ⟨t, qn⟩ := e2
          have hkl2 := ndl z1 z2
          have hmem : (t, qn) ∈ M[x] := by rw [hpre]; exact List.mem_append_right _ (List.mem_cons_self ..)
          have hEq : EM M x t.cps.toList qn := ⟨M[x], t, List.getElem?_eq_getElem hxl, hmem, rfl⟩
          have hpre2 : M[x] = (pre ++ [(t, qn)]) ++ es := by rw [hpre]; simp
          refine ⟨_, rfl, rfl, _, _, rfl, _, _, rfl, rfl, ?_⟩
          walk_at "m"
          refine ifd (p := t = Str.empty) (eqS_eq t "") (fun hte => ?_) (fun hte => ?_)
          · subst hte
            walk_at "m"
            refine ⟨d, _, _, rfl, by rw [put_ne (Ne.symm hbd)]; exact put_same, rfl, ?_⟩
            rw [fd_val]
            by_cases hin : qn ∈ ks'
            · rw [if_pos hin]
              refine ⟨_, rfl, iteF ?_⟩
              exact hR _ _ ⟨es, ks', ws2, _, _, rfl, ⟨pre ++ [(Str.empty, qn)], hpre2, fun q hq => by rcases List.mem_append.mp hq with hq | hq; exact hpe q hq; rw [show q = qn by injection List.mem_singleton.mp hq]; exact hin⟩, rfl, rfl, z1, z2, z3, z4, z5, z6, z7, z8⟩
            · rw [if_neg hin]
              refine ⟨_, rfl, iteT ?_⟩
              walk_at "m"
              refine ⟨d, _, _, rfl, by rw [put_ne (Ne.symm hbd)]; exact put_same, rfl, by unfold fdD; rw [List.length_map]; omega, ?_⟩
              dsimp only [dat_fz]
              rw [fd_put, if_neg hin]
              walk_at "m"
              refine ⟨b, _, rfl, by rw [put_ne hbd]; exact put_same, ?_⟩
              walk_at "m"
              refine ⟨_, _, by rw [put_ne hbd]; exact put_same, rfl, by unfold intsD; rw [List.length_map]; omega, ?_⟩
              have hq2 := hE _ _ _ hEq
              have hreach : ∃ p ∈ ps, Pth (EM M) p [] qn := ⟨p0, hp0, hpx.trans (.eps hEq (.nil _))⟩
              have hnd2 : (ks' ++ [qn]).Nodup := List.nodup_append.mpr ⟨z1, by simp, fun a ha c hc z => hin (by rw [← List.mem_singleton.mp hc, ← z]; exact ha)⟩
              have hall2 : ∀ x ∈ ks' ++ [qn], x < M.length ∧ ∃ p ∈ ps, Pth (EM M) p [] x := fun z hz => by
                rcases List.mem_append.mp hz with hz | hz
                · exact z2 z hz
                · rw [List.mem_singleton.mp hz]; exact ⟨hq2.2, hreach⟩
              have hk3 := ndl hnd2 hall2
              rw [List.length_append, List.length_singleton] at hk3
              refine hR _ _ ⟨es, ks' ++ [qn], ws2 ++ [qn], _, _, rfl, ⟨pre ++ [(Str.empty, qn)], hpre2, fun q hq => ?_⟩, rfl, ?_, hnd2, hall2, fun p hp => List.mem_append_left _ (z3 p hp), fun z hz => ?_, fun z hz hn hne q hq => ?_, List.mem_append_left _ z6, ?_, ?_⟩
              · rcases List.mem_append.mp hq with hq | hq
                · exact List.mem_append_left _ (hpe q hq)
                · rw [show q = qn by injection List.mem_singleton.mp hq]; exact List.mem_append_right _ (List.mem_singleton.mpr rfl)
              · rw [show intsD (ws2 ++ [qn]) = intsD ws2 ++ [.int (qn : Nat)] by unfold intsD; rw [List.map_append]; rfl]
                funext c
                unfold put
                by_cases hc1 : c = b
                · simp [hc1]
                · by_cases hc2 : c = d
                  · simp [hc2, Ne.symm hbd, hc1]
                  · simp [hc1, hc2]
              · rcases List.mem_append.mp hz with hz | hz
                · exact List.mem_append_left _ (z4 z hz)
                · exact List.mem_append_right _ hz
              · rcases List.mem_append.mp hz with hz | hz
                · exact List.mem_append_left _ (z5 z hz (fun w => hn (List.mem_append_left _ w)) hne q hq)
                · exact absurd (List.mem_append_right ws2 hz) hn
              · rw [List.length_append, List.length_append, List.length_singleton]; omega
              · rw [List.length_append, List.length_append, List.length_singleton]; omega
          · refine hR _ _ ⟨es, ks', ws2, _, _, rfl, ⟨pre ++ [(t, qn)], hpre2, fun q hq => ?_⟩, rfl, rfl, z1, z2, z3, z4, z5, z6, z7, z8⟩
            rcases List.mem_append.mp hq with hq | hq
            · exact hpe q hq
            · injection List.mem_singleton.mp hq with h1 h2
              exact absurd h1.symm hte
      · rintro ρ h' ⟨es, ks', ws2, x3, x5, e1, ⟨pre, hpre, hpe⟩, rfl, rfl, z1, z2, z3, z4, z5, z6, z7, z8⟩
        cases es with
        | cons _ _ => cases e1
        | nil =>
          rw [List.append_nil] at hpre
          refine ⟨n - 1, by omega, ks', ws2, x3, x5, rfl, rfl, z1, z2, z3, z4, fun z hz hn q hq => ?_, by omega, by omega⟩
          by_cases hzx : z = x
          · subst hzx
            obtain ⟨l, t, h1, h2, h3⟩ := hq
            rw [List.getElem?_eq_getElem hxl] at h1
            cases h1
            have : t = Str.empty := str_ext h3
            subst this
            exact hpe q (by rw [← hpre]; exact h2)
          · exact z5 z hz hn hzx q hq
    · have hw0 : ws = [] := by cases ws with
        | nil => rfl
        | cons _ _ => simp at hlt
      subst hw0
      walk_at "m"
      refine ⟨d, _, _, rfl, by rw [put_ne (Ne.symm hbd)]; exact put_same, fd_keys ks, fun ys hp hs => ?_⟩
      have hcl : ∀ {p q : Nat} {v : Tx}, Pth (EM M) p v q → v = [] → p ∈ ks → q ∈ ks := fun x => by
        induction x with
        | nil => intro _ h; exact h
        | eps z _ ih => intro e h; exact ih e (y5 _ h (by simp) _ z)
        | chr _ _ _ _ => intro e; cases e
      have e1 := sorted_rch (M := M) (R := fun x => ∃ p ∈ ps, Pth (EM M) p [] x) y1 (fun x => ⟨y2 x, fun ⟨_, p, hp, h⟩ => hcl h rfl (y3 p hp)⟩) hp hs
      subst e1
      walk_at "m"
      have e2 : ((rch M fun x => ∃ p ∈ ps, Pth (EM M) p [] x).map fun k : Nat => (k : Int)).map D.int = intsD (clo M ps) := by unfold clo; rw [intsD_map]
      rw [e2]
      refine q _ ?_
      intro c o hc
      rw [put_ne (fun z => by rw [← z, put_ne (hd_ne hc hd), hc] at hb; cases hb), put_ne (hd_ne hc hd)]
      exact hc
end
end Cut
namespace Cut
open PySem L2 DL ML
local macro_rules | `(tactic| walk_at "m") => `(tactic| repeat (first | with_reducible refine ⟨_, rfl, ?_⟩ | refine ⟨_, rfl, ?_⟩ | refine ⟨rfl, ?_⟩ | refine ⟨_, _, rfl, rfl, ?_⟩ | refine ⟨_, _, rfl, ?_⟩ | refine iteT ?_ | refine iteF ?_ | refine ⟨⟨_, rfl⟩, ?_⟩ | refine ⟨Nat.le_of_ble_eq_true rfl, ?_⟩ | refine ⟨(by decide), ?_⟩ | refine ⟨_, ix_t0 _ _, ?_⟩ | refine ⟨_, ix_l0 _ _, ?_⟩))
abbrev s_Matcher_init : Stmt := inClass (top 11) 0
abbrev N_Matcher_init : List Str := ["self", "pattern", "part"]
theorem sc_Matcher_init : FnScope N_Matcher_init ["self", "pattern"] (defScope s_Matcher_init) := ⟨rfl, rfl, rfl, by decide +kernel, rfl, by decide +kernel, by decide +kernel⟩
abbrev s_Matcher_begin : Stmt := inClass (top 11) 1
abbrev N_Matcher_begin : List Str := ["self", "part"]
theorem sc_Matcher_begin : FnScope N_Matcher_begin ["self"] (defScope s_Matcher_begin) := ⟨rfl, rfl, rfl, by decide +kernel, rfl, by decide +kernel, by decide +kernel⟩
abbrev s_Matcher_step : Stmt := inClass (top 11) 2
abbrev N_Matcher_step : List Str := ["self", "state", "character", "part", "one", "places", "characters", "place"]
theorem sc_Matcher_step : FnScope N_Matcher_step ["self", "state", "character"] (defScope s_Matcher_step) := ⟨rfl, rfl, rfl, by decide +kernel, rfl, by decide +kernel, by decide +kernel⟩
abbrev s_Matcher_accepts : Stmt := inClass (top 11) 3
abbrev N_Matcher_accepts : List Str := ["self", "state", "found", "part", "one"]
theorem sc_Matcher_accepts : FnScope N_Matcher_accepts ["self", "state"] (defScope s_Matcher_accepts) := ⟨rfl, rfl, rfl, by decide +kernel, rfl, by decide +kernel, by decide +kernel⟩
def pf (r : Rx) : List (Str × D) := [("word", .str "plain"), ("within", .lst []), ("moves", mvD (tab r)), ("goal", .int (gol r : Nat))]
def nf (w : Str) (ms : List D) : List (Str × D) := [("word", .str w), ("within", .lst ms), ("moves", .lst [.lst []]), ("goal", .int 0)]
mutual
def mtD (C : Addr) : Rx → D
  | .set s => .obj C (pf (.set s))
  | .row ps => .obj C (pf (.row ps))
  | .again p lo hi => .obj C (pf (.again p lo hi))
  | .any ps => if plain (.any ps) = true then .obj C (pf (.any ps)) else .obj C (nf "any" (mtL C ps))
  | .all ps => .obj C (nf "all" (mtL C ps))
  | .no p => .obj C (nf "not" [mtD C p])
def mtL (C : Addr) : List Rx → List D
  | [] => []
  | p :: ps => mtD C p :: mtL C ps
end
theorem mtL_map (C : Addr) : ∀ ps, mtL C ps = ps.map (mtD C)
  | [] => rfl
  | p :: ps => by rw [mtL, mtL_map C ps]; rfl
theorem mtD_plain {C : Addr} {r : Rx} (h : plain r = true) : mtD C r = .obj C (pf r) := by
  cases r with
  | set s => rw [mtD]
  | row ps => rw [mtD]
  | again p lo hi => rw [mtD]
  | any ps => rw [mtD, if_pos h]
  | all ps => rw [plain] at h; cases h
  | no p => rw [plain] at h; cases h
theorem mtD_not {C : Addr} {r : Rx} (h : plain r = false) (hh : hasP r = true) : mtD C r = .obj C (nf r.word (r.parts.map (mtD C))) ∧ eqS r.word "plain" = false := by
  cases r with
  | set s => rw [plain] at h; cases h
  | row ps => rw [plain] at h; rw [hasP, h] at hh; cases hh
  | again p lo hi => rw [plain] at h; rw [hasP, h] at hh; cases hh
  | any ps => rw [mtD, if_neg (by rw [h]; decide), mtL_map]; exact ⟨rfl, by show eqS "any" "plain" = false; rw [eqS_eq]; decide +kernel⟩
  | all ps => rw [mtD, mtL_map]; exact ⟨rfl, by show eqS "all" "plain" = false; rw [eqS_eq]; decide +kernel⟩
  | no p => rw [mtD]; exact ⟨rfl, by show eqS "not" "plain" = false; rw [eqS_eq]; decide +kernel⟩
theorem fzl_rows {h : Hd} {A : Addr → Prop} : ∀ {as : List Addr} {M : Mvs}, as.length = M.length → (∀ (i : Nat) (a : Addr) (l : List (Str × Nat)), as[i]? = some a → M[i]? = some l → h a = some (.lst (l.map edD))) → (∀ a ∈ as, A a) → FzL h A (as.map rw1) (M.map fun l => .lst (l.map edD))
  | [], [], _, _, _ => .nil
  | [], _ :: _, h, _, _ => by simp at h
  | _ :: _, [], h, _, _ => by simp at h
  | a :: as, l :: M, h1, h2, h3 => .cons (.lst (h2 0 a l rfl rfl) (h3 a (List.mem_cons_self ..)) (FzL.same _)) (fzl_rows (by simpa using h1) (fun i b k q1 q2 => h2 (i + 1) b k (by simpa using q1) (by simpa using q2)) fun b hb => h3 b (List.mem_cons_of_mem _ hb))
theorem MvO.fz {h : Hd} {A : Addr → Prop} {m : Addr} {as : List Addr} {M : Mvs} (x : MvO h m as M) (hm : A m) (ha : ∀ a ∈ as, A a) : Fz h A (rw1 m) (mvD M) := .lst x.top hm (fzl_rows x.len x.row ha)
theorem _root_.ML.AtI.noneI {P : Program} {w : World} {K : Fg} {mg : Str → Option Value} {base : Heap} {C : Addr} {x qual : Str} {ps : List Str} {st : Stmt} {f : Addr} {fd : FuncData} {k n : Nat} {g : FM} (A : AtI K mg C x qual ps st f fd) (h : ∀ ds hd Q E, ¬ g ds hd Q E) : MkM P w K mg base x C k n g :=
  A.mkM ⟨fun vs H Q E ⟨_, _, ds, P, PE, _, _, _, hg, _⟩ => absurd hg (h ds _ P PE), fun _ _ _ _ _ _ _ _ _ _ _ _ _ ⟨_, _, ds, P, PE, _, _, _, hg, _⟩ => absurd hg (h ds _ P PE)⟩
section
variable {P : Program} {w : World} {K : Fg} {mg : Str → Option Value} {base : Heap} {f : Addr} {fd : FuncData} {CM : Addr}
def g_Minit (CM : Addr) (n : Nat) : FM := fun ds h Q _ => ∃ a r, ds = [rw1 a, toD r] ∧ h a = some (.ins CM []) ∧ okR r = true ∧ hasP r = true ∧ rdep r < n ∧ n ≤ 25 ∧ costA r ≤ 14000 ∧ ∀ h' A, Fz h' A (rw1 a) (mtD CM r) → (∀ b o, h b = some o → b ≠ a → h' b = some o ∧ ¬ A b) → Q (.fz .non) h'
theorem make_matcher {n : Nat} {ω : Wω} {ρ : Me} {h : Hd} {τs : TMA} {P : Res → Hd → Prop} {r : Rx} (ho : okR r = true) (hh : hasP r = true) (hd : rdep r < n) (hn : n ≤ 25) (hc : costA r ≤ 14000) (q : P (.fz (mtD CM r)) h) (hs : ∀ k : List D → Hd → Prop, k [toD r] h → τs ω ρ h k) : mFz (mMake CM (g_Minit CM n) τs) ω ρ h P := by
  refine hs _ ?_
  intro a ha
  refine ⟨a, r, rfl, put_same, ho, hh, hd, hn, hc, fun h' A f k => ⟨rfl, A, _, h, f, fun b o q => ?_, q⟩⟩
  exact k b o (by rw [put_ne (hd_ne q ha)]; exact q) (hd_ne q ha)
theorem ok_Minit1 (n : Nat) (A : AtI K mg CM "Matcher" "Matcher.__init__" ["self", "pattern"] s_Matcher_init f fd) (f_Matcher_word : Fo K CM "word") (f_Matcher_within : Fo K CM "within") (f_Matcher_moves : Fo K CM "moves") (f_Matcher_goal : Fo K CM "goal")
    (c_is_plain : Fn0 P w K mg base "is_plain" 26 1 (g_is_plain 25)) (c_parts_of : Fn0 P w K mg base "parts_of" 1 1 g_parts_of) (c_add_moves : FnM P w K mg base "add_moves" 51 3 (g_mv 25)) (c_Matcher : MkM P w K mg base "Matcher" CM (52 + 2 * n) 2 (g_Minit CM n)) : MkM P w K mg base "Matcher" CM (52 + 2 * (n + 1)) 2 (g_Minit CM (n + 1)) := by
  refine A.mkM (okM (k := 52 + 2 * n + 1) A.fn sc_Matcher_init (by decide) (fun cdv A outer s H E hr tk po => (mss_cons (ms_fld f_Matcher_word (me_v 0) (me_if (mt_val (me_c0 c_is_plain (hr.mono (by omega)) (by rfl) (ma_cons (me_v 1) ma_nil))) me_str (me_ix (me_v 1) me_int (fun _ _ => rfl))))
      (mss_cons (ms_fld f_Matcher_within (me_v 0) (me_lst ma_nil))
      (mss_cons (ms_fld f_Matcher_moves (me_v 0) (me_own (me_lst (ma_cons (me_own (me_lst ma_nil)) ma_nil))))
      (mss_cons (ms_fld f_Matcher_goal (me_v 0) me_int)
      (mss_one (ms_if (mt_eq hr (me_fld f_Matcher_word (me_v 0)) me_str) (mss_one (ms_fld f_Matcher_goal (me_v 0) (me_cM c_add_moves tk (hr.mono (by omega)) (by rfl) (ma_cons (me_fld f_Matcher_moves (me_v 0)) (ma_cons me_int (ma_cons (me_v 1) ma_nil)))))) (mss_one (ms_fld f_Matcher_within (me_v 0) (me_lc (own := [("part", 2)]) rfl sc_Matcher_init.nd (mi_seq (me_c0 c_parts_of (hr.mono (by omega)) (by rfl) (ma_cons (me_v 1) ma_nil))) (blkOk_by (N := N_Matcher_init) (sc := defScope s_Matcher_init) (own := [("part", 2)]) (by decide +kernel)) (fun _ _ _ _ _ => (mg_n 2 sc_Matcher_init.nd rfl (by first | exact Or.inl rfl | exact Or.inr rfl))) (fun _ _ _ _ _ => mts_nil) (fun _ _ _ _ _ => (me_fz (me_mk c_Matcher takes0 (hr.mono (by omega)) (by rfl) (ma_cons (me_v 2) ma_nil)))))))))))))) ?_)
  rintro ds h Q E hl ⟨a, r, rfl, ha, ho, hh, hd, hn, hc, q⟩
  have pre : ∀ (W : Str) (rest : TMS) (PD : MEnds), (∀ h1 m a0, h1 a = some (.ins CM [("word", .str W), ("within", .lst []), ("moves", rw1 m), ("goal", .int 0)]) → MvO h1 m [a0] [[]] → a ≠ m → a ≠ a0 → (∀ b o, h b = some o → b ≠ a → h1 b = some o ∧ b ≠ m ∧ b ≠ a0) → rest (fun x _ h => E x h) PD [some (rw1 a), some (toD r), none] h1) →
      mSeq (mFldS CM "within" (mV 0) (mLst mANil)) (mSeq (mFldS CM "moves" (mV 0) (mOwn (mLst (mACons (mOwn (mLst mANil)) mANil)))) (mSeq (mFldS CM "goal" (mV 0) (mK (.int 0))) rest)) (fun x _ h => E x h) PD [some (rw1 a), some (toD r), none] (put h a (.ins CM [("word", .str W)])) := by
    intro W rest PD fin
    refine ⟨by show 0 ≤ 16000; decide, _, rfl, a, _, rfl, put_same, Nat.le_of_ble_eq_true rfl, ?_⟩
    rw [put_put]
    refine ⟨by show 0 ≤ 16000; decide, _, rfl, fun a0 ha0 => ⟨by show 1 ≤ 16000; decide, _, rfl, fun m hm => ?_⟩⟩
    have h1 : a0 ≠ a := fun z => by rw [z, put_same] at ha0; cases ha0
    have h2 : m ≠ a0 := fun z => by rw [z, put_same] at hm; cases hm
    have h3 : m ≠ a := fun z => by rw [z, put_ne (Ne.symm h1), put_same] at hm; cases hm
    refine ⟨_, rfl, a, _, rfl, by rw [put_ne (Ne.symm h3), put_ne (Ne.symm h1)]; exact put_same, Nat.le_of_ble_eq_true rfl, ?_⟩
    refine ⟨_, rfl, a, _, rfl, put_same, Nat.le_of_ble_eq_true rfl, ?_⟩
    rw [put_put]
    refine fin _ m a0 put_same ⟨?_, rfl, fun i b l g1 g2 => ?_, by simpa using h2, by simp⟩ (Ne.symm h3) (Ne.symm h1) fun b o hb hba => ?_
    · rw [put_ne h3]; exact put_same
    · have e1 := List.mem_singleton.mp (List.mem_of_getElem? g1)
      have e2 := List.mem_singleton.mp (List.mem_of_getElem? g2)
      rw [e1, e2, put_ne h1, put_ne (Ne.symm h2)]
      exact put_same
    · have b0 : b ≠ a0 := fun z => by rw [← z, put_ne hba, hb] at ha0; cases ha0
      have b1 : b ≠ m := fun z => by rw [← z, put_ne b0, put_ne hba, hb] at hm; cases hm
      exact ⟨by rw [put_ne hba, put_ne b1, put_ne b0, put_ne hba]; exact hb, b1, b0⟩
  walk_at "m"
  refine ⟨ho, by omega, ?_⟩
  cases hpl : plain r with
  | true =>
    refine ⟨_, rfl, iteT ?_⟩
    refine ⟨_, rfl, a, _, rfl, ha, by decide, ?_⟩
    refine pre "plain" _ _ fun h1 m a0 k1 k2 k3 k4 k5 => ?_
    walk_at "m"
    refine ⟨_, _, .inl ⟨a, rfl, k1⟩, rfl, ?_⟩
    walk_at "m"
    refine ifT (word_eq _) ?_
    walk_at "m"
    refine ⟨_, _, .inl ⟨a, rfl, k1⟩, rfl, ?_⟩
    walk_at "m"
    have hcc := costA_plain hpl
    refine ⟨m, [a0], [[]], 0, r, rfl, k2, by decide, hpl, ho, by omega, by show 1 + 0 + _ ≤ 15000; omega, fun h2 as2 y1 y2 => ?_⟩
    have ka : h2 a = _ := y2.fr a _ k1 k3 (by simpa using k4)
    refine ⟨_, rfl, a, _, rfl, ka, Nat.le_of_ble_eq_true rfl, ?_⟩
    have kas : a ∉ as2 := fun z => by
      rcases y2.nw a z with z | z
      · exact k4 (List.mem_singleton.mp z)
      · rw [k1] at z; cases z
    refine q _ (fun b => b = a ∨ b = m ∨ b ∈ as2) ?_ fun b o hb hba => ?_
    · rw [mtD_plain hpl]
      refine .ins put_same (.inl rfl) (.cons (.same _) (.cons (.same _) (.cons ?_ (.cons (.same _) .nil))))
      exact (y1.apart ⟨k3, kas⟩).fz (.inr (.inl rfl)) fun b hb => .inr (.inr hb)
    · obtain ⟨z1, z2, z3⟩ := k5 b o hb hba
      refine ⟨by rw [put_ne hba]; exact y2.fr b o z1 z2 (by simpa using z3), ?_⟩
      rintro (z | z | z)
      · exact hba z
      · exact z2 z
      · rcases y2.nw b z with z | z
        · exact z3 (List.mem_singleton.mp z)
        · rw [z1] at z; cases z
  | false =>
    obtain ⟨e1, e2⟩ := mtD_not (C := CM) hpl hh
    refine ⟨_, rfl, iteF ?_⟩
    refine ⟨_, rfl, _, by rw [toD_eq]; exact ix_t0 _ _, _, rfl, a, _, rfl, ha, by decide, ?_⟩
    refine pre r.word _ _ fun h1 m a0 k1 k2 k3 k4 k5 => ?_
    walk_at "m"
    refine ⟨_, _, .inl ⟨a, rfl, k1⟩, rfl, ?_⟩
    walk_at "m"
    refine ifF e2 ?_
    walk_at "m"
    rw [toDL_map]
    have hps : r.parts.length ≤ 9999 := okR_len ho
    refine lcM_map (φ := toD) (f := mtD CM) r.parts (fun p hp R z => ?_) (by omega) ?_
    · obtain ⟨c1, c2⟩ := costA_parts hpl hh p hp
      show mFz (mMake CM (g_Minit CM n) (mACons (mV 2) mANil)) ωF _ h1 fun r h2 => R r.dat h2
      refine make_matcher (P := fun r h2 => R r.dat h2) (okR_parts ho p hp) c2 (rdep_parts hd (fun z => by rw [z] at hp; cases hp) p hp) (by omega) (by omega) z fun k hk => ⟨_, rfl, hk⟩
    refine ⟨_, rfl, a, _, rfl, k1, Nat.le_of_ble_eq_true rfl, ?_⟩
    refine q _ (fun b => b = a ∨ b = m ∨ b = a0) ?_ fun b o hb hba => ?_
    · rw [e1]
      refine .ins put_same (.inl rfl) (.cons (.same _) (.cons (.same _) (.cons ?_ (.cons (.same _) .nil))))
      exact (k2.apart ⟨k3, by simpa using k4⟩).fz (.inr (.inl rfl)) fun b hb => .inr (.inr (List.mem_singleton.mp hb))
    · obtain ⟨z1, z2, z3⟩ := k5 b o hb hba
      refine ⟨by rw [put_ne hba]; exact z1, ?_⟩
      rintro (z | z | z)
      · exact hba z
      · exact z2 z
      · exact z3 z
theorem ok_Minit (A : AtI K mg CM "Matcher" "Matcher.__init__" ["self", "pattern"] s_Matcher_init f fd) (f_Matcher_word : Fo K CM "word") (f_Matcher_within : Fo K CM "within") (f_Matcher_moves : Fo K CM "moves") (f_Matcher_goal : Fo K CM "goal")
    (c_is_plain : Fn0 P w K mg base "is_plain" 26 1 (g_is_plain 25)) (c_parts_of : Fn0 P w K mg base "parts_of" 1 1 g_parts_of) (c_add_moves : FnM P w K mg base "add_moves" 51 3 (g_mv 25)) : ∀ n, MkM P w K mg base "Matcher" CM (52 + 2 * n) 2 (g_Minit CM n)
  | 0 => A.noneI fun ds h Q E ⟨_, _, _, _, _, _, hd, _⟩ => by omega
  | n + 1 => ok_Minit1 n A f_Matcher_word f_Matcher_within f_Matcher_moves f_Matcher_goal c_is_plain c_parts_of c_add_moves (ok_Minit A f_Matcher_word f_Matcher_within f_Matcher_moves f_Matcher_goal c_is_plain c_parts_of c_add_moves n)
end
end Cut
namespace Cut
open PySem L2 DL ML
local macro_rules | `(tactic| walk_at "m") => `(tactic| repeat (first | with_reducible refine ⟨_, rfl, ?_⟩ | refine ⟨_, rfl, ?_⟩ | refine ⟨rfl, ?_⟩ | refine ⟨_, _, rfl, rfl, ?_⟩ | refine ⟨_, _, rfl, ?_⟩ | refine iteT ?_ | refine iteF ?_ | refine ⟨⟨_, rfl⟩, ?_⟩ | refine ⟨Nat.le_of_ble_eq_true rfl, ?_⟩ | refine ⟨(by decide), ?_⟩ | refine ⟨_, ix_t0 _ _, ?_⟩ | refine ⟨_, ix_l0 _ _, ?_⟩))
mutual
noncomputable def sta : Rx → Tx → D
  | .set s, w => .tup (intsD (run (tab (.set s)) w))
  | .row ps, w => .tup (intsD (run (tab (.row ps)) w))
  | .again p lo hi, w => .tup (intsD (run (tab (.again p lo hi)) w))
  | .any ps, w => if plain (.any ps) = true then .tup (intsD (run (tab (.any ps)) w)) else .tup (staL ps w)
  | .all ps, w => .tup (staL ps w)
  | .no p, w => .tup [sta p w]
noncomputable def staL : List Rx → Tx → List D
  | [], _ => []
  | p :: ps, w => sta p w :: staL ps w
end
theorem staL_map (w : Tx) : ∀ ps, staL ps w = ps.map fun p => sta p w
  | [] => rfl
  | p :: ps => by rw [staL, staL_map w ps]; rfl
theorem sta_plain {r : Rx} (h : plain r = true) (w : Tx) : sta r w = .tup (intsD (run (tab r) w)) := by
  cases r with
  | set s => rw [sta]
  | row ps => rw [sta]
  | again p lo hi => rw [sta]
  | any ps => rw [sta, if_pos h]
  | all ps => rw [plain] at h; cases h
  | no p => rw [plain] at h; cases h
theorem sta_not {r : Rx} (h : plain r = false) (hh : hasP r = true) (w : Tx) : sta r w = .tup (r.parts.map fun p => sta p w) := by
  cases r with
  | set s => rw [plain] at h; cases h
  | row ps => rw [plain] at h; rw [hasP, h] at hh; cases hh
  | again p lo hi => rw [plain] at h; rw [hasP, h] at hh; cases hh
  | any ps => rw [sta, if_neg (by rw [h]; decide), staL_map]; rfl
  | all ps => rw [sta, staL_map]; rfl
  | no p => rw [sta]; rfl
theorem zip_maps {α : Type} (f g : α → D) : ∀ l : List α, zipD (l.map f) (l.map g) = l.map fun x => .tup [f x, g x]
  | [] => rfl
  | x :: l => by rw [List.map_cons, List.map_cons, zipD, zip_maps f g l]; rfl
theorem in_nats (g : Nat) (xs : List Nat) : inD (.int (g : Nat)) (.tup (intsD xs)) = some (.fz (.bl (decide (g ∈ xs)))) := by
  rw [intsD_map]
  have h := in_ints (g : Nat) (xs.map fun x : Nat => (x : Int))
  have e : inD (.int (g : Nat)) (.tup ((xs.map fun x : Nat => (x : Int)).map D.int)) = inD (.int (g : Nat)) (.lst ((xs.map fun x : Nat => (x : Int)).map D.int)) := rfl
  rw [e, h]
  congr 3
  refine decide_eq_decide.mpr ⟨fun z => ?_, fun z => List.mem_map.mpr ⟨g, z, rfl⟩⟩
  obtain ⟨x, hx, e⟩ := List.mem_map.mp z
  have : x = g := by omega
  rw [← this]; exact hx
structure MOk (r : Rx) (n : Nat) : Prop where
  ok : okR r = true
  hp : hasP r = true
  dp : rdep r < n
  ct : costA r ≤ 14000
theorem MOk.parts {r : Rx} {n : Nat} (x : MOk r (n + 1)) (h : plain r = false) : ∀ p ∈ r.parts, MOk p n := fun p hp => by
  obtain ⟨c1, c2⟩ := costA_parts h x.hp p hp
  have := x.ct
  exact ⟨okR_parts x.ok p hp, c2, rdep_parts x.dp (fun z => by rw [z] at hp; cases hp) p hp, by omega⟩
theorem MOk.tab {r : Rx} {n : Nat} (x : MOk r n) (h : plain r = true) : tot (tab r) ≤ 14500 ∧ gol r < (tab r).length ∧ 0 < (tab r).length ∧ ∀ p c q, EM (tab r) p c q → p < (tab r).length ∧ q < (tab r).length := by
  have h1 := addM_tot r [[]] 0
  have h2 := costA_plain h
  have h3 := x.ct
  have h4 : tot [[]] = 1 := rfl
  obtain ⟨h5, h6, h7⟩ := tab_lt h x.ok
  exact ⟨by unfold Cut.tab; omega, h5, h6, h7⟩
section
variable {P : Program} {w : World} {K : Fg} {mg : Str → Option Value} {base : Heap} {f : Addr} {fd : FuncData} {CM : Addr}
def g_closE : FM := fun ds h Q _ => ∃ M ps, ds = [mvD M, .lst (intsD ps)] ∧ (∀ p ∈ ps, p < M.length) ∧ (∀ p c q, EM M p c q → p < M.length ∧ q < M.length) ∧ tot M ≤ 15000 ∧ ps.length ≤ 15000 ∧ Q (.fz (.tup (intsD (clo M ps)))) h
theorem clos_E (c : FnM P w K mg base "closure" 1 2 g_clos) : FnM P w K mg base "closure" 1 2 g_closE := c.less fun ds h P E ⟨M, ps, e, a1, a2, a3, a4, q⟩ => ⟨M, ps, e, a1, a2, a3, a4, fun h' l => ⟨h, l, q⟩⟩
def g_begin (CM : Addr) (n : Nat) : FM := fun ds h Q _ => ∃ r, ds = [mtD CM r] ∧ MOk r n ∧ Q (.fz (sta r [])) h
theorem ok_begin (A : AtM K CM "begin" "Matcher.begin" ["self"] s_Matcher_begin f fd) (f_Matcher_word : Fo K CM "word") (f_Matcher_within : Fo K CM "within") (f_Matcher_moves : Fo K CM "moves") (m_tuple : mg "tuple" = none) (c_closure : FnM P w K mg base "closure" 1 2 g_closE) : ∀ n, MthM P w K mg base CM "begin" (2 + n) 1 (g_begin CM n)
  | 0 => A.none fun ds h Q E ⟨_, _, x, _⟩ => by have := x.dp; omega
  | n + 1 => by
    have c_Matcher_begin := ok_begin A f_Matcher_word f_Matcher_within f_Matcher_moves m_tuple c_closure n
    refine A.mth (okM (k := 2 + n) A.fn sc_Matcher_begin (by decide) (fun cdv A outer s H E hr tk po => (mss_cons (ms_if (mt_eq hr (me_fld f_Matcher_word (me_v 0)) me_str) (mss_one (ms_ret (me_cM c_closure tk (hr.mono (by omega)) (by rfl) (ma_cons (me_fld f_Matcher_moves (me_v 0)) (ma_cons (me_lst (ma_cons me_int ma_nil)) ma_nil))))) mss_nil)
      (mss_one (ms_ret (me_tuple (by rfl) m_tuple (ma_cons (me_lc (own := [("part", 1)]) rfl sc_Matcher_begin.nd (mi_seq (me_fld f_Matcher_within (me_v 0))) (blkOk_by (N := N_Matcher_begin) (sc := defScope s_Matcher_begin) (own := [("part", 1)]) (by decide +kernel)) (fun _ _ _ _ _ => (mg_n 1 sc_Matcher_begin.nd rfl (by first | exact Or.inl rfl | exact Or.inr rfl))) (fun _ _ _ _ _ => mts_nil) (fun _ _ _ _ _ => (me_mM0 c_Matcher_begin takes0 (hr.mono (by omega)) (me_v 1)))) ma_nil)))))) ?_)
    rintro ds h Q E hl ⟨r, rfl, x, q⟩
    cases hpl : plain r with
    | true =>
      obtain ⟨t1, t2, t3, t4⟩ := x.tab hpl
      rw [mtD_plain hpl]
      rw [sta_plain hpl, ← run_nil] at q
      walk_at "m"
      refine ⟨_, _, .inr rfl, rfl, ?_⟩
      walk_at "m"
      refine ifT (word_eq _) ?_
      walk_at "m"
      refine ⟨_, _, .inr rfl, rfl, ?_⟩
      walk_at "m"
      exact ⟨tab r, [0], rfl, fun p hp => by rw [List.mem_singleton.mp hp]; exact t3, t4, by omega, by show 1 ≤ 15000; decide, q⟩
    | false =>
      obtain ⟨e1, e2⟩ := mtD_not (C := CM) hpl x.hp
      rw [e1]
      rw [sta_not hpl x.hp] at q
      have hps := okR_len x.ok
      walk_at "m"
      refine ⟨_, _, .inr rfl, rfl, ?_⟩
      walk_at "m"
      refine ifF e2 ?_
      walk_at "m"
      refine ⟨_, _, .inr rfl, rfl, ?_⟩
      walk_at "m"
      refine lcM_map (φ := mtD CM) (f := fun p => sta p []) r.parts (fun p hp R z => ?_) (by omega) ?_
      · have y := x.parts hpl p hp
        have hm : ∃ fs, isI h (mtD CM p) CM fs ∧ fs.lookup ("begin" : Str) = none := by
          cases hp2 : plain p with
          | true => exact ⟨_, .inr (mtD_plain hp2), rfl⟩
          | false => exact ⟨_, .inr (mtD_not hp2 y.hp).1, rfl⟩
        refine ⟨_, rfl, hm, ?_⟩
        exact ⟨p, rfl, y, z⟩
      · walk_at "m"
        exact q
end
end Cut
namespace Cut
open PySem L2 DL ML
local macro_rules | `(tactic| walk_at "m") => `(tactic| repeat (first | with_reducible refine ⟨_, rfl, ?_⟩ | refine ⟨_, rfl, ?_⟩ | refine ⟨rfl, ?_⟩ | refine ⟨_, _, rfl, rfl, ?_⟩ | refine ⟨_, _, rfl, ?_⟩ | refine iteT ?_ | refine iteF ?_ | refine ⟨⟨_, rfl⟩, ?_⟩ | refine ⟨Nat.le_of_ble_eq_true rfl, ?_⟩ | refine ⟨(by decide), ?_⟩ | refine ⟨_, ix_t0 _ _, ?_⟩ | refine ⟨_, ix_l0 _ _, ?_⟩))
theorem is_mt (h : Hd) (CM : Addr) {r : Rx} (hp : hasP r = true) {m : Str} (hm : (pf r).lookup m = none ∧ ∀ w ms, (nf w ms).lookup m = none) : ∃ fs, isI h (mtD CM r) CM fs ∧ fs.lookup m = none := by
  cases hp2 : plain r with
  | true => exact ⟨_, .inr (mtD_plain hp2), hm.1⟩
  | false => exact ⟨_, .inr (mtD_not hp2 hp).1, hm.2 _ _⟩
section
variable {P : Program} {w : World} {K : Fg} {mg : Str → Option Value} {base : Heap} {f : Addr} {fd : FuncData} {CM : Addr}
theorem lc2_stp {M : Mvs} {c : Nat} {fs : List (Str × D)} {st : D} {x3 x5 : Option D} {h : Hd} {P : List D → Hd → Prop} (hM2 : fs.lookup ("moves" : Str) = some (mvD M)) : ∀ (xs : List Nat) (acc : List D), (∀ x ∈ xs, x < M.length) → acc.length + lens M xs ≤ 16000 → P (acc ++ intsD (stp M xs c)) h →
    lc2M (gM 4) mYes (mSeqI (mBin ixD (mFld CM "moves" (mV 0)) (mV 4))) (gTupM 2 (gConsM (gM 6) (gConsM (gM 7) gNilM))) (mAndT (mT (mBin neD (mV 6) (mK (.str "")))) (mT (mBin inD (mV 2) (mV 6)))) (mV 7) [6, 7] [some (.obj CM fs), some st, some (.str ⟨#[c]⟩), x3, none, x5, none, none] P (intsD xs) h acc
  | [], acc, _, _, q => by
    have e : intsD (stp M [] c) = [] := rfl
    rw [e, List.append_nil] at q
    exact q
  | x :: xs, acc, hx, hlen, q => by
    have hxl := hx x (List.mem_cons_self ..)
    have hat : ixD (mvD M) (.int (x : Nat)) = some (.fz (.lst ((M[x]).map edD))) := by
      refine ix_lst ?_
      rw [atI_get (by omega) (by rw [List.length_map]; omega), Int.toNat_natCast, List.getElem?_map, List.getElem?_eq_getElem hxl]
      rfl
    have hgd : M.getD x [] = M[x] := by rw [List.getD_eq_getElem?_getD, List.getElem?_eq_getElem hxl]; rfl
    have hlens : lens M (x :: xs) = M[x].length + lens M xs := by unfold lens; rw [List.map_cons, List.sum_cons, hgd]
    have hstp : stp M (x :: xs) c = ((M[x]).filter fun e => decide (e.1 ≠ Str.empty) && decide (c ∈ e.1.cps.toList)).map (·.2) ++ stp M xs c := by unfold stp; rw [List.flatMap_cons, hgd]
    refine ⟨_, rfl, fs, _, .inr rfl, hM2, _, rfl, _, hat, _, rfl, ?_⟩
    refine lcM_pure (φ := edD) (b := fun e => decide (e.1 ≠ Str.empty) && decide (c ∈ e.1.cps.toList)) (f := fun e => .int (e.2 : Nat)) M[x] acc (fun e he R1 R2 z1 z2 => ?_) (by omega) ?_
    · refine ⟨_, rfl, rfl, _, _, rfl, _, _, rfl, rfl, ?_⟩
      refine ⟨_, rfl, _, ne_str e.1 Str.empty, _, rfl, ?_⟩
      refine ifd (p := e.1 ≠ Str.empty) rfl (fun hne => ?_) (fun hne => ?_)
      · refine ⟨_, rfl, _, rfl, _, rfl, _, rfl, ?_⟩
        refine ifd (p := c ∈ e.1.cps.toList) rfl (fun hc => ?_) (fun hc => ?_)
        · exact ⟨_, rfl, z1 (by rw [decide_eq_true hne, decide_eq_true hc]; rfl)⟩
        · exact z2 (by rw [decide_eq_false hc, Bool.and_false])
      · refine iteF ?_
        exact z2 (by rw [decide_eq_false hne, Bool.false_and])
    · refine lc2_stp hM2 xs _ (fun y hy => hx y (List.mem_cons_of_mem _ hy)) ?_ ?_
      · rw [List.length_append, List.length_map]
        have := List.length_filter_le (fun e : Str × Nat => decide (e.1 ≠ Str.empty) && decide (c ∈ e.1.cps.toList)) M[x]
        omega
      · rw [hstp] at q
        unfold intsD at q ⊢
        rw [List.map_append, List.map_map] at q
        rw [List.append_assoc]
        exact q
def g_step (CM : Addr) (n : Nat) : FM := fun ds h Q _ => ∃ r w c, ds = [mtD CM r, sta r w, .str ⟨#[c]⟩] ∧ MOk r n ∧ Q (.fz (sta r (w ++ [c]))) h
theorem stp_len (M : Mvs) (xs : List Nat) (c : Nat) : (stp M xs c).length ≤ lens M xs := by
  induction xs with
  | nil => exact Nat.le_refl _
  | cons x xs ih =>
    unfold stp lens at *
    rw [List.flatMap_cons, List.length_append, List.map_cons, List.sum_cons, List.length_map]
    have := List.length_filter_le (fun e : Str × Nat => decide (e.1 ≠ Str.empty) && decide (c ∈ e.1.cps.toList)) (M.getD x [])
    omega
theorem ok_step (A : AtM K CM "step" "Matcher.step" ["self", "state", "character"] s_Matcher_step f fd) (f_Matcher_word : Fo K CM "word") (f_Matcher_within : Fo K CM "within") (f_Matcher_moves : Fo K CM "moves") (m_tuple : mg "tuple" = none) (m_zip : mg "zip" = none) (c_closure : FnM P w K mg base "closure" 1 2 g_closE) : ∀ n, MthM P w K mg base CM "step" (2 + n) 3 (g_step CM n)
  | 0 => A.none fun ds h Q E ⟨_, _, _, _, x, _⟩ => by have := x.dp; omega
  | n + 1 => by
    have c_Matcher_step := ok_step A f_Matcher_word f_Matcher_within f_Matcher_moves m_tuple m_zip c_closure n
    refine A.mth (okM (k := 2 + n) A.fn sc_Matcher_step (by decide) (fun cdv A outer s H E hr tk po => (mss_cons (ms_if (mt_ne hr (me_fld f_Matcher_word (me_v 0)) me_str) (mss_one (ms_ret (me_tuple (by rfl) m_tuple (ma_cons (me_lc (own := [("part", 3), ("one", 4)]) rfl sc_Matcher_step.nd (mi_zipX (by rfl) m_zip (ma_cons (me_fld f_Matcher_within (me_v 0)) (ma_cons (me_v 1) ma_nil))) (blkOk_by (N := N_Matcher_step) (sc := defScope s_Matcher_step) (own := [("part", 3), ("one", 4)]) (by decide +kernel)) (fun _ _ _ _ _ => (mg_tup (n := 2) rfl (mgs_cons (mg_n 3 sc_Matcher_step.nd rfl (by first | exact Or.inl rfl | exact Or.inr rfl)) (mgs_cons (mg_n 4 sc_Matcher_step.nd rfl (by first | exact Or.inl rfl | exact Or.inr rfl)) mgs_nil)))) (fun _ _ _ _ _ => mts_nil) (fun _ _ _ _ _ => (me_mM c_Matcher_step takes0 (hr.mono (by omega)) (me_v 3) (ma_cons (me_v 4) (ma_cons (me_v 2) ma_nil))))) ma_nil)))) mss_nil)
      (mss_cons (ms_setLc2 (i := 5) (own := [("one", 4), ("characters", 6), ("place", 7)]) (vs1 := [6, 7]) rfl sc_Matcher_step.nd rfl rfl (sw_true rfl rfl rfl (by decide +kernel)) (mi_seq (me_v 1)) (blkOk_by (N := N_Matcher_step) (sc := defScope s_Matcher_step) (own := [("one", 4), ("characters", 6), ("place", 7)]) (by decide +kernel)) (fun _ _ _ _ _ => (mg_n 4 sc_Matcher_step.nd rfl (by first | exact Or.inl rfl | exact Or.inr rfl))) (fun _ _ _ _ _ => mts_nil) (fun _ _ _ _ _ => (mi_seq (me_ix (me_fld f_Matcher_moves (me_v 0)) (me_v 4) (fun _ _ => rfl)))) (fun _ _ _ _ _ => (mg_tup (n := 2) rfl (mgs_cons (mg_n 6 sc_Matcher_step.nd rfl (by first | exact Or.inl rfl | exact Or.inr rfl)) (mgs_cons (mg_n 7 sc_Matcher_step.nd rfl (by first | exact Or.inl rfl | exact Or.inr rfl)) mgs_nil)))) (fun _ _ _ _ _ => (mts_one (MW.mt (mw_and (mt_ne hr (me_v 6) me_str) (mw_and1 (mt_in (me_v 2) (me_v 6))))))) (fun _ _ _ _ _ => (me_v 7)))
      (mss_one (ms_ret (me_cM c_closure tk (hr.mono (by omega)) (by rfl) (ma_cons (me_fld f_Matcher_moves (me_v 0)) (ma_cons (me_v 5) ma_nil)))))))) ?_)
    rintro ds h Q E hl ⟨r, w, c, rfl, x, q⟩
    cases hpl : plain r with
    | true =>
      obtain ⟨t1, t2, t3, t4⟩ := x.tab hpl
      rw [mtD_plain hpl]
      rw [sta_plain hpl, ← run_snoc t4] at q
      rw [sta_plain hpl]
      walk_at "m"
      refine ⟨_, _, .inr rfl, rfl, ?_⟩
      refine ⟨_, ne_str "plain" "plain", _, rfl, ?_⟩
      refine ifF (decide_eq_false fun z => z rfl) ?_
      refine ⟨_, rfl, _, rfl, ?_⟩
      have hlr : lens (tab r) (run (tab r) w) ≤ tot (tab r) := lens_rch _ _
      refine lc2_stp (M := tab r) rfl (run (tab r) w) [] (fun y hy => (mem_rch.mp hy).1) (by rw [List.length_nil]; omega) ?_
      rw [List.nil_append]
      refine ⟨_, rfl, _, _, .inr rfl, rfl, ?_⟩
      walk_at "m"
      have hsl := stp_len (tab r) (run (tab r) w) c
      refine ⟨fun p hp => ?_, t4, by omega, by omega, q⟩
      obtain ⟨y, _, cs, h1, _⟩ := mem_stp.mp hp
      exact (t4 _ _ _ h1).2
    | false =>
      obtain ⟨e1, e2⟩ := mtD_not (C := CM) hpl x.hp
      rw [e1]
      rw [sta_not hpl x.hp] at q
      rw [sta_not hpl x.hp]
      have hps := okR_len x.ok
      walk_at "m"
      refine ⟨_, _, .inr rfl, rfl, ?_⟩
      refine ⟨_, ne_str r.word "plain", _, rfl, ?_⟩
      refine ifT (decide_eq_true fun z => by rw [z, word_eq] at e2; cases e2) ?_
      walk_at "m"
      refine ⟨_, _, .inr rfl, rfl, ?_⟩
      walk_at "m"
      refine ⟨_, _, _, _, rfl, rfl, rfl, ?_⟩
      rw [zip_maps]
      refine lcM_map (φ := fun p => .tup [mtD CM p, sta p w]) (f := fun p => sta p (w ++ [c])) r.parts (fun p hp R z => ?_) (by omega) ?_
      · have y := x.parts hpl p hp
        refine ⟨_, rfl, rfl, _, _, rfl, _, _, rfl, rfl, ?_⟩
        refine ⟨_, rfl, is_mt h CM y.hp ⟨rfl, fun _ _ => rfl⟩, ?_⟩
        walk_at "m"
        exact ⟨p, w, c, rfl, y, z⟩
      · walk_at "m"
        exact q
def g_acc (CM : Addr) (n : Nat) : FM := fun ds h Q _ => ∃ r w, ds = [mtD CM r, sta r w] ∧ MOk r n ∧ Q (.fz (.bl (tru (Lg r w)))) h
theorem any_map {α : Type} (p : α → Bool) (l : List α) : anyD [.lst (l.map fun d => .bl (p d))] = some (.fz (.bl ((l.map p).any id))) := by
  show (blsOf (l.map fun d => .bl (p d))).map _ = _
  rw [blsOf_map]
  rfl
theorem ok_acc (A : AtM K CM "accepts" "Matcher.accepts" ["self", "state"] s_Matcher_accepts f fd) (f_Matcher_word : Fo K CM "word") (f_Matcher_within : Fo K CM "within") (f_Matcher_goal : Fo K CM "goal") (m_any : mg "any" = none) (m_all : mg "all" = none) (m_zip : mg "zip" = none) : ∀ n, MthM P w K mg base CM "accepts" (2 + n) 2 (g_acc CM n)
  | 0 => A.none fun ds h Q E ⟨_, _, _, x, _⟩ => by have := x.dp; omega
  | n + 1 => by
    have c_Matcher_accepts := ok_acc A f_Matcher_word f_Matcher_within f_Matcher_goal m_any m_all m_zip n
    refine A.mth (okM (k := 2 + n) A.fn sc_Matcher_accepts (by decide) (fun cdv A outer s H E hr tk po => (mss_cons (ms_if (mt_eq hr (me_fld f_Matcher_word (me_v 0)) me_str) (mss_one (ms_ret (me_in (me_fld f_Matcher_goal (me_v 0)) (me_v 1)))) mss_nil)
      (mss_cons (ms_setLc (i := 2) (own := [("part", 3), ("one", 4)]) rfl sc_Matcher_accepts.nd rfl rfl (sw_true rfl rfl rfl (by decide +kernel)) (mi_zipX (by rfl) m_zip (ma_cons (me_fld f_Matcher_within (me_v 0)) (ma_cons (me_v 1) ma_nil))) (blkOk_by (N := N_Matcher_accepts) (sc := defScope s_Matcher_accepts) (own := [("part", 3), ("one", 4)]) (by decide +kernel)) (fun _ _ _ _ _ => (mg_tup (n := 2) rfl (mgs_cons (mg_n 3 sc_Matcher_accepts.nd rfl (by first | exact Or.inl rfl | exact Or.inr rfl)) (mgs_cons (mg_n 4 sc_Matcher_accepts.nd rfl (by first | exact Or.inl rfl | exact Or.inr rfl)) mgs_nil)))) (fun _ _ _ _ _ => mts_nil) (fun _ _ _ _ _ => (me_mM c_Matcher_accepts takes0 (hr.mono (by omega)) (me_v 3) (ma_cons (me_v 4) ma_nil))))
      (mss_cons (ms_if (mt_eq hr (me_fld f_Matcher_word (me_v 0)) me_str) (mss_one (ms_ret (me_not (me_ix (me_v 2) me_int (fun _ _ => rfl))))) mss_nil)
      (mss_one (ms_ret (me_if (mt_eq hr (me_fld f_Matcher_word (me_v 0)) me_str) (me_any rfl (by rfl) m_any (ma_cons (me_v 2) ma_nil)) (me_all rfl (by rfl) m_all (ma_cons (me_v 2) ma_nil))))))))) ?_)
    rintro ds h Q E hl ⟨r, w, rfl, x, q⟩
    cases hpl : plain r with
    | true =>
      obtain ⟨t1, t2, t3, t4⟩ := x.tab hpl
      rw [mtD_plain hpl, sta_plain hpl]
      walk_at "m"
      refine ⟨_, _, .inr rfl, rfl, ?_⟩
      walk_at "m"
      refine ifT (word_eq _) ?_
      walk_at "m"
      refine ⟨_, _, .inr rfl, rfl, ?_⟩
      walk_at "m"
      refine ⟨_, in_nats _ _, ?_⟩
      have e : decide (gol r ∈ run (tab r) w) = tru (Lg r w) := by
        rw [← tru_dec]
        refine tru_congr ?_
        unfold run
        rw [mem_rch]
        exact ⟨fun z => (tab_lan hpl x.ok w).mp z.2, fun z => ⟨t2, (tab_lan hpl x.ok w).mpr z⟩⟩
      rw [e]
      exact q
    | false =>
      obtain ⟨e1, e2⟩ := mtD_not (C := CM) hpl x.hp
      rw [e1, sta_not hpl x.hp]
      have hps := okR_len x.ok
      walk_at "m"
      refine ⟨_, _, .inr rfl, rfl, ?_⟩
      walk_at "m"
      refine ifF e2 ?_
      walk_at "m"
      refine ⟨_, _, .inr rfl, rfl, ?_⟩
      walk_at "m"
      refine ⟨_, _, _, _, rfl, rfl, rfl, ?_⟩
      rw [zip_maps]
      refine lcM_map (φ := fun p => .tup [mtD CM p, sta p w]) (f := fun p => .bl (tru (Lg p w))) r.parts (fun p hp R z => ?_) (by omega) ?_
      · have y := x.parts hpl p hp
        refine ⟨_, rfl, rfl, _, _, rfl, _, _, rfl, rfl, ?_⟩
        refine ⟨_, rfl, is_mt h CM y.hp ⟨rfl, fun _ _ => rfl⟩, ?_⟩
        walk_at "m"
        exact ⟨y, z⟩
      refine ⟨_, rfl, _, _, .inr rfl, rfl, ?_⟩
      have v1 : eqS "any" "not" = false ∧ eqS "all" "not" = false ∧ eqS "all" "any" = false := by refine ⟨?_, ?_, ?_⟩ <;> (rw [eqS_eq]; decide +kernel)
      cases r with
      | set s => rw [plain] at hpl; cases hpl
      | row ps => have := x.hp; rw [plain] at hpl; rw [hasP, hpl] at this; cases this
      | again p lo hi => have := x.hp; rw [plain] at hpl; rw [hasP, hpl] at this; cases this
      | no p =>
        walk_at "m"
        refine ifT (word_eq _) ?_
        walk_at "m"
        rw [tru_not]
        exact q
      | any ps =>
        walk_at "m"
        refine ifF v1.1 ?_
        walk_at "m"
        refine ⟨_, _, .inr rfl, rfl, ?_⟩
        walk_at "m"
        refine ifT (word_eq _) ?_
        walk_at "m"
        refine ⟨_, any_map _ _, ?_⟩
        rw [show (Rx.any ps).parts = ps from rfl, tru_any]
        exact q
      | all ps =>
        walk_at "m"
        refine ifF v1.2.1 ?_
        walk_at "m"
        refine ⟨_, _, .inr rfl, rfl, ?_⟩
        walk_at "m"
        refine ifF v1.2.2 ?_
        walk_at "m"
        refine ⟨_, all_map _ _, ?_⟩
        rw [show (Rx.all ps).parts = ps from rfl, tru_all]
        exact q
end
end Cut
namespace AU
section
variable {α : Type} [DecidableEq α]
def adn (o : List α) : List α → List α
  | [] => o
  | t :: ts => adn (if t ∈ o then o else o ++ [t]) ts
theorem adn_in {o : List α} {t : α} (h : t ∈ o) (ts : List α) : adn o (t :: ts) = adn o ts := by rw [adn, if_pos h]
theorem adn_out {o : List α} {t : α} (h : t ∉ o) (ts : List α) : adn o (t :: ts) = adn (o ++ [t]) ts := by rw [adn, if_neg h]
theorem adn_ext : ∀ (ts o : List α), ∃ l, adn o ts = o ++ l
  | [], o => ⟨[], by simp [adn]⟩
  | t :: ts, o => by
    by_cases h : t ∈ o
    · rw [adn_in h]; exact adn_ext ts o
    · rw [adn_out h]
      obtain ⟨l, e⟩ := adn_ext ts (o ++ [t])
      exact ⟨t :: l, by rw [e]; simp⟩
theorem adn_mem : ∀ (ts o : List α) (x : α), x ∈ adn o ts ↔ x ∈ o ∨ x ∈ ts
  | [], o, x => by simp [adn]
  | t :: ts, o, x => by
    by_cases h : t ∈ o
    · rw [adn_in h, adn_mem ts o x, List.mem_cons]
      constructor
      · rintro (a | a)
        · exact .inl a
        · exact .inr (.inr a)
      · rintro (a | rfl | a)
        · exact .inl a
        · exact .inl h
        · exact .inr a
    · rw [adn_out h, adn_mem ts _ x, List.mem_append, List.mem_singleton, List.mem_cons, or_assoc]
theorem adn_nodup : ∀ (ts : List α) {o : List α}, o.Nodup → (adn o ts).Nodup
  | [], o, h => h
  | t :: ts, o, h => by
    by_cases e : t ∈ o
    · rw [adn_in e]; exact adn_nodup ts h
    · rw [adn_out e]
      refine adn_nodup ts ?_
      rw [List.nodup_append]
      exact ⟨h, by simp, fun a ha b hb => by rw [List.mem_singleton.mp hb]; intro z; rw [z] at ha; exact e ha⟩
theorem adn_append : ∀ (ts us o : List α), adn o (ts ++ us) = adn (adn o ts) us
  | [], us, o => rfl
  | t :: ts, us, o => by rw [List.cons_append, adn, adn, adn_append ts us]
theorem idx_app {o : List α} {x : α} (h : x ∈ o) (l : List α) : (o ++ l).idxOf x = o.idxOf x := by rw [List.idxOf_append, if_pos h]
theorem idx_get {o : List α} {x : α} (h : x ∈ o) : o[o.idxOf x]? = some x := by
  have := List.idxOf_lt_length_of_mem h
  rw [List.getElem?_eq_getElem this, List.getElem_idxOf]
theorem get_idx {o : List α} (n : o.Nodup) {i : Nat} {x : α} (h : o[i]? = some x) : o.idxOf x = i := by
  obtain ⟨hi, e⟩ := List.getElem?_eq_some_iff.mp h
  rw [← e]
  exact List.Nodup.idxOf_getElem n i hi
theorem idx_inj {o : List α} {x y : α} (hx : x ∈ o) (hy : y ∈ o) (e : o.idxOf x = o.idxOf y) : x = y := by
  have h1 := idx_get hx
  have h2 := idx_get hy
  rw [e, h2] at h1
  injection h1 with h1
  exact h1.symm
theorem adn_map {β : Type} [DecidableEq β] (φ : α → β) : ∀ (ts o : List α), (∀ x ∈ o ++ ts, ∀ y ∈ o ++ ts, φ x = φ y → x = y) → adn (o.map φ) (ts.map φ) = (adn o ts).map φ
  | [], o, _ => rfl
  | t :: ts, o, h => by
    have hm : φ t ∈ o.map φ ↔ t ∈ o := by
      constructor
      · intro z
        obtain ⟨y, hy, e⟩ := List.mem_map.mp z
        rw [← h y (by simp [hy]) t (by simp) e]; exact hy
      · exact fun z => List.mem_map_of_mem z
    by_cases e : t ∈ o
    · rw [List.map_cons, adn_in e, adn_in (hm.mpr e)]
      exact adn_map φ ts o fun x hx y hy => h x (by simp at hx ⊢; rcases hx with a | a <;> simp [a]) y (by simp at hy ⊢; rcases hy with a | a <;> simp [a])
    · rw [List.map_cons, adn_out e, adn_out (fun z => e (hm.mp z))]
      have := adn_map φ ts (o ++ [t]) fun x hx y hy => h x (by simpa using hx) y (by simpa using hy)
      rw [List.map_append] at this
      exact this
theorem nodup_le : ∀ {l m : List α}, l.Nodup → (∀ x ∈ l, x ∈ m) → l.length ≤ m.length
  | [], m, _, _ => Nat.zero_le _
  | x :: l, m, n, h => by
    have hx := h x (List.mem_cons_self ..)
    rw [List.nodup_cons] at n
    have := nodup_le (l := l) (m := m.erase x) n.2 fun y hy => (List.mem_erase_of_ne (fun z => by rw [z] at hy; exact n.1 hy)).mpr (h y (List.mem_cons_of_mem _ hy))
    rw [List.length_erase_of_mem hx] at this
    have := List.length_pos_of_mem hx
    rw [List.length_cons]; omega
end
abbrev Tab := List (List Nat)
def row (T : Tab) (i : Nat) : List Nat := (T[i]?).getD []
def nx (T : Tab) (i a : Nat) : Nat := ((row T i)[a]?).getD 0
def rn (T : Tab) : Nat → List Nat → Nat
  | i, [] => i
  | i, a :: w => rn T (nx T i a) w
theorem rn_app (T : Tab) : ∀ (u v : List Nat) (i : Nat), rn T i (u ++ v) = rn T (rn T i u) v
  | [], v, i => rfl
  | a :: u, v, i => by rw [List.cons_append, rn, rn, rn_app T u v]
def Wd (m : Nat) (w : List Nat) : Prop := ∀ a ∈ w, a < m
theorem Wd.app {m : Nat} {u v : List Nat} (h : Wd m u) (g : Wd m v) : Wd m (u ++ v) := fun a ha => (List.mem_append.mp ha).elim (h a) (g a)
theorem Wd.one {m a : Nat} (h : a < m) : Wd m [a] := fun b hb => by rw [List.mem_singleton.mp hb]; exact h
theorem Wd.nil {m : Nat} : Wd m [] := fun a ha => nomatch ha
theorem Wd.tail {m a : Nat} {w : List Nat} (h : Wd m (a :: w)) : a < m ∧ Wd m w := ⟨h a (List.mem_cons_self ..), fun b hb => h b (List.mem_cons_of_mem _ hb)⟩
structure Wf (m : Nat) (T : Tab) : Prop where
  pos : 0 < T.length
  len : ∀ i, i < T.length → (row T i).length = m
  lt : ∀ i, i < T.length → ∀ x ∈ row T i, x < T.length
theorem Wf.nx {m : Nat} {T : Tab} (h : Wf m T) {i a : Nat} (hi : i < T.length) (ha : a < m) : (row T i)[a]? = some (nx T i a) ∧ AU.nx T i a < T.length := by
  have e : (row T i)[a]? = some (AU.nx T i a) := by
    unfold AU.nx
    rw [List.getElem?_eq_getElem (by rw [h.len i hi]; exact ha)]; rfl
  exact ⟨e, h.lt i hi _ (List.mem_of_getElem? e)⟩
theorem Wf.rn {m : Nat} {T : Tab} (h : Wf m T) : ∀ {w : List Nat} {i : Nat}, i < T.length → Wd m w → AU.rn T i w < T.length
  | [], i, hi, _ => hi
  | a :: w, i, hi, hw => by
    rw [AU.rn]
    exact Wf.rn h (Wf.nx h hi hw.tail.1).2 hw.tail.2
def ord (T : Tab) : Nat → List Nat
  | 0 => [0]
  | k + 1 => adn (ord T k) (row T k)
structure Std (T : Tab) : Prop where
  at_ : ∀ k, k ≤ T.length → ∃ n, ord T k = List.range n ∧ (k < T.length → k < n)
  all : ord T T.length = List.range T.length
structure Aut {μ : Type} (m : Nat) (f : List Nat → μ) (T : Tab) (M : List μ) : Prop where
  wf : Wf m T
  ml : M.length = T.length
  lan : ∀ w, Wd m w → M[rn T 0 w]? = some (f w)
  dis : ∀ i j, i < T.length → j < T.length → i ≠ j → ∃ w, Wd m w ∧ M[rn T i w]? ≠ M[rn T j w]?
  std : Std T
theorem ord_reach {m : Nat} {T : Tab} (h : Wf m T) : ∀ k, k ≤ T.length → (∀ j, j < k → j ∈ ord T j) → ∀ x ∈ ord T k, ∃ w, Wd m w ∧ rn T 0 w = x
  | 0, _, _, x, hx => ⟨[], Wd.nil, by rw [ord, List.mem_singleton] at hx; rw [hx]; rfl⟩
  | k + 1, hk, hj, x, hx => by
    rw [ord] at hx
    rcases (adn_mem _ _ _).mp hx with hx | hx
    · exact ord_reach h k (by omega) (fun j hj' => hj j (by omega)) x hx
    · obtain ⟨w, w1, w2⟩ := ord_reach h k (by omega) (fun j hj' => hj j (by omega)) k (hj k (by omega))
      obtain ⟨a, ha, e⟩ := List.mem_iff_getElem.mp hx
      refine ⟨w ++ [a], w1.app (Wd.one (by rw [← h.len k (by omega)]; exact ha)), ?_⟩
      rw [rn_app, w2, rn, rn, nx, List.getElem?_eq_getElem ha, e]; rfl
theorem Std.self {T : Tab} (s : Std T) {j : Nat} (h : j < T.length) : j ∈ ord T j := by
  obtain ⟨n, e, l⟩ := s.at_ j (by omega)
  rw [e]; exact List.mem_range.mpr (l h)
theorem Aut.reach {μ : Type} {m : Nat} {f : List Nat → μ} {T : Tab} {M : List μ} (h : Aut m f T M) {i : Nat} (hi : i < T.length) : ∃ w, Wd m w ∧ rn T 0 w = i :=
  ord_reach h.wf T.length (Nat.le_refl _) (fun j hj => h.std.self hj) i (by rw [h.std.all]; exact List.mem_range.mpr hi)
theorem Aut.same {μ : Type} {m : Nat} {f : List Nat → μ} {T : Tab} {M : List μ} (h : Aut m f T M) {u v : List Nat} (hu : Wd m u) (hv : Wd m v) (e : ∀ w, Wd m w → f (u ++ w) = f (v ++ w)) : rn T 0 u = rn T 0 v := by
  refine Decidable.byContradiction fun n => ?_
  obtain ⟨w, hw, d⟩ := h.dis _ _ (h.wf.rn h.wf.pos hu) (h.wf.rn h.wf.pos hv) n
  refine d ?_
  rw [← rn_app, ← rn_app, h.lan _ (hu.app hw), h.lan _ (hv.app hw), e w hw]
theorem Aut.resid {μ : Type} {m : Nat} {f : List Nat → μ} {T : Tab} {M : List μ} (h : Aut m f T M) {u v : List Nat} (hu : Wd m u) (hv : Wd m v) (e : rn T 0 u = rn T 0 v) : ∀ w, Wd m w → f (u ++ w) = f (v ++ w) := fun w hw => by
  have h1 := h.lan _ (hu.app hw)
  have h2 := h.lan _ (hv.app hw)
  rw [rn_app, e, ← rn_app, h2] at h1
  injection h1 with h1
  exact h1.symm
theorem range_snoc {n x N : Nat} {l : List Nat} (h : List.range n ++ x :: l = List.range N) : x = n := by
  have h1 : (List.range n ++ x :: l)[n]? = (List.range N)[n]? := by rw [h]
  rw [List.getElem?_append_right (by simp)] at h1
  simp only [List.length_range, Nat.sub_self, List.getElem?_cons_zero] at h1
  have hN := List.getElem?_eq_some_iff.mp h1.symm
  obtain ⟨h2, h3⟩ := hN
  rw [List.getElem_range] at h3
  exact h3.symm
theorem adn_two {R : Nat → Nat → Prop} (r1 : ∀ x y y', R x y → R x y' → y = y') (r2 : ∀ x x' y, R x y → R x' y → x = x') : ∀ (r r' : List Nat) (n N N' : Nat), r.length = r'.length → (∀ (a : Nat) x y, r[a]? = some x → r'[a]? = some y → R x y) → (∀ i, i < n → R i i) → adn (List.range n) r = List.range N → adn (List.range n) r' = List.range N' → r = r' ∧ N = N' ∧ ∀ i, i < N → R i i
  | [], [], n, N, N', _, _, hd, e, e' => by
    have h1 := congrArg List.length e
    have h2 := congrArg List.length e'
    simp [adn] at h1 h2
    subst h1
    exact ⟨rfl, h2, hd⟩
  | x :: r, y :: r', n, N, N', hl, hR, hd, e, e' => by
    have hxy := hR 0 x y rfl rfl
    have hR' : ∀ (a : Nat) x y, r[a]? = some x → r'[a]? = some y → R x y := fun a x y h1 h2 => hR (a + 1) x y (by simpa using h1) (by simpa using h2)
    by_cases hx : x < n
    · have := r1 x x y (hd x hx) hxy
      subst this
      rw [adn_in (List.mem_range.mpr hx)] at e e'
      obtain ⟨a, b, c⟩ := adn_two r1 r2 r r' n N N' (by simpa using hl) hR' hd e e'
      exact ⟨by rw [a], b, c⟩
    · have hy : ¬ y < n := fun z => hx (by rw [r2 x y y hxy (hd y z)]; exact z)
      rw [adn_out (fun z => hx (List.mem_range.mp z))] at e
      rw [adn_out (fun z => hy (List.mem_range.mp z))] at e'
      have ex : x = n := by
        obtain ⟨l, el⟩ := adn_ext r (List.range n ++ [x])
        rw [el, List.append_assoc] at e
        exact range_snoc e
      have ey : y = n := by
        obtain ⟨l, el⟩ := adn_ext r' (List.range n ++ [y])
        rw [el, List.append_assoc] at e'
        exact range_snoc e'
      subst ex
      subst ey
      rw [← List.range_succ] at e e'
      obtain ⟨a, b, c⟩ := adn_two r1 r2 r r' (y + 1) N N' (by simpa using hl) hR' (fun i hi => if z : i < y then hd i z else by rw [show i = y by omega]; exact hxy) e e'
      exact ⟨by rw [a], b, c⟩
theorem Aut.two {μ : Type} {m : Nat} {f : List Nat → μ} {T T' : Tab} {M M' : List μ} (h : Aut m f T M) (h' : Aut m f T' M') : ∀ k, k ≤ T.length → k ≤ T'.length → (∀ i, i < k → row T i = row T' i) ∧ ∃ n, ord T k = List.range n ∧ ord T' k = List.range n ∧ ∀ i, i < n → ∃ w, Wd m w ∧ rn T 0 w = i ∧ rn T' 0 w = i
  | 0, _, _ => ⟨fun i hi => by omega, 1, rfl, rfl, fun i hi => ⟨[], Wd.nil, by show 0 = i; omega, by show 0 = i; omega⟩⟩
  | k + 1, h1, h2 => by
    obtain ⟨hr, n, e, e', hd⟩ := h.two h' k (by omega) (by omega)
    obtain ⟨N, eN, _⟩ := h.std.at_ (k + 1) h1
    obtain ⟨N', eN', _⟩ := h'.std.at_ (k + 1) h2
    have kn : k < n := by
      have := h.std.self (j := k) (by omega)
      rw [e] at this
      exact List.mem_range.mp this
    obtain ⟨w, w1, w2, w3⟩ := hd k kn
    have g := adn_two (R := fun x y => ∃ w, Wd m w ∧ rn T 0 w = x ∧ rn T' 0 w = y)
      (fun x y y' ⟨u, u1, u2, u3⟩ ⟨v, v1, v2, v3⟩ => by rw [← u3, ← v3]; exact h'.same u1 v1 (h.resid u1 v1 (u2.trans v2.symm)))
      (fun x x' y ⟨u, u1, u2, u3⟩ ⟨v, v1, v2, v3⟩ => by rw [← u2, ← v2]; exact h.same u1 v1 (h'.resid u1 v1 (u3.trans v3.symm)))
      (row T k) (row T' k) n N N' (by rw [h.wf.len k (by omega), h'.wf.len k (by omega)])
      (fun a x y hx hy => by
        have ha : a < m := by rw [← h.wf.len k (by omega)]; exact (List.getElem?_eq_some_iff.mp hx).1
        refine ⟨w ++ [a], w1.app (Wd.one ha), ?_, ?_⟩
        · rw [rn_app, w2, rn, rn, nx, hx]; rfl
        · rw [rn_app, w3, rn, rn, nx, hy]; rfl) hd (by rw [← e, ← eN]; rfl) (by rw [← e', ← eN']; rfl)
    obtain ⟨g1, g2, g3⟩ := g
    subst g2
    refine ⟨fun i hi => ?_, N, eN, eN', g3⟩
    by_cases hik : i = k
    · rw [hik]; exact g1
    · exact hr i (by omega)
section
variable {α : Type} [DecidableEq α]
def bo (st : α → List α) (a0 : α) : Nat → List α
  | 0 => [a0]
  | k + 1 => match (bo st a0 k)[k]? with
    | some x => adn (bo st a0 k) (st x)
    | none => bo st a0 k
theorem bo_step {st : α → List α} {a0 x : α} {k : Nat} (h : (bo st a0 k)[k]? = some x) : bo st a0 (k + 1) = adn (bo st a0 k) (st x) := by rw [bo, h]
theorem bo_nodup (st : α → List α) (a0 : α) : ∀ k, (bo st a0 k).Nodup
  | 0 => by simp [bo]
  | k + 1 => by
    rw [bo]
    split
    · exact adn_nodup _ (bo_nodup st a0 k)
    · exact bo_nodup st a0 k
theorem bo_ext (st : α → List α) (a0 : α) (k : Nat) : ∀ j, ∃ l, bo st a0 (k + j) = bo st a0 k ++ l
  | 0 => ⟨[], by simp⟩
  | j + 1 => by
    obtain ⟨l, e⟩ := bo_ext st a0 k j
    rw [← Nat.add_assoc, bo]
    split
    · obtain ⟨l', e'⟩ := adn_ext (st _) (bo st a0 (k + j))
      exact ⟨l ++ l', by rw [e', e, List.append_assoc]⟩
    · exact ⟨l, e⟩
theorem bo_get {st : α → List α} {a0 x : α} {k K i : Nat} (hk : k ≤ K) (h : (bo st a0 k)[i]? = some x) : (bo st a0 K)[i]? = some x := by
  obtain ⟨l, e⟩ := bo_ext st a0 k (K - k)
  rw [show k + (K - k) = K by omega] at e
  rw [e, List.getElem?_append_left (List.getElem?_eq_some_iff.mp h).1]; exact h
theorem bo_zero (st : α → List α) (a0 : α) (k : Nat) : (bo st a0 k)[0]? = some a0 := bo_get (Nat.zero_le k) rfl
def rnS (st : α → List α) : α → List Nat → α
  | x, [] => x
  | x, a :: w => match (st x)[a]? with
    | some y => rnS st y w
    | none => x
theorem rnS_app (st : α → List α) {m : Nat} (hm : ∀ x, (st x).length = m) : ∀ (u v : List Nat) (x : α), Wd m u → rnS st x (u ++ v) = rnS st (rnS st x u) v
  | [], v, x, _ => rfl
  | a :: u, v, x, h => by
    rw [List.cons_append, rnS, rnS]
    have : a < (st x).length := by rw [hm]; exact h.tail.1
    rw [List.getElem?_eq_getElem this]
    exact rnS_app st hm u v _ h.tail.2
theorem bo_reach {st : α → List α} {a0 : α} {m : Nat} (hm : ∀ x, (st x).length = m) : ∀ k, ∀ x ∈ bo st a0 k, ∃ w, Wd m w ∧ rnS st a0 w = x
  | 0, x, hx => ⟨[], Wd.nil, by rw [bo, List.mem_singleton] at hx; rw [hx]; rfl⟩
  | k + 1, x, hx => by
    rw [bo] at hx
    split at hx
    · rename_i y hy
      rcases (adn_mem _ _ _).mp hx with hx | hx
      · exact bo_reach hm k x hx
      · obtain ⟨w, w1, w2⟩ := bo_reach hm k y (List.mem_of_getElem? hy)
        obtain ⟨a, ha, e⟩ := List.mem_iff_getElem.mp hx
        refine ⟨w ++ [a], w1.app (Wd.one (by rw [← hm y]; exact ha)), ?_⟩
        rw [rnS_app st hm _ _ _ w1, w2, rnS, List.getElem?_eq_getElem ha, e]; rfl
    · exact bo_reach hm k x hx
def btab (st : α → List α) (o : List α) : Tab := o.map fun x => (st x).map fun y => o.idxOf y
structure Bend (st : α → List α) (a0 : α) (K : Nat) : Prop where
  len : (bo st a0 K).length = K
theorem Bend.closed {st : α → List α} {a0 : α} {K : Nat} (h : Bend st a0 K) {x : α} (hx : x ∈ bo st a0 K) : ∀ y ∈ st x, y ∈ bo st a0 K := fun y hy => by
  obtain ⟨i, hi, e⟩ := List.mem_iff_getElem.mp hx
  rw [h.len] at hi
  have key : ∀ j, i < j → j ≤ K → i < (bo st a0 i).length → y ∈ bo st a0 j := fun j hj hK hl => by
    have e1 : (bo st a0 i)[i]? = some x := by
      rw [List.getElem?_eq_getElem hl]
      have := bo_get (K := K) (by omega) (List.getElem?_eq_getElem hl)
      rw [List.getElem?_eq_getElem (by rw [h.len]; exact hi)] at this
      injection this with this
      rw [← this, e]
    have e2 := bo_step e1
    obtain ⟨l, el⟩ := bo_ext st a0 (i + 1) (j - (i + 1))
    rw [show i + 1 + (j - (i + 1)) = j by omega] at el
    rw [el, e2]
    exact List.mem_append.mpr (.inl ((adn_mem _ _ _).mpr (.inr hy)))
  by_cases hl : i < (bo st a0 i).length
  · exact key K hi (Nat.le_refl _) hl
  · -- the walk had stood still before
    exfalso
    have st' : ∀ j, bo st a0 (i + j) = bo st a0 i := fun j => by
      induction j with
      | zero => rfl
      | succ j ih =>
        rw [← Nat.add_assoc, bo, ih, List.getElem?_eq_none (by omega)]
    have := st' (K - i)
    rw [show i + (K - i) = K by omega] at this
    have h2 := h.len
    rw [this] at h2
    omega
theorem btab_row {st : α → List α} {o : List α} {i : Nat} {x : α} (h : o[i]? = some x) : row (btab st o) i = (st x).map fun y => o.idxOf y := by
  unfold row btab
  rw [List.getElem?_map, h]; rfl
theorem btab_len (st : α → List α) (o : List α) : (btab st o).length = o.length := by unfold btab; rw [List.length_map]
theorem Bend.wf {st : α → List α} {a0 : α} {K m : Nat} (h : Bend st a0 K) (hm : ∀ x, (st x).length = m) : Wf m (btab st (bo st a0 K)) := by
  have hp : 0 < (bo st a0 K).length := (List.getElem?_eq_some_iff.mp (bo_zero st a0 K)).1
  refine ⟨by rw [btab_len]; exact hp, fun i hi => ?_, fun i hi x hx => ?_⟩
  · rw [btab_len] at hi
    rw [btab_row (List.getElem?_eq_getElem hi), List.length_map, hm]
  · rw [btab_len] at hi ⊢
    rw [btab_row (List.getElem?_eq_getElem hi)] at hx
    obtain ⟨y, hy, rfl⟩ := List.mem_map.mp hx
    exact List.idxOf_lt_length_of_mem (h.closed (List.getElem_mem hi) y hy)
theorem Bend.run {st : α → List α} {a0 : α} {K m : Nat} (h : Bend st a0 K) (hm : ∀ x, (st x).length = m) : ∀ (w : List Nat) (x : α), x ∈ bo st a0 K → Wd m w → rnS st x w ∈ bo st a0 K ∧ rn (btab st (bo st a0 K)) ((bo st a0 K).idxOf x) w = (bo st a0 K).idxOf (rnS st x w)
  | [], x, hx, _ => ⟨hx, rfl⟩
  | a :: w, x, hx, hw => by
    have ha : a < (st x).length := by rw [hm]; exact hw.tail.1
    have hy : (st x)[a] ∈ bo st a0 K := h.closed hx _ (List.getElem_mem ha)
    obtain ⟨i1, i2⟩ := h.run hm w _ hy hw.tail.2
    rw [rnS, List.getElem?_eq_getElem ha]
    refine ⟨i1, ?_⟩
    rw [rn, ← i2, nx, btab_row (idx_get hx), List.getElem?_map, List.getElem?_eq_getElem ha]; rfl
theorem idx_range {o : List α} (n : o.Nodup) : ∀ (p l : List α), o = p ++ l → p.map (fun y => o.idxOf y) = List.range p.length := fun p l e => by
  refine List.ext_getElem (by simp) fun i h1 h2 => ?_
  rw [List.length_map] at h1
  rw [List.getElem_map, List.getElem_range]
  refine get_idx n ?_
  have z : (p ++ l)[i]? = some p[i] := by rw [List.getElem?_append_left h1, List.getElem?_eq_getElem h1]
  rw [← e] at z
  exact z
theorem Bend.ord {st : α → List α} {a0 : α} {K m : Nat} (h : Bend st a0 K) : ∀ k, k ≤ K → AU.ord (btab st (bo st a0 K)) k = (bo st a0 k).map (fun y => (bo st a0 K).idxOf y)
  | 0, _ => by
    have := get_idx (bo_nodup st a0 K) (bo_zero st a0 K)
    simp [AU.ord, bo, this]
  | k + 1, hk => by
    rw [AU.ord, h.ord (m := m) k (by omega), bo]
    have hkK : k < (bo st a0 K).length := by rw [h.len]; omega
    obtain ⟨l, el⟩ := bo_ext st a0 k (K - k)
    rw [show k + (K - k) = K by omega] at el
    by_cases hl : k < (bo st a0 k).length
    · have e1 := List.getElem?_eq_getElem hl
      rw [e1, btab_row (bo_get (by omega) e1), adn_map]
      intro x hx y hy e
      have sub : ∀ z ∈ bo st a0 k ++ st (bo st a0 k)[k], z ∈ bo st a0 K := fun z hz => by
        rcases List.mem_append.mp hz with hz | hz
        · rw [el]; exact List.mem_append.mpr (.inl hz)
        · exact h.closed (by rw [el]; exact List.mem_append.mpr (.inl (List.getElem_mem hl))) z hz
      exact idx_inj (sub x hx) (sub y hy) e
    · exfalso
      have st' : ∀ j, bo st a0 (k + j) = bo st a0 k := fun j => by
        induction j with
        | zero => rfl
        | succ j ih => rw [← Nat.add_assoc, bo, ih, List.getElem?_eq_none (by omega)]
      have := st' (K - k)
      rw [show k + (K - k) = K by omega] at this
      rw [this] at hkK
      omega
theorem Bend.lt {st : α → List α} {a0 : α} {K : Nat} (h : Bend st a0 K) {k : Nat} (hk : k < K) : k < (bo st a0 k).length := by
  refine Decidable.byContradiction fun hl => ?_
  have st' : ∀ j, bo st a0 (k + j) = bo st a0 k := fun j => by
    induction j with
    | zero => rfl
    | succ j ih => rw [← Nat.add_assoc, bo, ih, List.getElem?_eq_none (by omega)]
  have := st' (K - k)
  rw [show k + (K - k) = K by omega] at this
  have h2 := h.len
  rw [this] at h2
  omega
theorem Bend.std {st : α → List α} {a0 : α} {K m : Nat} (h : Bend st a0 K) : Std (btab st (bo st a0 K)) := by
  have key : ∀ k, k ≤ K → AU.ord (btab st (bo st a0 K)) k = List.range (bo st a0 k).length := fun k hk => by
    rw [h.ord (m := m) k hk]
    obtain ⟨l, el⟩ := bo_ext st a0 k (K - k)
    rw [show k + (K - k) = K by omega] at el
    exact idx_range (bo_nodup st a0 K) _ l el
  refine ⟨fun k hk => ?_, ?_⟩
  · rw [btab_len, h.len] at hk ⊢
    exact ⟨_, key k hk, fun hk' => h.lt hk'⟩
  · rw [btab_len, h.len, key K (Nat.le_refl _), h.len]
end
end AU
namespace Cut
open PySem L2 DL ML
def crr (l : List (Str × Nat)) : Nat := (l.filter fun e => decide (e.1 ≠ Str.empty)).length
def chn (M : Mvs) : Nat := (M.map crr).sum
theorem chn_snoc (M : Mvs) : chn (M ++ [[]]) = chn M := by unfold chn; simp [crr]
theorem chn_modify {d : Nat} {f : List (Str × Nat) → List (Str × Nat)} (h : ∀ l, crr (f l) ≤ crr l + d) : ∀ (M : Mvs) (p : Nat), ((M.modify p f).map crr).sum ≤ (M.map crr).sum + d
  | [], p => by simp
  | x :: l, 0 => by simp; have := h x; omega
  | x :: l, p + 1 => by
    have := chn_modify h l p
    simp only [List.modify_succ_cons, List.map_cons, List.sum_cons]
    omega
theorem chn_eps (M : Mvs) (p q : Nat) : chn (addE M p Str.empty q) ≤ chn M := by
  unfold chn addE
  exact chn_modify (d := 0) (fun l => by unfold crr; rw [List.filter_append]; simp) M p
theorem chn_addE (M : Mvs) (p : Nat) (t : Str) (q : Nat) : chn (addE M p t q) ≤ chn M + 1 := by
  unfold chn addE
  exact chn_modify (d := 1) (fun l => by unfold crr; rw [List.filter_append, List.length_append]; have := List.length_filter_le (fun e : Str × Nat => decide (e.1 ≠ Str.empty)) [(t, q)]; simp at this ⊢; omega) M p
theorem chn_addA : ∀ (es : List Nat) (M : Mvs) (q : Nat), chn (addA M es q) ≤ chn M
  | [], M, q => Nat.le_refl _
  | e :: es, M, q => by
    have h1 := chn_addA es (addE M e Str.empty q) q
    have h2 := chn_eps M e q
    show chn (addA (addE M e Str.empty q) es q) ≤ _
    omega
theorem chn_close (M : Mvs) (es : List Nat) : chn (closeA M es).1 ≤ chn M := by
  have := chn_addA es (M ++ [[]]) M.length
  rw [chn_snoc] at this
  exact this
mutual
def wN : Rx → Nat
  | .set _ => 1
  | .row ps => wNL ps
  | .any ps => wNL ps
  | .all _ => 0
  | .no _ => 0
  | .again p lo hi => cps lo hi * wN p
def wNL : List Rx → Nat
  | [] => 0
  | p :: ps => wN p + wNL ps
end
theorem copies_chn {f : Mvs → Nat → Mvs × Nat} {c : Nat} (hf : ∀ M s, chn (f M s).1 ≤ chn M + c) (lo : Nat) : ∀ (k : Nat) (M : Mvs) (s : Nat), chn (copies f lo k M s).1 ≤ chn M + k * c
  | 0, M, s => by simp [copies]
  | k + 1, M, s => by
    have h1 := copies_chn hf lo k M s
    have h3 := hf (copies f lo k M s).1 (copies f lo k M s).2.1
    show chn (f _ _).1 ≤ _
    rw [Nat.succ_mul]
    omega
mutual
theorem addM_chn : ∀ (r : Rx) (M : Mvs) (s : Nat), chn (addM r M s).1 ≤ chn M + wN r
  | .set t, M, s => by
    have h1 := chn_eps (M ++ [[]]) s M.length
    have h2 := chn_addE (addE (M ++ [[]]) s Str.empty M.length ++ [[]]) M.length t (M.length + 1)
    rw [chn_snoc] at h1 h2
    rw [addM, wN]
    try dsimp only
    split
    · rw [chn_snoc]; omega
    · omega
  | .row ps, M, s => by rw [addM, wN]; exact addR_chn ps M s
  | .any ps, M, s => by
    have h1 := chn_eps (M ++ [[]]) s M.length
    rw [chn_snoc] at h1
    have h2 := addO_chn ps (addE (M ++ [[]]) s Str.empty M.length) M.length
    have h4 := chn_close (addO ps (addE (M ++ [[]]) s Str.empty M.length) M.length).1 (addO ps (addE (M ++ [[]]) s Str.empty M.length) M.length).2
    rw [addM, wN]
    try dsimp only
    omega
  | .all _, M, s => by rw [addM, wN]; exact Nat.le_refl _
  | .no _, M, s => by rw [addM, wN]; exact Nat.le_refl _
  | .again p lo (some h), M, s => by
    have h1 := chn_eps (M ++ [[]]) s M.length
    rw [chn_snoc] at h1
    have h2 := copies_chn (addM_chn p) lo.toNat h.toNat (addE (M ++ [[]]) s Str.empty M.length) M.length
    have h4 := chn_close (copies (addM p) lo.toNat h.toNat (addE (M ++ [[]]) s Str.empty M.length) M.length).1 (copies (addM p) lo.toNat h.toNat (addE (M ++ [[]]) s Str.empty M.length) M.length).2.2
    rw [addM, wN, cps]
    try dsimp only
    omega
  | .again p lo none, M, s => by
    have h1 := chn_eps (M ++ [[]]) s M.length
    rw [chn_snoc] at h1
    have h2 := copies_chn (addM_chn p) lo.toNat lo.toNat (addE (M ++ [[]]) s Str.empty M.length) M.length
    rw [addM, wN, cps]
    try dsimp only
    generalize copies (addM p) lo.toNat lo.toNat (addE (M ++ [[]]) s Str.empty M.length) M.length = r at h2
    have h4 := chn_eps (r.1 ++ [[]]) r.2.1 r.1.length
    rw [chn_snoc] at h4
    have h5 := addM_chn p (addE (r.1 ++ [[]]) r.2.1 Str.empty r.1.length) r.1.length
    have h6 := chn_eps (addM p (addE (r.1 ++ [[]]) r.2.1 Str.empty r.1.length) r.1.length).1 (addM p (addE (r.1 ++ [[]]) r.2.1 Str.empty r.1.length) r.1.length).2 r.1.length
    have h7 := chn_close (around (addM p) r.1 r.2.1).1 [(around (addM p) r.1 r.2.1).2]
    have h8 : chn (around (addM p) r.1 r.2.1).1 ≤ chn r.1 + wN p := by
      show chn (addE _ _ _ _) ≤ _
      omega
    rw [Nat.succ_mul]
    omega
theorem addR_chn : ∀ (ps : List Rx) (M : Mvs) (s : Nat), chn (addR ps M s).1 ≤ chn M + wNL ps
  | [], M, s => by rw [addR, wNL]; exact Nat.le_refl _
  | p :: ps, M, s => by
    have h1 := addM_chn p M s
    have h2 := addR_chn ps (addM p M s).1 (addM p M s).2
    rw [addR, wNL]
    omega
theorem addO_chn : ∀ (ps : List Rx) (M : Mvs) (s : Nat), chn (addO ps M s).1 ≤ chn M + wNL ps
  | [], M, s => by rw [addO, wNL]; exact Nat.le_refl _
  | p :: ps, M, s => by
    have h1 := addM_chn p M s
    have h2 := addO_chn ps (addM p M s).1 s
    rw [addO, wNL]
    dsimp only; omega
end
mutual
theorem wN_le : ∀ r, okR r = true → (wN r : Int) ≤ wd r
  | .set _, _ => by rw [wN, wd]; decide
  | .row ps, h => by rw [okR, Bool.and_eq_true] at h; rw [wN, wd_row]; have := wNL_le ps h.2; have := mx1_ge (wdL ps).sum; omega
  | .any ps, h => by rw [okR, Bool.and_eq_true] at h; rw [wN, wd_any]; have := wNL_le ps h.2; have := mx1_ge (wdL ps).sum; omega
  | .all ps, h => by rw [wN, wd_all]; have := mx1_ge (wdL ps).sum; omega
  | .no p, h => by rw [wN, wd_no]; have := mx1_ge (wd p); omega
  | .again p lo hi, h => by
    rw [okR] at h
    simp only [Bool.and_eq_true, decide_eq_true_eq] at h
    obtain ⟨⟨⟨hp, lo0⟩, lo4⟩, hhi⟩ := h
    have h1 := wN_le p hp
    have h3 := wd_one p hp
    obtain ⟨M, eM, M1, Mk⟩ : ∃ M : Int, wd (.again p lo hi) = wd p * M ∧ 1 ≤ M ∧ (cps lo hi : Int) ≤ M := by
      cases hi with
      | none => exact ⟨lo + 1, by rw [wd, mx1_id h3], by omega, by unfold cps; dsimp only; omega⟩
      | some x => exact ⟨mx1 x, by rw [wd, mx1_id h3], (mx1_ge x).1, by unfold cps; dsimp only; have := mx1_ge x; omega⟩
    have g1 := Int.mul_le_mul h1 Mk (by omega) (by omega)
    rw [wN, eM]
    push_cast
    rw [Int.mul_comm]
    exact g1
theorem wNL_le : ∀ ps, okRL ps = true → (wNL ps : Int) ≤ (wdL ps).sum
  | [], _ => by rw [wNL, wdL]; decide
  | p :: ps, h => by
    rw [okRL, Bool.and_eq_true] at h
    rw [wNL, wdL, List.sum_cons]
    have := wN_le p h.1
    have := wNL_le ps h.2
    push_cast
    omega
end
theorem tab_chn (r : Rx) : chn (tab r) ≤ wN r := by
  have := addM_chn r [[]] 0
  have e : chn [[]] = 0 := rfl
  unfold tab
  omega
def cht (M : Mvs) : List Nat := M.flatMap fun l => (l.filter fun e => decide (e.1 ≠ Str.empty)).map (·.2)
theorem cht_len (M : Mvs) : (cht M).length = chn M := by
  unfold cht chn
  rw [List.length_flatMap]
  congr 1
  refine List.map_congr_left fun l _ => ?_
  rw [List.length_map]; rfl
theorem stp_cht {M : Mvs} {xs : List Nat} {c : Nat} : ∀ q ∈ stp M xs c, q ∈ cht M := fun q hq => by
  obtain ⟨x, _, cs, ⟨l, t, h1, h2, h3⟩, hc⟩ := mem_stp.mp hq
  unfold cht
  refine List.mem_flatMap.mpr ⟨l, List.mem_of_getElem? h1, List.mem_map.mpr ⟨(t, q), List.mem_filter.mpr ⟨h2, decide_eq_true ?_⟩, rfl⟩⟩
  rintro rfl
  rw [← h3] at hc
  cases hc
def sls {α : Type} : List α → List (List α)
  | [] => [[]]
  | x :: l => sls l ++ (sls l).map (x :: ·)
theorem sls_len {α : Type} : ∀ l : List α, (sls l).length = 2 ^ l.length
  | [] => rfl
  | x :: l => by rw [sls, List.length_append, List.length_map, sls_len l, List.length_cons, Nat.pow_succ]; omega
theorem sls_filter {α : Type} (p : α → Bool) : ∀ l : List α, l.filter p ∈ sls l
  | [] => by simp [sls]
  | x :: l => by
    rw [sls, List.filter_cons]
    split
    · exact List.mem_append.mpr (.inr (List.mem_map_of_mem (sls_filter p l)))
    · exact List.mem_append.mpr (.inl (sls_filter p l))
theorem clo_congr {M : Mvs} {xs ys : List Nat} (h : ∀ q, q ∈ xs ↔ q ∈ ys) : clo M xs = clo M ys := rch_congr fun x _ => ⟨fun ⟨p, hp, z⟩ => ⟨p, (h p).mp hp, z⟩, fun ⟨p, hp, z⟩ => ⟨p, (h p).mpr hp, z⟩⟩
theorem run_poss {M : Mvs} (hl : ∀ p c q, EM M p c q → p < M.length ∧ q < M.length) (w : Tx) (c : Nat) : run M (w ++ [c]) ∈ (sls (cht M)).map (clo M) := by
  rw [← run_snoc hl w c]
  refine List.mem_map.mpr ⟨(cht M).filter (fun q => decide (q ∈ stp M (run M w) c)), sls_filter _ _, clo_congr fun q => ?_⟩
  rw [List.mem_filter, decide_eq_true_eq]
  exact ⟨fun h => h.2, fun h => ⟨stp_cht q h, h⟩⟩
theorem run_step {M : Mvs} (hl : ∀ p c q, EM M p c q → p < M.length ∧ q < M.length) {w w' : Tx} (h : run M w = run M w') (c : Nat) : run M (w ++ [c]) = run M (w' ++ [c]) := by
  rw [← run_snoc hl w c, ← run_snoc hl w' c, h]
end Cut
namespace AU
section
variable {κ : Type} [DecidableEq κ]
def ded (ks : List κ) : List κ := adn [] ks
def nums (ks : List κ) : List Nat := ks.map fun k => (ded ks).idxOf k
def nc (ks : List κ) : Nat := (ded ks).length
theorem ded_mem {ks : List κ} {x : κ} : x ∈ ded ks ↔ x ∈ ks := by unfold ded; rw [adn_mem]; simp
theorem ded_nodup (ks : List κ) : (ded ks).Nodup := adn_nodup _ (by simp)
theorem nums_len (ks : List κ) : (nums ks).length = ks.length := by unfold nums; rw [List.length_map]
theorem nums_get {ks : List κ} {i : Nat} {x : κ} (h : ks[i]? = some x) : (nums ks)[i]? = some ((ded ks).idxOf x) := by unfold nums; rw [List.getElem?_map, h]; rfl
theorem nums_eq {ks : List κ} {i j : Nat} {x y : κ} (hx : ks[i]? = some x) (hy : ks[j]? = some y) : (nums ks)[i]? = (nums ks)[j]? ↔ x = y := by
  rw [nums_get hx, nums_get hy]
  constructor
  · intro h
    injection h with h
    exact idx_inj (ded_mem.mpr (List.mem_of_getElem? hx)) (ded_mem.mpr (List.mem_of_getElem? hy)) h
  · rintro rfl; rfl
theorem nums_lt {ks : List κ} : ∀ v ∈ nums ks, v < nc ks := fun v hv => by
  unfold nums at hv
  obtain ⟨x, hx, rfl⟩ := List.mem_map.mp hv
  exact List.idxOf_lt_length_of_mem (ded_mem.mpr hx)
theorem nums_ded (ks : List κ) : ded (nums ks) = List.range (nc ks) := by
  have h := adn_map (fun k => (ded ks).idxOf k) ks [] fun x hx y hy e => idx_inj (ded_mem.mpr (by simpa using hx)) (ded_mem.mpr (by simpa using hy)) e
  have h2 := idx_range (ded_nodup ks) (ded ks) [] (by simp)
  show adn [] (nums ks) = _
  unfold nums
  rw [List.map_nil] at h
  rw [h]
  exact h2
theorem nums_nc (ks : List κ) : nc (nums ks) = nc ks := by
  show (ded (nums ks)).length = _
  rw [nums_ded, List.length_range]
theorem nums_all {ks : List κ} {v : Nat} (h : v < nc ks) : v ∈ nums ks := by
  rw [← ded_mem, nums_ded]; exact List.mem_range.mpr h
theorem nc_le (ks : List κ) : nc ks ≤ ks.length := nodup_le (ded_nodup ks) fun x hx => ded_mem.mp hx
theorem nc_pos {ks : List κ} (h : 0 < ks.length) : 0 < nc ks := by
  have : ks[0] ∈ ded ks := ded_mem.mpr (List.getElem_mem h)
  exact List.length_pos_of_mem this
theorem ded_snoc (ks : List κ) (k : κ) : ded (ks ++ [k]) = if k ∈ ks then ded ks else ded ks ++ [k] := by
  unfold ded
  rw [adn_append, adn]
  have : k ∈ adn [] ks ↔ k ∈ ks := ded_mem
  simp only [this, adn]
theorem nums_snoc (ks : List κ) (k : κ) : nums (ks ++ [k]) = nums ks ++ [(ded (ks ++ [k])).idxOf k] := by
  unfold nums
  rw [List.map_append, List.map_cons, List.map_nil]
  congr 1
  refine List.map_congr_left fun x hx => ?_
  have : ∃ l, ded (ks ++ [k]) = ded ks ++ l := by
    rw [ded_snoc]
    split
    · exact ⟨[], by simp⟩
    · exact ⟨[k], rfl⟩
  obtain ⟨l, e⟩ := this
  rw [e, idx_app (ded_mem.mpr hx)]
end
theorem nodup_all {α : Type} [DecidableEq α] {l m : List α} (n : l.Nodup) (h : ∀ x ∈ l, x ∈ m) (hl : m.length ≤ l.length) : ∀ x ∈ m, x ∈ l := fun x hx => by
  refine Decidable.byContradiction fun hn => ?_
  have := nodup_le (l := x :: l) (m := m) (List.nodup_cons.mpr ⟨hn, n⟩) fun y hy => by
    rcases List.mem_cons.mp hy with e | e
    · rw [e]; exact hx
    · exact h y e
  rw [List.length_cons] at this
  omega
theorem idx_le {α : Type} [DecidableEq α] : ∀ {l : List α} {i : Nat} {x : α}, l[i]? = some x → l.idxOf x ≤ i
  | y :: l, 0, x, h => by
    have : y = x := by simpa using h
    rw [this, List.idxOf_cons_self]; exact Nat.le_refl _
  | y :: l, i + 1, x, h => by
    rw [List.idxOf_cons]
    have := idx_le (l := l) (i := i) (x := x) (by simpa using h)
    cases hy : (y == x) <;> simp <;> omega
theorem nodup_map {α β : Type} {φ : α → β} : ∀ {l : List α}, (∀ x ∈ l, ∀ y ∈ l, φ x = φ y → x = y) → l.Nodup → (l.map φ).Nodup
  | [], _, _ => by simp
  | x :: l, h, n => by
    rw [List.nodup_cons] at n
    rw [List.map_cons, List.nodup_cons]
    refine ⟨fun z => ?_, nodup_map (fun a ha b hb => h a (List.mem_cons_of_mem _ ha) b (List.mem_cons_of_mem _ hb)) n.2⟩
    obtain ⟨y, hy, e⟩ := List.mem_map.mp z
    rw [h y (List.mem_cons_of_mem _ hy) x (List.mem_cons_self ..) e] at hy
    exact n.1 hy
theorem finer_eq {κ κ' : Type} [DecidableEq κ] [DecidableEq κ'] {ks : List κ} {ks' : List κ'} (hl : ks.length = ks'.length)
    (hf : ∀ i j, i < ks.length → j < ks.length → ks'[i]? = ks'[j]? → ks[i]? = ks[j]?) (hn : nc ks' ≤ nc ks) : ∀ i j, i < ks.length → j < ks.length → ks[i]? = ks[j]? → ks'[i]? = ks'[j]? := by
  have P1 : ((ded ks).map fun k => ks.idxOf k).Nodup := by
    refine nodup_map ?_ (ded_nodup ks)
    intro x hx y hy e
    exact idx_inj (ded_mem.mp hx) (ded_mem.mp hy) e
  have P2 : ∀ p ∈ (ded ks).map (fun k => ks.idxOf k), p ∈ (ded ks').map (fun k => ks'.idxOf k) := fun p hp => by
    obtain ⟨k, hk, rfl⟩ := List.mem_map.mp hp
    have hk := ded_mem.mp hk
    have hlt := List.idxOf_lt_length_of_mem hk
    have hlt' : ks.idxOf k < ks'.length := by omega
    refine List.mem_map.mpr ⟨ks'[ks.idxOf k], ded_mem.mpr (List.getElem_mem hlt'), ?_⟩
    have hm : ks'[ks.idxOf k] ∈ ks' := List.getElem_mem hlt'
    have h1 := List.idxOf_lt_length_of_mem hm
    have e1 := idx_get hm
    have e2 : ks[ks'.idxOf ks'[ks.idxOf k]]? = ks[ks.idxOf k]? := hf _ _ (by omega) hlt (by rw [e1, List.getElem?_eq_getElem hlt'])
    rw [idx_get hk] at e2
    have h3 : ks'.idxOf ks'[ks.idxOf k] ≤ ks.idxOf k := idx_le (List.getElem?_eq_getElem hlt')
    have h4 : ks.idxOf k ≤ ks'.idxOf ks'[ks.idxOf k] := idx_le e2
    omega
  have P3 := nodup_all P1 P2 (by rw [List.length_map, List.length_map]; exact hn)
  have key : ∀ i, i < ks.length → ∀ x x', ks[i]? = some x → ks'[i]? = some x' → ks'.idxOf x' = ks.idxOf x := fun i hi x x' hx hx' => by
    have hm : x' ∈ ks' := List.mem_of_getElem? hx'
    have h1 := P3 _ (List.mem_map.mpr ⟨x', ded_mem.mpr hm, rfl⟩)
    obtain ⟨k, hk, e⟩ := List.mem_map.mp h1
    have hk := ded_mem.mp hk
    have e2 : ks[ks'.idxOf x']? = ks[i]? := hf _ _ (by have := List.idxOf_lt_length_of_mem hm; omega) hi (by rw [idx_get hm, hx'])
    rw [← e, idx_get hk, hx] at e2
    injection e2 with e2
    rw [← e, e2]
  intro i j hi hj e
  have hx := List.getElem?_eq_getElem hi
  have hy := List.getElem?_eq_getElem hj
  have hx' := List.getElem?_eq_getElem (show i < ks'.length by omega)
  have hy' := List.getElem?_eq_getElem (show j < ks'.length by omega)
  have h1 := key i hi _ _ hx hx'
  have h2 := key j hj _ _ hy hy'
  rw [hx, hy] at e
  injection e with e
  rw [e, ← h2] at h1
  have := idx_inj (List.mem_of_getElem? hx') (List.mem_of_getElem? hy') h1
  rw [hx', hy', this]
def gi (g : List Nat) (s : Nat) : Nat := (g[s]?).getD 0
def keyAt (rows : Tab) (g : List Nat) (i : Nat) : List Nat := gi g i :: (row rows i).map (gi g)
def keys (rows : Tab) (g : List Nat) : List (List Nat) := (List.range rows.length).map (keyAt rows g)
def refd (rows : Tab) (g : List Nat) : List Nat := nums (keys rows g)
theorem keys_len (rows : Tab) (g : List Nat) : (keys rows g).length = rows.length := by unfold keys; simp
theorem keys_get {rows : Tab} {g : List Nat} {i : Nat} (h : i < rows.length) : (keys rows g)[i]? = some (keyAt rows g i) := by
  unfold keys
  rw [List.getElem?_map, List.getElem?_range h]; rfl
theorem gi_get {g : List Nat} {i : Nat} (h : i < g.length) : g[i]? = some (gi g i) := by unfold gi; rw [List.getElem?_eq_getElem h]; rfl
theorem gi_eq {g : List Nat} {i j : Nat} (hi : i < g.length) (hj : j < g.length) : g[i]? = g[j]? ↔ gi g i = gi g j := by
  rw [gi_get hi, gi_get hj]; exact ⟨fun h => by injection h, fun h => by rw [h]⟩
def Eqv {μ : Type} (m : Nat) (rows : Tab) (M : List μ) (i j : Nat) : Prop := ∀ w, Wd m w → M[rn rows i w]? = M[rn rows j w]?
theorem Eqv.step {μ : Type} {m : Nat} {rows : Tab} {M : List μ} {i j : Nat} (h : Eqv m rows M i j) {a : Nat} (ha : a < m) : Eqv m rows M (nx rows i a) (nx rows j a) := fun w hw => by
  have := h (a :: w) fun b hb => by
    rcases List.mem_cons.mp hb with e | e
    · rw [e]; exact ha
    · exact hw b e
  exact this
structure Grp {μ : Type} (m : Nat) (rows : Tab) (M : List μ) (g : List Nat) : Prop where
  len : g.length = rows.length
  mks : ∀ i j, i < rows.length → j < rows.length → gi g i = gi g j → M[i]? = M[j]?
  eq : ∀ i j, i < rows.length → j < rows.length → Eqv m rows M i j → gi g i = gi g j
structure GrpE {μ : Type} (m : Nat) (rows : Tab) (M : List μ) (g : List Nat) : Prop extends toGrp : Grp m rows M g where
  st : ∀ i j, i < rows.length → j < rows.length → gi g i = gi g j → ∀ a, a < m → gi g (nx rows i a) = gi g (nx rows j a)
theorem row_map {m : Nat} {rows : Tab} (wf : Wf m rows) {i : Nat} (hi : i < rows.length) (φ : Nat → Nat) : (row rows i).map φ = (List.range m).map fun a => φ (nx rows i a) := by
  refine List.ext_getElem (by simp [wf.len i hi]) fun a h1 h2 => ?_
  rw [List.length_map, List.length_range] at h2
  have := (wf.nx hi h2).1
  rw [List.getElem_map, List.getElem_map, List.getElem_range]
  congr 1
  rw [List.length_map] at h1
  rw [List.getElem?_eq_getElem h1] at this
  injection this
theorem key_eq {m : Nat} {rows : Tab} (wf : Wf m rows) {g : List Nat} {i j : Nat} (hi : i < rows.length) (hj : j < rows.length) : keyAt rows g i = keyAt rows g j ↔ gi g i = gi g j ∧ ∀ a, a < m → gi g (nx rows i a) = gi g (nx rows j a) := by
  unfold keyAt
  rw [List.cons.injEq, row_map wf hi, row_map wf hj]
  constructor
  · rintro ⟨h1, h2⟩
    refine ⟨h1, fun a ha => ?_⟩
    have := congrArg (fun l => l[a]?) h2
    simpa [ha] using this
  · rintro ⟨h1, h2⟩
    exact ⟨h1, List.map_congr_left fun a ha => h2 a (List.mem_range.mp ha)⟩
theorem Grp.first {μ : Type} [DecidableEq μ] {m : Nat} {rows : Tab} {M : List μ} (hl : M.length = rows.length) : Grp m rows M (nums M) := by
  refine ⟨by rw [nums_len, hl], fun i j hi hj e => ?_, fun i j hi hj e => ?_⟩
  · have hx := List.getElem?_eq_getElem (show i < M.length by omega)
    have hy := List.getElem?_eq_getElem (show j < M.length by omega)
    rw [hx, hy]
    exact congrArg some ((nums_eq hx hy).mp ((gi_eq (by rw [nums_len]; omega) (by rw [nums_len]; omega)).mpr e))
  · have hx := List.getElem?_eq_getElem (show i < M.length by omega)
    have hy := List.getElem?_eq_getElem (show j < M.length by omega)
    have := e [] Wd.nil
    simp only [rn] at this
    rw [hx, hy] at this
    injection this with this
    exact (gi_eq (by rw [nums_len]; omega) (by rw [nums_len]; omega)).mp ((nums_eq hx hy).mpr this)
theorem refd_eq {m : Nat} {rows : Tab} (wf : Wf m rows) {g : List Nat} {i j : Nat} (hi : i < rows.length) (hj : j < rows.length) : gi (refd rows g) i = gi (refd rows g) j ↔ gi g i = gi g j ∧ ∀ a, a < m → gi g (nx rows i a) = gi g (nx rows j a) := by
  rw [← key_eq wf hi hj, ← nums_eq (keys_get hi) (keys_get hj)]
  exact (gi_eq (by unfold refd; rw [nums_len, keys_len]; exact hi) (by unfold refd; rw [nums_len, keys_len]; exact hj)).symm
theorem refd_len (rows : Tab) (g : List Nat) : (refd rows g).length = rows.length := by unfold refd; rw [nums_len, keys_len]
theorem Grp.next {μ : Type} {m : Nat} {rows : Tab} {M : List μ} {g : List Nat} (wf : Wf m rows) (h : Grp m rows M g) : Grp m rows M (refd rows g) := by
  refine ⟨refd_len rows g, fun i j hi hj e => h.mks i j hi hj ((refd_eq wf hi hj).mp e).1, fun i j hi hj e => (refd_eq wf hi hj).mpr ⟨h.eq i j hi hj e, fun a ha => h.eq _ _ (wf.nx hi ha).2 (wf.nx hj ha).2 (e.step ha)⟩⟩
def Nmd (g : List Nat) : Prop := nums g = g
theorem Nmd.nums {κ : Type} [DecidableEq κ] (ks : List κ) : Nmd (AU.nums ks) := by
  unfold Nmd
  show (AU.nums ks).map (fun k => (ded (AU.nums ks)).idxOf k) = _
  rw [nums_ded]
  conv => rhs; rw [← List.map_id (AU.nums ks)]
  refine List.map_congr_left fun v hv => ?_
  have := nums_lt v hv
  exact get_idx (List.nodup_range) (by rw [id, List.getElem?_range this])
theorem Grp.done {μ : Type} {m : Nat} {rows : Tab} {M : List μ} {g : List Nat} (wf : Wf m rows) (h : Grp m rows M g) (hn : nc (refd rows g) ≤ nc g) : GrpE m rows M g := by
  refine { h with st := fun i j hi hj e => ?_ }
  have hx := finer_eq (ks := g) (ks' := refd rows g) (by rw [h.len, refd_len]) (fun a b ha hb e => by
    rw [h.len] at ha hb
    have := ((refd_eq wf ha hb).mp ((gi_eq (by rw [refd_len]; exact ha) (by rw [refd_len]; exact hb)).mp e)).1
    exact (gi_eq (by rw [h.len]; exact ha) (by rw [h.len]; exact hb)).mpr this) hn i j (by rw [h.len]; exact hi) (by rw [h.len]; exact hj) ((gi_eq (by rw [h.len]; exact hi) (by rw [h.len]; exact hj)).mpr e)
  exact ((refd_eq wf hi hj).mp ((gi_eq (by rw [refd_len]; exact hi) (by rw [refd_len]; exact hj)).mp hx)).2
theorem GrpE.eqv {μ : Type} {m : Nat} {rows : Tab} {M : List μ} {g : List Nat} (wf : Wf m rows) (h : GrpE m rows M g) : ∀ (w : List Nat) (i j : Nat), i < rows.length → j < rows.length → gi g i = gi g j → Wd m w → gi g (rn rows i w) = gi g (rn rows j w)
  | [], i, j, _, _, e, _ => e
  | a :: w, i, j, hi, hj, e, hw => by
    rw [rn, rn]
    exact h.eqv wf w _ _ (wf.nx hi hw.tail.1).2 (wf.nx hj hw.tail.1).2 (h.st i j hi hj e a hw.tail.1) hw.tail.2
def gst (m : Nat) (rows : Tab) (g : List Nat) (c : Nat) : List Nat := (List.range m).map fun a => gi g (nx rows (g.idxOf c) a)
theorem gst_len (m : Nat) (rows : Tab) (g : List Nat) (c : Nat) : (gst m rows g c).length = m := by unfold gst; simp
theorem gst_row {m : Nat} {rows : Tab} (wf : Wf m rows) {g : List Nat} (hl : g.length = rows.length) {c : Nat} (hc : c ∈ g) : (row rows (g.idxOf c)).map (gi g) = gst m rows g c := row_map wf (by rw [← hl]; exact List.idxOf_lt_length_of_mem hc) (gi g)
theorem gi_idx {g : List Nat} {c : Nat} (hc : c ∈ g) : gi g (g.idxOf c) = c := by unfold gi; rw [idx_get hc]; rfl
theorem gst_gi {μ : Type} {m : Nat} {rows : Tab} {M : List μ} {g : List Nat} (wf : Wf m rows) (h : GrpE m rows M g) {s : Nat} (hs : s < rows.length) : gst m rows g (gi g s) = (List.range m).map fun a => gi g (nx rows s a) := by
  unfold gst
  have hm : gi g s ∈ g := List.mem_of_getElem? (gi_get (by rw [h.len]; exact hs))
  refine List.map_congr_left fun a ha => h.st _ _ (by rw [← h.len]; exact List.idxOf_lt_length_of_mem hm) hs (gi_idx hm) a (List.mem_range.mp ha)
theorem gst_run {μ : Type} {m : Nat} {rows : Tab} {M : List μ} {g : List Nat} (wf : Wf m rows) (h : GrpE m rows M g) : ∀ (w : List Nat) (s : Nat), s < rows.length → Wd m w → rnS (gst m rows g) (gi g s) w = gi g (rn rows s w)
  | [], s, _, _ => rfl
  | a :: w, s, hs, hw => by
    rw [rnS, gst_gi wf h hs, List.getElem?_map, List.getElem?_range hw.tail.1, rn]
    exact gst_run wf h w _ (wf.nx hs hw.tail.1).2 hw.tail.2
def lmk {μ : Type} (M : List μ) (g : List Nat) (o : List Nat) : List (Option μ) := o.map fun c => M[g.idxOf c]?
theorem bo_sub {m : Nat} {rows : Tab} {g : List Nat} (wf : Wf m rows) (hl : g.length = rows.length) : ∀ k, ∀ c ∈ bo (gst m rows g) (gi g 0) k, c ∈ g := fun k c hc => by
  have hin : ∀ s, s < rows.length → gi g s ∈ g := fun s hs => List.mem_of_getElem? (gi_get (by rw [hl]; exact hs))
  induction k generalizing c with
  | zero => rw [bo, List.mem_singleton] at hc; rw [hc]; exact hin 0 wf.pos
  | succ k ih =>
    rw [bo] at hc
    split at hc
    · rename_i y hy
      rcases (adn_mem _ _ _).mp hc with hc | hc
      · exact ih c hc
      · have hy := ih y (List.mem_of_getElem? hy)
        unfold gst at hc
        obtain ⟨a, ha, rfl⟩ := List.mem_map.mp hc
        exact hin _ (wf.nx (by rw [← hl]; exact List.idxOf_lt_length_of_mem hy) (List.mem_range.mp ha)).2
    · exact ih c hc
theorem min_aut {μ : Type} {m : Nat} {rows : Tab} {M M' : List μ} {g : List Nat} {f : List Nat → μ} {K : Nat} (wf : Wf m rows) (h : GrpE m rows M g) (hM : M.length = rows.length) (hf : ∀ w, Wd m w → M[rn rows 0 w]? = some (f w)) (e : Bend (gst m rows g) (gi g 0) K)
    (hM' : M'.map some = lmk M g (bo (gst m rows g) (gi g 0) K)) : Aut m f (btab (gst m rows g) (bo (gst m rows g) (gi g 0) K)) M' := by
  have hm := gst_len m rows g
  have sub := bo_sub wf h.len K
  have hml : M'.length = (bo (gst m rows g) (gi g 0) K).length := by
    have := congrArg List.length hM'
    unfold lmk at this
    rwa [List.length_map, List.length_map] at this
  have mk : ∀ s, s < rows.length → gi g s ∈ bo (gst m rows g) (gi g 0) K → M'[(bo (gst m rows g) (gi g 0) K).idxOf (gi g s)]? = M[s]? := fun s hs hc => by
    have h1 := congrArg (fun l => l[(bo (gst m rows g) (gi g 0) K).idxOf (gi g s)]?) hM'
    simp only [lmk, List.getElem?_map, idx_get hc, Option.map_some] at h1
    have h2 : M[g.idxOf (gi g s)]? = M[s]? := h.mks _ _ (by rw [← h.len]; exact List.idxOf_lt_length_of_mem (sub _ hc)) hs (gi_idx (sub _ hc))
    rw [h2] at h1
    cases h3 : M'[(bo (gst m rows g) (gi g 0) K).idxOf (gi g s)]? with
    | none => rw [h3] at h1; cases h1
    | some x => rw [h3] at h1; injection h1
  have run : ∀ (w : List Nat) (s : Nat), s < rows.length → gi g s ∈ bo (gst m rows g) (gi g 0) K → Wd m w → M'[rn (btab (gst m rows g) (bo (gst m rows g) (gi g 0) K)) ((bo (gst m rows g) (gi g 0) K).idxOf (gi g s)) w]? = M[rn rows s w]? := fun w s hs hc hw => by
    obtain ⟨i1, i2⟩ := e.run hm w _ hc hw
    rw [gst_run wf h w s hs hw] at i1 i2
    rw [i2]
    exact mk _ (wf.rn hs hw) i1
  have zero : gi g 0 ∈ bo (gst m rows g) (gi g 0) K := List.mem_of_getElem? (bo_zero _ _ K)
  have z0 : (bo (gst m rows g) (gi g 0) K).idxOf (gi g 0) = 0 := get_idx (bo_nodup _ _ K) (bo_zero _ _ K)
  refine ⟨e.wf hm, by rw [hml, btab_len], fun w hw => ?_, fun i j hi hj hij => ?_, e.std (m := m)⟩
  · have := run w 0 wf.pos zero hw
    rw [z0] at this
    rw [this]; exact hf w hw
  · rw [btab_len] at hi hj
    refine Classical.byContradiction fun hn => hij ?_
    have all : ∀ w, Wd m w → M'[rn (btab (gst m rows g) (bo (gst m rows g) (gi g 0) K)) i w]? = M'[rn (btab (gst m rows g) (bo (gst m rows g) (gi g 0) K)) j w]? := fun w hw => Classical.byContradiction fun z => hn ⟨w, hw, z⟩
    have ci := List.getElem_mem hi
    have cj := List.getElem_mem hj
    have si := gi_idx (sub _ ci)
    have sj := gi_idx (sub _ cj)
    have li : g.idxOf (bo (gst m rows g) (gi g 0) K)[i] < rows.length := by rw [← h.len]; exact List.idxOf_lt_length_of_mem (sub _ ci)
    have lj : g.idxOf (bo (gst m rows g) (gi g 0) K)[j] < rows.length := by rw [← h.len]; exact List.idxOf_lt_length_of_mem (sub _ cj)
    have xi := get_idx (bo_nodup (gst m rows g) (gi g 0) K) (List.getElem?_eq_getElem hi)
    have xj := get_idx (bo_nodup (gst m rows g) (gi g 0) K) (List.getElem?_eq_getElem hj)
    have eq : gi g (g.idxOf (bo (gst m rows g) (gi g 0) K)[i]) = gi g (g.idxOf (bo (gst m rows g) (gi g 0) K)[j]) := h.eq _ _ li lj fun w hw => by
      have r1 := run w _ li (by rw [si]; exact ci) hw
      have r2 := run w _ lj (by rw [sj]; exact cj) hw
      rw [si, xi] at r1
      rw [sj, xj] at r2
      rw [← r1, ← r2]; exact all w hw
    rw [si, sj] at eq
    rw [← xi, ← xj, eq]
theorem min_len {m : Nat} {rows : Tab} {g : List Nat} (wf : Wf m rows) (hl : g.length = rows.length) (K : Nat) : (bo (gst m rows g) (gi g 0) K).length ≤ rows.length := by
  rw [← hl]; exact nodup_le (bo_nodup _ _ K) (bo_sub wf hl K)
end AU
namespace AU
section
variable {α : Type} [DecidableEq α]
theorem bo_closed {st : α → List α} {a0 x : α} {k i : Nat} (hi : i < k) (h : (bo st a0 k)[i]? = some x) : ∀ y ∈ st x, y ∈ bo st a0 k := fun y hy => by
  by_cases hl : i < (bo st a0 i).length
  · have e1 := bo_get (K := k) (by omega) (List.getElem?_eq_getElem hl)
    rw [h] at e1
    injection e1 with e1
    have e2 := bo_step (List.getElem?_eq_getElem hl)
    obtain ⟨l, el⟩ := bo_ext st a0 (i + 1) (k - (i + 1))
    rw [show i + 1 + (k - (i + 1)) = k by omega] at el
    rw [el, e2, ← e1]
    exact List.mem_append.mpr (.inl ((adn_mem _ _ _).mpr (.inr hy)))
  · exfalso
    have st' : ∀ j, bo st a0 (i + j) = bo st a0 i := fun j => by
      induction j with
      | zero => rfl
      | succ j ih => rw [← Nat.add_assoc, bo, ih, List.getElem?_eq_none (by omega)]
    have := st' (k - i)
    rw [show i + (k - i) = k by omega] at this
    rw [this] at h
    have := (List.getElem?_eq_some_iff.mp h).1
    omega
def brs (st : α → List α) (o : List α) (k : Nat) : Tab := (o.take k).map fun x => (st x).map fun y => o.idxOf y
theorem brs_step {st : α → List α} {a0 x : α} {k : Nat} (h : (bo st a0 k)[k]? = some x) : brs st (bo st a0 (k + 1)) (k + 1) = brs st (bo st a0 k) k ++ [(st x).map fun y => (bo st a0 (k + 1)).idxOf y] := by
  have e2 := bo_step h
  obtain ⟨l, el⟩ := adn_ext (st x) (bo st a0 k)
  have hk := (List.getElem?_eq_some_iff.mp h).1
  have e3 := bo_get (K := k + 1) (by omega) h
  unfold brs
  rw [List.take_add_one, e3, List.map_append]
  congr 1
  rw [show (bo st a0 (k + 1)).take k = (bo st a0 k).take k by rw [e2, el, List.take_append_of_le_length (by omega)]]
  refine List.map_congr_left fun z hz => List.map_congr_left fun y hy => ?_
  obtain ⟨i, hi, e⟩ := List.mem_iff_getElem.mp hz
  rw [List.length_take] at hi
  have hz2 : (bo st a0 k)[i]? = some z := by
    rw [List.getElem_take] at e
    rw [List.getElem?_eq_getElem (by omega), e]
  rw [e2, el, idx_app (bo_closed (by omega) hz2 y hy)]
theorem brs_end {st : α → List α} {a0 : α} {k : Nat} (h : Bend st a0 k) : brs st (bo st a0 k) k = btab st (bo st a0 k) := by
  unfold brs btab
  rw [List.take_of_length_le (by rw [h.len]; exact Nat.le_refl _)]
theorem bo_le {st : α → List α} {a0 : α} {k : Nat} (h : k = 0 ∨ ∃ x, (bo st a0 (k - 1))[k - 1]? = some x) : k ≤ (bo st a0 k).length := by
  rcases h with rfl | ⟨x, h⟩
  · simp [bo]
  · have := (List.getElem?_eq_some_iff.mp h).1
    obtain ⟨l, el⟩ := bo_ext st a0 (k - 1) (k - (k - 1))
    rw [show k - 1 + (k - (k - 1)) = k by omega] at el
    rw [el, List.length_append]; omega
end
end AU
namespace ML
open PySem L2 DL AU
section
variable {α κ : Type} [DecidableEq κ]
def mp (φ : α → κ) (v : α → D) (o : List α) : List (κ × D) := o.map fun x => (φ x, v x)
theorem mp_val [DecidableEq α] {φ : α → κ} {v : α → D} : ∀ {o : List α} {x : α}, (∀ y ∈ o, φ y = φ x → y = x) → valD (mp φ v o) (φ x) = if x ∈ o then some (v x) else none
  | [], x, _ => rfl
  | y :: o, x, h => by
    unfold mp
    rw [List.map_cons, valD]
    by_cases e : y = x
    · subst e
      rw [if_pos rfl, if_pos (List.mem_cons_self ..)]
    · rw [if_neg (fun z => e (h y (List.mem_cons_self ..) z))]
      have := mp_val (v := v) (o := o) (x := x) fun z hz => h z (List.mem_cons_of_mem _ hz)
      unfold mp at this
      rw [this]
      have : x ∈ y :: o ↔ x ∈ o := ⟨fun z => (List.mem_cons.mp z).elim (fun z => (e z.symm).elim) id, List.mem_cons_of_mem _⟩
      simp only [this]
theorem putKD_end {kvs : List (κ × D)} {k : κ} {d : D} (h : valD kvs k = none) : putKD kvs k d = kvs ++ [(k, d)] := by
  unfold putKD
  rw [valD_any, h]; rfl
def nb [DecidableEq α] (φ : α → κ) (o : List α) : List (κ × D) := mp φ (fun x => .int ((o.idxOf x : Nat) : Int)) o
theorem nb_len [DecidableEq α] (φ : α → κ) (o : List α) : (nb φ o).length = o.length := by unfold nb mp; rw [List.length_map]
theorem nb_val [DecidableEq α] {φ : α → κ} {o : List α} {x : α} (h : ∀ y ∈ o, φ y = φ x → y = x) : valD (nb φ o) (φ x) = if x ∈ o then some (.int ((o.idxOf x : Nat) : Int)) else none := mp_val h
theorem nb_snoc [DecidableEq α] {φ : α → κ} {o : List α} {x : α} (hx : x ∉ o) : nb φ (o ++ [x]) = nb φ o ++ [(φ x, .int ((o.length : Nat) : Int))] := by
  unfold nb mp
  rw [List.map_append, List.map_cons, List.map_nil]
  congr 1
  · refine List.map_congr_left fun y hy => ?_
    dsimp only
    rw [idx_app hy]
  · dsimp only
    rw [List.idxOf_append, if_neg hx]
    simp
theorem nb_put [DecidableEq α] {φ : α → κ} {o : List α} {x : α} (h : ∀ y ∈ o, φ y = φ x → y = x) (hx : x ∉ o) : putKD (nb φ o) (φ x) (.int ((o.length : Nat) : Int)) = nb φ (o ++ [x]) := by
  rw [nb_snoc hx, putKD_end (by rw [nb_val h, if_neg hx])]
end
mutual
def gd : D → Bool
  | .non => true
  | .int _ => true
  | .str _ => true
  | .tup ds => gdL ds
  | _ => false
def gdL : List D → Bool
  | [] => true
  | d :: ds => gd d && gdL ds
end
mutual
def ky : D → NestedKey
  | .non => .none
  | .int i => .num i
  | .str x => .text x
  | .tup ds => .tup (kyL ds)
  | _ => .none
def kyL : List D → List NestedKey
  | [] => []
  | d :: ds => ky d :: kyL ds
end
mutual
theorem nkD_ky : ∀ d, gd d = true → nkD d = some (ky d)
  | .non, _ => by rw [nkD, ky]
  | .int i, _ => by rw [nkD, ky]
  | .str x, _ => by rw [nkD, ky]
  | .tup ds, h => by
    rw [gd] at h
    rw [nkD, nkL_ky ds h, ky]
  | .bl _, h => by cases h
  | .lst _, h => by cases h
  | .obj _ _, h => by cases h
  | .ty _, h => by cases h
  | .raw _, h => by cases h
  | .scr _, h => by cases h
theorem nkL_ky : ∀ ds, gdL ds = true → nkL ds = some (kyL ds)
  | [], _ => by rw [nkL, kyL]
  | d :: ds, h => by
    rw [gdL, Bool.and_eq_true] at h
    rw [nkL, nkD_ky d h.1, nkL_ky ds h.2, kyL]
end
mutual
theorem ky_inj : ∀ a b, gd a = true → gd b = true → ky a = ky b → a = b
  | .non, .non, _, _, _ => rfl
  | .int i, .int j, _, _, e => by rw [ky, ky] at e; injection e with e; rw [e]
  | .str i, .str j, _, _, e => by rw [ky, ky] at e; injection e with e; rw [e]
  | .tup ds, .tup es, h1, h2, e => by
    rw [gd] at h1 h2
    rw [ky, ky] at e
    injection e with e
    rw [kyL_inj ds es h1 h2 e]
  | .non, .int _, _, _, e => by rw [ky, ky] at e; cases e
  | .non, .str _, _, _, e => by rw [ky, ky] at e; cases e
  | .non, .tup _, _, _, e => by rw [ky, ky] at e; cases e
  | .int _, .non, _, _, e => by rw [ky, ky] at e; cases e
  | .int _, .str _, _, _, e => by rw [ky, ky] at e; cases e
  | .int _, .tup _, _, _, e => by rw [ky, ky] at e; cases e
  | .str _, .non, _, _, e => by rw [ky, ky] at e; cases e
  | .str _, .int _, _, _, e => by rw [ky, ky] at e; cases e
  | .str _, .tup _, _, _, e => by rw [ky, ky] at e; cases e
  | .tup _, .non, _, _, e => by rw [ky, ky] at e; cases e
  | .tup _, .int _, _, _, e => by rw [ky, ky] at e; cases e
  | .tup _, .str _, _, _, e => by rw [ky, ky] at e; cases e
  | .bl _, _, h, _, _ => by cases h
  | .lst _, _, h, _, _ => by cases h
  | .obj _ _, _, h, _, _ => by cases h
  | .ty _, _, h, _, _ => by cases h
  | .raw _, _, h, _, _ => by cases h
  | .scr _, _, h, _, _ => by cases h
  | .non, .bl _, _, h, _ => by cases h
  | .non, .lst _, _, h, _ => by cases h
  | .non, .obj _ _, _, h, _ => by cases h
  | .non, .ty _, _, h, _ => by cases h
  | .non, .raw _, _, h, _ => by cases h
  | .non, .scr _, _, h, _ => by cases h
  | .int _, .bl _, _, h, _ => by cases h
  | .int _, .lst _, _, h, _ => by cases h
  | .int _, .obj _ _, _, h, _ => by cases h
  | .int _, .ty _, _, h, _ => by cases h
  | .int _, .raw _, _, h, _ => by cases h
  | .int _, .scr _, _, h, _ => by cases h
  | .str _, .bl _, _, h, _ => by cases h
  | .str _, .lst _, _, h, _ => by cases h
  | .str _, .obj _ _, _, h, _ => by cases h
  | .str _, .ty _, _, h, _ => by cases h
  | .str _, .raw _, _, h, _ => by cases h
  | .str _, .scr _, _, h, _ => by cases h
  | .tup _, .bl _, _, h, _ => by cases h
  | .tup _, .lst _, _, h, _ => by cases h
  | .tup _, .obj _ _, _, h, _ => by cases h
  | .tup _, .ty _, _, h, _ => by cases h
  | .tup _, .raw _, _, h, _ => by cases h
  | .tup _, .scr _, _, h, _ => by cases h
theorem kyL_inj : ∀ as bs, gdL as = true → gdL bs = true → kyL as = kyL bs → as = bs
  | [], [], _, _, _ => rfl
  | a :: as, b :: bs, h1, h2, e => by
    rw [gdL, Bool.and_eq_true] at h1 h2
    rw [kyL, kyL] at e
    injection e with e1 e2
    rw [ky_inj a b h1.1 h2.1 e1, kyL_inj as bs h1.2 h2.2 e2]
  | [], _ :: _, _, _, e => by rw [kyL, kyL] at e; cases e
  | _ :: _, [], _, _, e => by rw [kyL, kyL] at e; cases e
end
theorem nkT_ky {ds : List D} (h : gdL ds = true) : nkT (.tup ds) = some (ky (.tup ds)) := by
  rw [nkT]; exact nkD_ky _ (by rw [gd]; exact h)
mutual
def dpt : D → Nat
  | .tup ds => dptL ds + 1
  | _ => 0
def dptL : List D → Nat
  | [] => 0
  | d :: ds => max (dpt d) (dptL ds)
end
mutual
theorem ky_dep : ∀ d, gd d = true → (ky d).depth ≤ dpt d + 1
  | .non, _ => by rw [ky]; simp [NestedKey.depth]
  | .int i, _ => by rw [ky]; simp [NestedKey.depth]
  | .str i, _ => by rw [ky]; simp [NestedKey.depth]
  | .tup ds, h => by
    rw [gd] at h
    have := kyL_dep ds h
    rw [ky, dpt]
    simp only [NestedKey.depth]
    omega
  | .bl _, h => by cases h
  | .lst _, h => by cases h
  | .obj _ _, h => by cases h
  | .ty _, h => by cases h
  | .raw _, h => by cases h
  | .scr _, h => by cases h
theorem kyL_dep : ∀ ds, gdL ds = true → NestedKey.depthAll (kyL ds) ≤ dptL ds + 1
  | [], _ => by rw [kyL, dptL]; simp [NestedKey.depthAll]
  | d :: ds, h => by
    rw [gdL, Bool.and_eq_true] at h
    have := ky_dep d h.1
    have := kyL_dep ds h.2
    rw [kyL, dptL]
    simp only [NestedKey.depthAll]
    omega
end
theorem gdL_all : ∀ {ds : List D}, (∀ d ∈ ds, gd d = true) → gdL ds = true
  | [], _ => rfl
  | d :: ds, h => by rw [gdL, h d (List.mem_cons_self ..), gdL_all fun x hx => h x (List.mem_cons_of_mem _ hx)]; rfl
theorem dptL_le : ∀ {ds : List D} {n : Nat}, (∀ d ∈ ds, dpt d ≤ n) → dptL ds ≤ n
  | [], n, _ => by rw [dptL]; omega
  | d :: ds, n, h => by
    rw [dptL]
    have := h d (List.mem_cons_self ..)
    have := dptL_le fun x hx => h x (List.mem_cons_of_mem _ hx)
    omega
theorem gd_ints (ns : List Int) : gdL (ns.map .int) = true := gdL_all fun d hd => by
  obtain ⟨i, _, rfl⟩ := List.mem_map.mp hd
  rfl
theorem dpt_ints (ns : List Int) : dptL (ns.map .int) = 0 := Nat.le_zero.mp (dptL_le fun d hd => by
  obtain ⟨i, _, rfl⟩ := List.mem_map.mp hd
  exact Nat.le_refl _)
end ML
namespace Cut
open PySem L2 DL ML AU
theorem intsD_inj {xs ys : List Nat} (h : intsD xs = intsD ys) : xs = ys := by
  rw [intsD_map, intsD_map] at h
  have h2 := congrArg (List.map fun d => match d with | D.int i => i.toNat | _ => 0) h
  simpa [List.map_map, Function.comp_def] using h2
theorem gd_nats (xs : List Nat) : gdL (intsD xs) = true := by rw [intsD_map]; exact gd_ints _
theorem dpt_nats (xs : List Nat) : dptL (intsD xs) = 0 := by rw [intsD_map]; exact dpt_ints _
theorem gd_sta : ∀ (n : Nat) (r : Rx) (w : Tx), MOk r n → gd (sta r w) = true ∧ dpt (sta r w) ≤ rdep r + 1
  | 0, r, w, x => by have := x.dp; omega
  | n + 1, r, w, x => by
    cases hpl : plain r with
    | true =>
      rw [sta_plain hpl, gd, dpt, dpt_nats]
      exact ⟨gd_nats _, by omega⟩
    | false =>
      have hp := x.parts hpl
      rw [sta_not hpl x.hp, gd, dpt]
      constructor
      · refine gdL_all fun d hd => ?_
        obtain ⟨p, hp', rfl⟩ := List.mem_map.mp hd
        exact (gd_sta n p w (hp p hp')).1
      · have : dptL (r.parts.map fun p => sta p w) ≤ rdep r := dptL_le fun d hd => by
          obtain ⟨p, hp', rfl⟩ := List.mem_map.mp hd
          have h1 := (gd_sta n p w (hp p hp')).2
          have h2 := rdep_parts (n := rdep r) (r := r) (Nat.lt_succ_self _) (fun z => by rw [z] at hp'; cases hp') p hp'
          omega
        omega
theorem sta_tup (r : Rx) (hh : hasP r = true) (w : Tx) : ∃ ds, sta r w = .tup ds := by
  cases hpl : plain r with
  | true => exact ⟨_, sta_plain hpl w⟩
  | false => exact ⟨_, sta_not hpl hh w⟩
theorem sta_key {n : Nat} {r : Rx} (x : MOk r n) (w : Tx) : nkT (sta r w) = some (ky (sta r w)) ∧ (ky (sta r w)).depth ≤ rdep r + 2 := by
  obtain ⟨h1, h2⟩ := gd_sta n r w x
  obtain ⟨ds, e⟩ := sta_tup r x.hp w
  have h3 := ky_dep _ h1
  refine ⟨?_, by omega⟩
  rw [e] at h1 ⊢
  rw [gd] at h1
  exact nkT_ky h1
theorem sta_next : ∀ (n : Nat) (r : Rx) (w w' : Tx) (c : Nat), MOk r n → sta r w = sta r w' → sta r (w ++ [c]) = sta r (w' ++ [c])
  | 0, r, _, _, _, x, _ => by have := x.dp; omega
  | n + 1, r, w, w', c, x, h => by
    cases hpl : plain r with
    | true =>
      obtain ⟨t1, t2, t3, t4⟩ := x.tab hpl
      rw [sta_plain hpl, sta_plain hpl] at h ⊢
      injection h with h
      rw [run_step t4 (intsD_inj h) c]
    | false =>
      have hp := x.parts hpl
      rw [sta_not hpl x.hp, sta_not hpl x.hp] at h ⊢
      injection h with h
      congr 1
      refine List.map_congr_left fun p hp' => sta_next n p w w' c (hp p hp') ?_
      exact List.map_inj_left.mp h p hp'
theorem sta_poss : ∀ (n : Nat) (r : Rx), MOk r n → ∃ l : List D, l.length ≤ 2 ^ (wd r).toNat ∧ ∀ w c, sta r (w ++ [c]) ∈ l
  | 0, r, x => by have := x.dp; omega
  | n + 1, r, x => by
    cases hpl : plain r with
    | true =>
      obtain ⟨t1, t2, t3, t4⟩ := x.tab hpl
      refine ⟨((sls (cht (tab r))).map (clo (tab r))).map fun xs => .tup (intsD xs), ?_, fun w c => ?_⟩
      · rw [List.length_map, List.length_map, sls_len, cht_len]
        have h1 := tab_chn r
        have h2 := wN_le r x.ok
        exact Nat.pow_le_pow_right (by decide) (by omega)
      · rw [sta_plain hpl]
        exact List.mem_map_of_mem (run_poss t4 w c)
    | false =>
      have hp := x.parts hpl
      have key : ∀ ps : List Rx, (∀ p ∈ ps, MOk p n) → ∃ l : List (List D), l.length ≤ 2 ^ (ps.map fun p => (wd p).toNat).sum ∧ ∀ w c, (ps.map fun p => sta p (w ++ [c])) ∈ l := fun ps => by
        induction ps with
        | nil => exact fun _ => ⟨[[]], by simp, fun w c => by simp⟩
        | cons p ps ih =>
          intro h
          obtain ⟨l1, a1, a2⟩ := sta_poss n p (h p (List.mem_cons_self ..))
          obtain ⟨l2, b1, b2⟩ := ih fun q hq => h q (List.mem_cons_of_mem _ hq)
          refine ⟨l1.flatMap fun x => l2.map (x :: ·), ?_, fun w c => ?_⟩
          · rw [List.length_flatMap]
            simp only [List.length_map]
            rw [List.map_const', List.sum_replicate_nat, List.map_cons, List.sum_cons, Nat.pow_add]
            exact Nat.mul_le_mul a1 b1
          · exact List.mem_flatMap.mpr ⟨_, a2 w c, List.mem_map_of_mem (b2 w c)⟩
      obtain ⟨l, l1, l2⟩ := key r.parts hp
      refine ⟨l.map .tup, ?_, fun w c => ?_⟩
      · rw [List.length_map]
        refine Nat.le_trans l1 (Nat.pow_le_pow_right (by decide) ?_)
        exact wd_parts x.ok hpl x.hp
      · rw [sta_not hpl x.hp]
        exact List.mem_map_of_mem (l2 w c)
where
  sum_toNat : ∀ ps : List Rx, okRL ps = true → (ps.map fun p => (wd p).toNat).sum = ((wdL ps).sum).toNat
    | [], _ => rfl
    | p :: ps, h => by
      rw [okRL, Bool.and_eq_true] at h
      have h1 := wd_one p h.1
      have h2 := wdL_nn ps h.2
      rw [List.map_cons, List.sum_cons, wdL, List.sum_cons, sum_toNat ps h.2]
      omega
  wd_parts {r : Rx} (ok : okR r = true) (hpl : plain r = false) (hh : hasP r = true) : (r.parts.map fun p => (wd p).toNat).sum ≤ (wd r).toNat := by
    cases r with
    | set s => rw [plain] at hpl; cases hpl
    | row ps => rw [plain] at hpl; rw [hasP, hpl] at hh; cases hh
    | again p lo hi => rw [plain] at hpl; rw [hasP, hpl] at hh; cases hh
    | any ps =>
      rw [okR, Bool.and_eq_true] at ok
      show (ps.map fun p => (wd p).toNat).sum ≤ _
      rw [sum_toNat ps ok.2, wd_any]
      have := mx1_ge (wdL ps).sum
      omega
    | all ps =>
      rw [okR, Bool.and_eq_true] at ok
      show (ps.map fun p => (wd p).toNat).sum ≤ _
      rw [sum_toNat ps ok.2, wd_all]
      have := mx1_ge (wdL ps).sum
      omega
    | no p =>
      show ([p].map fun p => (wd p).toNat).sum ≤ _
      rw [wd_no]
      have := mx1_ge (wd p)
      simp only [List.map_cons, List.map_nil, List.sum_cons, List.sum_nil]
      omega
open Classical in
noncomputable def nxD (r : Rx) (d : D) (c : Nat) : D := if h : ∃ w, d = sta r w then sta r (h.choose ++ [c]) else d
theorem nxD_sta {n : Nat} {r : Rx} (x : MOk r n) (w : Tx) (c : Nat) : nxD r (sta r w) c = sta r (w ++ [c]) := by
  have h : ∃ w', sta r w = sta r w' := ⟨w, rfl⟩
  unfold nxD
  rw [dif_pos h]
  exact (sta_next n r _ _ c x h.choose_spec).symm
noncomputable def stD (A : Tx) (r : Rx) (d : D) : List D := A.map (nxD r d)
theorem stD_len (A : Tx) (r : Rx) (d : D) : (stD A r d).length = A.length := by unfold stD; rw [List.length_map]
def chs (A : Tx) (w : List Nat) : Tx := w.map fun i => (A[i]?).getD 0
theorem stD_run {n : Nat} {r : Rx} (x : MOk r n) {A : Tx} : ∀ (w : List Nat) (v : Tx), Wd A.length w → rnS (stD A r) (sta r v) w = sta r (v ++ chs A w)
  | [], v, _ => by simp [rnS, chs]
  | a :: w, v, h => by
    have ha := h.tail.1
    rw [rnS]
    have e : (stD A r (sta r v))[a]? = some (sta r (v ++ [(A[a]?).getD 0])) := by
      unfold stD
      rw [List.getElem?_map, List.getElem?_eq_getElem ha]
      show some (nxD r (sta r v) A[a]) = some (sta r (v ++ [A[a]]))
      rw [nxD_sta x]
    rw [e]
    show rnS (stD A r) (sta r (v ++ [(A[a]?).getD 0])) w = _
    rw [stD_run x w _ h.tail.2]
    congr 1
    show (v ++ [_]) ++ chs A w = v ++ (_ :: chs A w)
    rw [List.append_assoc]; rfl
noncomputable instance : DecidableEq D := fun a b => Classical.propDecidable (a = b)
theorem bo_sta {n : Nat} {r : Rx} (x : MOk r n) (A : Tx) (k : Nat) : ∀ d ∈ bo (stD A r) (sta r []) k, ∃ w, d = sta r w ∧ (∀ c ∈ w, c ∈ A) := fun d hd => by
  obtain ⟨w, w1, w2⟩ := bo_reach (stD_len A r) k d hd
  rw [stD_run x w [] w1] at w2
  refine ⟨chs A w, by rw [← w2]; rfl, fun c hc => ?_⟩
  unfold chs at hc
  obtain ⟨i, hi, rfl⟩ := List.mem_map.mp hc
  rw [List.getElem?_eq_getElem (w1 i hi)]
  exact List.getElem_mem _
theorem bo_few {n : Nat} {r : Rx} (x : MOk r n) (A : Tx) (k : Nat) : (bo (stD A r) (sta r []) k).length ≤ 2 ^ (wd r).toNat + 1 := by
  obtain ⟨l, l1, l2⟩ := sta_poss n r x
  have := nodup_le (bo_nodup (stD A r) (sta r []) k) (m := sta r [] :: l) fun d hd => by
    obtain ⟨w, rfl, _⟩ := bo_sta x A k d hd
    rcases List.eq_nil_or_concat w with rfl | ⟨v, c, rfl⟩
    · exact List.mem_cons_self ..
    · rw [List.concat_eq_append]; exact List.mem_cons_of_mem _ (l2 v c)
  rw [List.length_cons] at this
  omega
end Cut
namespace ML
open PySem L2 DL
theorem RepL.take {K : Fg} {H : Hp} : ∀ (n : Nat) {vs : List V} {ds : List D}, RepL K H vs ds → RepL K H (vs.take n) (ds.take n)
  | 0, _, _, _ => .nil
  | n + 1, _, _, .nil => .nil
  | n + 1, _, _, .cons a r => .cons a (RepL.take n r)
theorem RepL.drop {K : Fg} {H : Hp} : ∀ (n : Nat) {vs : List V} {ds : List D}, RepL K H vs ds → RepL K H (vs.drop n) (ds.drop n)
  | 0, _, _, r => r
  | n + 1, _, _, .nil => .nil
  | n + 1, _, _, .cons a r => RepL.drop n r
section
variable {X : Cx} {W : Wd} {pos apos : Pos} {o e : Expr} {es : List Expr} {τo τe : TM} {τs : TMA}
end
section
variable {X : Cx} {W : Wd} {pos : Pos} {a b : Expr} {τa τb : TM}
end
end ML
namespace ML
open PySem L2 DL
end ML
namespace ML
open PySem L2 DL
section
variable {X : Cx} {W : Wd} {a b : Expr} {τa τb : TM} {pos : Pos}
end
end ML
namespace ML
open PySem L2 DL
section
variable {X : Cx} {W : Wd} {a b : Expr} {τa τb : TM} {pos : Pos}
end
end ML
namespace Cut
open PySem L2 DL ML
local macro_rules | `(tactic| walk_at "n") => `(tactic| repeat (first | with_reducible refine ⟨_, rfl, ?_⟩ | refine ⟨_, rfl, ?_⟩ | refine ⟨rfl, ?_⟩ | refine ⟨_, _, rfl, rfl, ?_⟩ | refine ⟨_, _, rfl, ?_⟩ | refine ⟨⟨_, rfl⟩, ?_⟩ | refine ⟨Nat.le_of_ble_eq_true rfl, ?_⟩ | refine ⟨_, ix_t0 _ _, ?_⟩ | refine ⟨_, ix_l0 _ _, ?_⟩))
local macro_rules | `(tactic| walk_at "w") => `(tactic| (simp only [Res.dat, List.any_cons, List.any_nil, eqB_str]; decide +kernel))
def srD (r : Sr) : D := .lst [.bl r.nl, .lst (intsD r.fi), .lst (intsD r.la)]
abbrev Sas := List (Addr × Addr)
structure SpAt (h : Hd) (b : Addr) (S : Sp) (as : Sas) : Prop where
  len : as.length = S.length
  top : h b = some (.lst (as.map fun a => .raw (.ref a.1)))
  at_ : ∀ (i : Nat) (x : Str × List Nat) (a : Addr × Addr), S[i]? = some x → as[i]? = some a → h a.1 = some (.lst [.str x.1, .raw (.ref a.2)]) ∧ h a.2 = some (.lst (intsD x.2))
  nd : (as.map (·.2)).Nodup
def Kp (h h' : Hd) (b : Addr) (as : Sas) : Prop := ∀ a o, h a = some o → a ≠ b → a ∉ as.map (·.2) → h' a = some o
structure SpTo (h h' : Hd) (b : Addr) (S' : Sp) (as as' : Sas) : Prop where
  sp : SpAt h' b S' (as ++ as')
  new : ∀ a ∈ as', h a.1 = none ∧ h a.2 = none
  kp : Kp h h' b as
section
variable {h h1 h2 : Hd} {b : Addr} {S S1 S2 : Sp} {as as1 as2 : Sas}
theorem SpAt.mem (s : SpAt h b S as) {c : Addr} (hc : c ∈ as.map (·.2)) : ∃ (i : Nat) (x : Str × List Nat) (a : Addr × Addr), S[i]? = some x ∧ as[i]? = some a ∧ a.2 = c ∧ h c = some (.lst (intsD x.2)) := by
  obtain ⟨a, ha, rfl⟩ := List.mem_map.mp hc
  obtain ⟨i, hi, e⟩ := List.mem_iff_getElem.mp ha
  have e1 : as[i]? = some a := by rw [List.getElem?_eq_getElem hi, e]
  have e2 : S[i]? = some (S[i]'(by rw [← s.len]; exact hi)) := List.getElem?_eq_getElem _
  exact ⟨i, _, a, e2, e1, rfl, (s.at_ i _ a e2 e1).2⟩
theorem SpAt.apart (s : SpAt h b S as) {p : Addr} {c : Bool} {l : List D} (e : h p = some (.lst (.bl c :: l))) : p ≠ b ∧ p ∉ as.map (·.2) := by
  refine ⟨fun z => ?_, fun z => ?_⟩
  · rw [z, s.top] at e
    injection e with e
    injection e with e
    cases as with
    | nil => cases e
    | cons a as =>
      injection e with e _
      cases e
  · obtain ⟨i, x, a, _, _, _, e2⟩ := s.mem z
    rw [e] at e2
    injection e2 with e2
    injection e2 with e2
    cases hx : x.2 with
    | nil => rw [hx] at e2; cases e2
    | cons v vs =>
      rw [hx] at e2
      injection e2 with e2 _
      cases e2
theorem SpTo.refl (s : SpAt h b S as) : SpTo h h b S as [] := ⟨by rw [List.append_nil]; exact s, fun _ z => (nomatch z), fun _ _ e _ _ => e⟩
theorem SpTo.trans (s : SpAt h b S as) (x : SpTo h h1 b S1 as as1) (y : SpTo h1 h2 b S2 (as ++ as1) as2) : SpTo h h2 b S2 as (as1 ++ as2) := by
  have back : ∀ c, h1 c = none → h c = none := fun c z => by
    cases e : h c with
    | none => rfl
    | some o =>
      by_cases hb : c = b
      · rw [hb, x.sp.top] at z; cases z
      · by_cases hc : c ∈ as.map (·.2)
        · obtain ⟨_, _, _, _, _, _, e2⟩ := x.sp.mem (c := c) (by rw [List.map_append]; exact List.mem_append_left _ hc)
          rw [e2] at z; cases z
        · rw [x.kp _ o e hb hc] at z; cases z
  refine ⟨by rw [← List.append_assoc]; exact y.sp, fun a ha => ?_, fun a o e n1 n2 => ?_⟩
  · rcases List.mem_append.mp ha with ha | ha
    · exact x.new a ha
    · exact ⟨back _ (y.new a ha).1, back _ (y.new a ha).2⟩
  · refine y.kp a o (x.kp a o e n1 n2) n1 fun z => ?_
    rw [List.map_append] at z
    rcases List.mem_append.mp z with z | z
    · exact n2 z
    · obtain ⟨a', ha', rfl⟩ := List.mem_map.mp z
      rw [(x.new a' ha').2] at e; cases e
theorem SpAt.beside (s : SpAt h b S as) {p : Addr} {o : Ob} (n1 : p ≠ b) (n2 : p ∉ as.map (·.2)) (n3 : ∀ c l, h p = some (.lst (.str c :: l)) → False) : SpAt (put h p o) b S as := by
  refine ⟨s.len, by rw [put_ne (Ne.symm n1)]; exact s.top, fun i x a e1 e2 => ?_, s.nd⟩
  obtain ⟨g1, g2⟩ := s.at_ i x a e1 e2
  refine ⟨by rw [put_ne (fun z => n3 _ _ (by rw [← z]; exact g1))]; exact g1, by rw [put_ne (fun z => n2 (by rw [← z]; exact List.mem_map_of_mem (List.mem_of_getElem? e2)))]; exact g2⟩
theorem SpAt.aside (s : SpAt h b S as) {p : Addr} {o : Ob} (n : h p = none) : SpAt (put h p o) b S as := s.beside (fun z => by rw [z, s.top] at n; cases n) (fun z => by obtain ⟨_, _, _, _, _, _, e⟩ := s.mem z; rw [n] at e; cases e) fun c l e => by rw [n] at e; cases e
theorem SpAt.found (s : SpAt h b S as) {p : Addr} {o : Ob} {c : Bool} {l : List D} (e : h p = some (.lst (.bl c :: l))) : SpAt (put h p o) b S as := by
  obtain ⟨n1, n2⟩ := s.apart e
  exact s.beside n1 n2 fun c' l' e' => by rw [e] at e'; cases e'
theorem SpAt.add (s : SpAt h b S as) {c a : Addr} {t : Str} (hc : h c = none) (ha : h a = none) (hac : a ≠ c) : SpTo h (put (put (put h c (.lst [])) a (.lst [.str t, .raw (.ref c)])) b (.lst (as.map (fun a => .raw (.ref a.1)) ++ [.raw (.ref a)]))) b (S ++ [(t, [])]) as [(a, c)] := by
  have bc : b ≠ c := fun z => by rw [← z, s.top] at hc; cases hc
  have ba : b ≠ a := fun z => by rw [← z, s.top] at ha; cases ha
  refine ⟨⟨by rw [List.length_append, List.length_append, s.len]; rfl, by rw [put_same, List.map_append]; rfl, fun i x a' e1 e2 => ?_, ?_⟩, fun a' ha' => by rw [List.mem_singleton.mp ha']; exact ⟨ha, hc⟩, fun a' o e n1 n2 => ?_⟩
  · by_cases hi : i < as.length
    · rw [List.getElem?_append_left hi] at e2
      rw [List.getElem?_append_left (by rw [← s.len]; exact hi)] at e1
      obtain ⟨g1, g2⟩ := s.at_ i x a' e1 e2
      have x1 : a'.1 ≠ b := fun z => by
        rw [z, s.top] at g1
        injection g1 with g1
        injection g1 with g1
        cases as with
        | nil => cases e2
        | cons y ys => injection g1 with g1 _; cases g1
      have x2 : a'.2 ≠ b := fun z => by
        rw [z, s.top] at g2
        injection g2 with g2
        injection g2 with g2
        cases as with
        | nil => cases e2
        | cons y ys =>
          cases hx : x.2 with
          | nil => rw [hx] at g2; cases g2
          | cons v vs => rw [hx] at g2; injection g2 with g2 _; cases g2
      refine ⟨?_, ?_⟩
      · rw [put_ne x1, put_ne (fun z => by rw [z, ha] at g1; cases g1), put_ne (fun z => by rw [z, hc] at g1; cases g1)]; exact g1
      · rw [put_ne x2, put_ne (fun z => by rw [z, ha] at g2; cases g2), put_ne (fun z => by rw [z, hc] at g2; cases g2)]; exact g2
    · rw [List.getElem?_append_right (by omega)] at e2
      have hi2 : i = as.length := by
        have := (List.getElem?_eq_some_iff.mp e2).1
        simp at this
        omega
      subst hi2
      rw [Nat.sub_self] at e2
      rw [s.len, List.getElem?_append_right (Nat.le_refl _), Nat.sub_self] at e1
      cases e1
      cases e2
      refine ⟨?_, ?_⟩
      · show put _ b _ a = _
        rw [put_ne (Ne.symm ba), put_same]
      · show put _ b _ c = _
        rw [put_ne (Ne.symm bc), put_ne (Ne.symm hac), put_same]; rfl
  · rw [List.map_append, List.nodup_append]
    refine ⟨s.nd, by simp, fun x hx y hy e => ?_⟩
    rw [List.mem_singleton.mp hy] at e
    obtain ⟨_, _, _, _, _, _, e2⟩ := s.mem hx
    rw [e, hc] at e2; cases e2
  · rw [put_ne n1, put_ne (fun z => by rw [z, ha] at e; cases e), put_ne (fun z => by rw [z, hc] at e; cases e)]
    exact e
end
abbrev It := Rx × Bool × Bool
structure ItOk (n : Nat) (i : It) : Prop where
  pl : plain i.1 = true
  ok : okR i.1 = true
  dp : rdep i.1 < n
section
variable {P : Program} {w : World} {K : Fg} {mg : Str → Option Value} {base : Heap} {f f2 f3 : Addr} {fd fd2 fd3 : FuncData}
end
end Cut
namespace Cut
theorem ndl {α : Type} [DecidableEq α] : ∀ {l m : List α}, l.Nodup → (∀ x ∈ l, x ∈ m) → l.length ≤ m.length
  | [], m, _, _ => Nat.zero_le _
  | x :: l, m, h, s => by
    obtain ⟨h1, h2⟩ := List.nodup_cons.mp h
    have hx := s x (List.mem_cons_self ..)
    have ih := ndl (m := m.erase x) h2 fun y hy => (List.mem_erase_of_ne (a := y) (b := x) (fun e => by rw [e] at hy; exact h1 hy)).mpr (s y (List.mem_cons_of_mem _ hy))
    rw [List.length_erase_of_mem hx] at ih
    have : 1 ≤ m.length := List.length_pos_of_mem hx
    rw [List.length_cons]; omega
end Cut
namespace ML
open PySem L2 DL PySem.Spec PyProof.Rows
section
variable {X : Cx} {W : Wd} {pos p p2 q : Pos} {a : Expr} {τa : TM}
end
end ML
namespace ML
open PySem L2 DL
section
variable {X : Cx} {W : Wd} {pos : Pos}
end
end ML
namespace Cut
open PySem L2 DL
inductive PR (α : Type) where
  | ok (a : α) (j : Nat) | er (j : Nat)
def PR.bnd {α β : Type} (x : PR α) (f : α → Nat → PR β) : PR β := match x with
  | .ok a j => f a j
  | .er j => .er j
def PR.post {α : Type} (x : PR α) (Q : α → Nat → Prop) (E : Nat → Prop) : Prop := match x with
  | .ok a j => Q a j
  | .er j => E j
theorem PR.post.imp {α : Type} {x : PR α} {Q Q' : α → Nat → Prop} {E E' : Nat → Prop} (h : x.post Q E) (h1 : ∀ a j, x = .ok a j → Q a j → Q' a j) (h2 : ∀ j, x = .er j → E j → E' j) : x.post Q' E' := by
  cases x with
  | ok a j => exact h1 a j rfl h
  | er j => exact h2 j rfl h
def dig (i : Int) : List Nat := [48 + i.toNat]
def hiT : Option Int → List Nat
  | none => [42]
  | some h => dig h
def wRow : List Nat := [114, 111, 119]
def wAny : List Nat := [97, 110, 121]
def wAll : List Nat := [97, 108, 108]
def wNot : List Nat := [110, 111, 116]
def wAgain : List Nat := [97, 103, 97, 105, 110]
mutual
def fmt : Rx → List Nat
  | .set s => 91 :: (s.cps.toList ++ [93])
  | .row ps => 40 :: (wRow ++ (fmtL ps ++ [41]))
  | .any ps => 40 :: (wAny ++ (fmtL ps ++ [41]))
  | .all ps => 40 :: (wAll ++ (fmtL ps ++ [41]))
  | .no p => 40 :: (wNot ++ (32 :: (fmt p ++ [41])))
  | .again p lo hi => 40 :: (wAgain ++ (32 :: (fmt p ++ (32 :: (dig lo ++ (32 :: (hiT hi ++ [41])))))))
def fmtL : List Rx → List Nat
  | [] => []
  | p :: ps => 32 :: (fmt p ++ fmtL ps)
end
section
variable (s : List Nat)
def pX : List Nat → Nat → PR Unit
  | [], i => .ok () i
  | c :: cs, i => if s[i]? = some c then pX cs (i + 1) else .er i
def KW : List (List Nat) := [wRow, wAny, wAll, wNot, wAgain]
def isPre (f : List Nat) : Bool := KW.any fun w => decide (w.take f.length = f)
def pK : Nat → List Nat → Nat → PR (List Nat)
  | 0, _, i => .er i
  | n + 1, f, i => if KW.contains f = true then .ok f i else match s[i]? with
    | none => .er i
    | some c => if isPre (f ++ [c]) = true then pK n (f ++ [c]) (i + 1) else .er i
def pD (low : Nat) (i : Nat) : PR Nat := match s[i]? with
  | none => .er i
  | some c => if 48 + low ≤ c ∧ c ≤ 52 then .ok (c - 48) (i + 1) else .er i
def pC : Nat → List Nat → List Nat → Nat → PR (List Nat)
  | 0, _, _, i => .er i
  | n + 1, rest, f, i => match s[i]? with
    | none => .er i
    | some c => if c = 93 then .ok f i else if c ∈ rest then pC n (rest.drop (rest.idxOf c + 1)) (f ++ [c]) (i + 1) else .er i
def pS (A : List Nat) (i : Nat) : PR Rx := (pX s [91] i).bnd fun _ j => (pC s (A.length + 1) A [] j).bnd fun f k => (pX s [93] k).bnd fun _ l => .ok (.set (ofL f)) l
def mkW (w : List Nat) (ps : List Rx) : Rx := if w = wRow then .row ps else if w = wAny then .any ps else .all ps
mutual
def pE (A : List Nat) : Nat → Nat → PR Rx
  | 0, i => .er i
  | n + 1, i => if s[i]? = some 91 then pS s A i else (pX s [40] i).bnd fun _ i1 => (pK s 6 [] i1).bnd fun w i2 =>
    (if w = wAgain then (pX s [32] i2).bnd fun _ i3 => (pE A n i3).bnd fun p i4 => (pX s [32] i4).bnd fun _ i5 => (pD s 0 i5).bnd fun lo i6 => (pX s [32] i6).bnd fun _ i7 =>
        (if s[i7]? = some 42 then (pX s [42] i7).bnd fun _ i8 => .ok (.again p (lo : Nat) none) i8 else (pD s lo i7).bnd fun hi i8 => .ok (.again p (lo : Nat) (some (hi : Nat))) i8)
      else if w = wNot then (pX s [32] i2).bnd fun _ i3 => (pE A n i3).bnd fun p i4 => .ok (.no p) i4
      else (pP A n i2).bnd fun ps i3 => .ok (mkW w ps) i3).bnd fun r j => (pX s [41] j).bnd fun _ k => .ok r k
def pP (A : List Nat) : Nat → Nat → PR (List Rx)
  | 0, i => .er i
  | n + 1, i => if s[i]? = some 41 then .ok [] i else (pX s [32] i).bnd fun _ i1 => (pE A n i1).bnd fun p i2 => (pP A n i2).bnd fun ps i3 => .ok (p :: ps) i3
end
end
theorem at_pre {pre cs post : List Nat} {c : Nat} : (pre ++ (c :: cs) ++ post)[pre.length]? = some c := by
  rw [List.append_assoc, List.getElem?_append_right (Nat.le_refl _), Nat.sub_self]; rfl
theorem pX_ok {s : List Nat} : ∀ (t : List Nat) (pre post : List Nat), s = pre ++ t ++ post → pX s t pre.length = .ok () (pre.length + t.length)
  | [], pre, post, _ => rfl
  | c :: cs, pre, post, h => by
    unfold pX
    rw [if_pos (by rw [h]; exact at_pre)]
    have := pX_ok (s := s) cs (pre ++ [c]) post (by rw [h]; simp)
    rw [List.length_append, List.length_singleton] at this
    rw [this, List.length_cons]
    congr 1
    omega
theorem pK_ok {s : List Nat} {w : List Nat} (hw : w ∈ KW) {pre post : List Nat} (h : s = pre ++ w ++ post) : pK s 6 [] pre.length = .ok w (pre.length + w.length) := by
  have g : ∀ i, i < w.length → s[pre.length + i]? = w[i]? := fun i hi => by
    rw [h, List.append_assoc, List.getElem?_append_right (by omega), Nat.add_sub_cancel_left, List.getElem?_append_left hi]
  simp only [KW, List.mem_cons, List.mem_nil_iff, or_false] at hw
  have g0 := g 0
  have g1 := g 1
  have g2 := g 2
  have g3 := g 3
  have g4 := g 4
  rcases hw with rfl | rfl | rfl | rfl | rfl
  all_goals simp only [wRow, wAny, wAll, wNot, wAgain, List.length_cons, List.length_nil, Nat.add_zero] at g0 g1 g2 g3 g4 ⊢
  all_goals have g0 := g0 (by decide)
  all_goals have g1 := g1 (by decide)
  all_goals have g2 := g2 (by decide)
  all_goals simp only [List.getElem?_cons_zero, List.getElem?_cons_succ] at g0 g1 g2
  all_goals simp only [pK, g0, g1, g2, Nat.add_assoc, Nat.reduceAdd]
  all_goals first
    | (simp only [show KW.contains ([] : List Nat) = false by decide, show KW.contains [114] = false by decide, show KW.contains [114, 111] = false by decide, show KW.contains [97] = false by decide, show KW.contains [97, 110] = false by decide, show KW.contains [97, 108] = false by decide, show KW.contains [110] = false by decide, show KW.contains [110, 111] = false by decide, Bool.false_eq_true, if_false, List.nil_append, List.cons_append,
        show isPre [114] = true by decide, show isPre [114, 111] = true by decide, show isPre [114, 111, 119] = true by decide, show isPre [97] = true by decide, show isPre [97, 110] = true by decide, show isPre [97, 110, 121] = true by decide, show isPre [97, 108] = true by decide, show isPre [97, 108, 108] = true by decide, show isPre [110] = true by decide, show isPre [110, 111] = true by decide, show isPre [110, 111, 116] = true by decide, if_true,
        show KW.contains [114, 111, 119] = true by decide, show KW.contains [97, 110, 121] = true by decide, show KW.contains [97, 108, 108] = true by decide, show KW.contains [110, 111, 116] = true by decide]; done)
    | skip
  have g3 := g3 (by decide)
  have g4 := g4 (by decide)
  simp only [List.getElem?_cons_zero, List.getElem?_cons_succ] at g3 g4
  simp only [g3, g4, show KW.contains ([] : List Nat) = false by decide, show KW.contains [97] = false by decide, show KW.contains [97, 103] = false by decide, show KW.contains [97, 103, 97] = false by decide, show KW.contains [97, 103, 97, 105] = false by decide, Bool.false_eq_true, if_false, List.nil_append, List.cons_append,
    show isPre [97] = true by decide, show isPre [97, 103] = true by decide, show isPre [97, 103, 97] = true by decide, show isPre [97, 103, 97, 105] = true by decide, show isPre [97, 103, 97, 105, 110] = true by decide, if_true, show KW.contains [97, 103, 97, 105, 110] = true by decide]
theorem pD_ok {s : List Nat} {lo i : Int} (h0 : 0 ≤ lo) (h1 : lo ≤ i) (h4 : i ≤ 4) {pre post : List Nat} (h : s = pre ++ dig i ++ post) : pD s lo.toNat pre.length = .ok i.toNat (pre.length + 1) := by
  unfold pD
  rw [show s[pre.length]? = some (48 + i.toNat) by rw [h]; exact at_pre]
  dsimp only
  rw [if_pos (by omega)]
  congr 1
  omega
theorem pC_ok {s : List Nat} : ∀ (n : Nat) (rest cs f pre post : List Nat), cs.length < n → s = pre ++ cs ++ (93 :: post) → 93 ∉ cs → cs.Sublist rest → rest.Nodup → pC s n rest f pre.length = .ok (f ++ cs) (pre.length + cs.length)
  | n + 1, rest, [], f, pre, post, _, h, _, _, _ => by
    unfold pC
    rw [show s[pre.length]? = some 93 by rw [h, List.append_nil]; simp]
    simp
  | n + 1, rest, c :: cs, f, pre, post, hn, h, h9, hs, nd => by
    unfold pC
    rw [show s[pre.length]? = some c by rw [h]; exact at_pre]
    have hc : c ≠ 93 := fun e => h9 (by rw [e]; exact List.mem_cons_self ..)
    have hm : c ∈ rest := hs.subset (List.mem_cons_self ..)
    dsimp only
    rw [if_neg hc, if_pos hm]
    have hs2 : cs.Sublist (rest.drop (rest.idxOf c + 1)) := by
      obtain ⟨a, b, rfl, hb⟩ : ∃ a b, rest = a ++ c :: b ∧ c ∉ a := by
        obtain ⟨a, b, e⟩ := List.append_of_mem hm
        refine ⟨a, b, e, fun hca => ?_⟩
        rw [e, List.nodup_append] at nd
        exact nd.2.2 c hca c (List.mem_cons_self ..) rfl
      rw [List.idxOf_append, if_neg hb, List.idxOf_cons_self, Nat.zero_add]
      rw [show a ++ c :: b = (a ++ [c]) ++ b by simp, List.drop_append, List.drop_of_length_le (by simp), List.length_append, List.length_singleton, Nat.sub_self, List.drop_zero, List.nil_append]
      rw [List.cons_sublist_iff] at hs
      obtain ⟨r1, r2, e1, e2, e3⟩ := hs
      have hr : (a ++ [c]).length ≤ r1.length := by
        rcases Nat.lt_or_ge r1.length (a.length + 1) with hlt | hge
        · exfalso
          have : r1 <+: a := by
            have p1 : r1 <+: a ++ c :: b := ⟨r2, e1.symm⟩
            have p2 : a <+: a ++ c :: b := ⟨c :: b, rfl⟩
            exact List.prefix_of_prefix_length_le p1 p2 (by omega)
          exact hb (this.subset e2)
        · simpa using hge
      have p1 : a ++ [c] <+: a ++ c :: b := ⟨b, by simp⟩
      have p2 : r1 <+: a ++ c :: b := ⟨r2, e1.symm⟩
      obtain ⟨t, ht⟩ := List.prefix_of_prefix_length_le p1 p2 hr
      have : b = t ++ r2 := by
        have e4 : (a ++ [c]) ++ b = (a ++ [c]) ++ (t ++ r2) := by rw [← List.append_assoc, ht, ← e1]; simp
        exact List.append_cancel_left e4
      rw [this]
      exact e3.trans (List.sublist_append_right t r2)
    have nd2 : (rest.drop (rest.idxOf c + 1)).Nodup := nd.sublist (List.drop_sublist _ _)
    have := pC_ok (s := s) n (rest.drop (rest.idxOf c + 1)) cs (f ++ [c]) (pre ++ [c]) post (by simpa using hn) (by rw [h]; simp) (fun z => h9 (List.mem_cons_of_mem _ z)) hs2 nd2
    rw [List.length_append, List.length_singleton] at this
    rw [this, List.append_assoc, List.length_cons]
    congr 1
    omega
theorem set_sub {A s : Str} (h : isSetM A [.str s] = true) : s.cps.toList.Sublist A.cps.toList := by
  have e : s = ofL (A.cps.toList.filter fun c => decide (c ∈ s.cps.toList)) := of_decide_eq_true h
  have e2 : s.cps.toList = A.cps.toList.filter fun c => decide (c ∈ s.cps.toList) := by
    have := congrArg (fun z : Str => z.cps.toList) e
    simpa using this
  rw [e2]
  exact List.filter_sublist
theorem pS_ok {t : List Nat} {A s : Str} (hA : Alp A) (h : isSetM A [.str s] = true) {pre post : List Nat} (e : t = pre ++ fmt (.set s) ++ post) : pS t A.cps.toList pre.length = .ok (.set s) (pre.length + (fmt (.set s)).length) := by
  have hs := set_sub h
  have h9 : 93 ∉ A.cps.toList := fun z => by
    have := hA.ch 93 z
    rw [CH_eq] at this
    revert this
    decide
  rw [fmt] at e ⊢
  unfold pS
  rw [show pX t [91] pre.length = .ok () (pre.length + 1) from pX_ok [91] pre (s.cps.toList ++ 93 :: post) (by rw [e]; simp)]
  dsimp only [PR.bnd]
  have := pC_ok (s := t) (A.cps.toList.length + 1) A.cps.toList s.cps.toList [] (pre ++ [91]) post (by have := hs.length_le; omega) (by rw [e]; simp) (fun z => h9 (hs.subset z)) hs hA.nd
  rw [List.length_append, List.length_singleton] at this
  rw [this]
  dsimp only
  have := pX_ok (s := t) [93] (pre ++ [91] ++ s.cps.toList) post (by rw [e]; simp)
  rw [show List.length (pre ++ [91] ++ s.cps.toList) = pre.length + 1 + s.cps.toList.length by simp; omega] at this
  rw [this]
  dsimp only
  rw [List.nil_append, l_ofL]
  congr 1
  simp
  omega
mutual
theorem pE_ok {t : List Nat} {A : Str} (hA : Alp A) : ∀ (r : Rx) (n : Nat) (pre post : List Nat), stR A r = true → okR r = true → t = pre ++ fmt r ++ post → (fmt r).length < n → pE t A.cps.toList n pre.length = .ok r (pre.length + (fmt r).length)
  | .set s, n + 1, pre, post, hs, ho, e, hn => by
    unfold pE
    rw [if_pos (by rw [e, fmt]; exact at_pre)]
    rw [stR, Bool.and_eq_true] at hs
    exact pS_ok hA hs.1 e
  | .row ps, n + 1, pre, post, hs, ho, e, hn => by
    rw [stR] at hs
    rw [okR, Bool.and_eq_true] at ho
    rw [fmt] at e hn ⊢
    refine pE_list hA (w := wRow) (by decide) ps n pre post e (by simp only [wRow, List.length_cons, List.length_append, List.length_nil] at hn ⊢; omega) (by decide) (by decide) ?_
    exact pP_ok (t := t) hA ps n (pre ++ 40 :: wRow) post hs ho.2 (by rw [e]; simp) (by simp only [wRow, List.length_cons, List.length_append, List.length_nil] at hn ⊢; omega)
  | .any ps, n + 1, pre, post, hs, ho, e, hn => by
    rw [stR] at hs
    rw [okR, Bool.and_eq_true] at ho
    rw [fmt] at e hn ⊢
    refine pE_list hA (w := wAny) (by decide) ps n pre post e (by simp only [wAny, List.length_cons, List.length_append, List.length_nil] at hn ⊢; omega) (by decide) (by decide) ?_
    exact pP_ok (t := t) hA ps n (pre ++ 40 :: wAny) post hs ho.2 (by rw [e]; simp) (by simp only [wAny, List.length_cons, List.length_append, List.length_nil] at hn ⊢; omega)
  | .all ps, n + 1, pre, post, hs, ho, e, hn => by
    rw [stR] at hs
    rw [okR, Bool.and_eq_true] at ho
    rw [fmt] at e hn ⊢
    refine pE_list hA (w := wAll) (by decide) ps n pre post e (by simp only [wAll, List.length_cons, List.length_append, List.length_nil] at hn ⊢; omega) (by decide) (by decide) ?_
    exact pP_ok (t := t) hA ps n (pre ++ 40 :: wAll) post hs ho.2 (by rw [e]; simp) (by simp only [wAll, List.length_cons, List.length_append, List.length_nil] at hn ⊢; omega)
  | .no p, n + 1, pre, post, hs, ho, e, hn => by
    rw [stR] at hs
    rw [okR] at ho
    rw [fmt] at e hn ⊢
    unfold pE
    rw [if_neg (by rw [e, at_pre]; decide)]
    rw [show pX t [40] pre.length = .ok () (pre.length + 1) from pX_ok [40] pre _ (by rw [e]; simp; rfl)]
    dsimp only [PR.bnd]
    have e1 := pK_ok (s := t) (w := wNot) (by decide) (pre := pre ++ [40]) (post := 32 :: (fmt p ++ [41]) ++ post) (by rw [e]; simp)
    rw [List.length_append, List.length_singleton] at e1
    rw [e1]
    dsimp only
    rw [if_neg (by decide), if_pos rfl]
    have e2 := pX_ok (s := t) [32] (pre ++ 40 :: wNot) (fmt p ++ [41] ++ post) (by rw [e]; simp)
    rw [show List.length (pre ++ 40 :: wNot) = pre.length + 1 + wNot.length by simp; omega] at e2
    rw [e2]
    dsimp only
    have e3 := pE_ok (t := t) hA p n (pre ++ 40 :: wNot ++ [32]) ([41] ++ post) hs ho (by rw [e]; simp) (by simp only [wNot, List.length_cons, List.length_append, List.length_nil] at hn ⊢; omega)
    rw [show List.length (pre ++ 40 :: wNot ++ [32]) = pre.length + 1 + wNot.length + [32].length by simp; omega] at e3
    rw [e3]
    dsimp only
    have e4 := pX_ok (s := t) [41] (pre ++ 40 :: wNot ++ [32] ++ fmt p) post (by rw [e]; simp)
    rw [show List.length (pre ++ 40 :: wNot ++ [32] ++ fmt p) = pre.length + 1 + wNot.length + [32].length + (fmt p).length by simp; omega] at e4
    rw [e4]
    dsimp only
    congr 1
    simp
    omega
  | .again p lo hi, n + 1, pre, post, hs, ho, e, hn => by
    rw [stR] at hs
    rw [okR, Bool.and_eq_true, Bool.and_eq_true, Bool.and_eq_true] at ho
    obtain ⟨⟨⟨ho1, ho2⟩, ho3⟩, ho4⟩ := ho
    have l0 : 0 ≤ lo := of_decide_eq_true ho2
    have l4 : lo ≤ 4 := of_decide_eq_true ho3
    rw [fmt] at e hn ⊢
    unfold pE
    rw [if_neg (by rw [e, at_pre]; decide)]
    rw [show pX t [40] pre.length = .ok () (pre.length + 1) from pX_ok [40] pre _ (by rw [e]; simp; rfl)]
    dsimp only [PR.bnd]
    have e1 := pK_ok (s := t) (w := wAgain) (by decide) (pre := pre ++ [40]) (post := 32 :: (fmt p ++ (32 :: (dig lo ++ (32 :: (hiT hi ++ [41]))))) ++ post) (by rw [e]; simp)
    rw [List.length_append, List.length_singleton] at e1
    rw [e1]
    dsimp only
    rw [if_pos rfl]
    have e2 := pX_ok (s := t) [32] (pre ++ 40 :: wAgain) (fmt p ++ (32 :: (dig lo ++ (32 :: (hiT hi ++ [41])))) ++ post) (by rw [e]; simp)
    rw [show List.length (pre ++ 40 :: wAgain) = pre.length + 1 + wAgain.length by simp; omega] at e2
    rw [e2]
    dsimp only
    have e3 := pE_ok (t := t) hA p n (pre ++ 40 :: wAgain ++ [32]) ((32 :: (dig lo ++ (32 :: (hiT hi ++ [41])))) ++ post) hs ho1 (by rw [e]; simp) (by simp only [wAgain, dig, List.length_cons, List.length_append, List.length_nil] at hn ⊢; omega)
    rw [show List.length (pre ++ 40 :: wAgain ++ [32]) = pre.length + 1 + wAgain.length + [32].length by simp; omega] at e3
    rw [e3]
    dsimp only
    have e4 := pX_ok (s := t) [32] (pre ++ 40 :: wAgain ++ [32] ++ fmt p) (dig lo ++ (32 :: (hiT hi ++ [41])) ++ post) (by rw [e]; simp)
    rw [show List.length (pre ++ 40 :: wAgain ++ [32] ++ fmt p) = pre.length + 1 + wAgain.length + [32].length + (fmt p).length by simp; omega] at e4
    rw [e4]
    dsimp only
    have e5 := pD_ok (s := t) (lo := 0) (i := lo) (by omega) l0 l4 (pre := pre ++ 40 :: wAgain ++ [32] ++ fmt p ++ [32]) (post := 32 :: (hiT hi ++ [41]) ++ post) (by rw [e]; simp)
    rw [show List.length (pre ++ 40 :: wAgain ++ [32] ++ fmt p ++ [32]) = pre.length + 1 + wAgain.length + [32].length + (fmt p).length + [32].length by simp; omega] at e5
    rw [show (0 : Int).toNat = 0 from rfl] at e5
    rw [e5]
    dsimp only
    have e6 := pX_ok (s := t) [32] (pre ++ 40 :: wAgain ++ [32] ++ fmt p ++ [32] ++ dig lo) (hiT hi ++ [41] ++ post) (by rw [e]; simp)
    rw [show List.length (pre ++ 40 :: wAgain ++ [32] ++ fmt p ++ [32] ++ dig lo) = pre.length + 1 + wAgain.length + [32].length + (fmt p).length + [32].length + 1 by simp [dig]; omega] at e6
    rw [e6]
    dsimp only
    have hlo : ((lo.toNat : Nat) : Int) = lo := by omega
    have tl : ∀ (c : Nat) (cs : List Nat), hiT hi = c :: cs → t[pre.length + 1 + wAgain.length + [32].length + (fmt p).length + [32].length + 1 + [32].length]? = some c := fun c cs hc => by
      have : t = (pre ++ 40 :: wAgain ++ [32] ++ fmt p ++ [32] ++ dig lo ++ [32]) ++ (c :: cs) ++ ([41] ++ post) := by rw [e, hc]; simp
      rw [this, show pre.length + 1 + wAgain.length + [32].length + (fmt p).length + [32].length + 1 + [32].length = (pre ++ 40 :: wAgain ++ [32] ++ fmt p ++ [32] ++ dig lo ++ [32]).length by simp [dig]; omega]
      exact at_pre
    have last : ∀ (k : Nat) (hk : (hiT hi).length = k), pX t [41] (pre.length + 1 + wAgain.length + [32].length + (fmt p).length + [32].length + 1 + [32].length + k) = .ok () (pre.length + 1 + wAgain.length + [32].length + (fmt p).length + [32].length + 1 + [32].length + k + 1) := fun k hk => by
      have := pX_ok (s := t) [41] (pre ++ 40 :: wAgain ++ [32] ++ fmt p ++ [32] ++ dig lo ++ [32] ++ hiT hi) post (by rw [e]; simp)
      rw [show List.length (pre ++ 40 :: wAgain ++ [32] ++ fmt p ++ [32] ++ dig lo ++ [32] ++ hiT hi) = pre.length + 1 + wAgain.length + [32].length + (fmt p).length + [32].length + 1 + [32].length + k by simp [dig, hk]; omega] at this
      exact this
    cases hi with
    | none =>
      rw [if_pos (tl 42 [] rfl)]
      have e7 := pX_ok (s := t) [42] (pre ++ 40 :: wAgain ++ [32] ++ fmt p ++ [32] ++ dig lo ++ [32]) ([41] ++ post) (by rw [e, hiT]; simp)
      rw [show List.length (pre ++ 40 :: wAgain ++ [32] ++ fmt p ++ [32] ++ dig lo ++ [32]) = pre.length + 1 + wAgain.length + [32].length + (fmt p).length + [32].length + 1 + [32].length by simp [dig]; omega] at e7
      rw [e7]
      dsimp only
      rw [show [42].length = 1 from rfl, last 1 rfl]
      dsimp only
      rw [hlo]
      congr 1
      simp [dig, hiT]
      omega
    | some h =>
      rw [hiOk, Bool.and_eq_true] at ho4
      have h1 : lo ≤ h := of_decide_eq_true ho4.1
      have h4 : h ≤ 4 := of_decide_eq_true ho4.2
      rw [if_neg (by rw [tl (48 + h.toNat) [] rfl]; simp; omega)]
      have e7 := pD_ok (s := t) (lo := lo) (i := h) l0 h1 h4 (pre := pre ++ 40 :: wAgain ++ [32] ++ fmt p ++ [32] ++ dig lo ++ [32]) (post := [41] ++ post) (by rw [e, hiT]; simp)
      rw [show List.length (pre ++ 40 :: wAgain ++ [32] ++ fmt p ++ [32] ++ dig lo ++ [32]) = pre.length + 1 + wAgain.length + [32].length + (fmt p).length + [32].length + 1 + [32].length by simp [dig]; omega] at e7
      rw [e7]
      dsimp only
      rw [last 1 rfl]
      dsimp only
      rw [hlo, show ((h.toNat : Nat) : Int) = h by omega]
      congr 1
      simp [dig, hiT]
      omega
theorem pE_list {t : List Nat} {A : Str} (hA : Alp A) {w : List Nat} (hw : w ∈ KW) (ps : List Rx) (n : Nat) (pre post : List Nat) (e : t = pre ++ 40 :: (w ++ (fmtL ps ++ [41])) ++ post) (hn : (40 :: (w ++ (fmtL ps ++ [41]))).length < n + 1) (h1 : w ≠ wAgain) (h2 : w ≠ wNot)
    (hp : pP t A.cps.toList n (pre ++ 40 :: w).length = .ok ps ((pre ++ 40 :: w).length + (fmtL ps).length)) : pE t A.cps.toList (n + 1) pre.length = .ok (mkW w ps) (pre.length + (40 :: (w ++ (fmtL ps ++ [41]))).length) := by
  unfold pE
  rw [if_neg (by rw [e, at_pre]; decide)]
  rw [show pX t [40] pre.length = .ok () (pre.length + 1) from pX_ok [40] pre _ (by rw [e]; simp; rfl)]
  dsimp only [PR.bnd]
  have e1 := pK_ok (s := t) hw (pre := pre ++ [40]) (post := fmtL ps ++ [41] ++ post) (by rw [e]; simp)
  rw [List.length_append, List.length_singleton] at e1
  rw [e1]
  dsimp only
  rw [if_neg h1, if_neg h2]
  rw [show List.length (pre ++ 40 :: w) = pre.length + 1 + w.length by simp; omega] at hp
  rw [hp]
  dsimp only
  have e4 := pX_ok (s := t) [41] (pre ++ 40 :: w ++ fmtL ps) post (by rw [e]; simp)
  rw [show List.length (pre ++ 40 :: w ++ fmtL ps) = pre.length + 1 + w.length + (fmtL ps).length by simp; omega] at e4
  rw [e4]
  dsimp only
  congr 1
  simp
  omega
theorem pP_ok {t : List Nat} {A : Str} (hA : Alp A) : ∀ (ps : List Rx) (n : Nat) (pre post : List Nat), stRL A ps = true → okRL ps = true → t = pre ++ fmtL ps ++ (41 :: post) → (fmtL ps).length < n → pP t A.cps.toList n pre.length = .ok ps (pre.length + (fmtL ps).length)
  | [], n + 1, pre, post, _, _, e, _ => by
    unfold pP
    rw [if_pos (by rw [e, fmtL, List.append_nil]; simp)]
    simp [fmtL]
  | p :: ps, n + 1, pre, post, hs, ho, e, hn => by
    rw [stRL, Bool.and_eq_true] at hs
    rw [okRL, Bool.and_eq_true] at ho
    rw [fmtL] at e hn ⊢
    unfold pP
    rw [if_neg (by rw [e, at_pre]; decide)]
    rw [show pX t [32] pre.length = .ok () (pre.length + 1) from pX_ok [32] pre _ (by rw [e]; simp; rfl)]
    dsimp only [PR.bnd]
    have e1 := pE_ok (t := t) hA p n (pre ++ [32]) (fmtL ps ++ 41 :: post) hs.1 ho.1 (by rw [e]; simp) (by simp only [List.length_cons, List.length_append] at hn; omega)
    rw [List.length_append, List.length_singleton] at e1
    rw [e1]
    dsimp only
    have e2 := pP_ok (t := t) hA ps n (pre ++ [32] ++ fmt p) post hs.2 ho.2 (by rw [e]; simp) (by simp only [List.length_cons, List.length_append] at hn; omega)
    rw [show List.length (pre ++ [32] ++ fmt p) = pre.length + 1 + (fmt p).length by simp; omega] at e2
    rw [e2]
    dsimp only
    congr 1
    simp
    omega
end
end Cut
namespace Cut
open PySem L2 DL ML
theorem len_ofL (a : List Nat) : (ofL a).length = a.length := by rw [len_l, ofL_l]
end Cut
namespace Cut
open PySem L2 DL ML
local macro_rules | `(tactic| walk_at "m") => `(tactic| repeat (first | with_reducible refine ⟨_, rfl, ?_⟩ | refine ⟨_, rfl, ?_⟩ | refine ⟨rfl, ?_⟩ | refine ⟨_, _, rfl, rfl, ?_⟩ | refine ⟨_, _, rfl, ?_⟩ | refine iteT ?_ | refine iteF ?_ | refine ⟨⟨_, rfl⟩, ?_⟩ | refine ⟨Nat.le_of_ble_eq_true rfl, ?_⟩ | refine ⟨(by decide), ?_⟩ | refine ⟨_, ix_t0 _ _, ?_⟩ | refine ⟨_, ix_l0 _ _, ?_⟩))
section
variable {P : Program} {w : World} {K : Fg} {mg : Str → Option Value} {base : Heap} {f : Addr} {fd : FuncData}
end
end Cut
namespace Cut
open PySem L2 DL ML AU
local macro_rules | `(tactic| walk_at "m") => `(tactic| repeat (first | with_reducible refine ⟨_, rfl, ?_⟩ | refine ⟨_, rfl, ?_⟩ | refine ⟨rfl, ?_⟩ | refine ⟨_, _, rfl, rfl, ?_⟩ | refine ⟨_, _, rfl, ?_⟩ | refine iteT ?_ | refine iteF ?_ | refine ⟨⟨_, rfl⟩, ?_⟩ | refine ⟨Nat.le_of_ble_eq_true rfl, ?_⟩ | refine ⟨(by decide), ?_⟩ | refine ⟨_, ix_t0 _ _, ?_⟩ | refine ⟨_, ix_l0 _ _, ?_⟩))
abbrev s_explore : Stmt := top 15
abbrev N_explore : List Str := ["first", "alphabet", "mover", "limit", "numbers", "states", "rows", "row", "character", "found"]
theorem sc_explore : FnScope N_explore ["first", "alphabet", "mover", "limit"] (defScope s_explore) := ⟨rfl, rfl, rfl, by decide +kernel, rfl, by decide +kernel, by decide +kernel⟩
structure Mvr where
  mv : D
  A : Str
  S : D → Prop
  nx : D → Nat → D
  a0 : D
  lim : Nat
def Mvr.st (m : Mvr) (d : D) : List D := m.A.cps.toList.map (m.nx d)
structure Mvr.Ok (m : Mvr) : Prop where
  s0 : m.S m.a0
  sn : ∀ s c, m.S s → c ∈ m.A.cps.toList → m.S (m.nx s c)
  ky : ∀ s, m.S s → gd s = true ∧ nkT s = some (ky s) ∧ (ky s).depth ≤ 8
  al : m.A.length ≤ 1000
  bd : ∀ k, (bo m.st m.a0 k).length ≤ m.lim → (bo m.st m.a0 (k + 1)).length ≤ 15000
theorem Mvr.Ok.all {m : Mvr} (o : m.Ok) : ∀ k, ∀ d ∈ bo m.st m.a0 k, m.S d
  | 0, d, h => by rw [bo, List.mem_singleton] at h; rw [h]; exact o.s0
  | k + 1, d, h => by
    rw [bo] at h
    split at h
    · rename_i x hx
      rcases (adn_mem _ _ _).mp h with h | h
      · exact o.all k d h
      · unfold Mvr.st at h
        obtain ⟨c, hc, rfl⟩ := List.mem_map.mp h
        exact o.sn _ _ (o.all k x (List.mem_of_getElem? hx)) hc
    · exact o.all k d h
theorem lenO {h : Hd} {a : Addr} {xs : List D} (e : h a = some (.lst xs)) : lenD ([D.raw (.ref a)].map (vw h)) = some (.fz (.int ((xs.length : Nat) : Int))) := by
  show lenD [vw h (.raw (.ref a))] = _
  rw [show vw h (.raw (.ref a)) = .lst xs by simp only [vw, e]]; rfl
def rowD (ns : List Nat) : D := .tup (intsD ns)
def tabD (T : Tab) : List D := T.map rowD
def g_mvs (m : Mvr) : FM := fun ds h Q _ => ∃ s c, ds = [m.mv, s, .str ⟨#[c]⟩] ∧ m.S s ∧ c ∈ m.A.cps.toList ∧ Q (.fz (m.nx s c)) h
def g_expl (φ : Mvr → Prop) : FM := fun ds h Q _ => ∃ m : Mvr, φ m ∧ m.Ok ∧ ds = [m.a0, .str m.A, m.mv, .int ((m.lim : Nat) : Int)] ∧ ∀ k h', (Bend m.st m.a0 k ∨ m.lim < (bo m.st m.a0 k).length) → Le h h' → Q (.fz (.tup [.lst (bo m.st m.a0 k), .lst (tabD (brs m.st (bo m.st m.a0 k) k))])) h'
section
variable {P : Program} {w : World} {K : Fg} {mg : Str → Option Value} {base : Heap} {f : Addr} {fd : FuncData} {CM : Addr}
theorem ok_expl {n : Nat} (φ : Mvr → Prop) (A : At K mg "explore" ["first", "alphabet", "mover", "limit"] s_explore f fd) (m_len : mg "len" = none) (m_tuple : mg "tuple" = none) (hob : ∀ m, φ m → ∃ fs, m.mv = .obj CM fs ∧ fs.lookup ("step" : Str) = none) (c_Matcher_step : MthM P w K mg base CM "step" n 3 (fun ds h Q E => ∃ m, φ m ∧ g_mvs m ds h Q E)) : FnM P w K mg base "explore" (n + 1) 4 (g_expl φ) := by
  refine A.fnM (okM (k := n) A.fn sc_explore (by decide) (fun cdv A outer s H E hr tk po => (mss_cons (ms_set 4 sc_explore.nd rfl (by first | exact Or.inl rfl | exact Or.inr rfl) (me_ddispN (w := w) hr (me_v 0) me_int))
      (mss_cons (ms_set 5 sc_explore.nd rfl (by first | exact Or.inl rfl | exact Or.inr rfl) (me_own (me_lst (ma_cons (me_v 0) ma_nil))))
      (mss_cons (ms_set 6 sc_explore.nd rfl (by first | exact Or.inl rfl | exact Or.inr rfl) (me_own (me_lst ma_nil)))
      (mss_cons (ms_while po (mt_ltle (me_lenV (by rfl) m_len (ma_cons (me_v 6) ma_nil)) (me_lenV (by rfl) m_len (ma_cons (me_v 5) ma_nil)) (me_v 3)) (mss_cons (ms_set 7 sc_explore.nd rfl (by first | exact Or.inl rfl | exact Or.inr rfl) (me_own (me_lst ma_nil)))
      (mss_cons (ms_for po rfl (mi_seq (me_v 1)) (mg_n 8 sc_explore.nd rfl (by first | exact Or.inl rfl | exact Or.inr rfl)) (mss_cons (ms_set 9 sc_explore.nd rfl (by first | exact Or.inl rfl | exact Or.inr rfl) (me_mM c_Matcher_step tk (hr.mono (by omega)) (me_v 2) (ma_cons (me_ixO (me_v 5) (me_lenV (by rfl) m_len (ma_cons (me_v 6) ma_nil)) (fun _ _ => rfl)) (ma_cons (me_v 8) ma_nil))))
      (mss_cons (ms_if (mt_dnotinN (w := w) hr (me_v 9) (me_v 4)) (mss_cons (ms_dputN (w := w) hr (me_lenV (by rfl) m_len (ma_cons (me_v 5) ma_nil)) (me_v 4) (me_v 9))
      (mss_one (ms_expr (me_app (me_v 5) (ma_cons (me_v 9) ma_nil))))) mss_nil)
      (mss_one (ms_expr (me_app (me_v 7) (ma_cons (me_dgetN (w := w) hr (me_v 4) (me_v 9) (fun _ _ => rfl)) ma_nil)))))))
      (mss_one (ms_fzs 7 (ms_expr (me_app (me_v 6) (ma_cons (me_tuple (by rfl) m_tuple (ma_cons (me_v 7) ma_nil)) ma_nil))))))))
      (mss_one (ms_fzs 6 (ms_fzs 5 (ms_ret (me_tup (ma_cons (me_v 5) (ma_cons (me_v 6) ma_nil)))))))))))) ?_)
  rintro ds h Q E hl ⟨m, hm, o, rfl, q⟩
  obtain ⟨fs, hfs, hfl⟩ := hob m hm
  have hkey : ∀ k, ∀ y ∈ bo m.st m.a0 k, ∀ x, m.S x → ky y = ky x → y = x := fun k y hy x hx e => ky_inj y x (o.ky y (o.all k y hy)).1 (o.ky x hx).1 e
  intro b1 hb1
  walk_at "m"
  refine ⟨ky m.a0, put_same, (o.ky _ o.s0).2.1, (o.ky _ o.s0).2.2, ?_⟩
  rw [put_put]
  walk_at "m"
  intro b2 hb2
  walk_at "m"
  intro b3 hb3
  have n12 : b2 ≠ b1 := fun z => by rw [z, put_same] at hb2; cases hb2
  have n23 : b3 ≠ b2 := fun z => by rw [z, put_same] at hb3; cases hb3
  have n13 : b3 ≠ b1 := fun z => by rw [z, put_ne n12.symm, put_same] at hb3; cases hb3
  walk_at "m"
  refine ⟨fun n ρ h' => ∃ (k : Nat) (x7 x8 x9 : Option D), n = m.lim + 1 - k ∧ ρ = [some m.a0, some (.str m.A), some m.mv, some (.int ((m.lim : Nat) : Int)), some (.raw (.ref b1)), some (.raw (.ref b2)), some (.raw (.ref b3)), x7, x8, x9] ∧ Le h h' ∧ h' b1 = some (.dcn w (nb ky (bo m.st m.a0 k))) ∧ h' b2 = some (.lst (bo m.st m.a0 k)) ∧ h' b3 = some (.lst (tabD (brs m.st (bo m.st m.a0 k) k))) ∧ (k = 0 ∨ ∃ x, (bo m.st m.a0 (k - 1))[k - 1]? = some x) ∧ (bo m.st m.a0 k).length ≤ 15000, ⟨m.lim + 1, 0, none, none, none, rfl, rfl, ?_, ?_, ?_, ?_, .inl rfl, by simp [bo]⟩, ?_⟩
  · intro a o' ho'
    have z1 : a ≠ b1 := fun z => by rw [z, hb1] at ho'; cases ho'
    have z2 : a ≠ b2 := fun z => by rw [z] at ho'; rw [put_ne n12, ho'] at hb2; cases hb2
    have z3 : a ≠ b3 := fun z => by rw [z] at ho'; rw [put_ne n23, put_ne n13, ho'] at hb3; cases hb3
    rw [put_ne z3, put_ne z2, put_ne z1]; exact ho'
  · rw [put_ne n13.symm, put_ne n12.symm, put_same]
    simp [bo, nb, mp]
  · rw [put_ne n23.symm, put_same]; rfl
  · rw [put_same]; rfl
  have f2 : h b2 = none := by rw [put_ne n12] at hb2; exact hb2
  have f3 : h b3 = none := by rw [put_ne n23, put_ne n13] at hb3; exact hb3
  clear hb2 hb3
  rintro n ρ h1 ⟨k, x7, x8, x9, rfl, rfl, le1, e1, e2, e3, hk, hl5⟩
  have hkl := bo_le hk
  have htl : (tabD (brs m.st (bo m.st m.a0 k) k)).length = k := by unfold tabD brs; rw [List.length_map, List.length_map, List.length_take]; omega
  have fin : (Bend m.st m.a0 k ∨ m.lim < (bo m.st m.a0 k).length) → mFzS 6 (mFzS 5 (mRet (mTup (mACons (mV 5) (mACons (mV 6) mANil))))) (fun x x_1 h => E x h) { nx := fun x h => Q (Res.fz D.non) h, rt := fun r h => Q r h } [some m.a0, some (D.str m.A), some m.mv, some (D.int ((m.lim : Nat) : Int)), some (D.raw (V.ref b1)), some (D.raw (V.ref b2)), some (D.raw (V.ref b3)), x7, x8, x9] h1 := fun hE => by
    refine ⟨b3, _, rfl, e3, b2, _, rfl, (by rw [off_ne n23.symm]; exact e2), ?_⟩
    walk_at "m"
    refine q k _ hE fun a o' ho' => ?_
    have z2 : a ≠ b2 := fun z => by rw [z, f2] at ho'; cases ho'
    have z3 : a ≠ b3 := fun z => by rw [z, f3] at ho'; cases ho'
    rw [off_ne z2, off_ne z3]; exact le1 a o' ho'
  refine ⟨_, rfl, ?_⟩
  refine ⟨_, lenO e3, rfl, ?_⟩
  refine ⟨_, rfl, ?_⟩
  refine ⟨_, lenO e2, rfl, ?_⟩
  refine ⟨_, _, rfl, rfl, ?_⟩
  rw [htl]
  refine ifB (fun hb => ?_) (fun hb => ?_)
  rotate_left
  · refine ⟨_, rfl, iteF (fin (.inl ⟨?_⟩))⟩
    have := of_decide_eq_false hb
    omega
  have hlt : k < (bo m.st m.a0 k).length := by have := of_decide_eq_true hb; omega
  refine ⟨_, rfl, ?_⟩
  refine ⟨_, rfl, ?_⟩
  refine ⟨_, rfl, ?_⟩
  refine ifB (fun hb2 => ?_) (fun hb2 => ?_)
  rotate_left
  · refine fin (.inr ?_)
    have := of_decide_eq_false hb2
    omega
  have hlm : (bo m.st m.a0 k).length ≤ m.lim := by have := of_decide_eq_true hb2; omega
  clear fin
  obtain ⟨x, hx⟩ : ∃ x, (bo m.st m.a0 k)[k]? = some x := ⟨_, List.getElem?_eq_getElem hlt⟩
  have hSx : m.S x := o.all k x (List.mem_of_getElem? hx)
  have hst := bo_step hx
  have h15 := o.bd k hlm
  walk_at "m"
  intro b7 hb7
  have n71 : b7 ≠ b1 := fun z => by rw [z, e1] at hb7; cases hb7
  have n72 : b7 ≠ b2 := fun z => by rw [z, e2] at hb7; cases hb7
  have n73 : b7 ≠ b3 := fun z => by rw [z, e3] at hb7; cases hb7
  have f7 : h b7 = none := by
    cases z : h b7 with
    | none => rfl
    | some o' => rw [le1 b7 o' z] at hb7; cases hb7
  walk_at "m"
  refine loopM_inv (fun ds ρ h' => ∃ (cs1 cs2 : List Nat) (x8 x9 : Option D), ds = cs2.map (fun c => D.str ⟨#[c]⟩) ∧ m.A.cps.toList = cs1 ++ cs2 ∧ ρ = [some m.a0, some (.str m.A), some m.mv, some (.int ((m.lim : Nat) : Int)), some (.raw (.ref b1)), some (.raw (.ref b2)), some (.raw (.ref b3)), some (.raw (.ref b7)), x8, x9] ∧ Le h h' ∧ h' b1 = some (.dcn w (nb ky (adn (bo m.st m.a0 k) (cs1.map (m.nx x))))) ∧ h' b2 = some (.lst (adn (bo m.st m.a0 k) (cs1.map (m.nx x)))) ∧ h' b3 = some (.lst (tabD (brs m.st (bo m.st m.a0 k) k))) ∧ h' b7 = some (.lst (intsD ((cs1.map (m.nx x)).map fun y => (adn (bo m.st m.a0 k) (cs1.map (m.nx x))).idxOf y)))) _ _ _ ⟨[], m.A.cps.toList, x8, x9, rfl, rfl, rfl, ?_, ?_, ?_, ?_, ?_⟩ ?_ ?_
  · intro a o' ho'
    rw [put_ne (fun z => by rw [z, f7] at ho'; cases ho')]; exact le1 a o' ho'
  · rw [put_ne n71.symm]; exact e1
  · rw [put_ne n72.symm]; exact e2
  · rw [put_ne n73.symm]; exact e3
  · exact put_same
  · rintro d es ρ h2 R ⟨cs1, cs2, x8, x9, ed, eA, rfl, le2, g1, g2, g3, g7⟩ hR
    cases cs2 with
    | nil => cases ed
    | cons c cs2 =>
    rw [List.map_cons] at ed
    injection ed with ed1 ed2
    subst ed1 ed2
    have hc : c ∈ m.A.cps.toList := by rw [eA]; simp
    have hSn := o.sn x c hSx hc
    obtain ⟨l1, el1⟩ := adn_ext (cs1.map (m.nx x)) (bo m.st m.a0 k)
    have hsub : ∀ y ∈ adn (bo m.st m.a0 k) (cs1.map (m.nx x)), m.S y := fun y hy => by
      rcases (adn_mem _ _ _).mp hy with hy | hy
      · exact o.all k y hy
      · obtain ⟨c', hc', rfl⟩ := List.mem_map.mp hy
        exact o.sn x c' hSx (by rw [eA]; exact List.mem_append.mpr (.inl hc'))
    have hlen : (adn (bo m.st m.a0 k) (cs1.map (m.nx x))).length ≤ 15000 := by
      obtain ⟨l2, el2⟩ := adn_ext ((c :: cs2).map (m.nx x)) (adn (bo m.st m.a0 k) (cs1.map (m.nx x)))
      have : bo m.st m.a0 (k + 1) = adn (bo m.st m.a0 k) (cs1.map (m.nx x)) ++ l2 := by
        rw [hst, ← el2, ← adn_append, ← List.map_append, ← eA]; rfl
      rw [this, List.length_append] at h15
      omega
    have hinj : ∀ y ∈ adn (bo m.st m.a0 k) (cs1.map (m.nx x)), ky y = ky (m.nx x c) → y = m.nx x c := fun y hy e => ky_inj y _ (o.ky y (hsub y hy)).1 (o.ky _ hSn).1 e
    have hcs : cs1.length ≤ 1000 := by
      have := o.al
      rw [len_l, eA, List.length_append] at this
      omega
    walk_at "m"
    refine ⟨⟨fs, .inr hfs, hfl⟩, ?_⟩
    walk_at "m"
    refine ⟨_, lenO g3, rfl, ?_⟩
    refine ⟨b2, _, ((k : Nat) : Int), x, rfl, g2, (by rw [htl]; rfl), ?_, ?_⟩
    · rw [atI_get (by omega) (by rw [el1, List.length_append]; omega), Int.toNat_natCast, el1, List.getElem?_append_left hlt]; exact hx
    walk_at "m"
    refine ⟨m, hm, x, c, rfl, hSx, hc, ?_⟩
    walk_at "m"
    have hk2 := o.ky _ hSn
    refine ⟨b1, _, ky (m.nx x c), rfl, g1, hk2.2.1, hk2.2.2, ?_⟩
    rw [nb_val hinj]
    by_cases hin : m.nx x c ∈ adn (bo m.st m.a0 k) (cs1.map (m.nx x))
    · rw [if_pos hin]
      have eo : adn (bo m.st m.a0 k) ((cs1 ++ [c]).map (m.nx x)) = adn (bo m.st m.a0 k) (cs1.map (m.nx x)) := by
        rw [List.map_append, adn_append]
        exact adn_in hin []
      refine ⟨_, rfl, iteF ?_⟩
      walk_at "m"
      refine ⟨b7, _, rfl, g7, ?_⟩
      walk_at "m"
      refine ⟨b1, _, ky (m.nx x c), _, rfl, g1, hk2.2.1, hk2.2.2, (by rw [nb_val hinj, if_pos hin]), ?_⟩
      refine ⟨_, _, g7, rfl, by unfold intsD; rw [List.length_map, List.length_map, List.length_map]; omega, ?_⟩
      refine hR _ _ ⟨cs1 ++ [c], cs2, _, _, rfl, by rw [eA]; simp, rfl, ?_, ?_, ?_, ?_, ?_⟩
      · intro a o' ho'
        rw [put_ne (fun z => by rw [z, f7] at ho'; cases ho')]; exact le2 a o' ho'
      · rw [put_ne n71.symm, eo]; exact g1
      · rw [put_ne n72.symm, eo]; exact g2
      · rw [put_ne n73.symm]; exact g3
      · rw [put_same, eo, List.map_append (l₁ := cs1), List.map_append]
        unfold intsD
        rw [List.map_append]; rfl
    · rw [if_neg hin]
      have eo : adn (bo m.st m.a0 k) ((cs1 ++ [c]).map (m.nx x)) = adn (bo m.st m.a0 k) (cs1.map (m.nx x)) ++ [m.nx x c] := by
        rw [List.map_append, adn_append]
        exact adn_out hin []
      refine ⟨_, rfl, iteT ?_⟩
      walk_at "m"
      refine ⟨_, lenO g2, rfl, ?_⟩
      walk_at "m"
      refine ⟨b1, _, ky (m.nx x c), rfl, g1, hk2.2.1, hk2.2.2, by rw [nb_len]; omega, ?_⟩
      dsimp only [Res.dat]
      rw [nb_put hinj hin]
      walk_at "m"
      refine ⟨b2, _, rfl, (by rw [put_ne n12]; exact g2), ?_⟩
      walk_at "m"
      refine ⟨_, _, (by rw [put_ne n12]; exact g2), rfl, by omega, ?_⟩
      walk_at "m"
      have u7 : put (put h2 b1 (Ob.dcn w (nb ky (adn (bo m.st m.a0 k) (cs1.map (m.nx x)) ++ [m.nx x c])))) b2 (Ob.lst (adn (bo m.st m.a0 k) (cs1.map (m.nx x)) ++ [m.nx x c])) b7 = some (.lst (intsD ((cs1.map (m.nx x)).map fun y => (adn (bo m.st m.a0 k) (cs1.map (m.nx x))).idxOf y))) := by rw [put_ne n72, put_ne n71]; exact g7
      have u1 : put (put h2 b1 (Ob.dcn w (nb ky (adn (bo m.st m.a0 k) (cs1.map (m.nx x)) ++ [m.nx x c])))) b2 (Ob.lst (adn (bo m.st m.a0 k) (cs1.map (m.nx x)) ++ [m.nx x c])) b1 = some (.dcn w (nb ky (adn (bo m.st m.a0 k) (cs1.map (m.nx x)) ++ [m.nx x c]))) := by rw [put_ne n12.symm]; exact put_same
      have hinj2 : ∀ y ∈ adn (bo m.st m.a0 k) (cs1.map (m.nx x)) ++ [m.nx x c], ky y = ky (m.nx x c) → y = m.nx x c := fun y hy e => by
        rcases List.mem_append.mp hy with hy | hy
        · exact hinj y hy e
        · exact List.mem_singleton.mp hy
      have eR : intsD (((cs1 ++ [c]).map (m.nx x)).map fun y => (adn (bo m.st m.a0 k) (cs1.map (m.nx x)) ++ [m.nx x c]).idxOf y) = intsD ((cs1.map (m.nx x)).map fun y => (adn (bo m.st m.a0 k) (cs1.map (m.nx x))).idxOf y) ++ [D.int (((adn (bo m.st m.a0 k) (cs1.map (m.nx x)) ++ [m.nx x c]).idxOf (m.nx x c) : Nat) : Int)] := by
        rw [List.map_append, List.map_append]
        have : (cs1.map (m.nx x)).map (fun y => (adn (bo m.st m.a0 k) (cs1.map (m.nx x)) ++ [m.nx x c]).idxOf y) = (cs1.map (m.nx x)).map (fun y => (adn (bo m.st m.a0 k) (cs1.map (m.nx x))).idxOf y) := List.map_congr_left fun y hy => idx_app ((adn_mem _ _ _).mpr (.inr hy)) _
        rw [this]
        unfold intsD
        rw [List.map_append]; rfl
      refine ⟨b7, _, rfl, u7, ?_⟩
      walk_at "m"
      refine ⟨b1, _, ky (m.nx x c), _, rfl, u1, hk2.2.1, hk2.2.2, (by rw [nb_val hinj2, if_pos (by simp)]), ?_⟩
      refine ⟨_, _, u7, rfl, by unfold intsD; rw [List.length_map, List.length_map, List.length_map]; omega, ?_⟩
      refine hR _ _ ⟨cs1 ++ [c], cs2, _, _, rfl, by rw [eA]; simp, rfl, ?_, ?_, ?_, ?_, ?_⟩
      · intro a o' ho'
        have z1 : a ≠ b1 := fun z => by rw [z, hb1] at ho'; cases ho'
        have z2 : a ≠ b2 := fun z => by rw [z, f2] at ho'; cases ho'
        rw [put_ne (fun z => by rw [z, f7] at ho'; cases ho'), put_ne z2, put_ne z1]; exact le2 a o' ho'
      · rw [eo]; exact (put_ne n71.symm).trans u1
      · rw [put_ne n72.symm, put_same, eo]; rfl
      · rw [put_ne n73.symm, put_ne n23, put_ne n13]; exact g3
      · rw [put_same, eo, eR]; rfl
  · rintro ρ h2 ⟨cs1, cs2, x8, x9, ed, eA, rfl, le2, g1, g2, g3, g7⟩
    cases cs2 with
    | cons c cs2 => cases ed
    | nil =>
    rw [List.append_nil] at eA
    have eo : adn (bo m.st m.a0 k) (cs1.map (m.nx x)) = bo m.st m.a0 (k + 1) := by rw [hst, ← eA]; rfl
    rw [eo] at g1 g2 g7
    refine ⟨b7, _, rfl, g7, ?_⟩
    refine ⟨_, rfl, ?_⟩
    refine ⟨b3, _, rfl, (by rw [off_ne n73.symm]; exact g3), ?_⟩
    walk_at "m"
    refine ⟨_, _, (by rw [off_ne n73.symm]; exact g3), rfl, by rw [htl]; omega, ?_⟩
    refine ⟨m.lim + 1 - (k + 1), by omega, k + 1, _, _, _, rfl, rfl, ?_, ?_, ?_, ?_, .inr ⟨x, hx⟩, h15⟩
    · intro a o' ho'
      have z3 : a ≠ b3 := fun z => by rw [z, f3] at ho'; cases ho'
      rw [put_ne z3, off_ne (fun z => by rw [z, f7] at ho'; cases ho')]; exact le2 a o' ho'
    · rw [put_ne n13.symm, off_ne n71.symm]; exact g1
    · rw [put_ne n23.symm, off_ne n72.symm]; exact g2
    · rw [put_same, brs_step hx]
      unfold tabD
      rw [List.map_append]
      congr 3
      rw [List.map_cons, List.map_nil]
      congr 1
      rw [← eA]
      rfl
end
end Cut
namespace PySem
open Sem (wp)
section
variable {prog : Program} {w : World} {A : Around} {R : Result → Shared → Prop} {I ax : Addr} {items : Array Value}
end
section
variable {prog : Program} {w : World} {A : Around} {E : Value → Shared → Prop} {s : Shared}
end
end PySem
namespace ML
open PySem L2 DL
section
variable {X : Cx} {W : Wd} {pos p : Pos} {e : Expr} {es : List Expr} {τs : TMA}
end
end ML
namespace Cut
open PySem L2 DL ML
local macro_rules | `(tactic| walk_at "n") => `(tactic| repeat (first | with_reducible refine ⟨_, rfl, ?_⟩ | refine ⟨_, rfl, ?_⟩ | refine ⟨rfl, ?_⟩ | refine ⟨_, _, rfl, rfl, ?_⟩ | refine ⟨_, _, rfl, ?_⟩ | refine ⟨⟨_, rfl⟩, ?_⟩ | refine ⟨Nat.le_of_ble_eq_true rfl, ?_⟩ | refine ⟨_, ix_t0 _ _, ?_⟩ | refine ⟨_, ix_l0 _ _, ?_⟩))
theorem eqB_st (a b : Str) : eqB (.str a) (.str b) = decide (a = b) := eqS_eq a b
local macro_rules | `(tactic| walk_at "w") => `(tactic| (simp only [Res.dat, List.any_cons, List.any_nil, eqB_st]; decide +kernel))
section
variable {P : Program} {w : World} {K : Fg} {mg : Str → Option Value} {base : Heap} {f f2 f3 : Addr} {fd fd2 fd3 : FuncData}
end
end Cut
namespace Cut
open PySem L2 DL ML
local macro_rules | `(tactic| walk_at "m") => `(tactic| repeat (first | with_reducible refine ⟨_, rfl, ?_⟩ | refine ⟨_, rfl, ?_⟩ | refine ⟨rfl, ?_⟩ | refine ⟨_, _, rfl, rfl, ?_⟩ | refine ⟨_, _, rfl, ?_⟩ | refine iteT ?_ | refine iteF ?_ | refine ⟨⟨_, rfl⟩, ?_⟩ | refine ⟨Nat.le_of_ble_eq_true rfl, ?_⟩ | refine ⟨(by decide), ?_⟩ | refine ⟨_, ix_t0 _ _, ?_⟩ | refine ⟨_, ix_l0 _ _, ?_⟩))
theorem seq_set {i : Nat} {τe : TM} {υ : TMS} {ω : Wω} {PD : MEnds} {ρ : Me} {h : Hd} (q : τe ω ρ h fun r h1 => υ ω PD (ρ.set i (some r.dat)) h1) : mSeq (mSet i τe) υ ω PD ρ h := q
section
variable {P : Program} {w : World} {K : Fg} {mg : Str → Option Value} {base : Heap} {f : Addr} {fd : FuncData} {CM CT : Addr}
end
end Cut
namespace Cut
open PySem L2 DL ML AU
local macro_rules | `(tactic| walk_at "n") => `(tactic| repeat (first | with_reducible refine ⟨_, rfl, ?_⟩ | refine ⟨_, rfl, ?_⟩ | refine ⟨rfl, ?_⟩ | refine ⟨_, _, rfl, rfl, ?_⟩ | refine ⟨_, _, rfl, ?_⟩ | refine ⟨⟨_, rfl⟩, ?_⟩ | refine ⟨Nat.le_of_ble_eq_true rfl, ?_⟩ | refine ⟨_, ix_t0 _ _, ?_⟩ | refine ⟨_, ix_l0 _ _, ?_⟩))
local macro_rules | `(tactic| walk_at "w") => `(tactic| (simp only [Res.dat, List.any_cons, List.any_nil, eqB_st]; decide +kernel))
theorem hasPL_mem : ∀ {ps : List Rx}, (hasPL ps).all id = true → ∀ p ∈ ps, hasP p = true
  | q :: ps, h, p, hp => by
    rw [hasPL, List.all_cons, Bool.and_eq_true] at h
    rcases List.mem_cons.mp hp with e | hp
    · rw [e]; exact h.1
    · exact hasPL_mem h.2 p hp
section
variable {P : Program} {w : World} {K : Fg} {mg : Str → Option Value} {base : Heap} {f f2 f3 : Addr} {fd fd2 fd3 : FuncData}
def spD (S : Sp) : D := .lst (S.map fun x => .lst [.str x.1, .lst (intsD x.2)])
def plD (r : Rx) : D := .tup [.str "plain", spD (spS r), srD (spR r)]
mutual
def cpD : Rx → D
  | .set s => plD (.set s)
  | .row ps => plD (.row ps)
  | .again p lo hi => plD (.again p lo hi)
  | .any ps => if plain (.any ps) = true then plD (.any ps) else .tup [.str "any", .lst [], .lst (cpL ps)]
  | .all ps => .tup [.str "all", .lst [], .lst (cpL ps)]
  | .no p => .tup [.str "not", .lst [], .lst [cpD p]]
def cpL : List Rx → List D
  | [] => []
  | p :: ps => cpD p :: cpL ps
end
structure GOk (r : Rx) (n : Nat) : Prop where
  ok : okR r = true
  hp : hasP r = true
  dp : rdep r < n
  nn : n ≤ 10
  wd : wd r ≤ 10
theorem GOk.parts {r : Rx} {n : Nat} (x : GOk r (n + 1)) (h : plain r = false) : (∀ p ∈ r.parts, GOk p n) ∧ r.parts.length ≤ 9999 := by
  have hok := x.ok
  have hh := x.hp
  have hw := x.wd
  have nn := x.nn
  have key : ∀ ps : List Rx, okRL ps = true → (wdL ps).sum ≤ 10 → ∀ p ∈ ps, Cut.wd p ≤ 10 := fun ps => by
    induction ps with
    | nil => exact fun _ _ p hp => nomatch hp
    | cons q ps ih =>
      intro h1 h2 p hp
      rw [okRL, Bool.and_eq_true] at h1
      rw [wdL, List.sum_cons] at h2
      have a1 := wd_one q h1.1
      have a2 := wdL_nn ps h1.2
      rcases List.mem_cons.mp hp with e | e
      · rw [e]; omega
      · exact ih h1.2 (by omega) p e
  cases r with
  | set s => rw [plain] at h; cases h
  | row ps => rw [plain] at h; rw [hasP, h] at hh; cases hh
  | again p lo hi => rw [plain] at h; rw [hasP, h] at hh; cases hh
  | any ps =>
    rw [okR, Bool.and_eq_true, decide_eq_true_eq] at hok
    rw [wd_any] at hw
    have := mx1_ge (wdL ps).sum
    exact ⟨fun p hp => ⟨okRL_mem hok.2 p hp, hasPL_mem (by rw [hasP] at hh; exact hh) p hp, rdep_parts (r := .any ps) x.dp (fun z => by rw [show ps = [] from z] at hp; cases hp) p hp, by omega, key ps hok.2 (by omega) p hp⟩, hok.1⟩
  | all ps =>
    rw [okR, Bool.and_eq_true, decide_eq_true_eq] at hok
    rw [wd_all] at hw
    have := mx1_ge (wdL ps).sum
    exact ⟨fun p hp => ⟨okRL_mem hok.2 p hp, hasPL_mem (by rw [hasP] at hh; exact hh) p hp, rdep_parts (r := .all ps) x.dp (fun z => by rw [show ps = [] from z] at hp; cases hp) p hp, by omega, key ps hok.2 (by omega) p hp⟩, hok.1⟩
  | no p =>
    rw [wd_no] at hw
    have := mx1_ge (Cut.wd p)
    refine ⟨fun q hq => ?_, by show 1 ≤ 9999; decide⟩
    rw [show q = p from List.mem_singleton.mp hq]
    exact ⟨by rw [okR] at hok; exact hok, by rw [hasP] at hh; exact hh, by have hd := x.dp; rw [rdep] at hd; omega, by omega, by omega⟩
theorem GOk.ns {r : Rx} {n : Nat} (x : GOk r n) : Cut.ns r ≤ 10 := by
  have := ns_wd r x.ok
  have := x.wd
  omega
end
end Cut
namespace Cut
open PySem L2 DL ML AU
local macro_rules | `(tactic| walk_at "n") => `(tactic| repeat (first | with_reducible refine ⟨_, rfl, ?_⟩ | refine ⟨_, rfl, ?_⟩ | refine ⟨rfl, ?_⟩ | refine ⟨_, _, rfl, rfl, ?_⟩ | refine ⟨_, _, rfl, ?_⟩ | refine ⟨⟨_, rfl⟩, ?_⟩ | refine ⟨Nat.le_of_ble_eq_true rfl, ?_⟩ | refine ⟨_, ix_t0 _ _, ?_⟩ | refine ⟨_, ix_l0 _ _, ?_⟩))
local macro_rules | `(tactic| walk_at "w") => `(tactic| (simp only [Res.dat, List.any_cons, List.any_nil, eqB_st]; decide +kernel))
noncomputable def ssD (r : Rx) (w : Tx) : D := open Classical in if w = [] then .non else .tup (intsD (setS r w))
mutual
noncomputable def sgD : Rx → Tx → D
  | .set s, w => ssD (.set s) w
  | .row ps, w => ssD (.row ps) w
  | .again p lo hi, w => ssD (.again p lo hi) w
  | .any ps, w => if plain (.any ps) = true then ssD (.any ps) w else .tup (sgL ps w)
  | .all ps, w => .tup (sgL ps w)
  | .no p, w => .tup [sgD p w]
noncomputable def sgL : List Rx → Tx → List D
  | [], _ => []
  | p :: ps, w => sgD p w :: sgL ps w
end
section
variable {P : Program} {w : World} {K : Fg} {mg : Str → Option Value} {base : Heap} {f f2 f3 : Addr} {fd fd2 fd3 : FuncData}
end
end Cut
namespace Cut
open PySem L2 DL ML AU
local macro_rules | `(tactic| walk_at "m") => `(tactic| repeat (first | with_reducible refine ⟨_, rfl, ?_⟩ | refine ⟨_, rfl, ?_⟩ | refine ⟨rfl, ?_⟩ | refine ⟨_, _, rfl, rfl, ?_⟩ | refine ⟨_, _, rfl, ?_⟩ | refine iteT ?_ | refine iteF ?_ | refine ⟨⟨_, rfl⟩, ?_⟩ | refine ⟨Nat.le_of_ble_eq_true rfl, ?_⟩ | refine ⟨(by decide), ?_⟩ | refine ⟨_, ix_t0 _ _, ?_⟩ | refine ⟨_, ix_l0 _ _, ?_⟩))
abbrev s_refined : Stmt := top 16
abbrev N_refined : List Str := ["rows", "groups", "numbers", "found", "state", "row", "key", "target"]
theorem sc_refined : FnScope N_refined ["rows", "groups"] (defScope s_refined) := ⟨rfl, rfl, rfl, by decide +kernel, rfl, by decide +kernel, by decide +kernel⟩
abbrev s_grouped : Stmt := top 17
abbrev N_grouped : List Str := ["rows", "marks", "numbers", "groups", "mark", "finer"]
theorem sc_grouped : FnScope N_grouped ["rows", "marks"] (defScope s_grouped) := ⟨rfl, rfl, rfl, by decide +kernel, rfl, by decide +kernel, by decide +kernel⟩
abbrev s_minimal : Stmt := top 18
abbrev N_minimal : List Str := ["rows", "marks", "groups", "members", "state", "group", "order", "numbers", "found", "targets", "target"]
theorem sc_minimal : FnScope N_minimal ["rows", "marks"] (defScope s_minimal) := ⟨rfl, rfl, rfl, by decide +kernel, rfl, by decide +kernel, by decide +kernel⟩
def kR (ks : List Nat) : NestedKey := ky (rowD ks)
theorem kR_inj {a b : List Nat} (h : kR a = kR b) : a = b := by
  have := ky_inj (rowD a) (rowD b) (by unfold rowD; rw [gd]; exact gd_nats a) (by unfold rowD; rw [gd]; exact gd_nats b) h
  unfold rowD at this
  injection this with this
  exact intsD_inj this
theorem kR_nk (a : List Nat) : nkT (rowD a) = some (kR a) ∧ (kR a).depth ≤ 8 := by
  have h1 : gd (rowD a) = true := by unfold rowD; rw [gd]; exact gd_nats a
  have h2 := ky_dep _ h1
  have h3 : dpt (rowD a) = 1 := by unfold rowD; rw [dpt, dpt_nats]
  refine ⟨by unfold rowD kR rowD; exact nkT_ky (gd_nats a), ?_⟩
  unfold kR; omega
theorem intsD_len (xs : List Nat) : (intsD xs).length = xs.length := by unfold intsD; rw [List.length_map]
theorem ix_ints {xs : List Nat} {i : Nat} (h : i < xs.length) : ixD (.lst (intsD xs)) (.int ((i : Nat) : Int)) = some (.fz (.int ((gi xs i : Nat) : Int))) := by
  refine ix_lst ?_
  rw [atI_get (by omega) (by rw [intsD_len]; omega), Int.toNat_natCast, intsD_map, List.getElem?_map, List.getElem?_map, List.getElem?_eq_getElem h]
  unfold gi
  rw [List.getElem?_eq_getElem h]; rfl
section
variable {P : Program} {w : World} {K : Fg} {mg : Str → Option Value} {base : Heap} {f : Addr} {fd : FuncData} {CM : Addr}
structure TbOk (m : Nat) (T : Tab) : Prop where
  wf : Wf m T
  tl : T.length ≤ 15000
  ml : m ≤ 1000
def g_refd : FM := fun ds h Q _ => ∃ m T g, ds = [.lst (tabD T), .lst (intsD g)] ∧ TbOk m T ∧ g.length = T.length ∧ ∀ h', Le h h' → Q (.fz (.lst (intsD (refd T g)))) h'
theorem ok_refd (A : At K mg "refined" ["rows", "groups"] s_refined f fd) (m_len : mg "len" = none) (m_tuple : mg "tuple" = none) (m_enumerate : mg "enumerate" = none) : FnM P w K mg base "refined" 1 2 g_refd := by
  refine A.fnM (okM (k := 0) A.fn sc_refined (by decide) (fun cdv A outer s H E hr tk po => (mss_cons (ms_set 2 sc_refined.nd rfl (by first | exact Or.inl rfl | exact Or.inr rfl) (me_dnewN (w := w)))
      (mss_cons (ms_set 3 sc_refined.nd rfl (by first | exact Or.inl rfl | exact Or.inr rfl) (me_own (me_lst ma_nil)))
      (mss_cons (ms_for po rfl (mi_enum (by rfl) m_enumerate (ma_cons (me_v 0) ma_nil)) (mg_tup (n := 2) rfl (mgs_cons (mg_n 4 sc_refined.nd rfl (by first | exact Or.inl rfl | exact Or.inr rfl)) (mgs_cons (mg_n 5 sc_refined.nd rfl (by first | exact Or.inl rfl | exact Or.inr rfl)) mgs_nil))) (mss_cons (ms_set 6 sc_refined.nd rfl (by first | exact Or.inl rfl | exact Or.inr rfl) (me_add (me_tup (ma_cons (me_ix (me_v 1) (me_v 4) (fun _ _ => rfl)) ma_nil)) (me_tuple (by rfl) m_tuple (ma_cons (me_lc (own := [("target", 7)]) rfl sc_refined.nd (mi_seq (me_v 5)) (blkOk_by (N := N_refined) (sc := defScope s_refined) (own := [("target", 7)]) (by decide +kernel)) (fun _ _ _ _ _ => (mg_n 7 sc_refined.nd rfl (by first | exact Or.inl rfl | exact Or.inr rfl))) (fun _ _ _ _ _ => mts_nil) (fun _ _ _ _ _ => (me_ix (me_v 1) (me_v 7) (fun _ _ => rfl)))) ma_nil))))
      (mss_cons (ms_expr (me_dsetdN (w := w) hr (me_v 2) (me_v 6) (me_dlenN (w := w) (by rfl) m_len (ma_cons (me_v 2) ma_nil))))
      (mss_one (ms_expr (me_app (me_v 3) (ma_cons (me_dgetN (w := w) hr (me_v 2) (me_v 6) (fun _ _ => rfl)) ma_nil)))))))
      (mss_one (ms_retO 3)))))) ?_)
  rintro ds h Q E hl ⟨m, T, g, rfl, o, hg, q⟩
  intro b1 hb1
  walk_at "m"
  intro b2 hb2
  have n12 : b2 ≠ b1 := fun z => by rw [z, put_same] at hb2; cases hb2
  have f2 : h b2 = none := by rw [put_ne n12] at hb2; exact hb2
  walk_at "m"
  have hgt : ∀ i, i < T.length → (row T i).length = m ∧ ∀ x ∈ row T i, x < g.length := fun i hi => ⟨o.wf.len i hi, fun x hx => by rw [hg]; exact o.wf.lt i hi x hx⟩
  refine loopM_inv (fun ds ρ h' => ∃ (i : Nat) (x4 x5 x6 x7 : Option D), ds = enumD i (tabD (T.drop i)) ∧ i ≤ T.length ∧ ρ = [some (.lst (tabD T)), some (.lst (intsD g)), some (.raw (.ref b1)), some (.raw (.ref b2)), x4, x5, x6, x7] ∧ Le h h' ∧ h' b1 = some (.dcn w (nb kR (ded ((List.range i).map (keyAt T g))))) ∧ h' b2 = some (.lst (intsD (nums ((List.range i).map (keyAt T g)))))) _ _ _ ⟨0, none, none, none, none, rfl, Nat.zero_le _, rfl, ?_, ?_, put_same⟩ ?_ ?_
  · intro a o' ho'
    rw [put_ne (fun z => by rw [z, f2] at ho'; cases ho'), put_ne (fun z => by rw [z, hb1] at ho'; cases ho')]; exact ho'
  · rw [put_ne n12.symm]; exact put_same
  · rintro d es ρ h2 R ⟨i, x4, x5, x6, x7, ed, hi, rfl, le2, g1, g2⟩ hR
    rcases Nat.lt_or_ge i T.length with hlt | hge
    rotate_left
    · rw [List.drop_of_length_le hge] at ed; cases ed
    have er : T.drop i = row T i :: T.drop (i + 1) := by
      unfold row
      rw [List.getElem?_eq_getElem hlt, List.drop_eq_getElem_cons hlt]; rfl
    rw [er] at ed
    injection ed with ed1 ed2
    subst ed1 ed2
    obtain ⟨hrl, hrx⟩ := hgt i hlt
    have htl := o.tl
    have hml := o.ml
    refine ⟨_, rfl, rfl, _, _, rfl, _, _, rfl, rfl, ?_⟩
    walk_at "m"
    refine ⟨_, ix_ints (by omega), ?_⟩
    walk_at "m"
    refine lcM_map (α := Nat) (φ := fun t => D.int ((t : Nat) : Int)) (f := fun t => D.int ((gi g t : Nat) : Int)) (row T i) (fun t ht R1 hR1 => ?_) (by omega) ?_
    · walk_at "m"
      refine ⟨_, ix_ints (hrx t ht), ?_⟩
      exact hR1
    walk_at "m"
    refine ⟨_, add_tup (by rw [List.length_map]; simp only [List.length_cons, List.length_nil]; omega), ?_⟩
    have ek : D.tup ([(Res.fz (D.int ((gi g i : Nat) : Int))).dat] ++ (row T i).map (fun t => D.int ((gi g t : Nat) : Int))) = rowD (keyAt T g i) := by
      unfold rowD keyAt intsD
      rw [List.map_cons, List.map_map]; rfl
    rw [ek]
    obtain ⟨hk1, hk2⟩ := kR_nk (keyAt T g i)
    have eks : (List.range (i + 1)).map (keyAt T g) = (List.range i).map (keyAt T g) ++ [keyAt T g i] := by rw [List.range_succ, List.map_append]; rfl
    have hdl : (ded ((List.range i).map (keyAt T g))).length ≤ 15000 := by
      have := nc_le ((List.range i).map (keyAt T g))
      rw [List.length_map, List.length_range] at this
      show nc _ ≤ _
      omega
    have hnl : (nums ((List.range i).map (keyAt T g))).length ≤ 15000 := by rw [nums_len, List.length_map, List.length_range]; omega
    have nxt : ∀ h3, Le h h3 → h3 b1 = some (.dcn w (nb kR (ded ((List.range (i + 1)).map (keyAt T g))))) → h3 b2 = some (.lst (intsD (nums ((List.range i).map (keyAt T g))))) → mDrop (mApp (mV 3) (mACons (mDGetN w (mV 2) (mV 6)) mANil)) (fun x x_1 h => E x h) { nx := R, rt := fun r h => Q r h, bk := mRetO 3 (fun x x_1 h => E x h) { nx := fun x h => Q (Res.fz D.non) h, rt := fun r h => Q r h }, ct := R } [some (.lst (tabD T)), some (.lst (intsD g)), some (.raw (.ref b1)), some (.raw (.ref b2)), some (.int ((i : Nat) : Int)), some (rowD (row T i)), some (rowD (keyAt T g i)), x7] h3 := fun h3 le3 e1 e2 => by
      walk_at "m"
      refine ⟨b2, _, rfl, e2, ?_⟩
      walk_at "m"
      have hin : keyAt T g i ∈ ded ((List.range (i + 1)).map (keyAt T g)) := ded_mem.mpr (by rw [eks]; simp)
      refine ⟨b1, _, kR (keyAt T g i), _, rfl, e1, hk1, hk2, (by rw [nb_val (fun y _ e => kR_inj e), if_pos hin]), ?_⟩
      refine ⟨_, _, e2, rfl, by rw [intsD_len]; omega, ?_⟩
      refine hR _ _ ⟨i + 1, _, _, _, _, rfl, by omega, rfl, ?_, ?_, ?_⟩
      · intro a o' ho'
        rw [put_ne (fun z => by rw [z, f2] at ho'; cases ho')]; exact le3 a o' ho'
      · rw [put_ne n12.symm]; exact e1
      · rw [put_same, eks, nums_snoc]
        unfold intsD
        rw [List.map_append]; rfl
    walk_at "m"
    refine ⟨b1, _, rfl, g1, ?_⟩
    walk_at "m"
    refine ⟨b1, _, rfl, g1, ?_⟩
    refine ⟨_, kR (keyAt T g i), g1, hk1, hk2, by rw [nb_len]; omega, fun d hd => ?_, fun hn => ?_⟩
    · refine nxt _ le2 ?_ g2
      have hin : keyAt T g i ∈ ded ((List.range i).map (keyAt T g)) := Decidable.byContradiction fun z => by rw [nb_val (fun y _ e => kR_inj e), if_neg z] at hd; cases hd
      rw [eks, ded_snoc, if_pos (ded_mem.mp hin)]; exact g1
    · have hin : keyAt T g i ∉ ded ((List.range i).map (keyAt T g)) := fun z => by rw [nb_val (fun y _ e => kR_inj e), if_pos z] at hn; cases hn
      refine nxt _ ?_ ?_ ?_
      · intro a o' ho'
        rw [put_ne (fun z => by rw [z, hb1] at ho'; cases ho')]; exact le2 a o' ho'
      · rw [put_same, nb_len]
        dsimp only [Res.dat]
        rw [nb_put (fun y _ e => kR_inj e) hin, eks, ded_snoc, if_neg (fun z => hin (ded_mem.mpr z))]
      · rw [put_ne n12]; exact g2
  · rintro ρ h2 ⟨i, x4, x5, x6, x7, ed, hi, rfl, le2, g1, g2⟩
    have : i = T.length := by
      rcases Nat.lt_or_ge i T.length with hlt | hge
      · rw [List.drop_eq_getElem_cons hlt] at ed; cases ed
      · omega
    subst this
    refine ⟨b2, _, rfl, g2, ?_⟩
    refine q _ fun a o' ho' => ?_
    rw [off_ne (fun z => by rw [z, f2] at ho'; cases ho')]; exact le2 a o' ho'
structure Nv (g : List Nat) : Prop where
  lt : ∀ v ∈ g, v < nc g
  hi : 0 < nc g → nc g - 1 ∈ g
theorem Nv.nums {κ : Type} [DecidableEq κ] (ks : List κ) : Nv (nums ks) := ⟨fun v hv => by rw [nums_nc]; exact nums_lt v hv, fun h => nums_all (by rw [nums_nc] at h ⊢; omega)⟩
theorem Nv.max {g : List Nat} (h : Nv g) (h0 : 0 < g.length) {x : Int} (hx : x ∈ g.map fun v : Nat => (v : Int)) (hy : ∀ y, y ∈ g.map (fun v : Nat => (v : Int)) → y ≤ x) : x = (nc g : Int) - 1 := by
  have hp := nc_pos h0
  obtain ⟨v, hv, rfl⟩ := List.mem_map.mp hx
  have h1 := h.lt v hv
  have h2 := hy _ (List.mem_map.mpr ⟨_, h.hi hp, rfl⟩)
  omega
noncomputable def lf (d : D) : Leaf := (lfD d).getD .none
structure MkOk (M : List D) : Prop where
  lf : ∀ d ∈ M, ∃ k, lfD d = some k
  inj : ∀ d ∈ M, ∀ e ∈ M, lfD d = lfD e → d = e
def g_grp : FM := fun ds h Q _ => ∃ m T M, ds = [.lst (tabD T), .lst M] ∧ TbOk m T ∧ M.length = T.length ∧ MkOk M ∧ ∀ g h', GrpE m T M g → Le h h' → Q (.fz (.lst (intsD g))) h'
theorem ok_grp (A : At K mg "grouped" ["rows", "marks"] s_grouped f fd) (m_len : mg "len" = none) (m_max : mg "max" = none) (c_refined : FnM P w K mg base "refined" 1 2 g_refd) : FnM P w K mg base "grouped" 2 2 g_grp := by
  refine A.fnM (okM (k := 1) A.fn sc_grouped (by decide) (fun cdv A outer s H E hr tk po => (mss_cons (ms_set 2 sc_grouped.nd rfl (by first | exact Or.inl rfl | exact Or.inr rfl) (me_dnewL (P := P) (w := w)))
      (mss_cons (ms_setLc (i := 3) (own := [("mark", 4)]) rfl sc_grouped.nd rfl rfl (sw_true rfl rfl rfl (by decide +kernel)) (mi_seq (me_v 1)) (blkOk_by (N := N_grouped) (sc := defScope s_grouped) (own := [("mark", 4)]) (by decide +kernel)) (fun _ _ _ _ _ => (mg_n 4 sc_grouped.nd rfl (by first | exact Or.inl rfl | exact Or.inr rfl))) (fun _ _ _ _ _ => mts_nil) (fun _ _ _ _ _ => (me_dsetdL (P := P) (w := w) hr (me_v 2) (me_v 4) (me_dlenL (P := P) (w := w) (by rfl) m_len (ma_cons (me_v 2) ma_nil)))))
      (mss_cons (ms_set 5 sc_grouped.nd rfl (by first | exact Or.inl rfl | exact Or.inr rfl) (me_cM c_refined tk (hr.mono (by decide)) (by rfl) (ma_cons (me_v 0) (ma_cons (me_v 3) ma_nil))))
      (mss_cons (ms_while po (mt_gt (me_maxl rfl (by rfl) m_max (ma_cons (me_v 5) ma_nil)) (me_maxl rfl (by rfl) m_max (ma_cons (me_v 3) ma_nil))) (mss_cons (ms_set 3 sc_grouped.nd rfl (by first | exact Or.inl rfl | exact Or.inr rfl) (me_v 5))
      (mss_one (ms_set 5 sc_grouped.nd rfl (by first | exact Or.inl rfl | exact Or.inr rfl) (me_cM c_refined tk (hr.mono (by decide)) (by rfl) (ma_cons (me_v 0) (ma_cons (me_v 3) ma_nil)))))))
      (mss_one (ms_ret (me_v 3)))))))) ?_)
  rintro ds h Q E hl ⟨m, T, M, rfl, o, hM, ok, q⟩
  have htl := o.tl
  have hlf : ∀ d ∈ M, lfD d = some (lf d) := fun d hd => by
    obtain ⟨k, hk⟩ := ok.lf d hd
    unfold lf; rw [hk]; rfl
  have hin : ∀ d ∈ M, ∀ e ∈ M, lf d = lf e → d = e := fun d hd e he z => ok.inj d hd e he (by rw [hlf d hd, hlf e he, z])
  intro b1 hb1
  walk_at "m"
  refine lcM_inv (fun ds h' acc => ∃ M1, M = M1 ++ ds ∧ acc = intsD (nums M1) ∧ Le h h' ∧ h' b1 = some (.dcl P w (nb lf (ded M1)))) _ _ _ ⟨[], rfl, rfl, ?_, put_same⟩ ?_ ?_
  · intro a o' ho'
    rw [put_ne (fun z => by rw [z, hb1] at ho'; cases ho')]; exact ho'
  · rintro d es h2 acc R ⟨M1, eM, rfl, le2, g1⟩ hR
    have hdM : d ∈ M := by rw [eM]; simp
    have hsub : ∀ y ∈ ded M1, lf y = lf d → y = d := fun y hy e => hin y (by rw [eM]; exact List.mem_append.mpr (.inl (ded_mem.mp hy))) d hdM e
    have hl1 : M1.length ≤ 15000 := by
      have := congrArg List.length eM
      rw [List.length_append] at this
      omega
    have hdl : (ded M1).length ≤ 15000 := by
      have := nc_le M1
      show nc _ ≤ _
      omega
    walk_at "m"
    refine ⟨b1, _, rfl, g1, ?_⟩
    walk_at "m"
    refine ⟨b1, _, rfl, g1, ?_⟩
    have hlen : (intsD (nums M1)).length < 16000 := by rw [intsD_len, nums_len]; omega
    refine ⟨_, lf d, g1, hlf d hdM, by rw [nb_len]; omega, fun e he => ?_, fun hn => ?_⟩
    · have hi : d ∈ ded M1 := Decidable.byContradiction fun z => by rw [nb_val hsub, if_neg z] at he; cases he
      rw [nb_val hsub, if_pos hi] at he
      cases he
      refine ⟨hlen, hR _ _ ⟨M1 ++ [d], by rw [eM]; simp, ?_, le2, ?_⟩⟩
      · rw [nums_snoc, ded_snoc, if_pos (ded_mem.mp hi)]
        unfold intsD
        rw [List.map_append]; rfl
      · rw [ded_snoc, if_pos (ded_mem.mp hi)]; exact g1
    · have hi : d ∉ ded M1 := fun z => by rw [nb_val hsub, if_pos z] at hn; cases hn
      refine ⟨hlen, hR _ _ ⟨M1 ++ [d], by rw [eM]; simp, ?_, ?_, ?_⟩⟩
      · rw [nums_snoc, ded_snoc, if_neg (fun z => hi (ded_mem.mpr z)), nb_len]
        unfold intsD
        rw [List.map_append, List.idxOf_append, if_neg hi]
        simp
      · intro a o' ho'
        rw [put_ne (fun z => by rw [z, hb1] at ho'; cases ho')]; exact le2 a o' ho'
      · rw [put_same, nb_len]
        dsimp only [Res.dat]
        rw [nb_put hsub hi, ded_snoc, if_neg (fun z => hi (ded_mem.mpr z))]
  rintro h2 acc ⟨M1, eM, rfl, le2, _⟩
  rw [List.append_nil] at eM
  subst eM
  walk_at "m"
  refine ⟨m, T, _, rfl, o, by rw [nums_len, hM], fun h3 le3 => ?_⟩
  have hpos : 0 < T.length := o.wf.pos
  refine ⟨fun n ρ h' => ∃ g, n = T.length - nc g ∧ ρ = [some (.lst (tabD T)), some (.lst M), some (.raw (.ref b1)), some (.lst (intsD g)), none, some (.lst (intsD (refd T g)))] ∧ Grp m T M g ∧ Nv g ∧ Le h h', ⟨_, nums M, rfl, rfl, Grp.first hM, Nv.nums M, Le.trans le2 le3⟩, ?_⟩
  rintro n ρ h4 ⟨g, rfl, rfl, hg, nv, le4⟩
  have hgl := hg.len
  have nv2 : Nv (refd T g) := Nv.nums _
  have hc2 : nc (refd T g) ≤ T.length := by have := nc_le (refd T g); rw [refd_len] at this; exact this
  walk_at "m"
  refine ⟨(refd T g).map fun v : Nat => (v : Int), (by rw [← intsD_map]; rfl), by rw [List.length_map, refd_len]; exact hpos, fun x hx hy => ?_⟩
  walk_at "m"
  refine ⟨g.map fun v : Nat => (v : Int), (by rw [← intsD_map]; rfl), by rw [List.length_map, hgl]; exact hpos, fun y hy1 hy2 => ?_⟩
  have e1 := nv2.max (by rw [refd_len]; exact hpos) hx hy
  have e2 := nv.max (by rw [hgl]; exact hpos) hy1 hy2
  walk_at "m"
  refine ifB (fun hb => ?_) (fun hb => ?_)
  · have hb : x > y := of_decide_eq_true hb
    walk_at "m"
    refine ⟨m, T, _, rfl, o, refd_len T g, fun h5 le5 => ?_⟩
    walk_at "m"
    exact ⟨T.length - nc (refd T g), by omega, refd T g, rfl, rfl, hg.next o.wf, nv2, Le.trans le4 le5⟩
  · have hb : ¬ x > y := of_decide_eq_false hb
    walk_at "m"
    exact q g _ (hg.done o.wf (by omega)) le4
def g_min : FM := fun ds h Q _ => ∃ m T M, ds = [.lst (tabD T), .lst M] ∧ TbOk m T ∧ M.length = T.length ∧ MkOk M ∧ ∀ T' M' h', (∀ φ : List Nat → D, (∀ v, Wd m v → M[rn T 0 v]? = some (φ v)) → Aut m φ T' M') → T'.length ≤ T.length → Le h h' → Q (.fz (.tup [.tup (tabD T'), .tup M'])) h'
theorem idxF {l : List Nat} {x : Nat} (h : x ∉ l) (l' : List Nat) : (l ++ x :: l').idxOf x = l.length := by
  rw [List.idxOf_append, if_neg h, List.idxOf_cons_self]; omega
def kI (c : Nat) : Key := .inl (c : Int)
theorem kI_inj {a b : Nat} (h : kI a = kI b) : a = b := by unfold kI at h; injection h with h; omega
theorem ok_min (A : At K mg "minimal" ["rows", "marks"] s_minimal f fd) (m_len : mg "len" = none) (m_tuple : mg "tuple" = none) (m_enumerate : mg "enumerate" = none) (c_grouped : FnM P w K mg base "grouped" 2 2 g_grp) : FnM P w K mg base "minimal" 3 2 g_min := by
  refine A.fnM (okM (k := 2) A.fn sc_minimal (by decide) (fun cdv A outer s H E hr tk po => (mss_cons (ms_set 2 sc_minimal.nd rfl (by first | exact Or.inl rfl | exact Or.inr rfl) (me_cM c_grouped tk (hr.mono (by decide)) (by rfl) (ma_cons (me_v 0) (ma_cons (me_v 1) ma_nil))))
      (mss_cons (ms_set 3 sc_minimal.nd rfl (by first | exact Or.inl rfl | exact Or.inr rfl) me_dnew)
      (mss_cons (ms_for po rfl (mi_enum (by rfl) m_enumerate (ma_cons (me_v 2) ma_nil)) (mg_tup (n := 2) rfl (mgs_cons (mg_n 4 sc_minimal.nd rfl (by first | exact Or.inl rfl | exact Or.inr rfl)) (mgs_cons (mg_n 5 sc_minimal.nd rfl (by first | exact Or.inl rfl | exact Or.inr rfl)) mgs_nil))) (mss_one (ms_expr (me_dsetd (me_v 3) (me_v 5) (me_v 4)))))
      (mss_cons (ms_set 6 sc_minimal.nd rfl (by first | exact Or.inl rfl | exact Or.inr rfl) (me_own (me_lst (ma_cons (me_ix (me_v 2) me_int (fun _ _ => rfl)) ma_nil))))
      (mss_cons (ms_set 7 sc_minimal.nd rfl (by first | exact Or.inl rfl | exact Or.inr rfl) (me_ddisp hr (me_ix (me_v 2) me_int (fun _ _ => rfl)) me_int))
      (mss_cons (ms_set 8 sc_minimal.nd rfl (by first | exact Or.inl rfl | exact Or.inr rfl) (me_own (me_lst ma_nil)))
      (mss_cons (ms_while po (mt_lt (me_lenV (by rfl) m_len (ma_cons (me_v 8) ma_nil)) (me_lenV (by rfl) m_len (ma_cons (me_v 6) ma_nil))) (mss_cons (ms_setLc (i := 9) (own := [("target", 10)]) rfl sc_minimal.nd rfl rfl (sw_true rfl rfl rfl (by decide +kernel)) (mi_seq (me_ix (me_v 0) (me_dget hr (me_v 3) (me_ixO (me_v 6) (me_lenV (by rfl) m_len (ma_cons (me_v 8) ma_nil)) (fun _ _ => rfl)) (fun _ _ => rfl)) (fun _ _ => rfl))) (blkOk_by (N := N_minimal) (sc := defScope s_minimal) (own := [("target", 10)]) (by decide +kernel)) (fun _ _ _ _ _ => (mg_n 10 sc_minimal.nd rfl (by first | exact Or.inl rfl | exact Or.inr rfl))) (fun _ _ _ _ _ => mts_nil) (fun _ _ _ _ _ => (me_ix (me_v 2) (me_v 10) (fun _ _ => rfl))))
      (mss_cons (ms_for po rfl (mi_seq (me_v 9)) (mg_n 5 sc_minimal.nd rfl (by first | exact Or.inl rfl | exact Or.inr rfl)) (mss_one (ms_if (mt_dnotin hr (me_v 5) (me_v 7)) (mss_cons (ms_dput hr (me_lenV (by rfl) m_len (ma_cons (me_v 6) ma_nil)) (me_v 7) (me_v 5))
      (mss_one (ms_expr (me_app (me_v 6) (ma_cons (me_v 5) ma_nil))))) mss_nil)))
      (mss_one (ms_expr (me_app (me_v 8) (ma_cons (me_tuple (by rfl) m_tuple (ma_cons (me_lc (own := [("group", 5)]) rfl sc_minimal.nd (mi_seq (me_v 9)) (blkOk_by (N := N_minimal) (sc := defScope s_minimal) (own := [("group", 5)]) (by decide +kernel)) (fun _ _ _ _ _ => (mg_n 5 sc_minimal.nd rfl (by first | exact Or.inl rfl | exact Or.inr rfl))) (fun _ _ _ _ _ => mts_nil) (fun _ _ _ _ _ => (me_dget hr (me_v 7) (me_v 5) (fun _ _ => rfl)))) ma_nil)) ma_nil)))))))
      (mss_one (ms_fzs 6 (ms_fzs 8 (ms_ret (me_tup (ma_cons (me_tuple (by rfl) m_tuple (ma_cons (me_v 8) ma_nil)) (ma_cons (me_tuple (by rfl) m_tuple (ma_cons (me_lc (own := [("group", 5)]) rfl sc_minimal.nd (mi_seq (me_v 6)) (blkOk_by (N := N_minimal) (sc := defScope s_minimal) (own := [("group", 5)]) (by decide +kernel)) (fun _ _ _ _ _ => (mg_n 5 sc_minimal.nd rfl (by first | exact Or.inl rfl | exact Or.inr rfl))) (fun _ _ _ _ _ => mts_nil) (fun _ _ _ _ _ => (me_ix (me_v 1) (me_dget hr (me_v 3) (me_v 5) (fun _ _ => rfl)) (fun _ _ => rfl)))) ma_nil)) ma_nil))))))))))))))) ?_)
  rintro ds h Q E hl ⟨m, T, M, rfl, o, hM, ok, q⟩
  have htl := o.tl
  have hpos : 0 < T.length := o.wf.pos
  walk_at "m"
  refine ⟨m, T, M, rfl, o, hM, ok, fun g h1 hg le1 => ?_⟩
  have hgl := hg.len
  walk_at "m"
  intro b1 hb1
  have f1 : h b1 = none := by
    cases z : h b1 with
    | none => rfl
    | some o' => rw [le1 b1 o' z] at hb1; cases hb1
  walk_at "m"
  refine loopM_inv (fun ds ρ h' => ∃ (i : Nat) (x4 x5 : Option D), ds = enumD i (intsD (g.drop i)) ∧ i ≤ g.length ∧ ρ = [some (.lst (tabD T)), some (.lst M), some (.lst (intsD g)), some (.raw (.ref b1)), x4, x5, none, none, none, none, none] ∧ Le h h' ∧ h' b1 = some (.dic (mp kI (fun c => .int ((g.idxOf c : Nat) : Int)) (ded (g.take i))))) _ _ _ ⟨0, none, none, rfl, Nat.zero_le _, rfl, ?_, put_same⟩ ?_ ?_
  · intro a o' ho'
    rw [put_ne (fun z => by rw [z, f1] at ho'; cases ho')]; exact le1 a o' ho'
  · rintro d es ρ h2 R ⟨i, x4, x5, ed, hi, rfl, le2, g1⟩ hR
    rcases Nat.lt_or_ge i g.length with hlt | hge
    rotate_left
    · rw [List.drop_of_length_le hge] at ed; cases ed
    have er : g.drop i = gi g i :: g.drop (i + 1) := by
      unfold gi
      rw [List.getElem?_eq_getElem hlt, List.drop_eq_getElem_cons hlt]; rfl
    have et : g.take (i + 1) = g.take i ++ [gi g i] := by
      unfold gi
      rw [List.take_add_one, List.getElem?_eq_getElem hlt]; rfl
    rw [er] at ed
    injection ed with ed1 ed2
    subst ed1 ed2
    have hdl : (mp kI (fun c => D.int ((g.idxOf c : Nat) : Int)) (ded (g.take i))).length < 16000 := by
      unfold mp
      rw [List.length_map]
      have := nc_le (g.take i)
      rw [List.length_take] at this
      show nc _ < _
      omega
    refine ⟨_, rfl, rfl, _, _, rfl, _, _, rfl, rfl, ?_⟩
    walk_at "m"
    refine ⟨b1, _, rfl, g1, ?_⟩
    walk_at "m"
    refine ⟨_, kI (gi g i), g1, rfl, hdl, fun d hd => ?_, fun hn => ?_⟩
    · have hin : gi g i ∈ ded (g.take i) := Decidable.byContradiction fun z => by rw [mp_val (fun y _ e => kI_inj e), if_neg z] at hd; cases hd
      exact hR _ _ ⟨i + 1, _, _, rfl, by omega, rfl, le2, by rw [et, ded_snoc, if_pos (ded_mem.mp hin)]; exact g1⟩
    · have hin : gi g i ∉ ded (g.take i) := fun z => by rw [mp_val (fun y _ e => kI_inj e), if_pos z] at hn; cases hn
      have hni : gi g i ∉ g.take i := fun z => hin (ded_mem.mpr z)
      have hix : g.idxOf (gi g i) = i := by
        have e0 : g = g.take i ++ gi g i :: g.drop (i + 1) := by rw [← er, List.take_append_drop]
        have := idxF hni (g.drop (i + 1))
        rw [← e0, List.length_take] at this
        omega
      refine hR _ _ ⟨i + 1, _, _, rfl, by omega, rfl, ?_, ?_⟩
      · intro a o' ho'
        rw [put_ne (fun z => by rw [z, f1] at ho'; cases ho')]; exact le2 a o' ho'
      · rw [put_same, et, ded_snoc, if_neg hni, putKD_end hn]
        unfold mp
        rw [List.map_append, List.map_cons, List.map_nil]
        dsimp only [Res.dat]
        rw [hix]
  rintro ρ h2 ⟨i, x4, x5, ed, hi, rfl, le2, g1⟩
  have : i = g.length := by
    rcases Nat.lt_or_ge i g.length with hlt | hge
    · rw [List.drop_eq_getElem_cons hlt] at ed; cases ed
    · omega
  subst this
  rw [List.take_length] at g1
  clear hb1
  have hmem : ∀ c ∈ g, valD (mp kI (fun c => D.int ((g.idxOf c : Nat) : Int)) (ded g)) (kI c) = some (.int ((g.idxOf c : Nat) : Int)) := fun c hc => by rw [mp_val (fun y _ e => kI_inj e), if_pos (ded_mem.mpr hc)]
  walk_at "m"
  refine ⟨_, ix_ints (i := 0) (by omega), ?_⟩
  walk_at "m"
  intro b6 hb6
  have n61 : b6 ≠ b1 := fun z => by rw [z, g1] at hb6; cases hb6
  have f6 : h b6 = none := by
    cases z : h b6 with
    | none => rfl
    | some o' => rw [le2 b6 o' z] at hb6; cases hb6
  walk_at "m"
  intro b7 hb7
  have n76 : b7 ≠ b6 := fun z => by rw [z, put_same] at hb7; cases hb7
  have hb7' : h2 b7 = none := by rw [put_ne n76] at hb7; exact hb7
  have n71 : b7 ≠ b1 := fun z => by rw [z, g1] at hb7'; cases hb7'
  have f7 : h b7 = none := by
    cases z : h b7 with
    | none => rfl
    | some o' => rw [le2 b7 o' z] at hb7'; cases hb7'
  walk_at "m"
  refine ⟨_, ix_ints (i := 0) (by omega), ?_⟩
  walk_at "m"
  refine ⟨kI (gi g 0), put_same, rfl, ?_⟩
  rw [put_put]
  walk_at "m"
  intro b8 hb8
  have n87 : b8 ≠ b7 := fun z => by rw [z, put_same] at hb8; cases hb8
  have n86 : b8 ≠ b6 := fun z => by rw [z, put_ne n76.symm, put_same] at hb8; cases hb8
  have hb8' : h2 b8 = none := by rw [put_ne n87, put_ne n86] at hb8; exact hb8
  have n81 : b8 ≠ b1 := fun z => by rw [z, g1] at hb8'; cases hb8'
  have f8 : h b8 = none := by
    cases z : h b8 with
    | none => rfl
    | some o' => rw [le2 b8 o' z] at hb8'; cases hb8'
  walk_at "m"
  refine ⟨fun n ρ h' => ∃ (k : Nat) (x4 x5 x9 x10 : Option D), n = T.length - k ∧ ρ = [some (.lst (tabD T)), some (.lst M), some (.lst (intsD g)), some (.raw (.ref b1)), x4, x5, some (.raw (.ref b6)), some (.raw (.ref b7)), some (.raw (.ref b8)), x9, x10] ∧ Le h h' ∧ h' b1 = some (.dic (mp kI (fun c => D.int ((g.idxOf c : Nat) : Int)) (ded g))) ∧ h' b6 = some (.lst (intsD (bo (gst m T g) (gi g 0) k))) ∧ h' b7 = some (.dic (nb kI (bo (gst m T g) (gi g 0) k))) ∧ h' b8 = some (.lst (tabD (brs (gst m T g) (bo (gst m T g) (gi g 0) k) k))) ∧ (k = 0 ∨ ∃ x, (bo (gst m T g) (gi g 0) (k - 1))[k - 1]? = some x), ⟨_, 0, x4, x5, none, none, rfl, rfl, ?_, ?_, ?_, ?_, ?_, .inl rfl⟩, ?_⟩
  · intro a o' ho'
    rw [put_ne (fun z => by rw [z, f8] at ho'; cases ho'), put_ne (fun z => by rw [z, f7] at ho'; cases ho'), put_ne (fun z => by rw [z, f6] at ho'; cases ho')]; exact le2 a o' ho'
  · rw [put_ne n81.symm, put_ne n71.symm, put_ne n61.symm]; exact g1
  · rw [put_ne n86.symm, put_ne n76.symm, put_same]; rfl
  · rw [put_ne n87.symm, put_same]; simp [bo, nb, mp]
  · rw [put_same]; rfl
  clear hb6 hb7 hb8
  rintro n ρ h3 ⟨k, x4, x5, x9, x10, rfl, rfl, le3, e1, e6, e7, e8, hk⟩
  have hkl := bo_le hk
  have hml := min_len o.wf hgl k
  have hml2 := min_len o.wf hgl (k + 1)
  have hsub := bo_sub o.wf hgl k
  have htl8 : (tabD (brs (gst m T g) (bo (gst m T g) (gi g 0) k) k)).length = k := by unfold tabD brs; rw [List.length_map, List.length_map, List.length_take]; omega
  walk_at "m"
  refine ⟨_, lenO e8, rfl, ?_⟩
  walk_at "m"
  refine ⟨_, lenO e6, rfl, ?_⟩
  walk_at "m"
  rw [htl8, intsD_len]
  refine ifB (fun hb => ?_) (fun hb => ?_)
  rotate_left
  · have hbe : Bend (gst m T g) (gi g 0) k := ⟨by have := of_decide_eq_false hb; omega⟩
    refine ⟨b6, _, rfl, e6, b8, _, rfl, (by rw [off_ne n86]; exact e8), ?_⟩
    walk_at "m"
    have hfin : ∀ c ∈ bo (gst m T g) (gi g 0) k, ∃ d, M[g.idxOf c]? = some d := fun c hc => ⟨_, List.getElem?_eq_getElem (by have := List.idxOf_lt_length_of_mem (hsub c hc); omega)⟩
    refine lcM_map (α := Nat) (φ := fun c => D.int ((c : Nat) : Int)) (f := fun c => (M[g.idxOf c]?).getD .non) (bo (gst m T g) (gi g 0) k) (fun c hc R1 hR1 => ?_) (by omega) ?_
    · walk_at "m"
      refine ⟨b1, _, kI c, _, rfl, (by rw [off_ne n81.symm, off_ne n61.symm]; exact e1), rfl, hmem c (hsub c hc), ?_⟩
      obtain ⟨d, hd⟩ := hfin c hc
      refine ⟨_, ix_lst (d := d) ?_, ?_⟩
      · have := List.idxOf_lt_length_of_mem (hsub c hc)
        rw [atI_get (by omega) (by omega), Int.toNat_natCast]; exact hd
      · rw [hd] at hR1; exact hR1
    walk_at "m"
    rw [brs_end hbe]
    refine q (btab (gst m T g) (bo (gst m T g) (gi g 0) k)) _ _ (fun φ hφ => min_aut o.wf hg hM hφ hbe ?_) (by rw [btab_len]; exact hml) ?_
    · unfold lmk
      rw [List.map_map]
      refine List.map_congr_left fun c hc => ?_
      obtain ⟨d, hd⟩ := hfin c hc
      show some ((M[g.idxOf c]?).getD .non) = _
      rw [hd]; rfl
    · intro a o' ho'
      rw [off_ne (fun z => by rw [z, f8] at ho'; cases ho'), off_ne (fun z => by rw [z, f6] at ho'; cases ho')]; exact le3 a o' ho'
  have hlt : k < (bo (gst m T g) (gi g 0) k).length := by have := of_decide_eq_true hb; omega
  obtain ⟨c, hc⟩ : ∃ c, (bo (gst m T g) (gi g 0) k)[k]? = some c := ⟨_, List.getElem?_eq_getElem hlt⟩
  have hcg : c ∈ g := hsub c (List.mem_of_getElem? hc)
  have hst := bo_step hc
  have hsl : g.idxOf c < T.length := by have := List.idxOf_lt_length_of_mem hcg; omega
  have hgm := gst_row o.wf hgl hcg
  have hm1 := o.ml
  walk_at "m"
  refine ⟨_, lenO e8, rfl, ?_⟩
  refine ⟨b6, _, ((k : Nat) : Int), _, rfl, e6, (by rw [htl8]; rfl), (by rw [atI_get (by omega) (by rw [intsD_len]; omega), Int.toNat_natCast, intsD_map, List.getElem?_map, List.getElem?_map, hc]; rfl), ?_⟩
  refine ⟨b1, _, kI c, _, rfl, e1, rfl, hmem c hcg, ?_⟩
  refine ⟨_, ix_lst (d := rowD (row T (g.idxOf c))) ?_, ?_⟩
  · unfold tabD
    rw [atI_get (by omega) (by rw [List.length_map]; omega), Int.toNat_natCast, List.getElem?_map, List.getElem?_eq_getElem hsl]
    unfold row
    rw [List.getElem?_eq_getElem hsl]; rfl
  walk_at "m"
  refine lcM_map (α := Nat) (φ := fun t => D.int ((t : Nat) : Int)) (f := fun t => D.int ((gi g t : Nat) : Int)) (row T (g.idxOf c)) (fun t ht R1 hR1 => ?_) (by rw [o.wf.len _ hsl]; omega) ?_
  · walk_at "m"
    refine ⟨_, ix_ints (by rw [hgl]; exact o.wf.lt _ hsl t ht), ?_⟩
    exact hR1
  have etg : (row T (g.idxOf c)).map (fun t => D.int ((gi g t : Nat) : Int)) = intsD (gst m T g c) := by
    rw [← hgm]
    unfold intsD
    rw [List.map_map]; rfl
  rw [etg]
  have hgl2 : (gst m T g c).length ≤ 1000 := by rw [gst_len]; exact hm1
  walk_at "m"
  refine loopM_inv (fun ds ρ h' => ∃ (cs1 cs2 : List Nat) (x5 : Option D), ds = intsD cs2 ∧ gst m T g c = cs1 ++ cs2 ∧ ρ = [some (.lst (tabD T)), some (.lst M), some (.lst (intsD g)), some (.raw (.ref b1)), x4, x5, some (.raw (.ref b6)), some (.raw (.ref b7)), some (.raw (.ref b8)), some (.lst (intsD (gst m T g c))), x10] ∧ Le h h' ∧ h' b1 = some (.dic (mp kI (fun c => D.int ((g.idxOf c : Nat) : Int)) (ded g))) ∧ h' b6 = some (.lst (intsD (adn (bo (gst m T g) (gi g 0) k) cs1))) ∧ h' b7 = some (.dic (nb kI (adn (bo (gst m T g) (gi g 0) k) cs1))) ∧ h' b8 = some (.lst (tabD (brs (gst m T g) (bo (gst m T g) (gi g 0) k) k)))) _ _ _ ⟨[], gst m T g c, x5, rfl, rfl, rfl, le3, e1, e6, e7, e8⟩ ?_ ?_
  · rintro d es ρ h4 R ⟨cs1, cs2, y5, ed, eA, rfl, le4, u1, u6, u7, u8⟩ hR
    cases cs2 with
    | nil => cases ed
    | cons c' cs2 =>
    injection ed with ed1 ed2
    subst ed1 ed2
    have hlen : (adn (bo (gst m T g) (gi g 0) k) cs1).length ≤ 15000 := by
      obtain ⟨l2, el2⟩ := adn_ext (c' :: cs2) (adn (bo (gst m T g) (gi g 0) k) cs1)
      have : bo (gst m T g) (gi g 0) (k + 1) = adn (bo (gst m T g) (gi g 0) k) cs1 ++ l2 := by
        rw [hst, ← el2, ← adn_append, ← eA]
      rw [this, List.length_append] at hml2
      omega
    walk_at "m"
    refine ⟨b7, _, kI c', rfl, u7, rfl, ?_⟩
    rw [nb_val (fun y _ e => kI_inj e)]
    by_cases hin : c' ∈ adn (bo (gst m T g) (gi g 0) k) cs1
    · rw [if_pos hin]
      have eo : adn (bo (gst m T g) (gi g 0) k) (cs1 ++ [c']) = adn (bo (gst m T g) (gi g 0) k) cs1 := by rw [adn_append]; exact adn_in hin []
      refine ⟨_, rfl, iteF ?_⟩
      exact hR _ _ ⟨cs1 ++ [c'], cs2, _, rfl, by rw [eA]; simp, rfl, le4, u1, by rw [eo]; exact u6, by rw [eo]; exact u7, u8⟩
    · rw [if_neg hin]
      have eo : adn (bo (gst m T g) (gi g 0) k) (cs1 ++ [c']) = adn (bo (gst m T g) (gi g 0) k) cs1 ++ [c'] := by rw [adn_append]; exact adn_out hin []
      refine ⟨_, rfl, iteT ?_⟩
      walk_at "m"
      refine ⟨_, lenO u6, rfl, ?_⟩
      walk_at "m"
      refine ⟨b7, _, kI c', rfl, u7, rfl, by rw [nb_len]; omega, ?_⟩
      dsimp only [Res.dat]
      rw [intsD_len, nb_put (fun y _ e => kI_inj e) hin]
      walk_at "m"
      refine ⟨b6, _, rfl, (by rw [put_ne n76.symm]; exact u6), ?_⟩
      walk_at "m"
      refine ⟨_, _, (by rw [put_ne n76.symm]; exact u6), rfl, by rw [intsD_len]; omega, ?_⟩
      refine hR _ _ ⟨cs1 ++ [c'], cs2, _, rfl, by rw [eA]; simp, rfl, ?_, ?_, ?_, ?_, ?_⟩
      · intro a o' ho'
        rw [put_ne (fun z => by rw [z, f6] at ho'; cases ho'), put_ne (fun z => by rw [z, f7] at ho'; cases ho')]; exact le4 a o' ho'
      · rw [put_ne n61.symm, put_ne n71.symm]; exact u1
      · rw [put_same, eo]
        unfold intsD
        rw [List.map_append]; rfl
      · rw [put_ne n76, put_same, eo]
      · rw [put_ne n86, put_ne n87]; exact u8
  rintro ρ h4 ⟨cs1, cs2, y5, ed, eA, rfl, le4, u1, u6, u7, u8⟩
  cases cs2 with
  | cons c' cs2 => cases ed
  | nil =>
  rw [List.append_nil] at eA
  rw [← eA, ← hst] at u6 u7
  walk_at "m"
  refine ⟨b8, _, rfl, u8, ?_⟩
  walk_at "m"
  have hcl : ∀ y ∈ gst m T g c, y ∈ bo (gst m T g) (gi g 0) (k + 1) := fun y hy => by rw [hst]; exact (adn_mem _ _ _).mpr (.inr hy)
  refine lcM_map (α := Nat) (φ := fun t => D.int ((t : Nat) : Int)) (f := fun t => D.int (((bo (gst m T g) (gi g 0) (k + 1)).idxOf t : Nat) : Int)) (gst m T g c) (fun t ht R1 hR1 => ?_) (by omega) ?_
  · walk_at "m"
    refine ⟨b7, _, kI t, _, rfl, u7, rfl, (by rw [nb_val (fun y _ e => kI_inj e), if_pos (hcl t ht)]), ?_⟩
    exact hR1
  walk_at "m"
  refine ⟨_, _, u8, rfl, by rw [htl8]; omega, ?_⟩
  refine ⟨T.length - (k + 1), by omega, k + 1, _, _, _, _, rfl, rfl, ?_, ?_, ?_, ?_, ?_, .inr ⟨c, hc⟩⟩
  · intro a o' ho'
    rw [put_ne (fun z => by rw [z, f8] at ho'; cases ho')]; exact le4 a o' ho'
  · rw [put_ne n81.symm]; exact u1
  · rw [put_ne n86.symm]; exact u6
  · rw [put_ne n87.symm]; exact u7
  · rw [put_same, brs_step hc]
    unfold tabD
    rw [List.map_append]
    congr 3
    rw [List.map_cons, List.map_nil]
    unfold rowD intsD
    rw [List.map_map]; rfl
end
end Cut
namespace Cut
open PySem L2 DL ML
abbrev s_TooLarge_init : Stmt := inClass (top 2) 0
abbrev N_TooLarge_init : List Str := ["self", "what"]
theorem sc_TooLarge_init : FnScope N_TooLarge_init ["self", "what"] (defScope s_TooLarge_init) := ⟨rfl, rfl, rfl, by decide +kernel, rfl, by decide +kernel, by decide +kernel⟩
section
variable {P : Program} {w : World} {K : Fg} {mg : Str → Option Value} {base : Heap} {f : Addr} {fd : FuncData} {CB CN : Addr}
theorem ok_erlI (F : FunA K "__init__" "TooLarge.__init__" s_TooLarge_init f fd) (B : BsC K mg CB) (T : OexC K CN) (hno : PySem.W.findIn K (.ref CN) "what" = some none) : FnOk P w K mg base CX0 1 f fd ["self", "what"] (spE1 K CN "what") := by
  refine F.ok (k := 0) sc_TooLarge_init (fun vs H Q E ⟨a, y, e, _⟩ => by rw [e]; rfl) fun cdv A outer s H vs Q E hr ⟨a, y, e, ha, q⟩ => ?_
  subst e
  refine ⟨_, pss_cons (ps_expr (pe_binit (by rfl) B.nm B.rd B.sp B.fi (pa_cons (pv 0) (pa_cons pe_str pa_nil)))) (pss_one (ps_ost (pv 0) (pv 1))), ?_⟩
  refine ⟨.ref a, rfl, ?_⟩
  refine ⟨a, CN, [.str "too large"], rfl, by decide, T, ha, ?_⟩
  refine ⟨y, rfl, .ref a, rfl, a, CN, rfl, T, hno, .inl ⟨ha, fun dx h1 h2 => ?_⟩⟩
  exact q dx h1 h2
end
end Cut
namespace Cut
open PySem L2 DL ML AU
local macro_rules | `(tactic| walk_at "m") => `(tactic| repeat (first | with_reducible refine ⟨_, rfl, ?_⟩ | refine ⟨_, rfl, ?_⟩ | refine ⟨rfl, ?_⟩ | refine ⟨_, _, rfl, rfl, ?_⟩ | refine ⟨_, _, rfl, ?_⟩ | refine iteT ?_ | refine iteF ?_ | refine ⟨⟨_, rfl⟩, ?_⟩ | refine ⟨Nat.le_of_ble_eq_true rfl, ?_⟩ | refine ⟨(by decide), ?_⟩ | refine ⟨_, ix_t0 _ _, ?_⟩ | refine ⟨_, ix_l0 _ _, ?_⟩))
abbrev s_automaton : Stmt := top 19
abbrev N_automaton : List Str := ["alphabet", "pattern", "matcher", "states", "rows", "found", "state"]
theorem sc_automaton : FnScope N_automaton ["alphabet", "pattern"] (defScope s_automaton) := ⟨rfl, rfl, rfl, by decide +kernel, rfl, by decide +kernel, by decide +kernel⟩
theorem sta_acc : ∀ (n : Nat) (r : Rx) (w w' : Tx), MOk r n → sta r w = sta r w' → tru (Lg r w) = tru (Lg r w')
  | 0, r, _, _, x, _ => by have := x.dp; omega
  | n + 1, r, w, w', x, h => by
    cases hpl : plain r with
    | true =>
      obtain ⟨t1, t2, t3, t4⟩ := x.tab hpl
      rw [sta_plain hpl, sta_plain hpl] at h
      injection h with h
      have h := intsD_inj h
      have e : ∀ w, decide (gol r ∈ run (tab r) w) = tru (Lg r w) := fun w => by
        rw [← tru_dec]
        refine tru_congr ?_
        unfold run
        rw [mem_rch]
        exact ⟨fun z => (tab_lan hpl x.ok w).mp z.2, fun z => ⟨t2, (tab_lan hpl x.ok w).mpr z⟩⟩
      rw [← e, ← e, h]
    | false =>
      have hp := x.parts hpl
      rw [sta_not hpl x.hp, sta_not hpl x.hp] at h
      injection h with h
      have ih : ∀ p ∈ r.parts, tru (Lg p w) = tru (Lg p w') := fun p hp' => sta_acc n p w w' (hp p hp') (List.map_inj_left.mp h p hp')
      cases r with
      | set s => rw [plain] at hpl; cases hpl
      | row ps => have := x.hp; rw [plain] at hpl; rw [hasP, hpl] at this; cases this
      | again p lo hi => have := x.hp; rw [plain] at hpl; rw [hasP, hpl] at this; cases this
      | no p =>
        have := ih p (List.mem_singleton.mpr rfl)
        rw [Lg, ← tru_not, ← tru_not, this]
      | any ps =>
        rw [Lg, ← tru_any, ← tru_any]
        congr 1
        exact List.map_congr_left ih
      | all ps =>
        rw [Lg, ← tru_all, ← tru_all]
        congr 1
        exact List.map_congr_left ih
mutual
def nde : Rx → Nat
  | .set _ | .row _ | .again _ _ _ => 0
  | .any ps => if plain (.any ps) = true then 0 else ndeL ps + 1
  | .all ps => ndeL ps + 1
  | .no p => nde p + 1
def ndeL : List Rx → Nat
  | [] => 0
  | p :: ps => max (nde p) (ndeL ps)
end
mutual
theorem nde_le : ∀ r, nde r ≤ rdep r
  | .set _ => Nat.zero_le _
  | .row _ => Nat.zero_le _
  | .again _ _ _ => Nat.zero_le _
  | .any ps => by
    have := ndeL_le ps
    rw [nde, rdep]; split <;> omega
  | .all ps => by
    have := ndeL_le ps
    rw [nde, rdep]; omega
  | .no p => by
    have := nde_le p
    rw [nde, rdep]; omega
theorem ndeL_le : ∀ ps, ndeL ps ≤ rdepL ps
  | [] => Nat.le_refl _
  | p :: ps => by
    have := nde_le p
    have := ndeL_le ps
    rw [ndeL, rdepL]; omega
end
mutual
theorem sta_dpt : ∀ (r : Rx) (w : Tx), dpt (sta r w) ≤ nde r + 1
  | .set s, w => by rw [sta, dpt, dpt_nats]; omega
  | .row ps, w => by rw [sta, dpt, dpt_nats]; omega
  | .again p lo hi, w => by rw [sta, dpt, dpt_nats]; omega
  | .any ps, w => by
    have := staL_dpt ps w
    rw [sta, nde]
    split
    · rw [dpt, dpt_nats]; omega
    · rw [dpt]; omega
  | .all ps, w => by
    have := staL_dpt ps w
    rw [sta, nde, dpt]; omega
  | .no p, w => by
    have := sta_dpt p w
    rw [sta, nde, dpt, dptL, dptL]; omega
theorem staL_dpt : ∀ (ps : List Rx) (w : Tx), dptL (staL ps w) ≤ ndeL ps + 1
  | [], w => by rw [staL, dptL]; omega
  | p :: ps, w => by
    have := sta_dpt p w
    have := staL_dpt ps w
    rw [staL, dptL, ndeL]; omega
end
structure AOk (A : Str) (r : Rx) : Prop where
  mo : MOk r 25
  dp : nde r ≤ 6
  ww : (wd r).toNat ≤ 10
  al : A.length ≤ 6
noncomputable def mvr (CM : Addr) (A : Str) (r : Rx) : Mvr := ⟨mtD CM r, A, fun s => ∃ w, s = sta r w, nxD r, sta r [], 100000⟩
theorem mvr_st (CM : Addr) (A : Str) (r : Rx) : (mvr CM A r).st = stD A.cps.toList r := rfl
theorem AOk.few {A : Str} {r : Rx} (h : AOk A r) (k : Nat) : (bo (stD A.cps.toList r) (sta r []) k).length ≤ 2 ^ (wd r).toNat + 1 ∧ 2 ^ (wd r).toNat ≤ 1024 := ⟨bo_few h.mo _ k, Nat.pow_le_pow_right (by decide) h.ww⟩
theorem AOk.mvr {A : Str} {r : Rx} (h : AOk A r) (CM : Addr) : (mvr CM A r).Ok := by
  refine ⟨⟨[], rfl⟩, ?_, ?_, by have := h.al; show A.length ≤ 1000; omega, fun k _ => ?_⟩
  · rintro s c ⟨v, rfl⟩ _
    exact ⟨v ++ [c], nxD_sta h.mo v c⟩
  · rintro s ⟨v, rfl⟩
    obtain ⟨h1, h2⟩ := sta_key h.mo v
    have h3 := ky_dep _ (gd_sta 25 r v h.mo).1
    have h4 := sta_dpt r v
    exact ⟨(gd_sta 25 r v h.mo).1, h1, by have := h.dp; omega⟩
  · have := h.few (k + 1)
    show (bo (stD A.cps.toList r) (sta r []) (k + 1)).length ≤ _
    omega
noncomputable def mkF (A : Str) (r : Rx) (v : List Nat) : D := .bl (tru (Lg r (chs A.cps.toList v)))
section
variable {P : Program} {w : World} {K : Fg} {mg : Str → Option Value} {base : Heap} {f : Addr} {fd : FuncData} {CM CL : Addr}
def φm (CM : Addr) (m : Mvr) : Prop := ∃ A r, AOk A r ∧ m = mvr CM A r
def g_aut (CL : Addr) : FM := fun ds h Q E => ∃ A r, ds = [.str A, toD r] ∧ AOk A r ∧ ∀ T M h', Aut A.length (mkF A r) T M → T.length ≤ 2 ^ (wd r).toNat + 1 → Le h h' → (T.length ≤ 40 → Q (.fz (.tup [.tup (tabD T), .tup M])) h') ∧ (40 < T.length → E ⟨CL, [("what", .str "pattern")]⟩ h')
theorem step_mv (c : MthM P w K mg base CM "step" 27 3 (g_step CM 25)) : MthM P w K mg base CM "step" 27 3 (fun ds h Q E => ∃ m, φm CM m ∧ g_mvs m ds h Q E) := c.imp fun ds h Q E ⟨m, ⟨A, r, a, hm⟩, s, ch, e, hs, hc, q⟩ => by
  subst hm
  obtain ⟨v, hs⟩ := (show ∃ v, s = sta r v from hs)
  subst hs
  refine ⟨r, v, ch, e, a.mo, ?_⟩
  rw [← nxD_sta a.mo]; exact q
theorem mv_ob (m : Mvr) (h : φm CM m) : ∃ fs, m.mv = .obj CM fs ∧ fs.lookup ("step" : Str) = none := by
  obtain ⟨A, r, a, rfl⟩ := h
  obtain ⟨fs, h1, h2⟩ := is_mt (fun _ => none) CM a.mo.hp (m := "step") ⟨rfl, fun _ _ => rfl⟩
  rcases h1 with ⟨b, _, h1⟩ | h1
  · cases h1
  · exact ⟨fs, h1, h2⟩
theorem ok_aut (A : At K mg "automaton" ["alphabet", "pattern"] s_automaton f fd) (m_len : mg "len" = none) (c_MOST_EXPLORED : Gc K mg "MOST_EXPLORED" (.int 100000)) (c_MOST_STATES : Gc K mg "MOST_STATES" (.int 40)) (e_TooLarge : Er1 P w K mg base "TooLarge" CL "what") (c_Matcher : MkM P w K mg base "Matcher" CM 102 2 (g_Minit CM 25)) (c_Matcher_begin : MthM P w K mg base CM "begin" 27 1 (g_begin CM 25)) (c_Matcher_accepts : MthM P w K mg base CM "accepts" 27 2 (g_acc CM 25)) (c_explore : FnM P w K mg base "explore" 28 4 (g_expl (φm CM))) (c_minimal : FnM P w K mg base "minimal" 3 2 g_min) : FnM P w K mg base "automaton" 104 2 (g_aut CL) := by
  refine A.fnM (okM (k := 103) A.fn sc_automaton (by decide) (fun cdv A outer s H E hr tk po => (mss_cons (ms_set 2 sc_automaton.nd rfl (by first | exact Or.inl rfl | exact Or.inr rfl) (me_fz (me_mk c_Matcher tk (hr.mono (by decide)) (by rfl) (ma_cons (me_v 1) ma_nil))))
      (mss_cons (ms_asg (me_cM c_explore tk (hr.mono (by decide)) (by rfl) (ma_cons (me_mM0 c_Matcher_begin tk (hr.mono (by decide)) (me_v 2)) (ma_cons (me_v 0) (ma_cons (me_v 2) (ma_cons (me_g c_MOST_EXPLORED (by rfl)) ma_nil))))) (mg_tup (n := 2) rfl (mgs_cons (mg_n 3 sc_automaton.nd rfl (by first | exact Or.inl rfl | exact Or.inr rfl)) (mgs_cons (mg_n 4 sc_automaton.nd rfl (by first | exact Or.inl rfl | exact Or.inr rfl)) mgs_nil))))
      (mss_cons (ms_set 5 sc_automaton.nd rfl (by first | exact Or.inl rfl | exact Or.inr rfl) (me_cM c_minimal tk (hr.mono (by decide)) (by rfl) (ma_cons (me_v 4) (ma_cons (me_lc (own := [("state", 6)]) rfl sc_automaton.nd (mi_seq (me_v 3)) (blkOk_by (N := N_automaton) (sc := defScope s_automaton) (own := [("state", 6)]) (by decide +kernel)) (fun _ _ _ _ _ => (mg_n 6 sc_automaton.nd rfl (by first | exact Or.inl rfl | exact Or.inr rfl))) (fun _ _ _ _ _ => mts_nil) (fun _ _ _ _ _ => (me_mM c_Matcher_accepts takes0 (hr.mono (by decide)) (me_v 2) (ma_cons (me_v 6) ma_nil)))) ma_nil))))
      (mss_cons (ms_if (mt_gt (me_len (by rfl) m_len (ma_cons (me_ix (me_v 5) me_int (fun _ _ => rfl)) ma_nil)) (me_g c_MOST_STATES (by rfl))) (mss_one (ms_raise1 e_TooLarge rfl tk hr (by decide) (by rfl) (ma_cons me_str ma_nil))) mss_nil)
      (mss_one (ms_ret (me_v 5)))))))) ?_)
  rintro ds h Q E hl ⟨A, r, rfl, a, q⟩
  have x := a.mo
  refine seq_set ?_
  refine make_matcher x.ok x.hp x.dp (by decide) x.ct ?_ fun k hk => ⟨_, rfl, hk⟩
  refine ⟨_, rfl, is_mt h CM x.hp ⟨rfl, fun _ _ => rfl⟩, ?_⟩
  walk_at "m"
  refine ⟨x, ?_⟩
  walk_at "m"
  have few := a.few
  refine ⟨mvr CM A r, ⟨A, r, a, rfl⟩, a.mvr CM, rfl, fun k h1 hE le1 => ?_⟩
  have hbe : Bend (stD A.cps.toList r) (sta r []) k := by
    rcases hE with hE | hE
    · exact hE
    · have := few k
      have hE : 100000 < (bo (stD A.cps.toList r) (sta r []) k).length := hE
      omega
  have f1 := few k
  have hAl : A.cps.toList.length = A.length := (len_l A).symm
  have hsl := stD_len A.cps.toList r
  have hwf := hbe.wf hsl
  rw [mvr_st, show (mvr CM A r).a0 = sta r [] from rfl, brs_end hbe]
  refine ⟨_, rfl, rfl, _, _, rfl, _, _, rfl, rfl, ?_⟩
  walk_at "m"
  obtain ⟨ws, hws⟩ : ∃ ws : List Tx, bo (stD A.cps.toList r) (sta r []) k = ws.map (sta r) := by
    have hb := bo_sta x A.cps.toList k
    generalize bo (stD A.cps.toList r) (sta r []) k = l at hb
    induction l with
    | nil => exact ⟨[], rfl⟩
    | cons d l ih =>
      obtain ⟨w1, e1, _⟩ := hb d (List.mem_cons_self ..)
      obtain ⟨ws, e2⟩ := ih fun d' h' => hb d' (List.mem_cons_of_mem _ h')
      exact ⟨w1 :: ws, by rw [e1, e2]; rfl⟩
  rw [hws]
  refine lcM_map (φ := sta r) (f := fun v => .bl (tru (Lg r v))) ws (fun v hv R1 hR1 => ?_) (by have := congrArg List.length hws; rw [List.length_map] at this; omega) ?_
  · refine ⟨_, rfl, is_mt h1 CM x.hp ⟨rfl, fun _ _ => rfl⟩, ?_⟩
    walk_at "m"
    exact ⟨x, hR1⟩
  rw [← hws]
  have hwl : ws.length = (bo (stD A.cps.toList r) (sta r []) k).length := by rw [hws, List.length_map]
  refine ⟨_, _, _, rfl, ⟨hwf, by rw [btab_len]; omega, by have := a.al; omega⟩, by rw [List.length_map, btab_len, hwl], ⟨?_, ?_⟩, fun T M h2 hA hTl le2 => ?_⟩
  · intro d hd
    obtain ⟨v, _, rfl⟩ := List.mem_map.mp hd
    exact ⟨_, rfl⟩
  · intro d hd e he z
    obtain ⟨v, _, rfl⟩ := List.mem_map.mp hd
    obtain ⟨v', _, rfl⟩ := List.mem_map.mp he
    revert z
    cases tru (Lg r v) <;> cases tru (Lg r v') <;> simp [lfD]
  have hAut : Aut A.length (mkF A r) T M := by
    have := hA (mkF A r) fun v hv => by
      have z0 : (bo (stD A.cps.toList r) (sta r []) k).idxOf (sta r []) = 0 := get_idx (bo_nodup _ _ k) (bo_zero _ _ k)
      obtain ⟨i1, i2⟩ := hbe.run hsl v (sta r []) (List.mem_of_getElem? (bo_zero _ _ k)) hv
      rw [z0, stD_run x v [] hv, List.nil_append] at i2
      rw [stD_run x v [] hv, List.nil_append] at i1
      rw [i2, List.getElem?_map]
      have i3 := idx_get i1
      rw [hws, List.getElem?_map] at i3
      obtain ⟨w1, e1, e2⟩ := Option.map_eq_some_iff.mp i3
      rw [← hws] at e1
      rw [e1]
      unfold mkF
      rw [← sta_acc 25 r _ _ x e2]; rfl
    rw [hAl] at this
    exact this
  obtain ⟨q1, q2⟩ := q T M h2 hAut (by rw [btab_len] at hTl; omega) (Le.trans le1 le2)
  walk_at "m"
  refine ifB (fun hb => ?_) (fun hb => ?_)
  · have hb : (((tabD T).length : Nat) : Int) > 40 := of_decide_eq_true hb
    unfold tabD at hb
    rw [List.length_map] at hb
    walk_at "m"
    exact q2 (by omega)
  · have hb : ¬ (((tabD T).length : Nat) : Int) > 40 := of_decide_eq_false hb
    unfold tabD at hb
    rw [List.length_map] at hb
    walk_at "m"
    exact q1 (by omega)
end
end Cut
namespace Cut
open PySem L2 DL ML AU
mutual
theorem sg_dpt : ∀ (r : Rx) (v : Tx), dpt (sgD r v) ≤ nde r + 1
  | .set s, v => by rw [sgD]; exact ss_dpt _ _ _
  | .row ps, v => by rw [sgD]; exact ss_dpt _ _ _
  | .again p lo hi, v => by rw [sgD]; exact ss_dpt _ _ _
  | .any ps, v => by
    have := sgL_dpt ps v
    rw [sgD]
    split
    · exact ss_dpt _ _ _
    · rename_i z
      rw [nde, if_neg z, dpt]; omega
  | .all ps, v => by
    have := sgL_dpt ps v
    rw [sgD, nde, dpt]; omega
  | .no p, v => by
    have := sg_dpt p v
    rw [sgD, nde, dpt, dptL, dptL]; omega
theorem sgL_dpt : ∀ (ps : List Rx) (v : Tx), dptL (sgL ps v) ≤ ndeL ps + 1
  | [], v => by rw [sgL, dptL]; omega
  | p :: ps, v => by
    have := sg_dpt p v
    have := sgL_dpt ps v
    rw [sgL, dptL, ndeL]; omega
theorem ss_dpt (r : Rx) (v : Tx) (k : Nat) : dpt (ssD r v) ≤ k + 1 := by
  unfold ssD
  split
  · simp [dpt]
  · rw [dpt, dpt_nats]; omega
end
structure TOk (A : Str) (rs : List Rx) : Prop where
  g : ∀ r ∈ rs, GOk r 10
  d : ∀ r ∈ rs, nde r ≤ 5
  w : (rs.map fun r => (wd r).toNat).sum ≤ 10
  n : rs.length ≤ 6
  a : A.length ≤ 6
section
variable {A : Str} {rs : List Rx}
open Classical in
open Classical in
end
end Cut
namespace Cut
open PySem L2 DL ML AU
structure Pt (r : Rx) (d k b e : Nat) : Prop where
  ok : okR r = true
  hp : hasP r = true
  dp : rdep r ≤ d
  nd : nde r ≤ k
  wl : wd r ≤ (b : Nat)
  ca : costA r ≤ e
  co : cost r ≤ e
theorem Pt.mono {r : Rx} {d k b e d' k' b' e' : Nat} (x : Pt r d k b e) (h1 : d ≤ d') (h2 : k ≤ k') (h3 : b ≤ b') (h4 : e ≤ e') : Pt r d' k' b' e' := ⟨x.ok, x.hp, Nat.le_trans x.dp h1, Nat.le_trans x.nd h2, by have := x.wl; omega, Nat.le_trans x.ca h4, Nat.le_trans x.co h4⟩
theorem Pt.b1 {r : Rx} {d k b e : Nat} (x : Pt r d k b e) : 1 ≤ b := by
  have := wd_one r x.ok
  have := x.wl
  omega
theorem Pt.set {s : Str} (h : s.length ≤ 10000) : Pt (.set s) 0 0 1 4 := ⟨by rw [okR]; exact decide_eq_true h, rfl, Nat.le_refl _, Nat.le_refl _, Int.le_refl _, Nat.le_refl _, Nat.le_refl _⟩
theorem Pt.no {r : Rx} {d k b e : Nat} (x : Pt r d k b e) : Pt (.no r) (d + 1) (k + 1) b e := by
  have hb := x.b1
  have := x.dp
  have := x.nd
  have := x.wl
  have := wd_one r x.ok
  refine ⟨by rw [okR]; exact x.ok, by rw [hasP]; exact x.hp, by rw [rdep]; omega, by rw [nde]; omega, ?_, by rw [costA]; exact x.ca, by rw [cost]; exact Nat.zero_le _⟩
  rw [wd_no]
  unfold mx1
  split <;> omega
theorem Pt.parts {ps : List Rx} {d k b e : Nat} (h : ∀ p ∈ ps, Pt p d k b e) : okRL ps = true ∧ (hasPL ps).all id = true ∧ rdepL ps ≤ d ∧ ndeL ps ≤ k ∧ (wdL ps).sum ≤ ((ps.length * b : Nat) : Int) ∧ costAL ps ≤ ps.length * e ∧ costL ps ≤ ps.length * e := by
  induction ps with
  | nil => exact ⟨rfl, rfl, Nat.zero_le _, Nat.zero_le _, by simp [wdL], Nat.le_of_eq (by rw [costAL]; simp), Nat.le_of_eq (by rw [costL]; simp)⟩
  | cons p ps ih =>
    obtain ⟨a1, a2, a3, a4, a5, a6, a7⟩ := ih fun q hq => h q (List.mem_cons_of_mem _ hq)
    have x := h p (List.mem_cons_self ..)
    have e1 : (p :: ps).length * b = ps.length * b + b := by rw [List.length_cons, Nat.succ_mul]
    have e2 : (p :: ps).length * e = ps.length * e + e := by rw [List.length_cons, Nat.succ_mul]
    refine ⟨by rw [okRL, x.ok, a1]; rfl, by rw [hasPL, List.all_cons, x.hp, a2]; rfl, ?_, ?_, ?_, ?_, ?_⟩
    · have := x.dp
      rw [rdepL]; omega
    · have := x.nd
      rw [ndeL]; omega
    · have := x.wl
      rw [wdL, List.sum_cons, e1]; omega
    · have := x.ca
      rw [costAL, e2]; omega
    · have := x.co
      rw [costL, e2]; omega
theorem mx1_max {j : Int} {m : Nat} (h : j ≤ m) (h1 : 1 ≤ m) : mx1 j ≤ m := by unfold mx1; split <;> omega
theorem Pt.all {ps : List Rx} {d k b e n B E : Nat} (h : ∀ p ∈ ps, Pt p d k b e) (hn : ps.length ≤ n) (hB : n * b ≤ B) (B1 : 1 ≤ B) (hE : n * e ≤ E) (hl : ps.length ≤ 9999) : Pt (.all ps) (d + 1) (k + 1) B E := by
  obtain ⟨a1, a2, a3, a4, a5, a6, a7⟩ := Pt.parts h
  have m1 : ps.length * b ≤ n * b := Nat.mul_le_mul_right _ hn
  have m2 : ps.length * e ≤ n * e := Nat.mul_le_mul_right _ hn
  refine ⟨by rw [okR, a1, decide_eq_true hl]; rfl, by rw [hasP]; exact a2, by rw [rdep]; omega, by rw [nde]; omega, ?_, by rw [costA]; omega, by rw [cost]; exact Nat.zero_le _⟩
  rw [wd_all]
  exact mx1_max (by omega) B1
theorem Pt.any {ps : List Rx} {d k b e n B E : Nat} (h : ∀ p ∈ ps, Pt p d k b e) (hn : ps.length ≤ n) (hB : n * b ≤ B) (B1 : 1 ≤ B) (hE : 3 + n + n * e + n * e ≤ E) (hl : ps.length ≤ 9999) : Pt (.any ps) (d + 1) (k + 1) B E := by
  obtain ⟨a1, a2, a3, a4, a5, a6, a7⟩ := Pt.parts h
  have m1 : ps.length * b ≤ n * b := Nat.mul_le_mul_right _ hn
  have m2 : ps.length * e ≤ n * e := Nat.mul_le_mul_right _ hn
  refine ⟨by rw [okR, a1, decide_eq_true hl]; rfl, by rw [hasP]; exact a2, by rw [rdep]; omega, ?_, ?_, by rw [costA, cost]; omega, by rw [cost]; omega⟩
  · rw [nde]
    split <;> omega
  rw [wd_any]
  exact mx1_max (by omega) B1
theorem Pt.again {r : Rx} {d k b e B E : Nat} {lo : Int} {hi : Option Int} (x : Pt r d k b e) (hpl : plain r = true) (l0 : 0 ≤ lo) (l2 : lo ≤ 2) (hh : ∀ u, hi = some u → 1 ≤ u ∧ lo ≤ u ∧ u ≤ 3) (hB : 3 * b ≤ B) (hE : 10 + 3 * e ≤ E) : Pt (.again r lo hi) (d + 1) 0 B E := by
  have hb := x.b1
  have w1 := wd_one r x.ok
  have wl := x.wl
  have e1 : mx1 (wd r) = wd r := mx1_of w1
  have key : wd (.again r lo hi) ≤ (3 * b : Nat) ∧ cps lo hi ≤ 3 ∧ okR (.again r lo hi) = true := by
    cases hi with
    | none =>
      refine ⟨?_, ?_, ?_⟩
      · rw [wd, e1]
        have := Int.mul_le_mul (show wd r ≤ (b : Int) by omega) (show lo + 1 ≤ 3 by omega) (by omega) (by omega)
        omega
      · rw [cps]; omega
      · rw [okR, x.ok, decide_eq_true l0, decide_eq_true (show lo ≤ 4 by omega)]; rfl
    | some u =>
      obtain ⟨u1, u2, u3⟩ := hh u rfl
      refine ⟨?_, ?_, ?_⟩
      · rw [wd, e1, mx1_of u1]
        have := Int.mul_le_mul (show wd r ≤ (b : Int) by omega) (show u ≤ 3 by omega) (by omega) (by omega)
        omega
      · rw [cps]; omega
      · rw [okR, x.ok, decide_eq_true l0, decide_eq_true (show lo ≤ 4 by omega), hiOk, decide_eq_true u2, decide_eq_true (show u ≤ 4 by omega)]; rfl
  obtain ⟨k1, k2, k3⟩ := key
  have k4 : cps lo hi * cost r ≤ 3 * e := Nat.mul_le_mul k2 x.co
  have := x.dp
  refine ⟨k3, by rw [hasP]; exact hpl, by rw [rdep]; omega, by rw [nde]; exact Nat.le_refl _, by omega, by rw [costA, cost]; omega, by rw [cost]; omega⟩
theorem Pt.aok {A : Str} {r : Rx} (x : Pt r 9 5 10 14000) (hA : A.length ≤ 6) : AOk A r := ⟨⟨x.ok, x.hp, by have := x.dp; omega, x.ca⟩, by have := x.nd; omega, by have := x.wl; omega, hA⟩
theorem Pt.tok {A : Str} {r : Rx} (x : Pt r 9 5 10 14000) (hA : A.length ≤ 6) : TOk A [r] := by
  have hw := x.wl
  refine ⟨fun q hq => ?_, fun q hq => ?_, ?_, by show 1 ≤ 6; decide, hA⟩
  · rw [List.mem_singleton.mp hq]
    exact ⟨x.ok, x.hp, by have := x.dp; omega, by decide, by omega⟩
  · rw [List.mem_singleton.mp hq]
    exact x.nd
  · rw [List.map_cons, List.map_nil, List.sum_cons, List.sum_nil]; omega
mutual
def sgl : Rx → Rx
  | .set s => .set (ofL (s.cps.toList.take 1))
  | .row ps => .row (sglL ps)
  | .any ps => .any (sglL ps)
  | .all ps => .all (sglL ps)
  | .no p => .no (sgl p)
  | .again p lo hi => .again (sgl p) lo hi
def sglL : List Rx → List Rx
  | [] => []
  | p :: ps => sgl p :: sglL ps
end
structure Shp (r q : Rx) : Prop where
  ok : okR q = true
  pl : plain q = plain r
  hp : hasP q = hasP r
  dp : rdep q = rdep r
  nd : nde q = nde r
  wl : wd q = wd r
  ca : costA q = costA r
  co : cost q = cost r
structure ShpL (r q : List Rx) : Prop where
  ln : q.length = r.length
  ok : okRL q = true
  pl : plainL q = plainL r
  hp : hasPL q = hasPL r
  dp : rdepL q = rdepL r
  nd : ndeL q = ndeL r
  wl : wdL q = wdL r
  ca : costAL q = costAL r
  co : costL q = costL r
mutual
theorem sgl_shp : ∀ r, okR r = true → Shp r (sgl r)
  | .set s, h => by
    rw [sgl]
    refine ⟨?_, rfl, rfl, rfl, rfl, rfl, rfl, rfl⟩
    rw [okR]
    refine decide_eq_true ?_
    rw [len_ofL, List.length_take]; omega
  | .row ps, h => by
    rw [okR, Bool.and_eq_true, decide_eq_true_eq] at h
    have x := sglL_shp ps h.2
    rw [sgl]
    exact ⟨by rw [okR, x.ok, x.ln, decide_eq_true h.1]; rfl, by rw [plain, plain, x.pl], by rw [hasP, hasP, x.pl], by rw [rdep, rdep, x.dp], by rw [nde, nde], by rw [wd_row, wd_row, x.wl], by rw [costA, costA, cost, cost, x.co], by rw [cost, cost, x.co]⟩
  | .any ps, h => by
    rw [okR, Bool.and_eq_true, decide_eq_true_eq] at h
    have x := sglL_shp ps h.2
    have e : plain (.any (sglL ps)) = plain (.any ps) := by rw [plain, plain, x.pl]
    rw [sgl]
    exact ⟨by rw [okR, x.ok, x.ln, decide_eq_true h.1]; rfl, e, by rw [hasP, hasP, x.hp], by rw [rdep, rdep, x.dp], by rw [nde, nde, e, x.nd], by rw [wd_any, wd_any, x.wl], by rw [costA, costA, cost, cost, x.co, x.ca, x.ln], by rw [cost, cost, x.co, x.ln]⟩
  | .all ps, h => by
    rw [okR, Bool.and_eq_true, decide_eq_true_eq] at h
    have x := sglL_shp ps h.2
    rw [sgl]
    exact ⟨by rw [okR, x.ok, x.ln, decide_eq_true h.1]; rfl, rfl, by rw [hasP, hasP, x.hp], by rw [rdep, rdep, x.dp], by rw [nde, nde, x.nd], by rw [wd_all, wd_all, x.wl], by rw [costA, costA, x.ca], rfl⟩
  | .no p, h => by
    rw [okR] at h
    have x := sgl_shp p h
    rw [sgl]
    exact ⟨by rw [okR, x.ok], rfl, by rw [hasP, hasP, x.hp], by rw [rdep, rdep, x.dp], by rw [nde, nde, x.nd], by rw [wd_no, wd_no, x.wl], by rw [costA, costA, x.ca], rfl⟩
  | .again p lo hi, h => by
    rw [okR, Bool.and_eq_true, Bool.and_eq_true, Bool.and_eq_true] at h
    have x := sgl_shp p h.1.1.1
    rw [sgl]
    refine ⟨by rw [okR, x.ok, h.1.1.2, h.1.2, h.2]; rfl, by rw [plain, plain, x.pl], by rw [hasP, hasP, x.pl], by rw [rdep, rdep, x.dp], rfl, ?_, by rw [costA, costA, cost, cost, x.co], by rw [cost, cost, x.co]⟩
    cases hi with
    | none => rw [wd, wd, x.wl]
    | some u => rw [wd, wd, x.wl]
theorem sglL_shp : ∀ ps, okRL ps = true → ShpL ps (sglL ps)
  | [], _ => ⟨rfl, rfl, rfl, rfl, rfl, rfl, rfl, rfl, rfl⟩
  | p :: ps, h => by
    rw [okRL, Bool.and_eq_true] at h
    have x := sgl_shp p h.1
    have y := sglL_shp ps h.2
    rw [sglL]
    exact ⟨by rw [List.length_cons, List.length_cons, y.ln], by rw [okRL, x.ok, y.ok]; rfl, by rw [plainL, plainL, x.pl, y.pl], by rw [hasPL, hasPL, x.hp, y.hp], by rw [rdepL, rdepL, x.dp, y.dp], by rw [ndeL, ndeL, x.nd, y.nd], by rw [wdL, wdL, x.wl, y.wl], by rw [costAL, costAL, x.ca, y.ca], by rw [costL, costL, x.co, y.co]⟩
end
theorem Pt.sgl {r : Rx} {d k b e : Nat} (x : Pt r d k b e) : Pt (sgl r) d k b e := by
  have y := sgl_shp r x.ok
  exact ⟨y.ok, by rw [y.hp]; exact x.hp, by rw [y.dp]; exact x.dp, by rw [y.nd]; exact x.nd, by rw [y.wl]; exact x.wl, by rw [y.ca]; exact x.ca, by rw [y.co]; exact x.co⟩
end Cut
namespace AU
theorem nodup_mapO {α β : Type} {φ : α → β} : ∀ {l : List α}, (∀ x ∈ l, ∀ y ∈ l, φ x = φ y → x = y) → l.Nodup → (l.map φ).Nodup
  | [], _, _ => by simp
  | x :: l, h, n => by
    rw [List.nodup_cons] at n
    rw [List.map_cons, List.nodup_cons]
    refine ⟨fun z => ?_, nodup_mapO (fun a ha b hb => h a (List.mem_cons_of_mem _ ha) b (List.mem_cons_of_mem _ hb)) n.2⟩
    obtain ⟨y, hy, e⟩ := List.mem_map.mp z
    rw [h y (List.mem_cons_of_mem _ hy) x (List.mem_cons_self ..) e] at hy
    exact n.1 hy
theorem Aut.count {μ κ : Type} [DecidableEq κ] {m : Nat} {f : List Nat → μ} {T : Tab} {M : List μ} (h : Aut m f T M) (σ : List Nat → κ) (L : List κ) (nd : L.Nodup) (hin : ∀ w, Wd m w → σ w ∈ L) (hall : ∀ x ∈ L, ∃ w, Wd m w ∧ σ w = x)
    (heq : ∀ u v, Wd m u → Wd m v → (σ u = σ v ↔ ∀ w, Wd m w → f (u ++ w) = f (v ++ w))) : T.length = L.length := by
  refine Nat.le_antisymm ?_ ?_
  · have wi : ∀ i : Nat, ∃ w, i < T.length → (Wd m w ∧ rn T 0 w = i) := fun i => by
      by_cases hi : i < T.length
      · obtain ⟨w, hw⟩ := h.reach hi; exact ⟨w, fun _ => hw⟩
      · exact ⟨[], fun z => absurd z hi⟩
    let W : Nat → List Nat := fun i => Classical.choose (wi i)
    have hW : ∀ i, i < T.length → Wd m (W i) ∧ rn T 0 (W i) = i := fun i => Classical.choose_spec (wi i)
    have n1 : ((List.range T.length).map fun i => σ (W i)).Nodup := nodup_mapO (fun i hi j hj e => by
      have hi := List.mem_range.mp hi
      have hj := List.mem_range.mp hj
      have := h.same (hW i hi).1 (hW j hj).1 ((heq _ _ (hW i hi).1 (hW j hj).1).mp e)
      rw [(hW i hi).2, (hW j hj).2] at this
      exact this) List.nodup_range
    have := nodup_le n1 (m := L) fun x hx => by
      obtain ⟨i, hi, rfl⟩ := List.mem_map.mp hx
      exact hin _ (hW i (List.mem_range.mp hi)).1
    rw [List.length_map, List.length_range] at this
    exact this
  · have wx : ∀ x : κ, ∃ w, x ∈ L → (Wd m w ∧ σ w = x) := fun x => by
      by_cases hx : x ∈ L
      · obtain ⟨w, hw⟩ := hall x hx; exact ⟨w, fun _ => hw⟩
      · exact ⟨[], fun z => absurd z hx⟩
    let W : κ → List Nat := fun x => Classical.choose (wx x)
    have hW : ∀ x, x ∈ L → Wd m (W x) ∧ σ (W x) = x := fun x => Classical.choose_spec (wx x)
    have n1 : (L.map fun x => rn T 0 (W x)).Nodup := nodup_mapO (fun x hx y hy e => by
      have := (heq _ _ (hW x hx).1 (hW y hy).1).mpr (h.resid (hW x hx).1 (hW y hy).1 e)
      rw [(hW x hx).2, (hW y hy).2] at this
      exact this) nd
    have := nodup_le n1 (m := List.range T.length) fun x hx => by
      obtain ⟨i, hi, rfl⟩ := List.mem_map.mp hx
      exact List.mem_range.mpr (h.wf.rn h.wf.pos (hW i hi).1)
    rw [List.length_map, List.length_range] at this
    exact this
namespace K7
def low (r : List Nat) : Bool := r.all (fun a => decide (a < 2))
def zer (r : List Nat) : Bool := r.all (fun a => decide (a = 0))
def fin (s : Nat) (ev : Bool) (r : List Nat) (z : Nat) : Bool := low r && ((decide (z = 2) && decide (r[s]? = some 0)) || (decide (z = 3) && (zer r && (!ev || decide (r.length % 2 = 0)))))
def FR (s : Nat) (ev : Bool) : List Nat → Bool
  | [] => false
  | z :: r => fin s ev r z
def F (s : Nat) (ev : Bool) (w : List Nat) : Bool := FR s ev w.reverse
def pad (n : Nat) (r : List Nat) : List Nat := (List.range n).map fun i => (r[i]?).getD 1
def par (ev : Bool) (r : List Nat) : Nat := if zer r = true then (if ev = true then r.length % 2 + 1 else 1) else 0
inductive S where
  | dead | fin | inn (h : List Nat) (p : Nat)
  deriving DecidableEq
def sg (s : Nat) (ev : Bool) (r : List Nat) : S := if low r = true then .inn (pad (s + 1) r) (par ev r) else if FR s ev r = true then .fin else .dead
theorem low_cons (a : Nat) (r : List Nat) : low (a :: r) = (decide (a < 2) && low r) := by unfold low; rw [List.all_cons]
theorem zer_cons (a : Nat) (r : List Nat) : zer (a :: r) = (decide (a = 0) && zer r) := by unfold zer; rw [List.all_cons]
theorem pad_get {n i : Nat} (h : i < n) (r : List Nat) : (pad n r)[i]? = some ((r[i]?).getD 1) := by unfold pad; rw [List.getElem?_map, List.getElem?_range h]; rfl
theorem pad_len (n : Nat) (r : List Nat) : (pad n r).length = n := by unfold pad; simp
theorem pad_eq {n : Nat} {r r' : List Nat} : pad n r = pad n r' ↔ ∀ i, i < n → (r[i]?).getD 1 = (r'[i]?).getD 1 := by
  constructor
  · intro e i hi
    have := congrArg (fun l => l[i]?) e
    simp only [pad_get hi] at this
    injection this
  · intro h
    unfold pad
    exact List.map_congr_left fun i hi => h i (List.mem_range.mp hi)
theorem FR_low {s : Nat} {ev : Bool} {r : List Nat} (h : low r = true) : FR s ev r = false := by
  cases r with
  | nil => rfl
  | cons z r =>
    rw [low_cons, Bool.and_eq_true, decide_eq_true_eq] at h
    show fin s ev r z = false
    unfold fin
    rw [decide_eq_false (show ¬ z = 2 by omega), decide_eq_false (show ¬ z = 3 by omega)]
    simp
theorem sg_low {s : Nat} {ev : Bool} {r : List Nat} (h : low r = true) : sg s ev r = .inn (pad (s + 1) r) (par ev r) := by unfold sg; rw [if_pos h]
theorem sg_nlow {s : Nat} {ev : Bool} {r : List Nat} (h : low r = false) : sg s ev r = if FR s ev r = true then .fin else .dead := by unfold sg; rw [if_neg (by rw [h]; decide)]
theorem sg_fin {s : Nat} {ev : Bool} {r : List Nat} : FR s ev r = true ↔ sg s ev r = .fin := by
  unfold sg
  by_cases h : low r = true
  · rw [if_pos h, FR_low h]; simp
  · rw [if_neg h]
    by_cases g : FR s ev r = true
    · rw [if_pos g]; simp [g]
    · rw [if_neg g]; simp [g]
theorem zero_iff (o : Option Nat) : o = some 0 ↔ o.getD 1 = 0 := by cases o <;> simp
theorem fin_eq {s : Nat} {ev : Bool} {r r' : List Nat} (h1 : low r = true) (h2 : low r' = true) (hp : pad (s + 1) r = pad (s + 1) r') (hq : par ev r = par ev r') (z : Nat) : fin s ev r z = fin s ev r' z := by
  have e1 : decide (r[s]? = some 0) = decide (r'[s]? = some 0) := by
    have := pad_eq.mp hp s (by omega)
    rw [Bool.eq_iff_iff, decide_eq_true_eq, decide_eq_true_eq, zero_iff, zero_iff, this]
  have e2 : (zer r && (!ev || decide (r.length % 2 = 0))) = (zer r' && (!ev || decide (r'.length % 2 = 0))) := by
    unfold par at hq
    cases zr : zer r <;> cases zr' : zer r' <;> rw [zr, zr'] at hq <;> cases ev <;> simp at hq ⊢
    rw [hq]
  unfold fin
  rw [h1, h2, e1, e2]
theorem sg_step {s : Nat} {ev : Bool} {r r' : List Nat} (h : sg s ev r = sg s ev r') (a : Nat) : sg s ev (a :: r) = sg s ev (a :: r') := by
  have hl : low r = low r' := by
    unfold sg at h
    cases l : low r <;> cases l' : low r' <;> rw [l, l'] at h <;> first | rfl | skip
    · rw [if_neg (by simp), if_pos rfl] at h
      split at h <;> cases h
    · rw [if_pos rfl, if_neg (by simp)] at h
      split at h <;> cases h
  cases l : low r with
  | false =>
    have l' : low r' = false := by rw [← hl]; exact l
    have d : ∀ q : List Nat, low q = false → sg s ev (a :: q) = .dead := fun q hq => by
      unfold sg
      rw [if_neg (by rw [low_cons, hq]; simp), if_neg (by show ¬ fin s ev q a = true; unfold fin; rw [hq]; simp)]
    rw [d r l, d r' l']
  | true =>
    have l' : low r' = true := by rw [← hl]; exact l
    rw [sg_low l, sg_low l'] at h
    injection h with hp hq
    by_cases ha : a < 2
    · rw [sg_low (by rw [low_cons, l, decide_eq_true ha]; rfl), sg_low (by rw [low_cons, l', decide_eq_true ha]; rfl)]
      congr 1
      · refine pad_eq.mpr fun i hi => ?_
        cases i with
        | zero => rfl
        | succ i =>
          rw [List.getElem?_cons_succ, List.getElem?_cons_succ]
          exact pad_eq.mp hp i (by omega)
      · unfold par at hq ⊢
        rw [zer_cons, zer_cons, List.length_cons, List.length_cons]
        by_cases h0 : a = 0
        · rw [decide_eq_true h0, Bool.true_and, Bool.true_and]
          cases zr : zer r <;> cases zr' : zer r' <;> rw [zr, zr'] at hq <;> cases ev <;> simp at hq ⊢
          omega
        · rw [decide_eq_false h0]; rfl
    · rw [sg_nlow (by rw [low_cons, decide_eq_false ha]; rfl), sg_nlow (by rw [low_cons, decide_eq_false ha]; rfl)]
      show (if fin s ev r a = true then S.fin else S.dead) = (if fin s ev r' a = true then S.fin else S.dead)
      rw [fin_eq l l' hp hq]
theorem sg_app {s : Nat} {ev : Bool} {r r' : List Nat} (h : sg s ev r = sg s ev r') : ∀ q : List Nat, sg s ev (q ++ r) = sg s ev (q ++ r')
  | [] => h
  | a :: q => sg_step (sg_app h q) a
theorem FR_eq {s : Nat} {ev : Bool} {r r' : List Nat} (h : sg s ev r = sg s ev r') : FR s ev r = FR s ev r' := by
  rw [Bool.eq_iff_iff, sg_fin, sg_fin, h]
def σ (s : Nat) (ev : Bool) (w : List Nat) : S := sg s ev w.reverse
theorem low_app (q r : List Nat) : low (q ++ r) = (low q && low r) := by unfold low; rw [List.all_append]
theorem zer_app (q r : List Nat) : zer (q ++ r) = (zer q && zer r) := by unfold zer; rw [List.all_append]
theorem low_rep (n a : Nat) (h : a < 2) : low (List.replicate n a) = true := by unfold low; rw [List.all_eq_true]; intro x hx; rw [List.eq_of_mem_replicate hx]; exact decide_eq_true h
theorem low_get {r : List Nat} (h : low r = true) (i : Nat) : (r[i]?).getD 1 < 2 := by
  cases e : r[i]? with
  | none => decide
  | some a =>
    have := List.all_eq_true.mp h a (List.mem_of_getElem? e)
    exact of_decide_eq_true this
theorem fin3 {s : Nat} {ev : Bool} {r : List Nat} (h : low r = true) : fin s ev r 3 = decide (par ev r = 1) := by
  unfold fin par
  rw [h]
  cases zr : zer r <;> cases ev <;> simp
theorem fin2 {s : Nat} {ev : Bool} {r : List Nat} (h : low r = true) : fin s ev r 2 = decide ((r[s]?).getD 1 = 0) := by
  unfold fin
  rw [h]
  simp only [Bool.true_and, decide_true, show decide ((2 : Nat) = 3) = false from rfl, Bool.false_and, Bool.or_false]
  rw [Bool.eq_iff_iff, decide_eq_true_eq, decide_eq_true_eq, zero_iff]
theorem fin_nlow {s : Nat} {ev : Bool} {r : List Nat} (h : low r = false) (z : Nat) : fin s ev r z = false := by unfold fin; rw [h]; rfl
theorem tell {s : Nat} {ev : Bool} {r r' : List Nat} (h : ∀ q : List Nat, (∀ a ∈ q, a < 4) → FR s ev (q ++ r) = FR s ev (q ++ r')) : sg s ev r = sg s ev r' := by
  have h0 := h [] (fun a z => nomatch z)
  have key : ∀ r r' : List Nat, low r = true → low r' = false → ¬ ∀ q : List Nat, (∀ a ∈ q, a < 4) → FR s ev (q ++ r) = FR s ev (q ++ r') := fun r r' l l' h => by
    have := h (2 :: (List.replicate s 1 ++ [0])) (fun a ha => by
      rcases List.mem_cons.mp ha with e | ha
      · omega
      rcases List.mem_append.mp ha with ha | ha
      · rw [List.eq_of_mem_replicate ha]; omega
      · rw [List.mem_singleton.mp ha]; omega)
    have e1 : FR s ev (2 :: (List.replicate s 1 ++ [0]) ++ r) = true := by
      show fin s ev (List.replicate s 1 ++ [0] ++ r) 2 = true
      rw [fin2 (by rw [low_app, low_app, l, low_rep s 1 (by decide)]; rfl), List.append_assoc, List.getElem?_append_right (by simp)]
      simp
    have e2 : FR s ev (2 :: (List.replicate s 1 ++ [0]) ++ r') = false := by
      show fin s ev (List.replicate s 1 ++ [0] ++ r') 2 = false
      exact fin_nlow (by rw [low_app, l', Bool.and_false]) 2
    rw [e1, e2] at this
    cases this
  cases l : low r with
  | true =>
    cases l' : low r' with
    | false => exact absurd h (key r r' l l')
    | true =>
      unfold sg
      rw [if_pos l, if_pos l']
      congr 1
      · refine pad_eq.mpr fun i hi => ?_
        have := h (2 :: List.replicate (s - i) 1) (fun a ha => by
          rcases List.mem_cons.mp ha with e | ha
          · omega
          · rw [List.eq_of_mem_replicate ha]; omega)
        have g : ∀ q : List Nat, low q = true → FR s ev (2 :: List.replicate (s - i) 1 ++ q) = decide ((q[i]?).getD 1 = 0) := fun q hq => by
          show fin s ev (List.replicate (s - i) 1 ++ q) 2 = _
          rw [fin2 (by rw [low_app, hq, low_rep _ 1 (by decide)]; rfl), List.getElem?_append_right (by simp)]
          simp only [List.length_replicate]
          rw [show s - (s - i) = i by omega]
        rw [g r l, g r' l', Bool.eq_iff_iff, decide_eq_true_eq, decide_eq_true_eq] at this
        have a1 := low_get l i
        have a2 := low_get l' i
        omega
      · have t1 := h [3] (fun a ha => by rw [List.mem_singleton.mp ha]; omega)
        have t2 := h [3, 0] (fun a ha => by
          rcases List.mem_cons.mp ha with e | ha
          · omega
          · rw [List.mem_singleton.mp ha]; omega)
        have g1 : ∀ q : List Nat, low q = true → FR s ev ([3] ++ q) = decide (par ev q = 1) := fun q hq => by
          show fin s ev q 3 = _
          exact fin3 hq
        have g2 : ∀ q : List Nat, low q = true → FR s ev ([3, 0] ++ q) = decide (par ev (0 :: q) = 1) := fun q hq => by
          show fin s ev (0 :: q) 3 = _
          exact fin3 (by rw [low_cons, hq]; rfl)
        rw [g1 r l, g1 r' l', Bool.eq_iff_iff, decide_eq_true_eq, decide_eq_true_eq] at t1
        rw [g2 r l, g2 r' l', Bool.eq_iff_iff, decide_eq_true_eq, decide_eq_true_eq] at t2
        clear h h0 key g1 g2
        unfold par at t1 t2 ⊢
        rw [zer_cons, zer_cons, List.length_cons, List.length_cons] at t2
        cases zr : zer r <;> cases zr' : zer r' <;> rw [zr, zr'] at t1 t2 <;> cases ev <;> simp at t1 t2 ⊢ <;> omega
  | false =>
    cases l' : low r' with
    | true => exact absurd (fun q hq => (h q hq).symm) (key r' r l' l)
    | false =>
      have e : FR s ev r = FR s ev r' := h0
      rw [sg_nlow l, sg_nlow l', e]
def bits : Nat → List (List Nat)
  | 0 => [[]]
  | n + 1 => (bits n).map (0 :: ·) ++ (bits n).map (1 :: ·)
theorem bits_mem : ∀ (n : Nat) (h : List Nat), h ∈ bits n ↔ h.length = n ∧ low h = true
  | 0, h => by
    rw [bits, List.mem_singleton]
    constructor
    · rintro rfl; exact ⟨rfl, rfl⟩
    · rintro ⟨e, _⟩; exact List.length_eq_zero_iff.mp e
  | n + 1, h => by
    rw [bits, List.mem_append, List.mem_map, List.mem_map]
    constructor
    · rintro (⟨t, ht, rfl⟩ | ⟨t, ht, rfl⟩)
      · obtain ⟨a, b⟩ := (bits_mem n t).mp ht
        exact ⟨by rw [List.length_cons, a], by rw [low_cons, b]; rfl⟩
      · obtain ⟨a, b⟩ := (bits_mem n t).mp ht
        exact ⟨by rw [List.length_cons, a], by rw [low_cons, b]; rfl⟩
    · rintro ⟨e, l⟩
      cases h with
      | nil => cases e
      | cons a t =>
        rw [low_cons, Bool.and_eq_true, decide_eq_true_eq] at l
        have ht := (bits_mem n t).mpr ⟨by simpa using e, l.2⟩
        rcases (show a = 0 ∨ a = 1 by omega) with rfl | rfl
        · exact .inl ⟨t, ht, rfl⟩
        · exact .inr ⟨t, ht, rfl⟩
def zw (n k : Nat) : List Nat := pad n (List.replicate k 0)
def all (s : Nat) (ev : Bool) : List S := [.dead, .fin] ++ (bits (s + 1)).map (fun h => .inn h 0) ++ (List.range (s + 2 + ev.toNat)).map fun k => .inn (zw (s + 1) k) (par ev (List.replicate k 0))
theorem zer_rep (k : Nat) : zer (List.replicate k 0) = true := by unfold zer; rw [List.all_eq_true]; intro x hx; rw [List.eq_of_mem_replicate hx]; rfl
theorem zer_is {r : List Nat} (h : zer r = true) : r = List.replicate r.length 0 := by
  refine List.eq_replicate_iff.mpr ⟨rfl, fun b hb => ?_⟩
  exact of_decide_eq_true (List.all_eq_true.mp h b hb)
theorem sg_in (s : Nat) (ev : Bool) (r : List Nat) : sg s ev r ∈ all s ev := by
  unfold all
  by_cases l : low r = true
  · rw [sg, if_pos l]
    cases z : zer r with
    | false =>
      refine List.mem_append.mpr (.inl (List.mem_append.mpr (.inr (List.mem_map.mpr ⟨pad (s + 1) r, (bits_mem _ _).mpr ⟨pad_len _ _, ?_⟩, ?_⟩))))
      · unfold low pad
        rw [List.all_eq_true]
        intro x hx
        obtain ⟨i, _, rfl⟩ := List.mem_map.mp hx
        exact decide_eq_true (low_get l i)
      · unfold par
        rw [z]; rfl
    | true =>
      refine List.mem_append.mpr (.inr (List.mem_map.mpr ?_))
      have e := zer_is z
      generalize r.length = n at e
      subst e
      have hp : ∀ k, s + 1 ≤ k → s + 1 ≤ n → zw (s + 1) k = pad (s + 1) (List.replicate n 0) := fun k hk hn => by
        refine pad_eq.mpr fun i hi => ?_
        rw [List.getElem?_replicate, List.getElem?_replicate, if_pos (by omega), if_pos (by omega)]
      have hq : ∀ k, (ev = true → k % 2 = n % 2) → par ev (List.replicate k 0) = par ev (List.replicate n 0) := fun k hk => by
        unfold par
        rw [zer_rep, zer_rep, List.length_replicate, List.length_replicate]
        cases ev
        · rfl
        · simp [hk rfl]
      by_cases hn : n ≤ s + 1
      · exact ⟨n, List.mem_range.mpr (by omega), by unfold zw; rfl⟩
      · cases ev with
        | false => exact ⟨s + 1, List.mem_range.mpr (by simp), by rw [hp _ (by omega) (by omega), hq _ (fun z => nomatch z)]⟩
        | true =>
          by_cases hm : (s + 1) % 2 = n % 2
          · exact ⟨s + 1, List.mem_range.mpr (by simp), by rw [hp _ (by omega) (by omega), hq _ (fun _ => hm)]⟩
          · exact ⟨s + 2, List.mem_range.mpr (by simp), by rw [hp _ (by omega) (by omega), hq _ (fun _ => by omega)]⟩
  · rw [sg, if_neg l]
    split
    · simp
    · simp
theorem all_in (s : Nat) (ev : Bool) (x : S) (h : x ∈ all s ev) : ∃ r : List Nat, (∀ a ∈ r, a < 4) ∧ sg s ev r = x := by
  have lo4 : ∀ r : List Nat, low r = true → ∀ a ∈ r, a < 4 := fun r h a ha => by have := of_decide_eq_true (List.all_eq_true.mp h a ha); omega
  unfold all at h
  rcases List.mem_append.mp h with h | h
  rcases List.mem_append.mp h with h | h
  · rcases List.mem_cons.mp h with rfl | h
    · refine ⟨[2, 2], by decide, ?_⟩
      unfold sg
      rw [if_neg (by decide), if_neg (by show ¬ fin s ev [2] 2 = true; rw [fin_nlow (by rfl)]; decide)]
    · rw [List.mem_singleton.mp h]
      refine ⟨2 :: List.replicate (s + 1) 0, fun a ha => ?_, ?_⟩
      · rcases List.mem_cons.mp ha with e | ha
        · omega
        · rw [List.eq_of_mem_replicate ha]; omega
      · refine sg_fin.mp ?_
        show fin s ev (List.replicate (s + 1) 0) 2 = true
        rw [fin2 (low_rep _ 0 (by decide)), List.getElem?_replicate, if_pos (by omega)]; rfl
  · obtain ⟨b, hb, rfl⟩ := List.mem_map.mp h
    obtain ⟨b1, b2⟩ := (bits_mem _ _).mp hb
    have l : low (b ++ [1]) = true := by rw [low_app, b2]; rfl
    refine ⟨b ++ [1], lo4 _ l, ?_⟩
    unfold sg
    rw [if_pos l]
    congr 1
    · refine List.ext_getElem (by rw [pad_len, b1]) fun i h1 h2 => ?_
      have := pad_get (n := s + 1) (i := i) (by omega) (b ++ [1])
      rw [List.getElem?_append_left h2, List.getElem?_eq_getElem h2, List.getElem?_eq_getElem h1] at this
      injection this
    · unfold par
      rw [zer_app]
      rw [show zer [1] = false from rfl, Bool.and_false]; rfl
  · obtain ⟨k, _, rfl⟩ := List.mem_map.mp h
    refine ⟨List.replicate k 0, lo4 _ (low_rep _ 0 (by decide)), ?_⟩
    unfold sg
    rw [if_pos (low_rep _ 0 (by decide))]; rfl
theorem all_len (s : Nat) (ev : Bool) (h : s ≤ 5) : ((all s ev).length : Int) = (([2, 4, 8, 16, 32, 64] : List Int)[s]?).getD 0 + ((s : Int) + 2 + (ev.toNat : Int)) + 2 := by
  rcases (show s = 0 ∨ s = 1 ∨ s = 2 ∨ s = 3 ∨ s = 4 ∨ s = 5 by omega) with rfl | rfl | rfl | rfl | rfl | rfl <;> cases ev <;> decide +kernel
theorem all_nd (s : Nat) (ev : Bool) (h : s ≤ 5) : (all s ev).Nodup := by
  rcases (show s = 0 ∨ s = 1 ∨ s = 2 ∨ s = 3 ∨ s = 4 ∨ s = 5 by omega) with rfl | rfl | rfl | rfl | rfl | rfl <;> cases ev <;> decide +kernel
theorem count {μ : Type} {m : Nat} {f : List Nat → μ} {T : Tab} {M : List μ} (h : Aut m f T M) (hm : 4 ≤ m) (s : Nat) (ev : Bool) (hs : s ≤ 5) (φ : Bool → μ) (inj : ∀ a b, φ a = φ b → a = b) (hf : ∀ w, Wd m w → f w = φ (F s ev w)) :
    (T.length : Int) = (([2, 4, 8, 16, 32, 64] : List Int)[s]?).getD 0 + ((s : Int) + 2 + (ev.toNat : Int)) + 2 := by
  rw [← all_len s ev hs]
  have := h.count (fun w => sg s ev w.reverse) (all s ev) (all_nd s ev hs) (fun w _ => sg_in s ev _) (fun x hx => by
    obtain ⟨r, r1, r2⟩ := all_in s ev x hx
    exact ⟨r.reverse, fun a ha => Nat.lt_of_lt_of_le (r1 a (List.mem_reverse.mp ha)) hm, by rw [List.reverse_reverse]; exact r2⟩) (fun u v hu hv => ?_)
  · rw [this]
  · constructor
    · intro e w hw
      rw [hf _ (hu.app hw), hf _ (hv.app hw)]
      congr 1
      unfold F
      rw [List.reverse_append, List.reverse_append]
      exact FR_eq (sg_app e w.reverse)
    · intro e
      refine tell fun q hq => ?_
      have hw : Wd m q.reverse := fun a ha => Nat.lt_of_lt_of_le (hq a (List.mem_reverse.mp ha)) hm
      have := e q.reverse hw
      rw [hf _ (hu.app hw), hf _ (hv.app hw)] at this
      have := inj _ _ this
      unfold F at this
      rw [List.reverse_append, List.reverse_append, List.reverse_reverse] at this
      exact this
theorem one {μ : Type} {m : Nat} {f : List Nat → μ} {T : Tab} {M : List μ} (h : Aut m f T M) (c : μ) (hf : ∀ w, Wd m w → f w = c) : T.length = 1 := by
  have := h.count (fun _ => ()) [()] (by simp) (fun _ _ => List.mem_singleton.mpr rfl) (fun x _ => ⟨[], Wd.nil, rfl⟩) (fun u v hu hv => ⟨fun _ w hw => by rw [hf _ (hu.app hw), hf _ (hv.app hw)], fun _ => rfl⟩)
  simpa using this
end K7
end AU
namespace Cut
open PySem L2 DL AU
theorem Lp_set (s : Str) : ∀ (n : Nat) (w : Tx), Lp (Lg (.set s)) n w ↔ w.length = n ∧ ∀ c ∈ w, c ∈ s.cps.toList
  | 0, w => by
    show w = [] ↔ _
    constructor
    · rintro rfl; exact ⟨rfl, fun c h => nomatch h⟩
    · rintro ⟨e, _⟩; exact List.length_eq_zero_iff.mp e
  | n + 1, w => by
    show Lc (Lp (Lg (.set s)) n) (Lg (.set s)) w ↔ _
    constructor
    · rintro ⟨u, v, rfl, hu, hv⟩
      rw [Lg] at hv
      obtain ⟨c, rfl, hc⟩ := hv
      obtain ⟨h1, h2⟩ := (Lp_set s n u).mp hu
      refine ⟨by rw [List.length_append, h1]; rfl, fun d hd => ?_⟩
      rcases List.mem_append.mp hd with hd | hd
      · exact h2 d hd
      · rw [List.mem_singleton.mp hd]; exact hc
    · rintro ⟨h1, h2⟩
      obtain ⟨u, c, rfl⟩ : ∃ u c, w = u ++ [c] := by
        rcases List.eq_nil_or_concat w with e | ⟨u, c, e⟩
        · rw [e] at h1; cases h1
        · exact ⟨u, c, by rw [e]; simp⟩
      refine ⟨u, [c], rfl, (Lp_set s n u).mpr ⟨by simpa using h1, fun d hd => h2 d (List.mem_append.mpr (.inl hd))⟩, ?_⟩
      rw [Lg]
      exact ⟨c, rfl, h2 c (List.mem_append.mpr (.inr (List.mem_singleton.mpr rfl)))⟩
theorem Lg_star (p : Rx) (w : Tx) : Lg (.again p 0 none) w ↔ ∃ n, Lp (Lg p) n w := by
  rw [Lg]
  constructor
  · rintro ⟨n, _, _, h⟩; exact ⟨n, h⟩
  · rintro ⟨n, h⟩; exact ⟨n, by omega, (fun _ z => nomatch z), h⟩
theorem Lg_starS (s : Str) (w : Tx) : Lg (.again (.set s) 0 none) w ↔ ∀ c ∈ w, c ∈ s.cps.toList := by
  rw [Lg_star]
  constructor
  · rintro ⟨n, h⟩; exact ((Lp_set s n w).mp h).2
  · intro h; exact ⟨w.length, (Lp_set s _ w).mpr ⟨rfl, h⟩⟩
theorem LgR_one (p : Rx) (w : Tx) : LgR [p] w ↔ Lg p w := by
  rw [LgR]
  have : LgR [] = fun w => w = [] := by rw [LgR]
  rw [this]
  exact Lc_nil_r _ w
theorem Lp_two (s : Str) (x : Nat) (hs : s.cps.toList = [x]) : ∀ (n : Nat) (w : Tx), Lp (Lg (.row [.set s, .set s])) n w ↔ w = List.replicate (2 * n) x
  | 0, w => Iff.rfl
  | n + 1, w => by
    show Lc (Lp (Lg (.row [.set s, .set s])) n) (Lg (.row [.set s, .set s])) w ↔ _
    have e2 : ∀ v : Tx, Lg (.row [.set s, .set s]) v ↔ v = [x, x] := fun v => by
      rw [Lg, LgR]
      constructor
      · rintro ⟨a, b, rfl, ha, hb⟩
        rw [LgR_one] at hb
        rw [Lg] at ha hb
        obtain ⟨c, rfl, hc⟩ := ha
        obtain ⟨d, rfl, hd⟩ := hb
        rw [hs] at hc hd
        rw [List.mem_singleton.mp hc, List.mem_singleton.mp hd]; rfl
      · rintro rfl
        refine ⟨[x], [x], rfl, ?_, (LgR_one _ _).mpr ?_⟩
        · rw [Lg]; exact ⟨x, rfl, by rw [hs]; simp⟩
        · rw [Lg]; exact ⟨x, rfl, by rw [hs]; simp⟩
    constructor
    · rintro ⟨u, v, rfl, hu, hv⟩
      rw [(Lp_two s x hs n u).mp hu, (e2 v).mp hv]
      show _ ++ List.replicate 2 x = _
      rw [List.replicate_append_replicate]; congr 1
    · rintro rfl
      refine ⟨List.replicate (2 * n) x, [x, x], ?_, (Lp_two s x hs n _).mpr rfl, (e2 _).mpr rfl⟩
      show _ = _ ++ List.replicate 2 x
      rw [List.replicate_append_replicate]; congr 1
theorem LgR_rep (s : Str) (ps : List Rx) : ∀ (n : Nat) (w : Tx), LgR (List.replicate n (.set s) ++ ps) w ↔ ∃ u v, w = u ++ v ∧ u.length = n ∧ (∀ c ∈ u, c ∈ s.cps.toList) ∧ LgR ps v
  | 0, w => ⟨fun h => ⟨[], w, rfl, rfl, (fun _ z => nomatch z), h⟩, fun ⟨u, v, e, hu, _, h⟩ => by rw [List.length_eq_zero_iff.mp hu] at e; rw [e]; exact h⟩
  | n + 1, w => by
    rw [List.replicate_succ, List.cons_append, LgR]
    constructor
    · rintro ⟨a, b, rfl, ha, hb⟩
      rw [Lg] at ha
      obtain ⟨c, rfl, hc⟩ := ha
      obtain ⟨u, v, rfl, h1, h2, h3⟩ := (LgR_rep s ps n b).mp hb
      refine ⟨c :: u, v, rfl, by rw [List.length_cons, h1], fun d hd => ?_, h3⟩
      rcases List.mem_cons.mp hd with rfl | hd
      · exact hc
      · exact h2 d hd
    · rintro ⟨u, v, rfl, h1, h2, h3⟩
      cases u with
      | nil => cases h1
      | cons c u =>
        refine ⟨[c], u ++ v, rfl, ?_, (LgR_rep s ps n _).mpr ⟨u, v, rfl, by simpa using h1, fun d hd => h2 d (List.mem_cons_of_mem _ hd), h3⟩⟩
        rw [Lg]
        exact ⟨c, rfl, h2 c (List.mem_cons_self ..)⟩
def k7far (sB sX : Str) (ps : List Rx) : Rx := .row (.again (.set sB) 0 none :: .set sX :: ps)
def k7first (sB sX sC : Str) (s : Nat) : Rx := k7far sB sX (List.replicate s (.set sB) ++ [.set sC])
def k7again (sX : Str) (ev : Bool) : Rx := if ev = true then .row [.set sX, .set sX] else .set sX
def k7second (sX sE : Str) (ev : Bool) : Rx := .row [.again (k7again sX ev) 0 none, .set sE]
def k7pat (sB sX sC sE : Str) (s : Nat) (ev : Bool) : Rx := .any [k7first sB sX sC s, k7second sX sE ev]
theorem lg_first {sB sX sC : Str} {x c : Nat} (hX : sX.cps.toList = [x]) (hC : sC.cps.toList = [c]) (s : Nat) (w : Tx) : Lg (k7first sB sX sC s) w ↔ ∃ u t, w = u ++ (x :: (t ++ [c])) ∧ (∀ d ∈ u, d ∈ sB.cps.toList) ∧ t.length = s ∧ ∀ d ∈ t, d ∈ sB.cps.toList := by
  unfold k7first k7far
  rw [Lg, LgR]
  constructor
  · rintro ⟨u, v, rfl, hu, hv⟩
    rw [LgR] at hv
    obtain ⟨a, b, rfl, ha, hb⟩ := hv
    rw [Lg] at ha
    obtain ⟨d, rfl, hd⟩ := ha
    rw [hX] at hd
    obtain ⟨t, z, rfl, h1, h2, h3⟩ := (LgR_rep _ _ _ _).mp hb
    rw [LgR_one, Lg] at h3
    obtain ⟨e, rfl, he⟩ := h3
    rw [hC] at he
    rw [List.mem_singleton.mp hd, List.mem_singleton.mp he]
    exact ⟨u, t, rfl, (Lg_starS _ _).mp hu, h1, h2⟩
  · rintro ⟨u, t, rfl, h1, h2, h3⟩
    refine ⟨u, _, rfl, (Lg_starS _ _).mpr h1, ?_⟩
    rw [LgR]
    refine ⟨[x], _, rfl, ?_, (LgR_rep _ _ _ _).mpr ⟨t, [c], rfl, h2, h3, (LgR_one _ _).mpr ?_⟩⟩
    · rw [Lg]; exact ⟨x, rfl, by rw [hX]; simp⟩
    · rw [Lg]; exact ⟨c, rfl, by rw [hC]; simp⟩
theorem lg_second {sX sE : Str} {x e : Nat} (hX : sX.cps.toList = [x]) (hE : sE.cps.toList = [e]) (ev : Bool) (w : Tx) : Lg (k7second sX sE ev) w ↔ ∃ n, w = List.replicate n x ++ [e] ∧ (ev = true → n % 2 = 0) := by
  unfold k7second
  rw [Lg, LgR]
  have key : ∀ u : Tx, Lg (.again (k7again sX ev) 0 none) u ↔ ∃ n, u = List.replicate n x ∧ (ev = true → n % 2 = 0) := fun u => by
    cases ev with
    | false =>
      show Lg (.again (.set sX) 0 none) u ↔ _
      rw [Lg_starS, hX]
      constructor
      · intro h; exact ⟨u.length, List.eq_replicate_iff.mpr ⟨rfl, fun b hb => List.mem_singleton.mp (h b hb)⟩, fun z => nomatch z⟩
      · rintro ⟨n, rfl, _⟩ d hd; rw [List.eq_of_mem_replicate hd]; simp
    | true =>
      show Lg (.again (.row [.set sX, .set sX]) 0 none) u ↔ _
      rw [Lg_star]
      constructor
      · rintro ⟨n, h⟩; exact ⟨2 * n, (Lp_two sX x hX n u).mp h, fun _ => by omega⟩
      · rintro ⟨n, rfl, h⟩; exact ⟨n / 2, (Lp_two sX x hX _ _).mpr (by congr 1; have := h rfl; omega)⟩
  constructor
  · rintro ⟨u, v, rfl, hu, hv⟩
    rw [LgR_one, Lg] at hv
    obtain ⟨d, rfl, hd⟩ := hv
    rw [hE] at hd
    obtain ⟨n, rfl, hn⟩ := (key u).mp hu
    rw [List.mem_singleton.mp hd]
    exact ⟨n, rfl, hn⟩
  · rintro ⟨n, rfl, hn⟩
    refine ⟨_, [e], rfl, (key _).mpr ⟨n, rfl, hn⟩, (LgR_one _ _).mpr ?_⟩
    rw [Lg]; exact ⟨e, rfl, by rw [hE]; simp⟩
theorem lg_pat7 {cs : Tx} (nd : cs.Nodup) (hl : 4 ≤ cs.length) {sB sX sC sE : Str} {s : Nat} {ev : Bool} (hB : sB.cps.toList = [(cs[0]?).getD 0, (cs[1]?).getD 0]) (hX : sX.cps.toList = [(cs[0]?).getD 0]) (hC : sC.cps.toList = [(cs[2]?).getD 0]) (hE : sE.cps.toList = [(cs[3]?).getD 0])
    {v : List Nat} (hv : Wd cs.length v) : Lg (k7pat sB sX sC sE s ev) (v.map fun i => (cs[i]?).getD 0) ↔ K7.F s ev v = true := by
  have inj : ∀ i j, i < cs.length → j < cs.length → (cs[i]?).getD 0 = (cs[j]?).getD 0 → i = j := fun i j hi hj e => by
    rw [List.getElem?_eq_getElem hi, List.getElem?_eq_getElem hj] at e
    have h1 := nd.idxOf_getElem i hi
    have h2 := nd.idxOf_getElem j hj
    have e' : cs[i] = cs[j] := e
    rw [e', h2] at h1
    exact h1.symm
  have two : ∀ i, i < cs.length → ((cs[i]?).getD 0 ∈ sB.cps.toList ↔ i < 2) := fun i hi => by
    rw [hB]
    constructor
    · intro h
      rcases List.mem_cons.mp h with h | h
      · have := inj i 0 hi (by omega) h; omega
      · have := inj i 1 hi (by omega) (List.mem_singleton.mp h); omega
    · intro h
      rcases (show i = 0 ∨ i = 1 by omega) with rfl | rfl <;> simp
  have lows : ∀ u : List Nat, Wd cs.length u → ((∀ d ∈ u.map (fun i => (cs[i]?).getD 0), d ∈ sB.cps.toList) ↔ K7.low u = true) := fun u hu => by
    unfold K7.low
    rw [List.all_eq_true]
    constructor
    · intro h a ha
      exact decide_eq_true ((two a (hu a ha)).mp (h _ (List.mem_map_of_mem ha)))
    · intro h d hd
      obtain ⟨a, ha, rfl⟩ := List.mem_map.mp hd
      exact (two a (hu a ha)).mpr (of_decide_eq_true (h a ha))
  have lowr : ∀ u : List Nat, K7.low u.reverse = K7.low u := fun u => by unfold K7.low; rw [List.all_reverse]
  unfold k7pat
  rw [Lg, LgO, LgO, LgO]
  show (Lg (k7first sB sX sC s) (v.map fun i => (cs[i]?).getD 0) ∨ (Lg (k7second sX sE ev) (v.map fun i => (cs[i]?).getD 0) ∨ False)) ↔ _
  rw [lg_first hX hC, lg_second hX hE, or_false]
  unfold K7.F
  constructor
  · rintro (⟨u, t, e, h1, h2, h3⟩ | ⟨n, e, hn⟩)
    · obtain ⟨u', v', rfl, rfl, e1⟩ := List.map_eq_append_iff.mp e
      obtain ⟨a, v2, rfl, ea, e2⟩ := List.map_eq_cons_iff.mp e1
      obtain ⟨t', v3, rfl, rfl, e3⟩ := List.map_eq_append_iff.mp e2
      obtain ⟨b, v4, rfl, eb, e4⟩ := List.map_eq_cons_iff.mp e3
      rw [List.map_eq_nil_iff] at e4
      subst e4
      have hu : Wd cs.length u' := fun x hx => hv x (List.mem_append.mpr (.inl hx))
      have ht : Wd cs.length t' := fun x hx => hv x (List.mem_append.mpr (.inr (List.mem_cons_of_mem _ (List.mem_append.mpr (.inl hx)))))
      have a0 := inj a 0 (hv a (List.mem_append.mpr (.inr (List.mem_cons_self ..)))) (by omega) ea
      have b0 := inj b 2 (hv b (List.mem_append.mpr (.inr (List.mem_cons_of_mem _ (List.mem_append.mpr (.inr (List.mem_cons_self ..))))))) (by omega) eb
      subst a0 b0
      have l1 := (lows u' hu).mp h1
      have l2 := (lows t' ht).mp h3
      rw [List.length_map] at h2
      have er : (u' ++ 0 :: (t' ++ [2])).reverse = 2 :: (t'.reverse ++ 0 :: u'.reverse) := by simp
      rw [er]
      show K7.fin s ev (t'.reverse ++ 0 :: u'.reverse) 2 = true
      rw [K7.fin2 (by rw [K7.low_app, K7.low_cons, lowr, lowr, l1, l2]; rfl), List.getElem?_append_right (by simp [h2])]
      simp [h2]
    · obtain ⟨u', v', rfl, eu, e1⟩ := List.map_eq_append_iff.mp e
      obtain ⟨b, v4, rfl, eb, e2⟩ := List.map_eq_cons_iff.mp e1
      rw [List.map_eq_nil_iff] at e2
      subst e2
      have b0 := inj b 3 (hv b (List.mem_append.mpr (.inr (List.mem_cons_self ..)))) (by omega) eb
      subst b0
      have hz : K7.zer u' = true := by
        unfold K7.zer
        rw [List.all_eq_true]
        intro a ha
        have : (cs[a]?).getD 0 ∈ List.replicate n ((cs[0]?).getD 0) := by rw [← eu]; exact List.mem_map_of_mem (f := fun i => (cs[i]?).getD 0) ha
        exact decide_eq_true (inj a 0 (hv a (List.mem_append.mpr (.inl ha))) (by omega) (List.eq_of_mem_replicate this))
      have hln : u'.length = n := by have := congrArg List.length eu; simpa using this
      have er : (u' ++ [3]).reverse = 3 :: u'.reverse := by simp
      rw [er]
      show K7.fin s ev u'.reverse 3 = true
      have zr : K7.zer u'.reverse = true := by unfold K7.zer at hz ⊢; rw [List.all_reverse]; exact hz
      have lr : K7.low u'.reverse = true := by
        unfold K7.low
        unfold K7.zer at zr
        rw [List.all_eq_true] at zr ⊢
        intro a ha
        have := of_decide_eq_true (zr a ha)
        exact decide_eq_true (by omega)
      rw [K7.fin3 lr]
      unfold K7.par
      rw [zr]
      cases ev
      · rfl
      · simp only [if_true, List.length_reverse, hln, hn rfl]; decide
  · intro h
    cases hr : v.reverse with
    | nil => rw [hr] at h; cases h
    | cons z r =>
      rw [hr] at h
      have h : K7.fin s ev r z = true := h
      have ev' : v = r.reverse ++ [z] := by have := congrArg List.reverse hr; simpa using this
      unfold K7.fin at h
      rw [Bool.and_eq_true, Bool.or_eq_true, Bool.and_eq_true, Bool.and_eq_true, decide_eq_true_eq, decide_eq_true_eq, decide_eq_true_eq, Bool.and_eq_true] at h
      obtain ⟨l, ⟨rfl, h0⟩ | ⟨rfl, hz, hp⟩⟩ := h
      · left
        have hs := (List.getElem?_eq_some_iff.mp h0).1
        have e0 : r[s] = 0 := (List.getElem?_eq_some_iff.mp h0).2
        have er : r = r.take s ++ 0 :: r.drop (s + 1) := by
          have h1 := (List.take_append_drop s r).symm
          rw [List.drop_eq_getElem_cons hs, e0] at h1
          exact h1
        have l1 : K7.low (r.take s) = true ∧ K7.low (r.drop (s + 1)) = true := by
          rw [er, K7.low_app, K7.low_cons, Bool.and_eq_true, Bool.and_eq_true] at l
          exact ⟨l.1, l.2.2⟩
        have ev2 : v = (r.drop (s + 1)).reverse ++ 0 :: ((r.take s).reverse ++ [2]) := by
          rw [ev']
          conv => lhs; rw [er]
          simp
        have hu : Wd cs.length (r.drop (s + 1)).reverse := fun x hx => hv x (by rw [ev2]; exact List.mem_append.mpr (.inl hx))
        have ht : Wd cs.length (r.take s).reverse := fun x hx => hv x (by rw [ev2]; exact List.mem_append.mpr (.inr (List.mem_cons_of_mem _ (List.mem_append.mpr (.inl hx)))))
        refine ⟨(r.drop (s + 1)).reverse.map fun i => (cs[i]?).getD 0, (r.take s).reverse.map fun i => (cs[i]?).getD 0, ?_, (lows _ hu).mpr (by rw [lowr]; exact l1.2), ?_, (lows _ ht).mpr (by rw [lowr]; exact l1.1)⟩
        · conv => lhs; rw [ev2]
          simp
        · rw [List.length_map, List.length_reverse, List.length_take]; omega
      · right
        refine ⟨r.length, ?_, fun e => ?_⟩
        · rw [ev', K7.zer_is hz]; simp
        · rw [e] at hp; simpa using hp
theorem lg_none {p : Rx} {s0 : Str} (h0 : s0.cps.toList = []) (w : Tx) : ¬ Lg (.all [p, .set s0]) w := by
  rw [Lg, LgA, LgA, LgA, Lg]
  rintro ⟨_, ⟨c, _, hc⟩, _⟩
  rw [h0] at hc
  cases hc
end Cut
namespace Cut
open PySem L2 DL
local macro_rules | `(tactic| walk_at "s") => `(tactic| repeat (first | with_reducible refine ⟨_, rfl, ?_⟩ | refine ⟨_, rfl, ?_⟩ | refine ⟨rfl, ?_⟩ | refine ⟨_, _, rfl, rfl, ?_⟩ | refine ⟨_, _, rfl, ?_⟩ | refine iteT ?_ | refine iteF ?_ | refine ⟨⟨_, rfl⟩, ?_⟩ | refine ⟨⟨_, _, rfl⟩, ?_⟩ | refine ⟨_, _, _, _, rfl, rfl, rfl, ?_⟩ | refine ⟨Nat.le_of_ble_eq_true rfl, ?_⟩ | refine ⟨(by decide), ?_⟩ | refine ⟨_, ix_t0 _ _, ?_⟩ | refine ⟨_, ix_l0 _ _, ?_⟩))
section
variable {P : Program} {w : World} {K : Fg} {mg : Str → Option Value} {base : Heap} {f f2 : Addr} {fd fd2 : FuncData}
theorem add_row {ps rs : List Rx} {qs : List D} (hq : qs = toDL rs) (h : ps.length + rs.length ≤ 15000) : addD (toD (.row ps)) (.tup qs) = some (.fz (toD (.row (ps ++ rs)))) := by
  subst hq
  rw [toD.eq_2, toD.eq_2, add_tup (by rw [List.length_cons, toDL_len, toDL_len]; omega)]
  rw [show toDL (ps ++ rs) = toDL ps ++ toDL rs by rw [toDL_map, toDL_map, toDL_map, List.map_append]]
  rfl
end
end Cut
namespace DL
open PySem L2
structure Sh (d : D) (k : Nat) : Prop where
  ok : d.okP = true
  lay : d.py.canLay0 = true
  dp : d.py.depth ≤ k
structure ShL (ds : List D) (k : Nat) : Prop where
  ok : okL ds = true
  lay : PyData.canLayAll0 (pyL ds) = true
  dp : PyData.depthAll (pyL ds) ≤ k
theorem ShL.of {k : Nat} : ∀ {ds : List D}, (∀ d ∈ ds, Sh d k) → ShL ds k
  | [], _ => ⟨rfl, rfl, Nat.zero_le _⟩
  | d :: ds, h => by
    have a := h d (List.mem_cons_self ..)
    have b := ShL.of fun e he => h e (List.mem_cons_of_mem _ he)
    refine ⟨?_, ?_, ?_⟩
    · show (d.okP && okL ds) = true
      rw [a.ok, b.ok]; rfl
    · show (d.py.canLay0 && PyData.canLayAll0 (pyL ds)) = true
      rw [a.lay, b.lay]; rfl
    · show max d.py.depth (PyData.depthAll (pyL ds)) ≤ k
      have := a.dp; have := b.dp; omega
theorem Sh.lst {ds : List D} {k : Nat} (h : ∀ d ∈ ds, Sh d k) : Sh (.lst ds) (k + 1) := by
  have a := ShL.of h
  exact ⟨a.ok, a.lay, by show PyData.depthAll (pyL ds) + 1 ≤ _; have := a.dp; omega⟩
theorem Sh.tup {ds : List D} {k : Nat} (h : ∀ d ∈ ds, Sh d k) : Sh (.tup ds) (k + 1) := by
  have a := ShL.of h
  exact ⟨a.ok, a.lay, by show PyData.depthAll (pyL ds) + 1 ≤ _; have := a.dp; omega⟩
theorem Sh.int (i : Int) (k : Nat) : Sh (.int i) k := ⟨rfl, rfl, Nat.zero_le _⟩
theorem Sh.bl (b : Bool) (k : Nat) : Sh (.bl b) k := ⟨rfl, rfl, Nat.zero_le _⟩
theorem Sh.non (k : Nat) : Sh .non k := ⟨rfl, rfl, Nat.zero_le _⟩
theorem Sh.str {s : Str} (h : PyData.canLay0 (.str s) = true) (k : Nat) : Sh (.str s) k := ⟨rfl, h, Nat.zero_le _⟩
theorem Sh.mono {d : D} {k k' : Nat} (h : Sh d k) (hk : k ≤ k') : Sh d k' := ⟨h.ok, h.lay, Nat.le_trans h.dp hk⟩
theorem Sh.shaped {d : D} (h : Sh d 64) : shapedD d = true := by
  unfold shapedD SeqAt.shaped
  rw [h.ok, h.lay, decide_eq_true h.dp]; rfl
mutual
theorem eqv_refl0 : ∀ p : PyData, p.canLay0 = true → PyData.eqv p p = true
  | .none, _ => by rw [PyData.eqv]
  | .bool b, _ => by rw [PyData.eqv]; cases b <;> rfl
  | .int i, _ => by rw [PyData.eqv]; exact beq_self_eq_true i
  | .str x, _ => by rw [PyData.eqv]; exact beq_self_eq_true x
  | .list xs, h => by rw [PyData.eqv]; exact eqvAll_refl0 xs h
  | .tuple xs, h => by rw [PyData.eqv]; exact eqvAll_refl0 xs h
  | .dict _, h => nomatch h
theorem eqvAll_refl0 : ∀ xs : List PyData, PyData.canLayAll0 xs = true → PyData.eqvAll xs xs = true
  | [], _ => by rw [PyData.eqvAll]
  | x :: xs, h => by
    have h : (x.canLay0 && PyData.canLayAll0 xs) = true := h
    rw [Bool.and_eq_true] at h
    rw [PyData.eqvAll, eqv_refl0 x h.1, eqvAll_refl0 xs h.2]; rfl
end
theorem eqB_refl {d : D} {k : Nat} (h : Sh d k) : eqB d d = true := by rw [eqB_eq]; exact eqv_refl0 _ h.lay
theorem ne_refl {d : D} (h : Sh d 64) : neD d d = some (.fz (.bl false)) := by
  unfold neD
  rw [h.shaped, eqB_refl h, if_pos (by simp)]; rfl
end DL
namespace Cut
open PySem L2 DL ML AU
local macro_rules | `(tactic| walk_at "m") => `(tactic| repeat (first | with_reducible refine ⟨_, rfl, ?_⟩ | refine ⟨_, rfl, ?_⟩ | refine ⟨rfl, ?_⟩ | refine ⟨_, _, rfl, rfl, ?_⟩ | refine ⟨_, _, rfl, ?_⟩ | refine iteT ?_ | refine iteF ?_ | refine ⟨⟨_, rfl⟩, ?_⟩ | refine ⟨Nat.le_of_ble_eq_true rfl, ?_⟩ | refine ⟨(by decide), ?_⟩ | refine ⟨_, ix_t0 _ _, ?_⟩ | refine ⟨_, ix_l0 _ _, ?_⟩))
abbrev s_l_size : Stmt := top 24
abbrev N_l_size : List Str := ["_law_alphabet_here", "_law_pattern", "_law_found", "_law_e"]
theorem sc_l_size : FnScope N_l_size ["_law_alphabet_here", "_law_pattern"] (defScope s_l_size) := ⟨rfl, rfl, rfl, by decide +kernel, rfl, by decide +kernel, by decide +kernel⟩
abbrev s_l_case : Stmt := top 25
abbrev N_l_case : List Str := ["_law_source_here", "_law_alphabet_here", "_law_x", "_law_y", "_law_c", "_law_e", "_law_both", "_law_many", "_law_far", "_law_even", "_law_shift", "_law_first", "_law_again", "_law_second", "_law_alone"]
theorem sc_l_case : FnScope N_l_case ["_law_source_here", "_law_alphabet_here"] (defScope s_l_case) := ⟨rfl, rfl, rfl, by decide +kernel, rfl, by decide +kernel, by decide +kernel⟩
abbrev s_law : Stmt := top 26
abbrev N_law : List Str := ["_law_script", "_law_k", "_law_source_here", "_law_alphabet_here", "_law_pattern", "_law_due"]
theorem sc_law : FnScope N_law ["_law_script"] (defScope s_law) := ⟨rfl, rfl, rfl, by decide +kernel, rfl, by decide +kernel, by decide +kernel⟩
def szD (n : Nat) : D := if n ≤ 40 then .int n else .str "pattern"
structure K7S (A sB sX sC sE : Str) : Prop where
  B : sB.cps.toList = [(A.cps.toList[0]?).getD 0, (A.cps.toList[1]?).getD 0]
  X : sX.cps.toList = [(A.cps.toList[0]?).getD 0]
  C : sC.cps.toList = [(A.cps.toList[2]?).getD 0]
  E : sE.cps.toList = [(A.cps.toList[3]?).getD 0]
theorem len_of {s : Str} {l : List Nat} (h : s.cps.toList = l) : s.length = l.length := by
  show s.cps.size = _
  rw [← h, Array.length_toList]
theorem aok7 {A sB sX sC sE : Str} (h : K7S A sB sX sC sE) (hA : A.length ≤ 6) (s : Nat) (ev : Bool) (hs : s ≤ 5) (hse : ev = true → s ≤ 4) : Pt (k7pat sB sX sC sE s ev) 8 4 10 13000 := by
  have lB := len_of h.B
  have lX := len_of h.X
  have lC := len_of h.C
  have lE := len_of h.E
  simp only [List.length_cons, List.length_nil] at lB lX lC lE
  rcases (show s = 0 ∨ s = 1 ∨ s = 2 ∨ s = 3 ∨ s = 4 ∨ s = 5 by omega) with rfl | rfl | rfl | rfl | rfl | rfl <;> cases ev <;> first
    | (exfalso; have := hse rfl; omega)
    | (refine ⟨?_, rfl, Nat.le_of_ble_eq_true rfl, Nat.le_of_ble_eq_true rfl, ?_, Nat.le_of_ble_eq_true rfl, Nat.le_of_ble_eq_true rfl⟩
       · simp [k7pat, k7first, k7far, k7second, k7again, okR, okRL, hiOk, lB, lX, lC, lE]
       · exact of_decide_eq_true rfl)
def CaseOk (A : Str) (r : Rx) (n : Int) : Prop := Pt r 8 4 10 13000 ∧ 0 ≤ n ∧ n ≤ 80 ∧ ∀ (b : Bool) (T : Tab) (M : List D), Aut A.length (mkF A (if b = true then .no r else r)) T M → (T.length : Int) = n
theorem case7 {A sB sX sC sE : Str} (hA : Alp A) (h4 : 4 ≤ A.length) (h : K7S A sB sX sC sE) (s : Nat) (ev : Bool) (hs : s ≤ 5) (hse : ev = true → s ≤ 4) : CaseOk A (k7pat sB sX sC sE s ev) ((([2, 4, 8, 16, 32, 64] : List Int)[s]?).getD 0 + ((s : Int) + 2 + (ev.toNat : Int)) + 2) := by
  have hl : A.cps.toList.length = A.length := Array.length_toList
  have ev2 : ev.toNat ≤ 1 := by cases ev <;> decide
  refine ⟨aok7 h hA.hi s ev hs hse, ?_, ?_, fun b T M aut => ?_⟩
  · rcases (show s = 0 ∨ s = 1 ∨ s = 2 ∨ s = 3 ∨ s = 4 ∨ s = 5 by omega) with rfl | rfl | rfl | rfl | rfl | rfl <;> simp <;> omega
  · rcases (show s = 0 ∨ s = 1 ∨ s = 2 ∨ s = 3 ∨ s = 4 ∨ s = 5 by omega) with rfl | rfl | rfl | rfl | rfl | rfl <;> simp <;> omega
  · refine K7.count aut h4 s ev hs (fun x => .bl (if b = true then !x else x)) (fun x y e => by injection e with e; cases b <;> cases x <;> cases y <;> simp at e ⊢) fun v hv => ?_
    have hL := lg_pat7 hA.nd (by omega) h.B h.X h.C h.E (s := s) (ev := ev) (v := v) (by rw [hl]; exact hv)
    have hL' : Lg (k7pat sB sX sC sE s ev) (chs A.cps.toList v) ↔ K7.F s ev v = true := hL
    unfold mkF
    congr 1
    cases b with
    | false =>
      rw [if_neg (by decide), if_neg (by decide), Bool.eq_iff_iff, tru_iff]; exact hL'
    | true =>
      rw [if_pos rfl, if_pos rfl, Bool.eq_iff_iff, tru_iff, Lg]
      show ¬ Lg (k7pat sB sX sC sE s ev) (chs A.cps.toList v) ↔ _
      rw [hL']
      cases K7.F s ev v <;> simp
theorem ptall7 {A sB sX sC sE s0 : Str} (h : K7S A sB sX sC sE) (h0 : s0.cps.toList = []) (n : Nat) (h5 : 5 ≤ n) (h7 : n ≤ 7) : Pt (.all [k7far sB sX (List.replicate n (.set sB)), .set s0]) 8 4 10 13000 := by
  have lB := len_of h.B
  have lX := len_of h.X
  have l0 := len_of h0
  simp only [List.length_cons, List.length_nil] at lB lX l0
  rcases (show n = 5 ∨ n = 6 ∨ n = 7 by omega) with rfl | rfl | rfl <;>
    (refine ⟨?_, rfl, Nat.le_of_ble_eq_true rfl, Nat.le_of_ble_eq_true rfl, ?_, Nat.le_of_ble_eq_true rfl, Nat.le_of_ble_eq_true rfl⟩
     · simp [k7far, okR, okRL, hiOk, lB, lX, l0]
     · exact of_decide_eq_true rfl)
theorem caseA {A sB sX sC sE s0 : Str} (hA : Alp A) (h : K7S A sB sX sC sE) (h0 : s0.cps.toList = []) (n : Nat) (h5 : 5 ≤ n) (h7 : n ≤ 7) : CaseOk A (.all [k7far sB sX (List.replicate n (.set sB)), .set s0]) 1 := by
  refine ⟨ptall7 h h0 n h5 h7, by decide, by decide, fun b T M aut => ?_⟩
  rw [K7.one aut (.bl b) fun v hv => ?_]
  · rfl
  unfold mkF
  congr 1
  have hn := lg_none (p := k7far sB sX (List.replicate n (.set sB))) h0 (chs A.cps.toList v)
  cases b with
  | false => rw [if_neg (by decide), Bool.eq_iff_iff, tru_iff]; exact ⟨fun z => absurd z hn, fun z => nomatch z⟩
  | true => rw [if_pos rfl, Bool.eq_iff_iff, tru_iff, Lg]; exact ⟨fun _ => rfl, fun _ => hn⟩
theorem CaseOk.pt {A : Str} {r : Rx} {n : Int} (h : CaseOk A r n) (b : Bool) : Pt (if b = true then .no r else r) 9 5 10 14000 := by
  cases b with
  | false => rw [if_neg (by decide)]; exact h.1.mono (by decide) (by decide) (Nat.le_refl _) (by decide)
  | true => rw [if_pos rfl]; exact h.1.no.mono (by decide) (by decide) (Nat.le_refl _) (by decide)
section
variable {P : Program} {w : World} {K : Fg} {mg : Str → Option Value} {base : Heap} {f : Addr} {fd : FuncData} {CL CB : Addr}
def g_size : FM := fun ds h Q _ => ∃ A r, ds = [.str A, toD r] ∧ Pt r 9 5 10 14000 ∧ A.length ≤ 6 ∧ ∀ T M h', Aut A.length (mkF A r) T M → Q (.fz (szD T.length)) h'
theorem ok_size (A : At K mg "_law_size" ["_law_alphabet_here", "_law_pattern"] s_l_size f fd) (m_len : mg "len" = none) (c_automaton : FnM P w K mg base "automaton" 104 2 (g_aut CL)) (n_TooLarge : mg "TooLarge" = some (.ref CL)) (y_TooLarge : ∀ C ∈ [CL], PySem.W.exmOne K (.ref C) (.ref CL) = some true) (x_TooLarge : XfC K CL ∧ PySem.W.findIn K (.ref CL) "what" = some none) : FnM P w K mg base "_law_size" 105 2 g_size := by
  have z_TooLarge : ∀ C ∈ ([] : List Addr), PySem.W.exmOne K (.ref C) (.ref CL) = some false := fun _ h => (nomatch h)
  refine A.fnM (okM (k := 104) A.fn sc_l_size (by decide) (fun cdv A outer s H E hr tk po => (mss_cons (ms_set 2 sc_l_size.nd rfl (by first | exact Or.inl rfl | exact Or.inr rfl) me_int)
      (mss_cons (ms_try' (i := 3) y_TooLarge z_TooLarge rfl rfl sc_l_size.nd rfl rfl ⟨(by rfl), (by decide), Or.inl n_TooLarge⟩ tk (fun _ _ _ tk po => (mss_one (ms_set 2 sc_l_size.nd rfl (by first | exact Or.inl rfl | exact Or.inr rfl) (me_len (by rfl) m_len (ma_cons (me_ix (me_cM c_automaton tk (hr.mono (by decide)) (by rfl) (ma_cons (me_v 0) (ma_cons (me_v 1) ma_nil))) me_int (fun _ _ => rfl)) ma_nil))))) (fun _ _ _ _ _ _ hz hv => (mss_one (ms_set 2 sc_l_size.nd rfl (by first | exact Or.inl rfl | exact Or.inr rfl) (me_xf x_TooLarge.1 x_TooLarge.2 hz hv (me_v 3))))))
      (mss_one (ms_ret (me_v 2)))))) ?_)
  rintro ds h Q E hl ⟨A, r, rfl, hr, hA, q⟩
  have hw : 2 ^ (wd r).toNat ≤ 2 ^ 10 := Nat.pow_le_pow_right (by decide) (by have := hr.wl; omega)
  walk_at "m"
  refine ⟨hr.aok hA, fun T M h' aut hT le => ⟨fun h40 => ?_, fun h40 => ?_⟩⟩
  · walk_at "m"
    rw [show (tabD T).length = T.length by unfold tabD; rw [List.length_map]]
    have := q T M h' aut
    unfold szD at this
    rw [if_pos h40] at this
    exact this
  · refine .inl ⟨List.mem_singleton.mpr rfl, fun a => ?_⟩
    walk_at "m"
    have := fun h' => q T M h' aut
    unfold szD at this
    rw [if_neg (by omega)] at this
    exact this _
def g_case : FM := fun ds h Q _ => ∃ a xs c A, ds = [.raw (.ref a), .str A] ∧ h a = some (.lst xs) ∧ Src c xs ∧ c ≤ 2 ^ 30 ∧ Alp A ∧ 4 ≤ A.length ∧ ∀ r n h' xs', CaseOk A r n → h' a = some (.lst xs') → Src (c + 10) xs' → Q (.fz (.tup [toD r, .int n])) h'
theorem ix_strN {z : Str} {i : Nat} (h : i < z.length) (hz : z.length ≤ 100000) : ixD (.str z) (.int ((i : Nat) : Int)) = some (.fz (.str ⟨#[(z.cps.toList[i]?).getD 0]⟩)) := by
  show (if z.length ≤ 100000 then (atI z.cps.toList (i : Int)).map (fun c => Res.fz (.str ⟨#[c]⟩)) else none) = _
  rw [if_pos hz, atI_get (by omega) (by rw [Array.length_toList]; show (i : Int) < (z.length : Int); omega), Int.toNat_natCast, List.getElem?_eq_getElem (by rw [Array.length_toList]; exact h)]; rfl
theorem flat7 (s : Nat) (b : D) : (List.replicate ((s : Nat) : Int).toNat [b]).flatten = List.replicate s b := by
  rw [Int.toNat_natCast]
  induction s with
  | zero => rfl
  | succ s ih => rw [List.replicate_succ, List.flatten_cons, ih]; rfl
theorem toDL_rep7 (p : Rx) (q : Rx) : ∀ s : Nat, toDL (List.replicate s p ++ [q]) = List.replicate s (toD p) ++ [toD q]
  | 0 => by rw [List.replicate_zero, List.nil_append, toDL, toDL]; rfl
  | s + 1 => by rw [List.replicate_succ, List.cons_append, toDL, toDL_rep7 p q s]; rfl
def setT (s : Str) : D := .tup [.str "set", .str s]
theorem toD_pat7 (sB sX sC sE : Str) (s : Nat) (e : Bool) : toD (k7pat sB sX sC sE s e) = .tup [.str "any", .tup (([.str "row", .tup [.str "again", setT sB, .int 0, .non], setT sX] ++ List.replicate s (setT sB)) ++ [setT sC]),
    .tup [.str "row", .tup [.str "again", if e = true then .tup [.str "row", setT sX, setT sX] else setT sX, .int 0, .non], setT sE]] := by
  have h1 : ∀ z : Str, toD (.set z) = setT z := fun z => by rw [toD.eq_1]; rfl
  simp only [k7pat, k7first, k7far, k7second, toD, toDL, toDL_rep7]
  unfold k7again
  cases e with
  | true => rw [if_pos rfl, if_pos rfl]; simp only [toD, toDL]; rfl
  | false => rw [if_neg (by decide), if_neg (by decide)]; simp only [toD, toDL]; rfl
theorem ix7b (x y : D) (e : Bool) : ixD (.lst [x, y]) (.int ((e.toNat : Nat) : Int)) = some (.fz (if e = true then y else x)) := by cases e <;> rfl
theorem ix7n {s : Nat} (h : s ≤ 5) : ixD (.lst [.int 2, .int 4, .int 8, .int 16, .int 32, .int 64]) (.int (s : Nat)) = some (.fz (.int ((([2, 4, 8, 16, 32, 64] : List Int)[s]?).getD 0))) := by
  rcases (show s = 0 ∨ s = 1 ∨ s = 2 ∨ s = 3 ∨ s = 4 ∨ s = 5 by omega) with rfl | rfl | rfl | rfl | rfl | rfl <;> rfl
set_option maxHeartbeats 4000000 in
theorem ok_case (A : At K mg "_law_case" ["_law_source_here", "_law_alphabet_here"] s_l_case f fd) (c_l_draw : Fn1 P w K mg base "_law_draw" 1 2 g_draw) : FnM P w K mg base "_law_case" 2 2 g_case := by
  refine A.fnM (okM (k := 1) A.fn sc_l_case (by decide) (fun cdv A outer s H E hr tk po => (mss_cons (ms_par (i := 2) (j := 3) rfl sc_l_case.nd rfl rfl (by decide) rfl rfl (ma_cons (me_ix (me_v 1) me_int (fun _ _ => rfl)) (ma_cons (me_ix (me_v 1) me_int (fun _ _ => rfl)) ma_nil)) (by rfl))
      (mss_cons (ms_par (i := 4) (j := 5) rfl sc_l_case.nd rfl rfl (by decide) rfl rfl (ma_cons (me_ix (me_v 1) me_int (fun _ _ => rfl)) (ma_cons (me_ix (me_v 1) me_int (fun _ _ => rfl)) ma_nil)) (by rfl))
      (mss_cons (ms_set 6 sc_l_case.nd rfl (by first | exact Or.inl rfl | exact Or.inr rfl) (me_tup (ma_cons me_str (ma_cons (me_add (me_v 2) (me_v 3)) ma_nil))))
      (mss_cons (ms_if (mt_eq hr (me_c1 c_l_draw (hr.mono (by decide)) (by rfl) (ma_cons (me_v 0) (ma_cons me_int ma_nil))) me_int) (mss_cons (ms_set 7 sc_l_case.nd rfl (by first | exact Or.inl rfl | exact Or.inr rfl) (me_mul (me_tup (ma_cons (me_v 6) ma_nil)) (me_add me_int (me_c1 c_l_draw (hr.mono (by decide)) (by rfl) (ma_cons (me_v 0) (ma_cons me_int ma_nil))))))
      (mss_cons (ms_set 8 sc_l_case.nd rfl (by first | exact Or.inl rfl | exact Or.inr rfl) (me_add (me_tup (ma_cons me_str (ma_cons (me_tup (ma_cons me_str (ma_cons (me_v 6) (ma_cons me_int (ma_cons me_non ma_nil))))) (ma_cons (me_tup (ma_cons me_str (ma_cons (me_v 2) ma_nil))) ma_nil)))) (me_v 7)))
      (mss_one (ms_ret (me_tup (ma_cons (me_tup (ma_cons me_str (ma_cons (me_v 8) (ma_cons (me_tup (ma_cons me_str (ma_cons me_str ma_nil))) ma_nil)))) (ma_cons me_int ma_nil))))))) mss_nil)
      (mss_cons (ms_set 9 sc_l_case.nd rfl (by first | exact Or.inl rfl | exact Or.inr rfl) (me_c1 c_l_draw (hr.mono (by decide)) (by rfl) (ma_cons (me_v 0) (ma_cons me_int ma_nil))))
      (mss_cons (ms_set 10 sc_l_case.nd rfl (by first | exact Or.inl rfl | exact Or.inr rfl) (me_ix (me_lst (ma_cons me_int (ma_cons me_int (ma_cons me_int (ma_cons me_int (ma_cons me_int (ma_cons me_int (ma_cons me_int (ma_cons me_int ma_nil))))))))) (me_c1 c_l_draw (hr.mono (by decide)) (by rfl) (ma_cons (me_v 0) (ma_cons (me_sub me_int (me_v 9)) ma_nil))) (fun _ _ => rfl)))
      (mss_cons (ms_set 11 sc_l_case.nd rfl (by first | exact Or.inl rfl | exact Or.inr rfl) (me_tup (ma_cons me_str (ma_cons (me_tup (ma_cons me_str (ma_cons (me_v 6) (ma_cons me_int (ma_cons me_non ma_nil))))) (ma_cons (me_tup (ma_cons me_str (ma_cons (me_v 2) ma_nil))) ma_nil)))))
      (mss_cons (ms_set 11 sc_l_case.nd rfl (by first | exact Or.inl rfl | exact Or.inr rfl) (me_add (me_add (me_v 11) (me_mul (me_tup (ma_cons (me_v 6) ma_nil)) (me_v 10))) (me_tup (ma_cons (me_tup (ma_cons me_str (ma_cons (me_v 4) ma_nil))) ma_nil))))
      (mss_cons (ms_set 12 sc_l_case.nd rfl (by first | exact Or.inl rfl | exact Or.inr rfl) (me_ix (me_lst (ma_cons (me_tup (ma_cons me_str (ma_cons (me_v 2) ma_nil))) (ma_cons (me_tup (ma_cons me_str (ma_cons (me_tup (ma_cons me_str (ma_cons (me_v 2) ma_nil))) (ma_cons (me_tup (ma_cons me_str (ma_cons (me_v 2) ma_nil))) ma_nil)))) ma_nil))) (me_v 9) (fun _ _ => rfl)))
      (mss_cons (ms_set 13 sc_l_case.nd rfl (by first | exact Or.inl rfl | exact Or.inr rfl) (me_tup (ma_cons me_str (ma_cons (me_tup (ma_cons me_str (ma_cons (me_v 12) (ma_cons me_int (ma_cons me_non ma_nil))))) (ma_cons (me_tup (ma_cons me_str (ma_cons (me_v 5) ma_nil))) ma_nil)))))
      (mss_cons (ms_set 14 sc_l_case.nd rfl (by first | exact Or.inl rfl | exact Or.inr rfl) (me_add (me_add (me_v 10) me_int) (me_v 9)))
      (mss_one (ms_ret (me_tup (ma_cons (me_tup (ma_cons me_str (ma_cons (me_v 11) (ma_cons (me_v 13) ma_nil)))) (ma_cons (me_add (me_add (me_ix (me_lst (ma_cons me_int (ma_cons me_int (ma_cons me_int (ma_cons me_int (ma_cons me_int (ma_cons me_int ma_nil))))))) (me_v 10) (fun _ _ => rfl)) (me_v 14)) me_int) ma_nil))))))))))))))))) ?_)
  rintro ds h Q E hl ⟨a, xs, c, A, rfl, ha, hS, hc, hA, h4, q⟩
  have hA6 := hA.hi
  walk_at "m"
  refine ⟨_, ix_strN (i := 0) (by omega) (by omega), ?_⟩
  walk_at "m"
  refine ⟨_, ix_strN (i := 1) (by omega) (by omega), ?_⟩
  walk_at "m"
  refine ⟨_, ix_strN (i := 2) (by omega) (by omega), ?_⟩
  walk_at "m"
  refine ⟨_, ix_strN (i := 3) (by omega) (by omega), ?_⟩
  walk_at "m"
  generalize hx : (A.cps.toList[0]?).getD 0 = x0
  generalize hy : (A.cps.toList[1]?).getD 0 = x1
  generalize hz : (A.cps.toList[2]?).getD 0 = x2
  generalize he : (A.cps.toList[3]?).getD 0 = x3
  have k7 : K7S A ((⟨#[x0]⟩ : Str) ++ (⟨#[x1]⟩ : Str)) ⟨#[x0]⟩ ⟨#[x2]⟩ ⟨#[x3]⟩ := ⟨by rw [hx, hy]; rfl, by rw [hx], by rw [hz], by rw [he]⟩
  refine ⟨a, _, _, rfl, ha, c, _, rfl, hS, by omega, by decide, by decide, fun j xs1 j0 j1 hS1 => ?_⟩
  walk_at "m"
  refine ifB (fun hb => ?_) (fun hb => ?_)
  · walk_at "m"
    refine ⟨a, _, _, rfl, put_same, _, _, rfl, hS1, by omega, by decide, by decide, fun j2 xs2 k0 k1 hS2 => ?_⟩
    have cs := caseA (s0 := "") hA k7 rfl (5 + j2.toNat) (by omega) (by omega)
    rcases (show j2 = 0 ∨ j2 = 1 ∨ j2 = 2 by omega) with rfl | rfl | rfl
    all_goals
      walk_at "m"
      have := q _ _ (put (put h a (Ob.lst xs1)) a (Ob.lst xs2)) xs2 cs put_same (hS2.mono (by omega))
      exact this
  · walk_at "m"
    refine ⟨a, _, _, rfl, put_same, _, _, rfl, hS1, by omega, by decide, by decide, fun ev xs2 e0 e1 hS2 => ?_⟩
    walk_at "m"
    refine ⟨a, _, _, rfl, put_same, _, _, rfl, hS2, by omega, by omega, by omega, fun j3 xs3 k0 k1 hS3 => ?_⟩
    obtain ⟨s, hs5, hse, hix⟩ : ∃ s : Nat, s ≤ 5 ∧ (ev = 1 → s ≤ 4) ∧ ixD (.lst [.int 4, .int 4, .int 4, .int 3, .int 2, .int 1, .int 0, .int 5]) (.int j3) = some (.fz (.int (s : Nat))) := by
      rcases (show j3 = 0 ∨ j3 = 1 ∨ j3 = 2 ∨ j3 = 3 ∨ j3 = 4 ∨ j3 = 5 ∨ j3 = 6 ∨ j3 = 7 by omega) with rfl | rfl | rfl | rfl | rfl | rfl | rfl | rfl
      · exact ⟨4, by decide, fun _ => by decide, rfl⟩
      · exact ⟨4, by decide, fun _ => by decide, rfl⟩
      · exact ⟨4, by decide, fun _ => by decide, rfl⟩
      · exact ⟨3, by decide, fun _ => by decide, rfl⟩
      · exact ⟨2, by decide, fun _ => by decide, rfl⟩
      · exact ⟨1, by decide, fun _ => by decide, rfl⟩
      · exact ⟨0, by decide, fun _ => by decide, rfl⟩
      · exact ⟨5, by decide, fun z => by omega, rfl⟩
    have e2 : ∃ e : Bool, ev = ((e.toNat : Nat) : Int) := by
      rcases (show ev = 0 ∨ ev = 1 by omega) with rfl | rfl
      · exact ⟨false, rfl⟩
      · exact ⟨true, rfl⟩
    obtain ⟨e, rfl⟩ := e2
    have fin := q _ _ (put (put (put h a (Ob.lst xs1)) a (Ob.lst xs2)) a (Ob.lst xs3)) xs3 (case7 hA h4 k7 s e hs5 (fun z => hse (by rw [z]; rfl))) put_same (hS3.mono (by omega))
    refine ⟨_, hix, ?_⟩
    walk_at "m"
    refine ⟨_, mul_tup (by simp) (by omega) (by omega) (by simp), ?_⟩
    rw [flat7]
    walk_at "m"
    refine ⟨_, add_tup (by simp; omega), ?_⟩
    walk_at "m"
    refine ⟨_, add_tup (by simp; omega), ?_⟩
    walk_at "m"
    refine ⟨_, ix7b _ _ e, ?_⟩
    walk_at "m"
    refine ⟨_, ix7n hs5, ?_⟩
    walk_at "m"
    rw [toD_pat7] at fin
    exact fin
def g_law : FM := fun ds h Q _ => ∃ (ns : List Int), ds = [.scr ns] ∧ ∀ h', Q (.fz (.bl true)) h'
theorem ok_law (A : At K mg "law" ["_law_script"] s_law f fd) (m_range : mg "range" = none) (m_int : mg "int" = none) (c_l_draw : Fn1 P w K mg base "_law_draw" 1 2 g_draw) (c_l_source : Fn0 P w K mg base "_law_source" 1 2 g_source)
    (c_l_alphabet : Fn1 P w K mg base "_law_alphabet" 2 2 g_alphabet) (c_l_case : FnM P w K mg base "_law_case" 2 2 g_case) (c_l_size : FnM P w K mg base "_law_size" 105 2 g_size) : FnOk P w K mg base (L2.CX P w) 107 f fd ["_law_script"] (spM K 1 g_law) := by
  refine okM (k := 106) A.fn sc_law (by decide) (fun cdv A outer s H E hr tk po => (mss_cons (ms_for po rfl (mi_range1 (by rfl) m_range (ma_cons me_int ma_nil)) (mg_n 1 sc_law.nd rfl (by first | exact Or.inl rfl | exact Or.inr rfl)) (mss_cons (ms_set 2 sc_law.nd rfl (by first | exact Or.inl rfl | exact Or.inr rfl) (me_own (me_c0 c_l_source (hr.mono (by decide)) (by rfl) (ma_cons (me_v 0) (ma_cons (me_v 1) ma_nil)))))
      (mss_cons (ms_set 3 sc_law.nd rfl (by first | exact Or.inl rfl | exact Or.inr rfl) (me_c1 c_l_alphabet (hr.mono (by decide)) (by rfl) (ma_cons (me_v 2) (ma_cons (me_add me_int (me_c1 c_l_draw (hr.mono (by decide)) (by rfl) (ma_cons (me_v 2) (ma_cons me_int ma_nil)))) ma_nil))))
      (mss_cons (ms_asg (me_cM c_l_case tk (hr.mono (by decide)) (by rfl) (ma_cons (me_v 2) (ma_cons (me_v 3) ma_nil))) (mg_tup (n := 2) rfl (mgs_cons (mg_n 4 sc_law.nd rfl (by first | exact Or.inl rfl | exact Or.inr rfl)) (mgs_cons (mg_n 5 sc_law.nd rfl (by first | exact Or.inl rfl | exact Or.inr rfl)) mgs_nil))))
      (mss_cons (ms_if (mt_eq hr (me_c1 c_l_draw (hr.mono (by decide)) (by rfl) (ma_cons (me_v 2) (ma_cons me_int ma_nil))) me_int) (mss_one (ms_set 4 sc_law.nd rfl (by first | exact Or.inl rfl | exact Or.inr rfl) (me_tup (ma_cons me_str (ma_cons (me_v 4) ma_nil))))) mss_nil)
      (mss_one (ms_if (mt_ne hr (me_cM c_l_size tk (hr.mono (by decide)) (by rfl) (ma_cons (me_v 3) (ma_cons (me_v 4) ma_nil))) (me_ix (me_lst (ma_cons (me_v 5) (ma_cons me_str ma_nil))) (me_intc (by rfl) m_int (ma_cons (me_gt (me_v 5) me_int) ma_nil)) (fun _ _ => rfl))) (mss_one (ms_ret me_bl)) mss_nil)))))))
      (mss_one (ms_ret me_bl)))) ?_
  rintro ds h Q E hl ⟨ns, rfl, q⟩
  refine ⟨5, rfl, ⟨by decide, by decide⟩, ?_⟩
  refine loopM_inv (fun ds ρ _ => ∃ s1 s2 s3 s4 s5, ρ = [some (.scr ns), s1, s2, s3, s4, s5] ∧ ∀ d ∈ ds, ∃ k : Int, d = .int k ∧ 0 ≤ k ∧ k < 5) _ _ _ ⟨none, none, none, none, none, rfl, ?_⟩ ?_ ?_
  · intro d hd
    rw [rangeD_map] at hd
    obtain ⟨i, hi, rfl⟩ := List.mem_map.mp hd
    have hi' : i < (5 : Int).toNat := List.mem_range.mp hi
    exact ⟨_, rfl, by omega, by omega⟩
  rotate_left
  · intro ρ h' ⟨s1, s2, s3, s4, s5, e, _⟩
    exact q _
  rintro d es ρ h1 R ⟨s1, s2, s3, s4, s5, rfl, hd⟩ hR
  obtain ⟨k, rfl, k0, k1⟩ := hd d (List.mem_cons_self ..)
  have hd' := fun d h => hd d (List.mem_cons_of_mem _ h)
  clear hd
  walk_at "m"
  refine ⟨k0, by omega, fun xs hS => ?_⟩
  refine ⟨_, rfl, fun a ha => ?_⟩
  walk_at "m"
  refine ⟨a, _, _, rfl, put_same, 0, _, rfl, hS, by omega, by decide, by decide, fun j xs1 j0 j1 hS1 => ?_⟩
  walk_at "m"
  refine ⟨a, _, _, rfl, put_same, 1, _, rfl, hS1, by omega, by omega, by omega, fun A xs2 hA hAl hS2 => ?_⟩
  have hA6 := hA.hi
  walk_at "m"
  refine ⟨a, xs2, _, A, rfl, put_same, hS2, by decide, hA, by omega, fun r n h2 xs3 hc ha2 hS3 => ?_⟩
  walk_at "m"
  dsimp only
  have ixn : ixD (.lst [.int n, .str "pattern"]) (.int (if decide (n > 40) = true then 1 else 0)) = some (.fz (if n > 40 then .str "pattern" else .int n)) := by
    by_cases h40 : n > 40
    · rw [if_pos h40, decide_eq_true h40]; rfl
    · rw [if_neg h40, decide_eq_false h40]; rfl
  have fin : ∀ (b : Bool) (T : Tab) (M : List D), Aut A.length (mkF A (if b = true then .no r else r)) T M → neD (szD T.length) (if n > 40 then .str "pattern" else .int n) = some (.fz (.bl false)) := fun b T M aut => by
    have := hc.2.2.2 b T M aut
    have n0 := hc.2.1
    by_cases h40 : n > 40
    · rw [if_pos h40]
      unfold szD
      rw [if_neg (by omega)]
      exact ne_refl (Sh.str (by decide +kernel) 64)
    · rw [if_neg h40]
      unfold szD
      rw [if_pos (by omega), this]
      exact ne_refl (Sh.int _ 64)
  refine ⟨a, _, _, rfl, ha2, _, _, rfl, hS3, by omega, by decide, by decide, fun j3 xs4 l0 l1 hS4 => ?_⟩
  walk_at "m"
  refine ifB (fun hb => ?_) (fun hb => ?_)
  · walk_at "m"
    refine ⟨A, .no r, by rw [toD.eq_5]; rfl, hc.pt true, hA6, fun T M h4 aut => ?_⟩
    walk_at "m"
    refine ⟨_, ixn, ?_⟩
    refine ⟨_, fin true T M aut, ?_⟩
    walk_at "m"
    exact hR _ _ ⟨_, _, _, _, _, rfl, hd'⟩
  · walk_at "m"
    refine ⟨hc.pt false, hA6, fun T M h4 aut => ?_⟩
    walk_at "m"
    refine ⟨_, ixn, ?_⟩
    refine ⟨_, fin false T M aut, ?_⟩
    walk_at "m"
    exact hR _ _ ⟨_, _, _, _, _, rfl, hd'⟩
end
end Cut
namespace Cut
open PySem L2 DL ML CutR
abbrev ha : List He.Fa := hfa ++ [] ++ []
abbrev hx : List Fx := [] ++ hfx ++ []
abbrev hf : List He.DefD := [] ++ [] ++ hfn
abbrev hk : PySem.W.Hook := hookX 4 ha hx hf
def ob (s : PySem.W.SharedT) : He.AlD := obsXG 4 ha hx hf (HandSHeadRun.getT s)
theorem ob_eq (s : PySem.W.SharedT) : ob s = hk.obs s.abs := obsXG_eq (HandSHeadRun.getT_eq s)
theorem hrun (w : World) : HandSHeadRun.RunEq RR qv hk ob 60000 nms w := run_join (run_join (hrun0 w) (hrun1 w)) (hrun2 w)
theorem facts {l : PySem.W.OpenLaw} {w : World} {K : Fg} {h : Heap} {mg : Str → Option Value} {fa : Addr} (X : K.In h) (G : h.Ns mainGlobals mg) (hma : mg ("law" : Str) = some (.ref fa)) (c : SaysX ha hx hf K) :
    ∃ fd : FuncData, (∀ (s : Shared) (v : Value), BindsTo s fd ⟨[v], []⟩ [("_law_script", v)]) ∧ ∀ base : Heap, K.In base → base.Ns mainGlobals mg → FnOk l.prog w K mg base (L2.CX l.prog w) 107 fa fd ["_law_script"] (spM K 1 g_law) := by
  have cl_Matcher := He.cls_ok (c.fact 0 rfl)
  have f_Matcher_word : Fo K (He.ga K "Matcher") "word" := ⟨cl_Matcher, He.noat_ok (c.fact 1 rfl)⟩
  have f_Matcher_within : Fo K (He.ga K "Matcher") "within" := ⟨cl_Matcher, He.noat_ok (c.fact 2 rfl)⟩
  have f_Matcher_moves : Fo K (He.ga K "Matcher") "moves" := ⟨cl_Matcher, He.noat_ok (c.fact 3 rfl)⟩
  have f_Matcher_goal : Fo K (He.ga K "Matcher") "goal" := ⟨cl_Matcher, He.noat_ok (c.fact 4 rfl)⟩
  obtain ⟨fd0, E0⟩ := c.fun_ 0 (d := dG "parts_of" (top 4)) rfl
  have D0 : FunD K "parts_of" "parts_of" (defArgs s_parts_of) (defBody s_parts_of) (defScope s_parts_of) [] [] (He.fAd K ("parts_of", none)) fd0 := E0
  have F0 : FunA K "parts_of" "parts_of" s_parts_of (He.fAd K ("parts_of", none)) fd0 := FunA.of D0
  have A_parts_of : At K mg "parts_of" ["expression"] s_parts_of _ _ := ⟨F0, (He.glo_ok X G (c.fact 5 rfl)), D0.bindsN (ps := ["expression"]) fun _ _ _ _ _ _ us hl => match us, hl with | [_], _ => rfl⟩
  obtain ⟨fd1, E1⟩ := c.fun_ 1 (d := dG "is_plain" (top 5)) rfl
  have D1 : FunD K "is_plain" "is_plain" (defArgs s_is_plain) (defBody s_is_plain) (defScope s_is_plain) [] [] (He.fAd K ("is_plain", none)) fd1 := E1
  have F1 : FunA K "is_plain" "is_plain" s_is_plain (He.fAd K ("is_plain", none)) fd1 := FunA.of D1
  have A_is_plain : At K mg "is_plain" ["expression"] s_is_plain _ _ := ⟨F1, (He.glo_ok X G (c.fact 6 rfl)), D1.bindsN (ps := ["expression"]) fun _ _ _ _ _ _ us hl => match us, hl with | [_], _ => rfl⟩
  obtain ⟨fd2, E2⟩ := c.fun_ 2 (d := dG "add_row" (top 6)) rfl
  have D2 : FunD K "add_row" "add_row" (defArgs s_add_row) (defBody s_add_row) (defScope s_add_row) [] [] (He.fAd K ("add_row", none)) fd2 := E2
  have F2 : FunA K "add_row" "add_row" s_add_row (He.fAd K ("add_row", none)) fd2 := FunA.of D2
  have A_add_row : At K mg "add_row" ["moves", "start", "parts"] s_add_row _ _ := ⟨F2, (He.glo_ok X G (c.fact 7 rfl)), D2.bindsN (ps := ["moves", "start", "parts"]) fun _ _ _ _ _ _ us hl => match us, hl with | [_, _, _], _ => rfl⟩
  obtain ⟨fd3, E3⟩ := c.fun_ 3 (d := dG "add_any" (top 7)) rfl
  have D3 : FunD K "add_any" "add_any" (defArgs s_add_any) (defBody s_add_any) (defScope s_add_any) [] [] (He.fAd K ("add_any", none)) fd3 := E3
  have F3 : FunA K "add_any" "add_any" s_add_any (He.fAd K ("add_any", none)) fd3 := FunA.of D3
  have A_add_any : At K mg "add_any" ["moves", "start", "parts"] s_add_any _ _ := ⟨F3, (He.glo_ok X G (c.fact 8 rfl)), D3.bindsN (ps := ["moves", "start", "parts"]) fun _ _ _ _ _ _ us hl => match us, hl with | [_, _, _], _ => rfl⟩
  obtain ⟨fd4, E4⟩ := c.fun_ 4 (d := dG "add_again" (top 8)) rfl
  have D4 : FunD K "add_again" "add_again" (defArgs s_add_again) (defBody s_add_again) (defScope s_add_again) [] [] (He.fAd K ("add_again", none)) fd4 := E4
  have F4 : FunA K "add_again" "add_again" s_add_again (He.fAd K ("add_again", none)) fd4 := FunA.of D4
  have A_add_again : At K mg "add_again" ["moves", "start", "expression"] s_add_again _ _ := ⟨F4, (He.glo_ok X G (c.fact 9 rfl)), D4.bindsN (ps := ["moves", "start", "expression"]) fun _ _ _ _ _ _ us hl => match us, hl with | [_, _, _], _ => rfl⟩
  obtain ⟨fd5, E5⟩ := c.fun_ 5 (d := dG "add_moves" (top 9)) rfl
  have D5 : FunD K "add_moves" "add_moves" (defArgs s_add_moves) (defBody s_add_moves) (defScope s_add_moves) [] [] (He.fAd K ("add_moves", none)) fd5 := E5
  have F5 : FunA K "add_moves" "add_moves" s_add_moves (He.fAd K ("add_moves", none)) fd5 := FunA.of D5
  have A_add_moves : At K mg "add_moves" ["moves", "start", "expression"] s_add_moves _ _ := ⟨F5, (He.glo_ok X G (c.fact 10 rfl)), D5.bindsN (ps := ["moves", "start", "expression"]) fun _ _ _ _ _ _ us hl => match us, hl with | [_, _, _], _ => rfl⟩
  obtain ⟨fd6, E6⟩ := c.fun_ 6 (d := dG "closure" (top 10)) rfl
  have D6 : FunD K "closure" "closure" (defArgs s_closure) (defBody s_closure) (defScope s_closure) [] [] (He.fAd K ("closure", none)) fd6 := E6
  have F6 : FunA K "closure" "closure" s_closure (He.fAd K ("closure", none)) fd6 := FunA.of D6
  have A_closure : At K mg "closure" ["moves", "places"] s_closure _ _ := ⟨F6, (He.glo_ok X G (c.fact 11 rfl)), D6.bindsN (ps := ["moves", "places"]) fun _ _ _ _ _ _ us hl => match us, hl with | [_, _], _ => rfl⟩
  obtain ⟨fd7, E7⟩ := c.fun_ 7 (d := dG "explore" (top 15)) rfl
  have D7 : FunD K "explore" "explore" (defArgs s_explore) (defBody s_explore) (defScope s_explore) [] [] (He.fAd K ("explore", none)) fd7 := E7
  have F7 : FunA K "explore" "explore" s_explore (He.fAd K ("explore", none)) fd7 := FunA.of D7
  have A_explore : At K mg "explore" ["first", "alphabet", "mover", "limit"] s_explore _ _ := ⟨F7, (He.glo_ok X G (c.fact 12 rfl)), D7.bindsN (ps := ["first", "alphabet", "mover", "limit"]) fun _ _ _ _ _ _ us hl => match us, hl with | [_, _, _, _], _ => rfl⟩
  obtain ⟨fd8, E8⟩ := c.fun_ 8 (d := dG "refined" (top 16)) rfl
  have D8 : FunD K "refined" "refined" (defArgs s_refined) (defBody s_refined) (defScope s_refined) [] [] (He.fAd K ("refined", none)) fd8 := E8
  have F8 : FunA K "refined" "refined" s_refined (He.fAd K ("refined", none)) fd8 := FunA.of D8
  have A_refined : At K mg "refined" ["rows", "groups"] s_refined _ _ := ⟨F8, (He.glo_ok X G (c.fact 13 rfl)), D8.bindsN (ps := ["rows", "groups"]) fun _ _ _ _ _ _ us hl => match us, hl with | [_, _], _ => rfl⟩
  obtain ⟨fd9, E9⟩ := c.fun_ 9 (d := dG "grouped" (top 17)) rfl
  have D9 : FunD K "grouped" "grouped" (defArgs s_grouped) (defBody s_grouped) (defScope s_grouped) [] [] (He.fAd K ("grouped", none)) fd9 := E9
  have F9 : FunA K "grouped" "grouped" s_grouped (He.fAd K ("grouped", none)) fd9 := FunA.of D9
  have A_grouped : At K mg "grouped" ["rows", "marks"] s_grouped _ _ := ⟨F9, (He.glo_ok X G (c.fact 14 rfl)), D9.bindsN (ps := ["rows", "marks"]) fun _ _ _ _ _ _ us hl => match us, hl with | [_, _], _ => rfl⟩
  obtain ⟨fd10, E10⟩ := c.fun_ 10 (d := dG "minimal" (top 18)) rfl
  have D10 : FunD K "minimal" "minimal" (defArgs s_minimal) (defBody s_minimal) (defScope s_minimal) [] [] (He.fAd K ("minimal", none)) fd10 := E10
  have F10 : FunA K "minimal" "minimal" s_minimal (He.fAd K ("minimal", none)) fd10 := FunA.of D10
  have A_minimal : At K mg "minimal" ["rows", "marks"] s_minimal _ _ := ⟨F10, (He.glo_ok X G (c.fact 15 rfl)), D10.bindsN (ps := ["rows", "marks"]) fun _ _ _ _ _ _ us hl => match us, hl with | [_, _], _ => rfl⟩
  obtain ⟨fd11, E11⟩ := c.fun_ 11 (d := dG "automaton" (top 19)) rfl
  have D11 : FunD K "automaton" "automaton" (defArgs s_automaton) (defBody s_automaton) (defScope s_automaton) [] [] (He.fAd K ("automaton", none)) fd11 := E11
  have F11 : FunA K "automaton" "automaton" s_automaton (He.fAd K ("automaton", none)) fd11 := FunA.of D11
  have A_automaton : At K mg "automaton" ["alphabet", "pattern"] s_automaton _ _ := ⟨F11, (He.glo_ok X G (c.fact 16 rfl)), D11.bindsN (ps := ["alphabet", "pattern"]) fun _ _ _ _ _ _ us hl => match us, hl with | [_, _], _ => rfl⟩
  obtain ⟨fd12, E12⟩ := c.fun_ 12 (d := dG "_law_source" (top 21)) rfl
  have D12 : FunD K "_law_source" "_law_source" (defArgs s_l_source) (defBody s_l_source) (defScope s_l_source) [] [] (He.fAd K ("_law_source", none)) fd12 := E12
  have F12 : FunA K "_law_source" "_law_source" s_l_source (He.fAd K ("_law_source", none)) fd12 := FunA.of D12
  have A_l_source : At K mg "_law_source" ["_law_script", "_law_k"] s_l_source _ _ := ⟨F12, (He.glo_ok X G (c.fact 17 rfl)), D12.bindsN (ps := ["_law_script", "_law_k"]) fun _ _ _ _ _ _ us hl => match us, hl with | [_, _], _ => rfl⟩
  obtain ⟨fd13, E13⟩ := c.fun_ 13 (d := dG "_law_draw" (top 22)) rfl
  have D13 : FunD K "_law_draw" "_law_draw" (defArgs s_l_draw) (defBody s_l_draw) (defScope s_l_draw) [] [] (He.fAd K ("_law_draw", none)) fd13 := E13
  have F13 : FunA K "_law_draw" "_law_draw" s_l_draw (He.fAd K ("_law_draw", none)) fd13 := FunA.of D13
  have A_l_draw : At K mg "_law_draw" ["_law_source_here", "_law_many"] s_l_draw _ _ := ⟨F13, (He.glo_ok X G (c.fact 18 rfl)), D13.bindsN (ps := ["_law_source_here", "_law_many"]) fun _ _ _ _ _ _ us hl => match us, hl with | [_, _], _ => rfl⟩
  obtain ⟨fd14, E14⟩ := c.fun_ 14 (d := dG "_law_alphabet" (top 23)) rfl
  have D14 : FunD K "_law_alphabet" "_law_alphabet" (defArgs s_l_alphabet) (defBody s_l_alphabet) (defScope s_l_alphabet) [] [] (He.fAd K ("_law_alphabet", none)) fd14 := E14
  have F14 : FunA K "_law_alphabet" "_law_alphabet" s_l_alphabet (He.fAd K ("_law_alphabet", none)) fd14 := FunA.of D14
  have A_l_alphabet : At K mg "_law_alphabet" ["_law_source_here", "_law_many"] s_l_alphabet _ _ := ⟨F14, (He.glo_ok X G (c.fact 19 rfl)), D14.bindsN (ps := ["_law_source_here", "_law_many"]) fun _ _ _ _ _ _ us hl => match us, hl with | [_, _], _ => rfl⟩
  obtain ⟨fd15, E15⟩ := c.fun_ 15 (d := dG "_law_size" (top 24)) rfl
  have D15 : FunD K "_law_size" "_law_size" (defArgs s_l_size) (defBody s_l_size) (defScope s_l_size) [] [] (He.fAd K ("_law_size", none)) fd15 := E15
  have F15 : FunA K "_law_size" "_law_size" s_l_size (He.fAd K ("_law_size", none)) fd15 := FunA.of D15
  have A_l_size : At K mg "_law_size" ["_law_alphabet_here", "_law_pattern"] s_l_size _ _ := ⟨F15, (He.glo_ok X G (c.fact 20 rfl)), D15.bindsN (ps := ["_law_alphabet_here", "_law_pattern"]) fun _ _ _ _ _ _ us hl => match us, hl with | [_, _], _ => rfl⟩
  obtain ⟨fd16, E16⟩ := c.fun_ 16 (d := dG "_law_case" (top 25)) rfl
  have D16 : FunD K "_law_case" "_law_case" (defArgs s_l_case) (defBody s_l_case) (defScope s_l_case) [] [] (He.fAd K ("_law_case", none)) fd16 := E16
  have F16 : FunA K "_law_case" "_law_case" s_l_case (He.fAd K ("_law_case", none)) fd16 := FunA.of D16
  have A_l_case : At K mg "_law_case" ["_law_source_here", "_law_alphabet_here"] s_l_case _ _ := ⟨F16, (He.glo_ok X G (c.fact 21 rfl)), D16.bindsN (ps := ["_law_source_here", "_law_alphabet_here"]) fun _ _ _ _ _ _ us hl => match us, hl with | [_, _], _ => rfl⟩
  obtain ⟨fd17, E17⟩ := c.fun_ 17 (d := dG "law" (top 26)) rfl
  have D17 : FunD K "law" "law" (defArgs s_law) (defBody s_law) (defScope s_law) [] [] (He.fAd K ("law", none)) fd17 := E17
  have F17 : FunA K "law" "law" s_law (He.fAd K ("law", none)) fd17 := FunA.of D17
  have A_law : At K mg "law" ["_law_script"] s_law _ _ := ⟨F17, (He.glo_ok X G (c.fact 22 rfl)), D17.bindsN (ps := ["_law_script"]) fun _ _ _ _ _ _ us hl => match us, hl with | [_], _ => rfl⟩
  obtain ⟨fd18, E18⟩ := c.fun_ 18 (d := dM "Matcher" "__init__" "Matcher.__init__" (inClass (top 11) 0)) rfl
  have D18 : FunD K "__init__" "Matcher.__init__" (defArgs s_Matcher_init) (defBody s_Matcher_init) (defScope s_Matcher_init) [] [] (He.fAd K ("Matcher", some "__init__")) fd18 := E18
  have F18 : FunA K "__init__" "Matcher.__init__" s_Matcher_init (He.fAd K ("Matcher", some "__init__")) fd18 := FunA.of D18
  have A_Matcher_init : AtI K mg (He.ga K "Matcher") "Matcher" "Matcher.__init__" ["self", "pattern"] s_Matcher_init _ _ := ⟨F18, He.mkr_ok (c.fact 23 rfl), (He.glo_ok X G (c.fact 24 rfl)), D18.bindsN (ps := ["self", "pattern"]) fun _ _ _ _ _ _ us hl => match us, hl with | [_, _], _ => rfl⟩
  obtain ⟨fd19, E19⟩ := c.fun_ 19 (d := dM "Matcher" "begin" "Matcher.begin" (inClass (top 11) 1)) rfl
  have D19 : FunD K "begin" "Matcher.begin" (defArgs s_Matcher_begin) (defBody s_Matcher_begin) (defScope s_Matcher_begin) [] [] (He.fAd K ("Matcher", some "begin")) fd19 := E19
  have F19 : FunA K "begin" "Matcher.begin" s_Matcher_begin (He.fAd K ("Matcher", some "begin")) fd19 := FunA.of D19
  have A_Matcher_begin : AtM K (He.ga K "Matcher") "begin" "Matcher.begin" ["self"] s_Matcher_begin _ _ := ⟨F19, cl_Matcher, He.meth_ok (c.fact 25 rfl), D19.bindsN (ps := ["self"]) fun _ _ _ _ _ _ us hl => match us, hl with | [_], _ => rfl⟩
  obtain ⟨fd20, E20⟩ := c.fun_ 20 (d := dM "Matcher" "step" "Matcher.step" (inClass (top 11) 2)) rfl
  have D20 : FunD K "step" "Matcher.step" (defArgs s_Matcher_step) (defBody s_Matcher_step) (defScope s_Matcher_step) [] [] (He.fAd K ("Matcher", some "step")) fd20 := E20
  have F20 : FunA K "step" "Matcher.step" s_Matcher_step (He.fAd K ("Matcher", some "step")) fd20 := FunA.of D20
  have A_Matcher_step : AtM K (He.ga K "Matcher") "step" "Matcher.step" ["self", "state", "character"] s_Matcher_step _ _ := ⟨F20, cl_Matcher, He.meth_ok (c.fact 26 rfl), D20.bindsN (ps := ["self", "state", "character"]) fun _ _ _ _ _ _ us hl => match us, hl with | [_, _, _], _ => rfl⟩
  obtain ⟨fd21, E21⟩ := c.fun_ 21 (d := dM "Matcher" "accepts" "Matcher.accepts" (inClass (top 11) 3)) rfl
  have D21 : FunD K "accepts" "Matcher.accepts" (defArgs s_Matcher_accepts) (defBody s_Matcher_accepts) (defScope s_Matcher_accepts) [] [] (He.fAd K ("Matcher", some "accepts")) fd21 := E21
  have F21 : FunA K "accepts" "Matcher.accepts" s_Matcher_accepts (He.fAd K ("Matcher", some "accepts")) fd21 := FunA.of D21
  have A_Matcher_accepts : AtM K (He.ga K "Matcher") "accepts" "Matcher.accepts" ["self", "state"] s_Matcher_accepts _ _ := ⟨F21, cl_Matcher, He.meth_ok (c.fact 27 rfl), D21.bindsN (ps := ["self", "state"]) fun _ _ _ _ _ _ us hl => match us, hl with | [_, _], _ => rfl⟩
  obtain ⟨fd22, E22⟩ := c.fun_ 22 (d := dM "TooLarge" "__init__" "TooLarge.__init__" (inClass (top 2) 0)) rfl
  have D22 : FunD K "__init__" "TooLarge.__init__" (defArgs s_TooLarge_init) (defBody s_TooLarge_init) (defScope s_TooLarge_init) [] [] (He.fAd K ("TooLarge", some "__init__")) fd22 := E22
  have F22 : FunA K "__init__" "TooLarge.__init__" s_TooLarge_init (He.fAd K ("TooLarge", some "__init__")) fd22 := FunA.of D22
  have B_TooLarge := D22.bindsN (ps := ["self", "what"]) fun _ _ _ _ _ _ us hl => match us, hl with | [_, _], _ => rfl
  obtain ⟨T_TooLarge, U_TooLarge⟩ := err_ok (c.own 0 rfl)
  obtain ⟨a_TooLarge, i_TooLarge⟩ := mkE_ok (c.own 1 rfl)
  have BS := (cut_ok X G (He.glo_ok X G (c.fact 28 rfl)) (c.own 2 rfl)).resolve_right (fun z => z rfl)
  have c_MOST_EXPLORED := int_gc X G (c.fact 29 rfl)
  have c_MOST_STATES := int_gc X G (c.fact 30 rfl)
  have m_len := He.free_ok X G (c.fact 31 rfl)
  have m_list := He.free_ok X G (c.fact 32 rfl)
  have m_tuple := He.free_ok X G (c.fact 33 rfl)
  have m_sorted := He.free_ok X G (c.fact 34 rfl)
  have m_range := He.free_ok X G (c.fact 35 rfl)
  have m_int := He.free_ok X G (c.fact 36 rfl)
  have m_zip := He.free_ok X G (c.fact 37 rfl)
  have m_enumerate := He.free_ok X G (c.fact 38 rfl)
  have m_any := He.free_ok X G (c.fact 39 rfl)
  have m_all := He.free_ok X G (c.fact 40 rfl)
  have m_min := He.free_ok X G (c.fact 41 rfl)
  have m_max := He.free_ok X G (c.fact 42 rfl)
  have m_sum := He.free_ok X G (c.fact 43 rfl)
  have m_isinstance := He.free_ok X G (c.fact 44 rfl)
  have m_bool := He.free_ok X G (c.fact 45 rfl)
  have m_set := He.free_ok X G (c.fact 46 rfl)
  have m_ValueError := He.free_ok X G (c.fact 47 rfl)
  have exm_TooLarge_TooLarge := exm_ok (c.own 3 rfl)
  have e := hma.symm.trans (He.glo_ok X G (c.fact 22 rfl))
  cases e
  have hb : ∀ (s : Shared) (v : Value), BindsTo s fd17 ⟨[v], []⟩ [("_law_script", v)] := fun s v => D17.bindsA (ps := ["_law_script"]) (fun _ _ _ _ _ _ us hl => match us, hl with | [_], _ => rfl) s [v] rfl
  refine ⟨_, hb, fun base _ _ => ?_⟩
  have e_TooLarge : Er1 l.prog w K mg base "TooLarge" (He.ga K "TooLarge") "what" := ⟨⟨T_TooLarge, (He.glo_ok X G (c.fact 48 rfl)), U_TooLarge⟩, He.noat_ok (c.fact 49 rfl), _, _, _, a_TooLarge, i_TooLarge, ok_erlI F22 BS T_TooLarge (He.noat_ok (c.fact 49 rfl)), B_TooLarge⟩
  have o4 := ok_parts_of (P := l.prog) (w := w) (base := base) (mg := mg) A_parts_of
  have o7 := ok_is_plain (P := l.prog) (w := w) (base := base) (mg := mg) A_is_plain m_all o4 25
  have o8 := ok_addmoves (P := l.prog) (w := w) (base := base) (mg := mg) A_add_moves A_add_row A_add_any A_add_again m_len m_range m_int 25
  have o9 := clos_E (ok_clos (P := l.prog) (w := w) (base := base) (mg := mg) A_closure m_len m_list m_tuple m_sorted)
  have q1 := ok_Minit (P := l.prog) (w := w) (base := base) (mg := mg) A_Matcher_init f_Matcher_word f_Matcher_within f_Matcher_moves f_Matcher_goal o7 o4 o8 25
  have q2 := ok_begin (P := l.prog) (w := w) (base := base) (mg := mg) A_Matcher_begin f_Matcher_word f_Matcher_within f_Matcher_moves m_tuple o9 25
  have q3 := ok_step (P := l.prog) (w := w) (base := base) (mg := mg) A_Matcher_step f_Matcher_word f_Matcher_within f_Matcher_moves m_tuple m_zip o9 25
  have q4 := ok_acc (P := l.prog) (w := w) (base := base) (mg := mg) A_Matcher_accepts f_Matcher_word f_Matcher_within f_Matcher_goal m_any m_all m_zip 25
  have p1 := ok_source (P := l.prog) (w := w) (base := base) (mg := mg) A_l_source m_len
  have p2 := ok_draw (P := l.prog) (w := w) (base := base) (mg := mg) A_l_draw
  have p3 := ok_alphabet (P := l.prog) (w := w) (base := base) (mg := mg) A_l_alphabet m_len m_list m_range p2
  have x1 := ok_expl (P := l.prog) (w := w) (base := base) (mg := mg) (φm (He.ga K "Matcher")) A_explore m_len m_tuple mv_ob (step_mv q3)
  have x2 := ok_refd (P := l.prog) (w := w) (base := base) (mg := mg) A_refined m_len m_tuple m_enumerate
  have x3 := ok_grp (P := l.prog) (w := w) (base := base) (mg := mg) A_grouped m_len m_max x2
  have x4 := ok_min (P := l.prog) (w := w) (base := base) (mg := mg) A_minimal m_len m_tuple m_enumerate x3
  have x5 := ok_aut (P := l.prog) (w := w) (base := base) (mg := mg) A_automaton m_len c_MOST_EXPLORED c_MOST_STATES e_TooLarge q1 q2 q4 x1 x4
  have yt : ∀ C ∈ [(He.ga K "TooLarge")], PySem.W.exmOne K (.ref C) (.ref (He.ga K "TooLarge")) = some true := fun C h => by rw [List.mem_singleton.mp h]; exact exm_TooLarge_TooLarge
  have t1 := ok_size (P := l.prog) (w := w) (base := base) (mg := mg) A_l_size m_len x5 e_TooLarge.1.nm yt ⟨e_TooLarge.1.xf, e_TooLarge.2.1⟩
  have t2 := ok_case (P := l.prog) (w := w) (base := base) (mg := mg) A_l_case p2
  exact ok_law A_law m_range m_int p2 p1 p3 t2 t1
abbrev spLaw0 (K : Fg) : L2.Sp := spM K 1 g_law
theorem spLaw0_say (K : Fg) (H : Hp) (a : Addr) (ns : List Int) (_ : ns.length ≤ 63) (_ : Only H) (hS : SqL K H a (ns.map V.int)) : spLaw0 K [.ref a] H (fun v _ => v = .bl true) fun _ _ _ => False :=
  ⟨H, fun _ => none, [.scr ns], fun r _ => r = .fz (.bl true), fun _ _ => False, ⟨fun _ _ h => h, fun _ _ z => (nomatch z)⟩, .cons (.scr hS) .nil, rfl, ⟨ns, rfl, fun _ => rfl⟩, fun v H' Hf' r h' _ _ ok e => by subst e; exact Rep.bl_inv ok, fun _ _ _ _ _ _ _ _ _ z => z⟩
theorem cx_no {P : Program} (w : World) (H : Hp) (s : Shared) (e : Value) (s' : Shared) : L2.CX P w [] H s (fun _ _ _ => False) e s' → False := fun ⟨_, _, _, _, _, _, _, _, _, _, _, _, z⟩ => z
end Cut
open PySem PySem.W PySem.Calls PyProof.Rows
set_option maxRecDepth 100000 in
set_option maxHeartbeats 0 in
theorem PySem.Challenge.cw_cutscribe_k07_automata_at_the_limit_holds : PySem.Challenge.rw_cutscribe_k07_automata_at_the_limit.Holds := by
  w_on; o_law
  refine HandSHeadRun.head_any (r := OpenLaw.row PySem.Challenge.rw_cutscribe_k07_automata_at_the_limit) (q := view (OpenLaw.row PySem.Challenge.rw_cutscribe_k07_automata_at_the_limit).prog [26]) (H := Cut.hk) (ob := Cut.ob) (M := 60000) (loose := CutR.nms) (d := HandSHeadRun.topDef (OpenLaw.row PySem.Challenge.rw_cutscribe_k07_automata_at_the_limit).prog 26) (kwd := []) Cut.ob_eq
    (by kernel_rfl) (fun s => by kernel_rfl) Cut.hrun (by kernel_rfl) (by kernel_rfl) (by kernel_rfl) (by rfl) (by first | assumption | decide +kernel) (by decide +kernel) ⟨rfl, rfl, rfl, rfl, rfl, by decide +kernel⟩ ?hw ?hc
  case hw => w_witness2
  case hc =>
    refine Cut.walkX (l := PySem.Challenge.rw_cutscribe_k07_automata_at_the_limit) (k := 107) (sp := Cut.spLaw0) rfl (by kernel_rfl) ⟨rfl, by decide, by decide⟩ ?F Cut.spLaw0_say Cut.cx_no
    intro w mg fa h Y G hmg0
    obtain ⟨K, KX, c⟩ := Y
    have hmg : mg ("law" : PySem.Str) = some (.ref fa) := by
      have e : (HandSHeadRun.topDef (OpenLaw.row PySem.Challenge.rw_cutscribe_k07_automata_at_the_limit).prog 26).name = ("law" : PySem.Str) := by kernel_rfl
      rw [← e]
      exact hmg0
    obtain ⟨fd, hb, hF⟩ := Cut.facts (l := PySem.Challenge.rw_cutscribe_k07_automata_at_the_limit) (w := w) KX G hmg c
    exact ⟨K, fd, KX, hb, hF⟩
