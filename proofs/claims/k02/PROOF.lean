import PyProof.Rows.All
import HandS.ForMost
import HandS.Deep
import HandS.IsInst
import HandS.Exc
import HandS.ExcOwn
import HandS.TryOnly
import HandS.CallSlots
import HandS.Zip
import HandS.TupAny
import HandS.TupMul
import HandS.Conv
import HandS.Wide
import HandS.Flow
import KE.SortData
import HandS.TupLe
import HandS.WideBits
import HandS.Codes
import KE.GoesEnum
import KE.GoesMore
import HandS.Defaults
import HandS.WordsExc
import HandS.RaiseMore
import HandS.More
import HandS.Head2
import HandS.HeadEnd
import HandS.HeadHook1
import HandS.HeadHook2
import HandS.Style
import HandS.ExcIs
import HandS.HeadHook4
import HandS.Text
import PySem.Challenge.RW_lastsigns_k02_whole_worlds_by_unions
set_option Elab.async false
set_option linter.all false
set_option maxRecDepth 100000
set_option maxHeartbeats 1000000
namespace Ev
open PySem PySem.Spec PyProof.Rows L2
abbrev Frag := PySem.W.Frag
/-! ## heaps -/
def Le (F H : Hp) : Prop := ∀ a o, F a = some o → H a = some o
theorem Le.refl (F : Hp) : Le F F := fun _ _ h => h
theorem Le.trans {F G H : Hp} (a : Le F G) (b : Le G H) : Le F H := fun x o h => b x o (a x o h)
theorem Le.upd {F H : Hp} {p : Addr} {o : HO} (l : Le F H) (n : F p = none) : Le F (upd H p o) := fun a u e => by
  rw [upd_ne (ne_of_none e n)]; exact l a u e
theorem Le.new {H : Hp} {p : Addr} {o : HO} (n : H p = none) : Le H (L2.upd H p o) := (Le.refl H).upd n
theorem Le.both {F H : Hp} {p : Addr} {o : HO} (l : Le F H) : Le (L2.upd F p o) (L2.upd H p o) := fun a u e => by
  by_cases h : a = p
  · subst h; rw [upd_same] at e ⊢; exact e
  · rw [upd_ne h] at e ⊢; exact l a u e
theorem Le.none {F H : Hp} (l : Le F H) {a : Addr} (n : H a = none) : F a = none := by
  cases e : F a with
  | none => rfl
  | some o => rw [l a o e] at n; cases n
theorem Le.rd {F H : Hp} (l : Le F H) {a : Addr} {u : HO} (r : Rd F a u) : Rd H a u := by
  rcases r with r | ⟨o, r⟩
  · exact .inl (l _ _ r)
  · exact .inr ⟨o, l _ _ r⟩
theorem Le.sqL {K : Frag} {F H : Hp} (l : Le F H) {a : Addr} {xs : List V} (h : SqL K F a xs) : SqL K H a xs := h.elim (fun r => .inl (l.rd r)) .inr
theorem Le.sqT {K : Frag} {F H : Hp} (l : Le F H) {a : Addr} {xs : List V} (h : SqT K F a xs) : SqT K H a xs := h.elim (fun r => .inl (l.rd r)) .inr

/-! ## what stands for which datum -/
def keyD : Key → PyData
  | .inl i => .int i
  | .inr x => .str x
mutual
inductive Rep (K : Frag) (F : Hp) : V → PyData → Prop
  | non : Rep K F .non .none
  | bl (b : Bool) : Rep K F (.bl b) (.bool b)
  | int (i : Int) : Rep K F (.int i) (.int i)
  | str (x : Str) : Rep K F (.str x) (.str x)
  | lst {a : Addr} {xs : List V} {ds : List PyData} : F a = some (.lst xs) → Reps K F xs ds → Rep K F (.ref a) (.list ds)
  | tup {a : Addr} {xs : List V} {ds : List PyData} : SqT K F a xs → Reps K F xs ds → Rep K F (.ref a) (.tuple ds)
  | dic {a : Addr} {kvs : List (Key × V)} {ds : List PyData} : F a = some (.dK kvs) → Reps K F (kvs.map (·.2)) ds → Rep K F (.ref a) (.dict ((kvs.map fun p => keyD p.1).zip ds))
inductive Reps (K : Frag) (F : Hp) : List V → List PyData → Prop
  | nil : Reps K F [] []
  | cons {v : V} {vs : List V} {d : PyData} {ds : List PyData} : Rep K F v d → Reps K F vs ds → Reps K F (v :: vs) (d :: ds)
end
mutual
theorem Rep.mono {K : Frag} {F H : Hp} (l : Le F H) : ∀ {v : V} {d : PyData}, Rep K F v d → Rep K H v d
  | _, _, .non => .non
  | _, _, .bl b => .bl b
  | _, _, .int i => .int i
  | _, _, .str x => .str x
  | _, _, .lst h r => .lst (l _ _ h) (Reps.mono l r)
  | _, _, .tup h r => .tup (l.sqT h) (Reps.mono l r)
  | _, _, .dic h r => .dic (l _ _ h) (Reps.mono l r)
theorem Reps.mono {K : Frag} {F H : Hp} (l : Le F H) : ∀ {vs : List V} {ds : List PyData}, Reps K F vs ds → Reps K H vs ds
  | _, _, .nil => .nil
  | _, _, .cons h r => .cons (Rep.mono l h) (Reps.mono l r)
end
theorem Reps.length {K : Frag} {F : Hp} : ∀ {vs : List V} {ds : List PyData}, Reps K F vs ds → vs.length = ds.length
  | _, _, .nil => rfl
  | _, _, .cons _ r => by rw [List.length_cons, List.length_cons, Reps.length r]
theorem Reps.get {K : Frag} {F : Hp} : ∀ {vs : List V} {ds : List PyData} {i : Nat} {d : PyData}, Reps K F vs ds → ds[i]? = some d → ∃ v, vs[i]? = some v ∧ Rep K F v d
  | _, _, _, _, .nil, e => by simp at e
  | _, _, 0, _, .cons h _, e => by simp at e; subst e; exact ⟨_, rfl, h⟩
  | _, _, i + 1, _, .cons _ r, e => by
    obtain ⟨v, e2, h⟩ := Reps.get (i := i) r (by simpa using e)
    exact ⟨v, by simpa using e2, h⟩
theorem Reps.getV {K : Frag} {F : Hp} {vs : List V} {ds : List PyData} {i : Nat} {v : V} (r : Reps K F vs ds) (e : vs[i]? = some v) : ∃ d, ds[i]? = some d ∧ Rep K F v d := by
  obtain ⟨h, _⟩ := List.getElem?_eq_some_iff.mp e
  rw [r.length] at h
  obtain ⟨v', e', q⟩ := r.get (List.getElem?_eq_getElem h)
  rw [e] at e'; cases e'
  exact ⟨_, List.getElem?_eq_getElem h, q⟩
theorem Reps.append {K : Frag} {F : Hp} : ∀ {vs ws : List V} {ds es : List PyData}, Reps K F vs ds → Reps K F ws es → Reps K F (vs ++ ws) (ds ++ es)
  | _, _, _, _, .nil, q => q
  | _, _, _, _, .cons h r, q => .cons h (Reps.append r q)
theorem Reps.take {K : Frag} {F : Hp} : ∀ {vs : List V} {ds : List PyData} (n : Nat), Reps K F vs ds → Reps K F (vs.take n) (ds.take n)
  | _, _, 0, _ => .nil
  | _, _, _ + 1, .nil => .nil
  | _, _, n + 1, .cons h r => .cons h (Reps.take n r)
theorem Reps.drop {K : Frag} {F : Hp} : ∀ {vs : List V} {ds : List PyData} (n : Nat), Reps K F vs ds → Reps K F (vs.drop n) (ds.drop n)
  | _, _, 0, r => r
  | _, _, _ + 1, .nil => .nil
  | _, _, n + 1, .cons _ r => Reps.drop n r
theorem Reps.of_get {K : Frag} {F : Hp} : ∀ {vs : List V} {ds : List PyData}, vs.length = ds.length → (∀ (i : Nat) v d, vs[i]? = some v → ds[i]? = some d → Rep K F v d) → Reps K F vs ds
  | [], [], _, _ => .nil
  | _ :: _, [], h, _ => by simp at h
  | [], _ :: _, h, _ => by simp at h
  | v :: vs, d :: ds, h, q => .cons (q 0 v d rfl rfl) (Reps.of_get (by simpa using h) fun i v d e1 e2 => q (i + 1) v d (by simpa using e1) (by simpa using e2))
theorem Reps.reverse {K : Frag} {F : Hp} : ∀ {vs : List V} {ds : List PyData}, Reps K F vs ds → Reps K F vs.reverse ds.reverse
  | _, _, .nil => .nil
  | _, _, .cons h r => by rw [List.reverse_cons, List.reverse_cons]; exact (Reps.reverse r).append (.cons h .nil)
theorem Reps.one {K : Frag} {F : Hp} {vs : List V} {d : PyData} (r : Reps K F vs [d]) : ∃ v, vs = [v] ∧ Rep K F v d := by
  cases r with
  | cons h t => cases t; exact ⟨_, rfl, h⟩
theorem Reps.two {K : Frag} {F : Hp} {vs : List V} {d e : PyData} (r : Reps K F vs [d, e]) : ∃ v u, vs = [v, u] ∧ Rep K F v d ∧ Rep K F u e := by
  cases r with
  | cons h t =>
    obtain ⟨u, rfl, q⟩ := t.one
    exact ⟨_, _, rfl, h, q⟩

/-! ## reading -/
section
variable {X : Cx} {pins : List (Addr × Obj)} {σ : L2.St} {H : Hp} {s : Shared}
theorem keyR {k : Key} {u : Value} (h : keyIs k u = true) (hp : Heap) : Reads hp u (keyD k) [] := by
  rcases keyIs_shape h with ⟨i, t, rfl, rfl⟩ | ⟨x, t, rfl, rfl⟩
  · exact .int i t
  · exact .str x t
theorem keysR {P : Program} {w : World} (hp : Heap) : ∀ {es : List DictEntry} {kvs : List (Key × Value)}, Pairs (mixKind P w) es kvs → ∃ as, ReadsAll hp (es.map (·.key)) (kvs.map fun p => keyD p.1) as
  | _, _, .nil => ⟨_, .nil⟩
  | _, _, .cons h1 _ h3 => by
    obtain ⟨as, ih⟩ := keysR hp h3
    exact ⟨_, .cons (keyR h1 hp) ih⟩
theorem kvV {kvs : List (Key × V)} {vs : List (Key × Value)} (r : KV kvs vs) : Vals (kvs.map (·.2)) (vs.map (·.2)) ∧ kvs.map (·.1) = vs.map (·.1) := by
  induction r with
  | nil => exact ⟨.nil, rfl⟩
  | cons a _ ih => exact ⟨.cons a.2 ih.1, by rw [List.map_cons, List.map_cons, a.1, ih.2]⟩
theorem pairsV {P : Program} {w : World} : ∀ {es : List DictEntry} {kvs : List (Key × Value)}, Pairs (mixKind P w) es kvs → es.map (·.val) = kvs.map (·.2)
  | _, _, .nil => rfl
  | _, _, .cons _ h2 h3 => by rw [List.map_cons, List.map_cons, h2, pairsV h3]
mutual
theorem Rep.reads {F : Hp} (I : Inv X pins σ H s) (l : Le F H) : ∀ {v : V} {d : PyData} (u : Value), Rep X.K F v d → RelV v u → ∃ as, Reads s.heap u d as
  | _, _, u, .non, r => by cases r; exact ⟨_, .none⟩
  | _, _, u, .bl b, r => by cases r; exact ⟨_, .bool b⟩
  | _, _, u, .int i, r => by obtain ⟨t, rfl⟩ := r; exact ⟨_, .int i t⟩
  | _, _, u, .str x, r => by obtain ⟨t, rfl⟩ := r; exact ⟨_, .str x t⟩
  | _, _, u, .lst h q, r => by
    cases r
    obtain ⟨its, rv, ⟨o, n, ho, hc, _, hd⟩, _⟩ := I.list (SqL.of (l _ _ h))
    obtain ⟨as, hr⟩ := Reps.reads I l its q rv
    exact ⟨_, .list ho hc hd hr⟩
  | _, _, u, .tup h q, r => by
    cases r
    obtain ⟨its, rv, ⟨o, ho, hc, n, hd⟩, _⟩ := I.tuple (l.sqT h)
    obtain ⟨as, hr⟩ := Reps.reads I l its q rv
    exact ⟨_, .tuple ho hc hd hr⟩
  | _, _, u, .dic (a := a) (kvs := kvs) (ds := ds) h q, r => by
    cases r
    obtain ⟨_, _, vs, rv, o, es, ep, ho, hx, hd, _, hp, _⟩ := I.hok a _ (l _ _ h)
    obtain ⟨r1, e1⟩ := kvV rv
    obtain ⟨as, hk⟩ := keysR s.heap hp
    obtain ⟨bs, hr⟩ := Reps.reads I l (vs.map (·.2)) q r1
    have el : (kvs.map fun p => keyD p.1) = vs.map fun p => keyD p.1 := by
      have := congrArg (List.map keyD) e1
      simpa [List.map_map, Function.comp_def] using this
    have n1 : (kvs.map fun p => keyD p.1).length = ds.length := by
      have := q.length
      simpa using this
    refine ⟨_, .dict ho hx.1 hd (as := as) (bs := bs) ?_ ?_⟩
    · rw [List.map_fst_zip (Nat.le_of_eq n1), el]; exact hk
    · rw [List.map_snd_zip (Nat.le_of_eq n1.symm), pairsV hp]; exact hr
theorem Reps.reads {F : Hp} (I : Inv X pins σ H s) (l : Le F H) : ∀ {vs : List V} {ds : List PyData} (us : List Value), Reps X.K F vs ds → Vals vs us → ∃ as, ReadsAll s.heap us ds as
  | _, _, us, .nil, r => by cases r; exact ⟨_, .nil⟩
  | _, _, us, .cons h q, r => by
    cases r with
    | cons r1 r2 =>
      obtain ⟨as, q1⟩ := Rep.reads I l _ h r1
      obtain ⟨bs, q2⟩ := Reps.reads I l _ q r2
      exact ⟨_, .cons q1 q2⟩
end
end
end Ev

set_option Elab.async false
set_option linter.all false
set_option maxRecDepth 100000
set_option maxHeartbeats 1000000
namespace Ev
open PySem PySem.Spec PyProof.Rows L2
/-! ## what a slot holds -/
inductive Fld where
  | dat (d : PyData)
  | lst (xs : List PyData)
inductive Own where
  | lst (xs : List PyData)
  | dic (kvs : List (Key × Fld))
inductive Sl where
  | un
  | fz (d : PyData)
  | ow (o : Own)
  | sc (xs : List PyData)
abbrev Ens := List Sl
abbrev Ownr := Addr → Option (Addr × Nat)
structure Ex where
  cls : Str
  arg : Option (Str × PyData)
inductive Rs (α : Type) where
  | ok (a : α) (e : Ens)
  | exc (x : Ex) (e : Ens)
  | bad
section
variable (K : Frag) (F H : Hp) (w : Ownr)
def FldR (top : Addr) (j : Nat) : Fld → V → Prop
  | .dat d, v => Rep K F v d
  | .lst xs, v => ∃ a vs, v = .ref a ∧ H a = some (.lst vs) ∧ Reps K F vs xs ∧ w a = some (top, j + 1)
def FldsR (top : Addr) : Nat → List (Key × Fld) → List (Key × V) → Prop
  | _, [], [] => True
  | j, (k, f) :: r, (k', v) :: r' => k = k' ∧ FldR K F H w top j f v ∧ FldsR top (j + 1) r r'
  | _, _, _ => False
def OwnR : Own → Addr → Prop
  | .lst xs, a => ∃ vs, H a = some (.lst vs) ∧ Reps K F vs xs ∧ w a = some (a, 0)
  | .dic kvs, a => ∃ hs, H a = some (.dK hs) ∧ FldsR K F H w a 0 kvs hs ∧ w a = some (a, 0)
def SlR : Sl → Option V → Prop
  | .un, _ => True
  | .fz d, v => ∃ u, v = some u ∧ Rep K F u d
  | .ow o, v => ∃ a, v = some (.ref a) ∧ OwnR K F H w o a
  | .sc xs, v => ∃ a vs, v = some (.ref a) ∧ SqL K F a vs ∧ Reps K F vs xs
end
/-- two heaps, and what is new -/
structure Ext (F H F' H' : Hp) : Prop where
  fle : Le F F'
  hle : Le H H'
  sub : Le F' H'
  old : ∀ a, H a ≠ none → F' a = F a
theorem Ext.refl {F H : Hp} (l : Le F H) : Ext F H F H := ⟨.refl _, .refl _, l, fun _ _ => rfl⟩
theorem Ext.new {F H : Hp} {p : Addr} {o : HO} (l : Le F H) (n : H p = none) : Ext F H (L2.upd F p o) (L2.upd H p o) :=
  ⟨(Le.refl F).upd (l.none n), .new n, l.both, fun a h => upd_ne (fun e => h (e ▸ n))⟩
theorem Ext.newH {F H : Hp} {p : Addr} {o : HO} (l : Le F H) (n : H p = none) : Ext F H F (L2.upd H p o) :=
  ⟨.refl _, .new n, l.trans (.new n), fun _ _ => rfl⟩
theorem Ext.trans {F H F1 H1 F2 H2 : Hp} (a : Ext F H F1 H1) (b : Ext F1 H1 F2 H2) : Ext F H F2 H2 :=
  ⟨a.fle.trans b.fle, a.hle.trans b.hle, b.sub, fun x h => by
    have h1 : H1 x ≠ none := by
      cases e : H x with
      | none => exact absurd e h
      | some o => rw [a.hle x o e]; simp
    rw [b.old x h1, a.old x h]⟩
theorem Ext.sqL {K : Frag} {F H F' H' : Hp} (x : Ext F H F' H') {a : Addr} {vs : List V} (h : SqL K H a vs) : SqL K H' a vs := x.hle.sqL h

/-- the frame that stays: the names that are never stored, and where they point -/
structure En where
  K : Frag
  mg : Str → Option Value
  io : List Nat
  s0 : L2.St
structure RW (C : En) (G F0 : Hp) (ρ : Ens) (F : Hp) (σ : L2.St) (H : Hp) (w : Ownr) : Prop where
  len : ρ.length = σ.length
  slot : ∀ (i : Nat) (s : Sl), ρ[i]? = some s → ∃ v, σ[i]? = some v ∧ SlR C.K F H w s v
  sep : ∀ (i j : Nat) (o o' : Own) (v : Option V), ρ[i]? = some (.ow o) → ρ[j]? = some (.ow o') → σ[i]? = some v → σ[j]? = some v → i = j
  own : ∀ a p, w a = some p → F a = none ∧ H a ≠ none
  sub : Le F H
  gle : Le G H
  frm : ∀ a, G a ≠ none → F a = F0 a ∧ w a = none
  pin : ∀ (i : Nat), i ∈ C.io → σ[i]? = C.s0[i]?
def R (C : En) (G F0 : Hp) (ρ : Ens) (F : Hp) (σ : L2.St) (H : Hp) : Prop := ∃ w, RW C G F0 ρ F σ H w
section
variable {C : En} {G F0 F H F' H' : Hp} {ρ : Ens} {σ : L2.St} {w w' : Ownr}
theorem FldR.mono {K : Frag} {top : Addr} {j : Nat} (l : Le F F') (h : ∀ a o, w a ≠ none → H a = some o → H' a = some o) (hw : ∀ a p, w a = some p → w' a = some p) : ∀ {f : Fld} {v : V}, FldR K F H w top j f v → FldR K F' H' w' top j f v
  | .dat d, v, q => Rep.mono l q
  | .lst xs, v, ⟨a, vs, e, e2, r, e3⟩ => ⟨a, vs, e, h a _ (by rw [e3]; simp) e2, r.mono l, hw _ _ e3⟩
theorem FldsR.mono {K : Frag} {top : Addr} (l : Le F F') (h : ∀ a o, w a ≠ none → H a = some o → H' a = some o) (hw : ∀ a p, w a = some p → w' a = some p) : ∀ {j : Nat} {f : List (Key × Fld)} {v : List (Key × V)}, FldsR K F H w top j f v → FldsR K F' H' w' top j f v
  | _, [], [], _ => trivial
  | _, (_, _) :: _, (_, _) :: _, ⟨e, q, r⟩ => ⟨e, q.mono l h hw, FldsR.mono l h hw r⟩
  | _, [], _ :: _, q => q.elim
  | _, _ :: _, [], q => q.elim
theorem OwnR.mono {K : Frag} (l : Le F F') (h : ∀ a o, w a ≠ none → H a = some o → H' a = some o) (hw : ∀ a p, w a = some p → w' a = some p) : ∀ {o : Own} {a : Addr}, OwnR K F H w o a → OwnR K F' H' w' o a
  | .lst xs, a, ⟨vs, e, r, e2⟩ => ⟨vs, h a _ (by rw [e2]; simp) e, r.mono l, hw _ _ e2⟩
  | .dic kvs, a, ⟨hs, e, r, e2⟩ => ⟨hs, h a _ (by rw [e2]; simp) e, r.mono l h hw, hw _ _ e2⟩
theorem SlR.mono {K : Frag} (l : Le F F') (h : ∀ a o, w a ≠ none → H a = some o → H' a = some o) (hw : ∀ a p, w a = some p → w' a = some p) : ∀ {s : Sl} {v : Option V}, SlR K F H w s v → SlR K F' H' w' s v
  | .un, _, _ => trivial
  | .fz d, _, ⟨u, e, r⟩ => ⟨u, e, r.mono l⟩
  | .ow o, _, ⟨a, e, r⟩ => ⟨a, e, r.mono l h hw⟩
  | .sc xs, _, ⟨a, vs, e, q, r⟩ => ⟨a, vs, e, l.sqL q, r.mono l⟩
theorem RW.sub' (r : RW C G F0 ρ F σ H w) : Le F H := r.sub
theorem R.sub (r : R C G F0 ρ F σ H) : Le F H := let ⟨_, r⟩ := r; r.sub
theorem R.gle (r : R C G F0 ρ F σ H) : Le G H := let ⟨_, r⟩ := r; r.gle
theorem R.len (r : R C G F0 ρ F σ H) : ρ.length = σ.length := let ⟨_, r⟩ := r; r.len
theorem R.ext (r : R C G F0 ρ F σ H) (x : Ext F H F' H') : R C G F0 ρ F' σ H' := by
  obtain ⟨w, r⟩ := r
  refine ⟨w, r.len, fun i s e => ?_, r.sep, fun a p e => ?_, x.sub, r.gle.trans x.hle, fun a h => ?_, r.pin⟩
  · obtain ⟨v, e2, q⟩ := r.slot i s e
    exact ⟨v, e2, q.mono x.fle (fun a o _ h => x.hle a o h) fun _ _ h => h⟩
  · obtain ⟨h1, h2⟩ := r.own a p e
    refine ⟨by rw [x.old a h2]; exact h1, fun z => h2 ?_⟩
    exact x.hle.none z
  · obtain ⟨h1, h2⟩ := r.frm a h
    have h3 : H a ≠ none := fun z => h (r.gle.none z)
    exact ⟨by rw [x.old a h3]; exact h1, h2⟩
theorem R.fz (r : R C G F0 ρ F σ H) {i : Nat} {d : PyData} (e : ρ[i]? = some (.fz d)) : ∃ v, σ[i]? = some (some v) ∧ Rep C.K F v d := by
  obtain ⟨w, r⟩ := r
  obtain ⟨v, e2, u, rfl, q⟩ := r.slot i _ e
  exact ⟨u, e2, q⟩
theorem R.lst (r : R C G F0 ρ F σ H) {i : Nat} {xs : List PyData} (e : ρ[i]? = some (.ow (.lst xs))) : ∃ a vs, σ[i]? = some (some (.ref a)) ∧ H a = some (.lst vs) ∧ Reps C.K F vs xs := by
  obtain ⟨w, r⟩ := r
  obtain ⟨v, e2, a, rfl, vs, e3, q, _⟩ := r.slot i _ e
  exact ⟨a, vs, e2, e3, q⟩
theorem R.sc (r : R C G F0 ρ F σ H) {i : Nat} {xs : List PyData} (e : ρ[i]? = some (.sc xs)) : ∃ a vs, σ[i]? = some (some (.ref a)) ∧ SqL C.K H a vs ∧ Reps C.K F vs xs := by
  obtain ⟨w, r⟩ := r
  obtain ⟨v, e2, a, vs, rfl, e3, q⟩ := r.slot i _ e
  exact ⟨a, vs, e2, r.sub.sqL e3, q⟩
/-- a slot that is stored -/
theorem R.set (r : R C G F0 ρ F σ H) {i : Nat} {d : PyData} {v : V} (hi : i ∉ C.io) (q : Rep C.K F v d) : R C G F0 (ρ.set i (.fz d)) F (σ.set i (some v)) H := by
  obtain ⟨w, r⟩ := r
  refine ⟨w, by rw [List.length_set, List.length_set]; exact r.len, fun j s e => ?_, fun j k o o' u e1 e2 e3 e4 => ?_, r.own, r.sub, r.gle, r.frm, fun j hj => ?_⟩
  · by_cases h : i = j
    · subst h
      have hl : i < ρ.length := by
        have := (List.getElem?_eq_some_iff.mp e).1
        simpa using this
      rw [List.getElem?_set_self hl] at e
      cases e
      exact ⟨some v, List.getElem?_set_self (by rw [← r.len]; exact hl), v, rfl, q⟩
    · rw [List.getElem?_set_ne h] at e ⊢
      exact r.slot j s e
  · have ne : ∀ {k : Nat} {o : Own}, (ρ.set i (.fz d))[k]? = some (.ow o) → i ≠ k := fun {k o} e z => by
      subst z
      rw [List.getElem?_set] at e
      simp at e
    have h1 := ne e1
    have h2 := ne e2
    rw [List.getElem?_set_ne h1] at e1 e3
    rw [List.getElem?_set_ne h2] at e2 e4
    exact r.sep j k o o' u e1 e2 e3 e4
  · rw [List.getElem?_set_ne (fun z : i = j => hi (z ▸ hj))]
    exact r.pin j hj
/-- a slot is forgotten -/
theorem R.unset (r : R C G F0 ρ F σ H) {i : Nat} : R C G F0 (ρ.set i .un) F σ H := by
  obtain ⟨w, r⟩ := r
  refine ⟨w, by rw [List.length_set]; exact r.len, fun j s e => ?_, fun j k o o' u e1 e2 e3 e4 => ?_, r.own, r.sub, r.gle, r.frm, r.pin⟩
  · by_cases h : i = j
    · subst h
      have hl : i < ρ.length := by
        have := (List.getElem?_eq_some_iff.mp e).1
        simpa using this
      rw [List.getElem?_set_self hl] at e
      cases e
      exact ⟨σ[i]'(by rw [← r.len]; exact hl), List.getElem?_eq_getElem _, trivial⟩
    · rw [List.getElem?_set_ne h] at e
      exact r.slot j s e
  · have ne : ∀ {k : Nat} {o : Own}, (ρ.set i .un)[k]? = some (.ow o) → i ≠ k := fun {k o} e z => by
      subst z
      rw [List.getElem?_set] at e
      simp at e
    have h1 := ne e1
    have h2 := ne e2
    rw [List.getElem?_set_ne h1] at e1
    rw [List.getElem?_set_ne h2] at e2
    exact r.sep j k o o' u e1 e2 e3 e4
/-- a new list that a slot owns -/
theorem R.setOwn (r : R C G F0 ρ F σ H) {i : Nat} {xs : List PyData} {vs : List V} {p : Addr} (hi : i ∉ C.io) (n : H p = none) (q : Reps C.K F vs xs) : R C G F0 (ρ.set i (.ow (.lst xs))) F (σ.set i (some (.ref p))) (L2.upd H p (.lst vs)) := by
  obtain ⟨w, r⟩ := r
  have wp : w p = none := by
    cases e : w p with
    | none => rfl
    | some z => exact absurd n (r.own p z e).2
  have other : ∀ {j : Nat} {o : Own}, ρ[j]? = some (.ow o) → σ[j]? ≠ some (some (.ref p)) := fun {j o} e z => by
    obtain ⟨v, e2, a, rfl, q⟩ := r.slot j _ e
    rw [e2] at z
    cases z
    cases o with
    | lst ys => obtain ⟨_, h, _⟩ := q; rw [n] at h; cases h
    | dic ys => obtain ⟨_, h, _⟩ := q; rw [n] at h; cases h
  refine ⟨fun a => if a = p then some (p, 0) else w a, by rw [List.length_set, List.length_set]; exact r.len, fun j s e => ?_, fun j k o o' u e1 e2 e3 e4 => ?_, fun a z e => ?_, r.sub.trans (.new n), r.gle.trans (.new n), fun a h => ?_, fun j hj => ?_⟩
  · by_cases h : i = j
    · subst h
      have hl : i < ρ.length := by
        have := (List.getElem?_eq_some_iff.mp e).1
        simpa using this
      rw [List.getElem?_set_self hl] at e
      cases e
      exact ⟨some (.ref p), List.getElem?_set_self (by rw [← r.len]; exact hl), p, rfl, vs, upd_same, q, if_pos rfl⟩
    · rw [List.getElem?_set_ne h] at e ⊢
      obtain ⟨v, e2, q2⟩ := r.slot j s e
      refine ⟨v, e2, q2.mono (.refl _) (fun a o _ h => by rw [upd_ne (ne_of_none h n)]; exact h) fun a z h => ?_⟩
      rw [if_neg (fun e => by subst e; rw [wp] at h; cases h)]
      exact h
  · have key : ∀ {k : Nat} {o : Own}, (ρ.set i (.ow (.lst xs)))[k]? = some (.ow o) → i ≠ k → ρ[k]? = some (.ow o) := fun {k o} e z => by rw [List.getElem?_set_ne z] at e; exact e
    have sP : ∀ {k : Nat}, i = k → ∀ {o : Own}, (ρ.set i (.ow (.lst xs)))[k]? = some (.ow o) → (σ.set i (some (.ref p)))[k]? = some (some (.ref p)) := fun {k} z {o} e => by
      subst z
      have hl : i < ρ.length := by
        have := (List.getElem?_eq_some_iff.mp e).1
        simpa using this
      exact List.getElem?_set_self (by rw [← r.len]; exact hl)
    by_cases h1 : i = j
    · by_cases h2 : i = k
      · rw [← h1, ← h2]
      · rw [sP h1 e1] at e3
        rw [List.getElem?_set_ne h2, ← e3] at e4
        exact absurd e4 (other (key e2 h2))
    · by_cases h2 : i = k
      · rw [sP h2 e2] at e4
        rw [List.getElem?_set_ne h1, ← e4] at e3
        exact absurd e3 (other (key e1 h1))
      · rw [List.getElem?_set_ne h1] at e3
        rw [List.getElem?_set_ne h2] at e4
        exact r.sep j k o o' u (key e1 h1) (key e2 h2) e3 e4
  · by_cases h : a = p
    · subst h
      exact ⟨r.sub.none n, by rw [upd_same]; simp⟩
    · rw [if_neg h] at e
      obtain ⟨h1, h2⟩ := r.own a z e
      exact ⟨h1, by rw [upd_ne h]; exact h2⟩
  · obtain ⟨h1, h2⟩ := r.frm a h
    refine ⟨h1, ?_⟩
    rw [if_neg (fun e => by subst e; exact h (r.gle.none n))]
    exact h2
  · rw [List.getElem?_set_ne (fun z : i = j => hi (z ▸ hj))]
    exact r.pin j hj
/-- the list that a slot owns is changed -/
theorem R.write (r : R C G F0 ρ F σ H) {i : Nat} {xs ys : List PyData} {us : List V} {a : Addr} (e : ρ[i]? = some (.ow (.lst xs))) (ea : σ[i]? = some (some (.ref a))) (q : Reps C.K F us ys) : R C G F0 (ρ.set i (.ow (.lst ys))) F σ (L2.upd H a (.lst us)) := by
  obtain ⟨w, r⟩ := r
  obtain ⟨v, e2, a', rfl, vs, e3, q0, e4⟩ := r.slot i _ e
  rw [ea] at e2
  cases e2
  have hl : i < ρ.length := (List.getElem?_eq_some_iff.mp e).1
  have fa := (r.own a _ e4).1
  have ow : ∀ {j : Nat} {o : Own}, (ρ.set i (.ow (.lst ys)))[j]? = some (.ow o) → ∃ o', ρ[j]? = some (.ow o') := fun {j o} z => by
    by_cases h : i = j
    · subst h; exact ⟨_, e⟩
    · rw [List.getElem?_set_ne h] at z; exact ⟨_, z⟩
  refine ⟨w, by rw [List.length_set]; exact r.len, fun j s z => ?_, fun j k o o' u e1 e2 e3 e4 => ?_, fun b p z => ?_, fun b o z => ?_, fun b o z => ?_, r.frm, r.pin⟩
  · by_cases h : i = j
    · subst h
      rw [List.getElem?_set_self hl] at z
      cases z
      exact ⟨_, ea, a, rfl, us, upd_same, q, e4⟩
    · rw [List.getElem?_set_ne h] at z
      obtain ⟨v, e5, q5⟩ := r.slot j s z
      refine ⟨v, e5, ?_⟩
      cases s with
      | un => trivial
      | fz d => exact q5
      | sc ws => exact q5
      | ow o =>
        obtain ⟨b, rfl, q6⟩ := q5
        have nb : b ≠ a := fun y => h (r.sep i j _ _ _ e z ea (by rw [e5, y]))
        refine ⟨b, rfl, ?_⟩
        cases o with
        | lst zs =>
          obtain ⟨vs', h1, h2, h3⟩ := q6
          exact ⟨vs', by rw [upd_ne nb]; exact h1, h2, h3⟩
        | dic kvs =>
          obtain ⟨hs, h1, h2, h3⟩ := q6
          refine ⟨hs, by rw [upd_ne nb]; exact h1, ?_, h3⟩
          have go : ∀ {j : Nat} {f : List (Key × Fld)} {v : List (Key × V)}, FldsR C.K F H w b j f v → FldsR C.K F (L2.upd H a (.lst us)) w b j f v := by
            intro j f
            induction f generalizing j with
            | nil => intro v hq; cases v with
              | nil => trivial
              | cons _ _ => exact hq.elim
            | cons x r ih =>
              intro v hq
              obtain ⟨k, f⟩ := x
              cases v with
              | nil => exact hq.elim
              | cons y r' =>
                obtain ⟨k', v⟩ := y
                obtain ⟨h1, h2, h3⟩ := hq
                refine ⟨h1, ?_, ih h3⟩
                cases f with
                | dat d => exact h2
                | lst ws =>
                  obtain ⟨c, cs, y1, y2, y3, y4⟩ := h2
                  refine ⟨c, cs, y1, ?_, y3, y4⟩
                  rw [upd_ne (fun y => ?_)]
                  · exact y2
                  · subst y
                    rw [e4] at y4
                    cases y4
          exact go h2
  · obtain ⟨o1, h1⟩ := ow e1
    obtain ⟨o2, h2⟩ := ow e2
    exact r.sep j k o1 o2 u h1 h2 e3 e4
  · obtain ⟨h1, h2⟩ := r.own b p z
    refine ⟨h1, ?_⟩
    unfold L2.upd
    split
    · simp
    · exact h2
  · rw [upd_ne (fun y => by subst y; rw [fa] at z; cases z)]
    exact r.sub b o z
  · have : w b = none := (r.frm b (by rw [z]; simp)).2
    rw [upd_ne (fun y => by subst y; rw [e4] at this; cases this)]
    exact r.gle b o z
/-- the list that a slot owns becomes a datum for good -/
theorem R.freeze (r : R C G F0 ρ F σ H) {i : Nat} {xs : List PyData} (e : ρ[i]? = some (.ow (.lst xs))) : ∃ F' a, Le F F' ∧ σ[i]? = some (some (.ref a)) ∧ Rep C.K F' (.ref a) (.list xs) ∧ R C G F0 (ρ.set i (.fz (.list xs))) F' σ H := by
  obtain ⟨w, r⟩ := r
  obtain ⟨v, e2, a, rfl, vs, e3, q0, e4⟩ := r.slot i _ e
  have hl : i < ρ.length := (List.getElem?_eq_some_iff.mp e).1
  have fa := (r.own a _ e4).1
  have lf : Le F (L2.upd F a (.lst vs)) := (Le.refl F).upd fa
  have rp : Rep C.K (L2.upd F a (.lst vs)) (.ref a) (.list xs) := .lst upd_same (q0.mono lf)
  refine ⟨L2.upd F a (.lst vs), a, lf, e2, rp, fun b => if b = a then none else w b, by rw [List.length_set]; exact r.len, fun j s z => ?_, fun j k o o' u e1 e2 e3 e4 => ?_, fun b p z => ?_, fun b o z => ?_, r.gle, fun b h => ?_, r.pin⟩
  · by_cases h : i = j
    · subst h
      rw [List.getElem?_set_self hl] at z
      cases z
      exact ⟨_, e2, _, rfl, rp⟩
    · rw [List.getElem?_set_ne h] at z
      obtain ⟨v, e5, q5⟩ := r.slot j s z
      refine ⟨v, e5, ?_⟩
      cases s with
      | un => trivial
      | fz d => obtain ⟨u, y, q⟩ := q5; exact ⟨u, y, q.mono lf⟩
      | sc ws => obtain ⟨a', vs', y, q, q'⟩ := q5; exact ⟨a', vs', y, lf.sqL q, q'.mono lf⟩
      | ow o =>
        obtain ⟨b, rfl, q6⟩ := q5
        have nb : b ≠ a := fun y => h (r.sep i j _ _ _ e z e2 (by rw [e5, y]))
        refine ⟨b, rfl, ?_⟩
        cases o with
        | lst zs =>
          obtain ⟨vs', h1, h2, h3⟩ := q6
          exact ⟨vs', h1, h2.mono lf, (if_neg nb).trans h3⟩
        | dic kvs =>
          obtain ⟨hs, h1, h2, h3⟩ := q6
          refine ⟨hs, h1, ?_, (if_neg nb).trans h3⟩
          have go : ∀ {j : Nat} {f : List (Key × Fld)} {v : List (Key × V)}, FldsR C.K F H w b j f v → FldsR C.K (L2.upd F a (.lst vs)) H (fun b => if b = a then none else w b) b j f v := by
            intro j f
            induction f generalizing j with
            | nil => intro v hq; cases v with
              | nil => trivial
              | cons _ _ => exact hq.elim
            | cons x r ih =>
              intro v hq
              obtain ⟨k, f⟩ := x
              cases v with
              | nil => exact hq.elim
              | cons y r' =>
                obtain ⟨k', v⟩ := y
                obtain ⟨h1, h2, h3⟩ := hq
                refine ⟨h1, ?_, ih h3⟩
                cases f with
                | dat d => exact Rep.mono lf h2
                | lst ws =>
                  obtain ⟨c, cs, y1, y2, y3, y4⟩ := h2
                  refine ⟨c, cs, y1, y2, y3.mono lf, ?_⟩
                  show (if c = a then none else w c) = some (b, _)
                  rw [if_neg (fun y => by subst y; rw [e4] at y4; cases y4)]
                  exact y4
          exact go h2
  · have ne : ∀ {k : Nat} {o : Own}, (ρ.set i (.fz (.list xs)))[k]? = some (.ow o) → i ≠ k := fun {k o} e z => by
      subst z
      rw [List.getElem?_set] at e
      simp at e
    have h1 := ne e1
    have h2 := ne e2
    rw [List.getElem?_set_ne h1] at e1
    rw [List.getElem?_set_ne h2] at e2
    exact r.sep j k o o' u e1 e2 e3 e4
  · by_cases h : b = a
    · subst h
      rw [if_pos rfl] at z
      cases z
    · rw [if_neg h] at z
      rw [upd_ne h]
      exact r.own b p z
  · by_cases h : b = a
    · subst h
      rw [upd_same] at z
      cases z
      exact e3
    · rw [upd_ne h] at z
      exact r.sub b o z
  · obtain ⟨h1, h2⟩ := r.frm b h
    have nb : b ≠ a := fun y => by subst y; rw [e4] at h2; cases h2
    exact ⟨by rw [upd_ne nb]; exact h1, by rw [if_neg nb]; exact h2⟩
/-- a new object that nobody here owns or knows -/
theorem R.guard (r : R C G F0 ρ F σ H) {p : Addr} {o : HO} (n : H p = none) : R C (L2.upd G p o) F ρ F σ (L2.upd H p o) := by
  obtain ⟨w, r⟩ := r
  have wp : w p = none := by
    cases e : w p with
    | none => rfl
    | some z => exact absurd n (r.own p z e).2
  refine ⟨w, r.len, fun i s e => ?_, r.sep, fun a z e => ?_, r.sub.trans (.new n), r.gle.both, fun a h => ⟨rfl, ?_⟩, r.pin⟩
  · obtain ⟨v, e2, q⟩ := r.slot i s e
    exact ⟨v, e2, q.mono (.refl _) (fun a u _ h => by rw [upd_ne (ne_of_none h n)]; exact h) fun _ _ h => h⟩
  · obtain ⟨h1, h2⟩ := r.own a z e
    exact ⟨h1, fun y => h2 ((Le.new (o := o) n).none y)⟩
  · by_cases e : a = p
    · rw [e]; exact wp
    · rw [upd_ne e] at h
      exact (r.frm a h).2
/-- .. that object is changed -/
theorem R.guardW (r : R C (L2.upd G p o) F1 ρ F σ H) (n : F1 p = none) : R C (L2.upd G p o') F1 ρ F σ (L2.upd H p o') := by
  obtain ⟨w, r⟩ := r
  obtain ⟨f1, wp⟩ := r.frm p (by rw [upd_same]; simp)
  rw [n] at f1
  refine ⟨w, r.len, fun i s e => ?_, r.sep, fun a z e => ?_, fun a u e => ?_, fun a u e => ?_, fun a h => ?_, r.pin⟩
  · obtain ⟨v, e2, q⟩ := r.slot i s e
    refine ⟨v, e2, q.mono (.refl _) (fun a u hw h => ?_) fun _ _ h => h⟩
    rw [upd_ne (fun y : a = p => hw (y ▸ wp))]
    exact h
  · obtain ⟨h1, h2⟩ := r.own a z e
    rw [upd_ne (fun y => by subst y; rw [wp] at e; cases e)]
    exact ⟨h1, h2⟩
  · rw [upd_ne (fun y => by subst y; rw [f1] at e; cases e)]
    exact r.sub a u e
  · by_cases h : a = p
    · subst h
      rw [upd_same] at e ⊢
      exact e
    · rw [upd_ne h] at e ⊢
      exact r.gle a u (by rw [upd_ne h]; exact e)
  · refine r.frm a ?_
    by_cases e : a = p
    · rw [e, upd_same]; simp
    · rw [upd_ne e] at h ⊢
      exact h
/-- .. and is forgotten -/
theorem R.unguard (r : R C (L2.upd G p o) F1 ρ F σ H) (n : G p = none) (f : ∀ a, G a ≠ none → F1 a = F0 a) : R C G F0 ρ F σ H := by
  obtain ⟨w, r⟩ := r
  refine ⟨w, r.len, r.slot, r.sep, r.own, r.sub, fun a u e => r.gle a u ?_, fun a h => ?_, r.pin⟩
  · rw [upd_ne (ne_of_none e n)]; exact e
  · obtain ⟨h1, h2⟩ := r.frm a (by
      rw [upd_ne (fun y : a = p => h (y ▸ n))]
      exact h)
    exact ⟨h1.trans (f a h), h2⟩
theorem R.frm (r : R C G F0 ρ F σ H) : ∀ a, G a ≠ none → F a = F0 a := let ⟨_, r⟩ := r; fun a h => (r.frm a h).1
end
end Ev

set_option Elab.async false
set_option linter.all false
set_option maxRecDepth 100000
set_option maxHeartbeats 1000000
namespace Ev
open PySem PySem.Spec PyProof.Rows L2
/-! ## results -/
def Rs.bind {α β : Type} (r : Rs α) (f : α → Ens → Rs β) : Rs β := match r with
  | .ok a e => f a e
  | .exc x e => .exc x e
  | .bad => .bad
@[simp] theorem ok_bind {α β : Type} (a : α) (e : Ens) (f : α → Ens → Rs β) : (Rs.ok a e).bind f = f a e := rfl
@[simp] theorem exc_bind {α β : Type} (x : Ex) (e : Ens) (f : α → Ens → Rs β) : (Rs.exc x e).bind f = .exc x e := rfl
@[simp] theorem bad_bind {α β : Type} (f : α → Ens → Rs β) : Rs.bad.bind f = .bad := rfl
abbrev Den (α : Type) := Ens → Rs α
/-- a datum, or a list that a slot owns -/
def WR (K : Frag) (F H : Hp) (v : V) (d : PyData) : Prop := Rep K F v d ∨ ∃ ds a vs, d = .list ds ∧ v = .ref a ∧ H a = some (.lst vs) ∧ Reps K F vs ds
theorem WR.mono {K : Frag} {F H F' H' : Hp} (l : Le F F') (k : Le H H') {v : V} {d : PyData} (r : WR K F H v d) : WR K F' H' v d := r.elim (fun r => .inl (r.mono l)) fun ⟨ds, a, vs, e, e2, h, q⟩ => .inr ⟨ds, a, vs, e, e2, k _ _ h, q.mono l⟩
theorem WR.list {K : Frag} {F H : Hp} (l : Le F H) {v : V} {ds : List PyData} (r : WR K F H v (.list ds)) : ∃ a vs, v = .ref a ∧ H a = some (.lst vs) ∧ Reps K F vs ds := by
  rcases r with r | ⟨ds, a, vs, e, e2, h, q⟩
  · cases r with
    | lst h q => exact ⟨_, _, rfl, l _ _ h, q⟩
  · cases e
    exact ⟨a, vs, e2, h, q⟩
/-- what is no list is a datum -/
theorem WR.rep {K : Frag} {F H : Hp} {v : V} {d : PyData} (r : WR K F H v d) (h : ∀ ds, d ≠ .list ds) : Rep K F v d := by
  rcases r with r | ⟨ds, a, vs, e, _⟩
  · exact r
  · exact absurd e (h ds)
theorem WR.tuple {K : Frag} {F H : Hp} (l : Le F H) {v : V} {ds : List PyData} (r : WR K F H v (.tuple ds)) : ∃ a vs, v = .ref a ∧ SqT K H a vs ∧ Reps K F vs ds := by
  have r := r.rep fun _ => nofun
  cases r with
  | tup h q => exact ⟨_, _, rfl, l.sqT h, q⟩
/-- a datum, an owned list, or the script -/
def DR (K : Frag) (F H : Hp) (v : V) (d : PyData) : Prop := WR K F H v d ∨ ∃ ds a vs, d = .list ds ∧ v = .ref a ∧ SqL K H a vs ∧ Reps K F vs ds
theorem DR.mono {K : Frag} {F H F' H' : Hp} (l : Le F F') (k : Le H H') {v : V} {d : PyData} (r : DR K F H v d) : DR K F' H' v d := r.elim (fun r => .inl (r.mono l k)) fun ⟨ds, a, vs, e, e2, h, q⟩ => .inr ⟨ds, a, vs, e, e2, k.sqL h, q.mono l⟩
theorem DR.list {K : Frag} {F H : Hp} (l : Le F H) {v : V} {ds : List PyData} (r : DR K F H v (.list ds)) : ∃ a vs, v = .ref a ∧ SqL K H a vs ∧ Reps K F vs ds := by
  rcases r with r | ⟨ds, a, vs, e, e2, h, q⟩
  · obtain ⟨a, vs, e, h, q⟩ := r.list l
    exact ⟨a, vs, e, .of h, q⟩
  · cases e
    exact ⟨a, vs, e2, h, q⟩
theorem DR.tuple {K : Frag} {F H : Hp} (l : Le F H) {v : V} {ds : List PyData} (r : DR K F H v (.tuple ds)) : ∃ a vs, v = .ref a ∧ SqT K H a vs ∧ Reps K F vs ds := by
  rcases r with r | ⟨ds, a, vs, e, e2, h, q⟩
  · exact r.tuple l
  · cases e
theorem WR.int {K : Frag} {F H : Hp} {v : V} {i : Int} (r : WR K F H v (.int i)) : v = .int i := by
  have r := r.rep fun _ => nofun
  cases r; rfl
theorem WR.bl {K : Frag} {F H : Hp} {v : V} {i : Bool} (r : WR K F H v (.bool i)) : v = .bl i := by
  have r := r.rep fun _ => nofun
  cases r; rfl
theorem WR.str {K : Frag} {F H : Hp} {v : V} {i : Str} (r : WR K F H v (.str i)) : v = .str i := by
  have r := r.rep fun _ => nofun
  cases r; rfl
theorem WR.non {K : Frag} {F H : Hp} {v : V} (r : WR K F H v .none) : v = .non := by
  have r := r.rep fun _ => nofun
  cases r; rfl
/-- several -/
inductive DRs (K : Frag) (F H : Hp) : List V → List PyData → Prop
  | nil : DRs K F H [] []
  | cons {v : V} {vs : List V} {d : PyData} {ds : List PyData} : DR K F H v d → DRs K F H vs ds → DRs K F H (v :: vs) (d :: ds)
theorem Reps.drs {K : Frag} {F H : Hp} : ∀ {vs : List V} {ds : List PyData}, Reps K F vs ds → DRs K F H vs ds
  | _, _, .nil => .nil
  | _, _, .cons h r => .cons (.inl (.inl h)) r.drs
theorem DRs.one {K : Frag} {F H : Hp} {vs : List V} {d : PyData} (r : DRs K F H vs [d]) : ∃ v, vs = [v] ∧ DR K F H v d := by
  cases r with
  | cons h t => cases t; exact ⟨_, rfl, h⟩
theorem DRs.two {K : Frag} {F H : Hp} {vs : List V} {d e : PyData} (r : DRs K F H vs [d, e]) : ∃ v u, vs = [v, u] ∧ DR K F H v d ∧ DR K F H u e := by
  cases r with
  | cons h t =>
    obtain ⟨u, rfl, q⟩ := t.one
    exact ⟨_, _, rfl, h, q⟩
/-- what is no list is a datum -/
theorem DR.rep {K : Frag} {F H : Hp} {v : V} {d : PyData} (r : DR K F H v d) (h : ∀ ds, d ≠ .list ds) : Rep K F v d := by
  rcases r with r | ⟨ds, a, vs, e, _⟩
  · exact r.rep h
  · exact absurd e (h ds)
theorem DR.int {K : Frag} {F H : Hp} {v : V} {i : Int} (r : DR K F H v (.int i)) : v = .int i := by
  have r := r.rep fun _ => nofun
  cases r; rfl
theorem DR.bl {K : Frag} {F H : Hp} {v : V} {i : Bool} (r : DR K F H v (.bool i)) : v = .bl i := by
  have r := r.rep fun _ => nofun
  cases r; rfl
theorem DR.str {K : Frag} {F H : Hp} {v : V} {i : Str} (r : DR K F H v (.str i)) : v = .str i := by
  have r := r.rep fun _ => nofun
  cases r; rfl
/-- what an exception bears -/
def ExR (K : Frag) (mg : Str → Option Value) (F H : Hp) (cls : Value) (dd : Option Addr) (x : Ex) : Prop :=
  mg x.cls = some cls ∧ match x.arg with
    | none => dd = none
    | some (f, d) => ∃ a v, dd = some a ∧ H a = some (.xd [(f, v)]) ∧ Rep K F v d
/-! ## the transformers of a denotation -/
abbrev en (X : Cx) (io : List Nat) (s0 : L2.St) : En := ⟨X.K, X.mg, io, s0⟩
/-- behind a part: Q of what it gave -/
def Post {α β : Type} (Rel : Hp → Hp → β → α → Prop) (C : En) (W : WX) (c : Bool) (G F0 F : Hp) (σ : L2.St) (H : Hp) (Q : β → Hp → Hp → α → Ens → Prop) : Rs α → Prop
  | .ok d ρ' => ∀ v F' H', R C G F0 ρ' F' σ H' → Le F F' → (c = true → Le H H') → Rel F' H' v d → Q v F' H' d ρ'
  | .exc x ρ' => ∀ cls dd F' H', R C G F0 ρ' F' σ H' → Le F F' → ExR C.K C.mg F' H' cls dd x → W cls dd σ H'
  | .bad => False
section
variable {α β γ δ : Type} {Rel : Hp → Hp → β → α → Prop} {Rel2 : Hp → Hp → δ → γ → Prop} {C : En} {W : WX} {c c1 : Bool} {G F0 F F' H H' : Hp} {σ : L2.St} {Q Q' : β → Hp → Hp → α → Ens → Prop} {Q2 : δ → Hp → Hp → γ → Ens → Prop}
theorem Post.shift {r : Rs α} (q : Post Rel C W c G F0 F σ H Q r) (l : Le F F') (k : c = true → Le H H') : Post Rel C W c G F0 F' σ H' Q r := by
  cases r with
  | ok d ρ => exact fun v F2 H2 r2 l2 k2 p => q v F2 H2 r2 (l.trans l2) (fun h => (k h).trans (k2 h)) p
  | exc x ρ => exact fun cls dd F2 H2 r2 l2 p => q cls dd F2 H2 r2 (l.trans l2) p
  | bad => exact q
theorem Post.bind {r : Rs α} {k : α → Ens → Rs γ} (q : Post Rel2 C W c G F0 F σ H Q2 (r.bind k)) (hc : c = true → c1 = true) : Post Rel C W c1 G F0 F σ H (fun _ F' H' d ρ' => Post Rel2 C W c G F0 F' σ H' Q2 (k d ρ')) r := by
  cases r with
  | ok d ρ => exact fun v F2 H2 r2 l2 k2 p => Post.shift (r := k d ρ) q l2 fun h => k2 (hc h)
  | exc x ρ => exact q
  | bad => exact q
theorem Post.imp {r : Rs α} (q : Post Rel C W c G F0 F σ H Q r) (h : ∀ v F' H' d ρ', R C G F0 ρ' F' σ H' → Le F F' → (c = true → Le H H') → Rel F' H' v d → Q v F' H' d ρ' → Q' v F' H' d ρ') : Post Rel C W c G F0 F σ H Q' r := by
  cases r with
  | ok d ρ => exact fun v F2 H2 r2 l2 k2 p => h _ _ _ _ _ r2 l2 k2 p (q v F2 H2 r2 l2 k2 p)
  | exc x ρ => exact q
  | bad => exact q
/-- the end of a chain -/
theorem Post.lift {o : Option α} {ρ : Ens} (q : Post Rel C W c G F0 F σ H Q (match o with | some d => .ok d ρ | none => .bad)) : ∃ d, o = some d ∧ ∀ v F' H', R C G F0 ρ F' σ H' → Le F F' → (c = true → Le H H') → Rel F' H' v d → Q v F' H' d ρ := by
  cases o with
  | some d => exact ⟨d, rfl, q⟩
  | none => exact q.elim
end
def lift {α : Type} (o : Option α) : Den α := fun ρ => match o with
  | some d => .ok d ρ
  | none => .bad
section
variable (C : En) (W : WX) (c : Bool)
def tE (f : Den PyData) : TE := fun σ H Q => ∃ G F0 ρ F, R C G F0 ρ F σ H ∧ Post (fun F _ v d => Rep C.K F v d) C W c G F0 F σ H (fun v _ H' _ _ => Q v H') (f ρ)
def tEW (f : Den PyData) : TE := fun σ H Q => ∃ G F0 ρ F, R C G F0 ρ F σ H ∧ Post (fun F H v d => WR C.K F H v d) C W c G F0 F σ H (fun v _ H' _ _ => Q v H') (f ρ)
def tED (f : Den PyData) : TE := fun σ H Q => ∃ G F0 ρ F, R C G F0 ρ F σ H ∧ Post (fun F H v d => DR C.K F H v d) C W c G F0 F σ H (fun v _ H' _ _ => Q v H') (f ρ)
def tT (f : Den Bool) : TT := fun σ H Q => ∃ G F0 ρ F, R C G F0 ρ F σ H ∧ Post (fun _ _ v d => v = d) C W c G F0 F σ H (fun v _ H' _ _ => Q v H') (f ρ)
def tA (f : Den (List PyData)) : TA := fun σ H Q => ∃ G F0 ρ F, R C G F0 ρ F σ H ∧ Post (fun F H v d => DRs C.K F H v d) C W c G F0 F σ H (fun v _ H' _ _ => Q v H') (f ρ)
end
/-- outcomes of a statement -/
inductive Out where
  | nx (e : Ens)
  | bk (e : Ens)
  | ct (e : Ens)
  | rt (d : PyData) (e : Ens)
  | ro (o : Own) (e : Ens)
  | exc (x : Ex) (e : Ens)
  | bad
/-- .. and an object that nobody else holds -/
def RO (C : En) (G F0 : Hp) (ρ : Ens) (F : Hp) (σ : L2.St) (H : Hp) (o : Own) (a : Addr) : Prop := ∃ w, RW C G F0 ρ F σ H w ∧ OwnR C.K F H w o a ∧ ∀ (i : Nat) (o' : Own), ρ[i]? = some (.ow o') → σ[i]? ≠ some (some (.ref a))
abbrev DenS := Ens → Out
section
variable (C : En) (W : WX)
def PostS (G F0 F : Hp) (D : Ends) : Out → Prop
  | .nx ρ' => ∀ σ' F' H', R C G F0 ρ' F' σ' H' → Le F F' → D.nx σ' H'
  | .bk ρ' => ∀ σ' F' H', R C G F0 ρ' F' σ' H' → Le F F' → D.bk σ' H'
  | .ct ρ' => ∀ σ' F' H', R C G F0 ρ' F' σ' H' → Le F F' → D.ct σ' H'
  | .rt d ρ' => ∀ v σ' F' H', R C G F0 ρ' F' σ' H' → Le F F' → Rep C.K F' v d → D.rt v H'
  | .ro o ρ' => ∀ a σ' F' H', RO C G F0 ρ' F' σ' H' o a → Le F F' → D.rt (.ref a) H'
  | .exc x ρ' => ∀ cls dd σ' F' H', R C G F0 ρ' F' σ' H' → Le F F' → ExR C.K C.mg F' H' cls dd x → W cls dd σ' H'
  | .bad => False
def tS (g : DenS) : TS := fun D σ H => ∃ G F0 ρ F, R C G F0 ρ F σ H ∧ PostS C W G F0 F D (g ρ)
end
/-! ## weakening -/
section
variable {X : Cx} {e : Expr} {t t' : TE} {C : En} {W : WX} {c : Bool}
theorem pe_weak (h : PE X e t) (w : ∀ σ H Q, t' σ H Q → t σ H Q) : PE X e t' := ⟨fun pins s σ H Q I q => h.run pins s σ H Q I (w σ H Q q)⟩
theorem pt_weak {t t' : TT} (h : PT X e t) (w : ∀ σ H Q, t' σ H Q → t σ H Q) : PT X e t' := ⟨fun pins s σ H Q I q => h.run pins s σ H Q I (w σ H Q q)⟩
theorem pw_weak {t t' : TT} (h : PW X e t) (w : ∀ σ H Q, t' σ H Q → t σ H Q) : PW X e t' := ⟨fun whole pins s σ H Q I q => h.run whole pins s σ H Q I (w σ H Q q)⟩
theorem pa_weak {es : List Expr} {t t' : TA} (h : PA X es t) (w : ∀ σ H Q, t' σ H Q → t σ H Q) : PA X es t' := ⟨fun pos pins s σ H Q I q => h.run pos pins s σ H Q I (w σ H Q q)⟩
theorem ps_weak {st : Stmt} {t t' : TS} (h : PS X st t) (w : ∀ D σ H, t' D σ H → t D σ H) : PS X st t' := ⟨fun pins s σ H D I q => h.run pins s σ H D I (w D σ H q)⟩
theorem pss_weak {st : List Stmt} {t t' : TS} (h : PSs X st t) (w : ∀ D σ H, t' D σ H → t D σ H) : PSs X st t' := ⟨fun pins s σ H D I q => h.run pins s σ H D I (w D σ H q)⟩
theorem me_toW {f : Den PyData} (h : PE X e (tE C W c f)) : PE X e (tEW C W c f) := pe_weak h fun σ H Q ⟨G, F0, ρ, F, r, q⟩ => ⟨G, F0, ρ, F, r, by
  cases e : f ρ with
  | ok d ρ' => rw [e] at q; exact fun v F' H' r' l k p => q v F' H' r' l k (.inl p)
  | exc x ρ' => rw [e] at q; exact q
  | bad => rw [e] at q; exact q⟩
theorem me_toD {f : Den PyData} (h : PE X e (tEW C W c f)) : PE X e (tED C W c f) := pe_weak h fun σ H Q ⟨G, F0, ρ, F, r, q⟩ => ⟨G, F0, ρ, F, r, by
  cases e : f ρ with
  | ok d ρ' => rw [e] at q; exact fun v F' H' r' l k p => q v F' H' r' l k (.inl p)
  | exc x ρ' => rw [e] at q; exact q
  | bad => rw [e] at q; exact q⟩
/-- the same denotation, told otherwise -/
theorem me_eq {f f' : Den PyData} (h : PE X e (tE C W c f)) (q : ∀ ρ, f ρ = f' ρ) : PE X e (tE C W c f') := by
  have : f = f' := funext q
  rw [← this]; exact h
end
/-! ## operations by values -/
/-- what a two-place operation on data gives, told by the layer's rule r -/
def VOp (K : Frag) (g : PyData → PyData → Option PyData) (r : R2) : Prop :=
  ∀ x y dx dy d (F H : Hp) (Q : VK), Le F H → WR K F H x dx → WR K F H y dy → g dx dy = some d → (∀ v F' H', Ext F H F' H' → Rep K F' v d → Q v H') → r x y H Q
def VUn (K : Frag) (g : PyData → Option PyData) (r : V → Hp → VK → Prop) : Prop :=
  ∀ x dx d (F H : Hp) (Q : VK), Le F H → WR K F H x dx → g dx = some d → (∀ v F' H', Ext F H F' H' → Rep K F' v d → Q v H') → r x H Q
def VFn (K : Frag) (g : List PyData → Option PyData) (r : List V → Hp → VK → Prop) : Prop :=
  ∀ xs ds d (F H : Hp) (Q : VK), Le F H → DRs K F H xs ds → g ds = some d → (∀ v F' H', Ext F H F' H' → Rep K F' v d → Q v H') → r xs H Q
def bin (g : PyData → PyData → Option PyData) (fa fb : Den PyData) : Den PyData := fun ρ => (fa ρ).bind fun d1 ρ1 => (fb ρ1).bind fun d2 ρ2 => lift (g d1 d2) ρ2
def una (g : PyData → Option PyData) (fa : Den PyData) : Den PyData := fun ρ => (fa ρ).bind fun d1 ρ1 => lift (g d1) ρ1
def fnc (g : List PyData → Option PyData) (fa : Den (List PyData)) : Den PyData := fun ρ => (fa ρ).bind fun d1 ρ1 => lift (g d1) ρ1
def asB : PyData → Option Bool
  | .bool b => some b
  | _ => none
def tst (fa : Den PyData) : Den Bool := fun ρ => (fa ρ).bind fun d1 ρ1 => lift (asB d1) ρ1
section
variable {X : Cx} {io : List Nat} {s0 : L2.St} {W : WX} {c : Bool} {a b : Expr} {fa fb : Den PyData} {g g' : PyData → PyData → Option PyData} {r r' : R2} {pos : Pos}
theorem val2 (hg : VOp X.K g r) {σ : L2.St} {H : Hp} {Q : VK} (h : tE (en X io s0) W c (bin g fa fb) σ H Q) : tOp r (tEW (en X io s0) W c fa) (tEW (en X io s0) W true fb) σ H Q := by
  obtain ⟨G, F0, ρ, F, rr, q⟩ := h
  refine ⟨G, F0, ρ, F, rr, (Post.bind q id).imp fun x F1 H1 d1 ρ1 r1 l1 k1 p1 q1 => ?_⟩
  refine ⟨G, F0, ρ1, F1, r1, (Post.bind q1 fun _ => rfl).imp fun y F2 H2 d2 ρ2 r2 l2 k2 p2 q2 => ?_⟩
  obtain ⟨d, e, q3⟩ := Post.lift q2
  exact hg x y d1 d2 d F2 H2 Q r2.sub (p1.mono l2 (k2 rfl)) p2 e fun v F3 H3 z p => q3 v F3 H3 (r2.ext z) z.fle (fun _ => z.hle) p
theorem val2' (hg : VOp X.K g r) {σ : L2.St} {H : Hp} {Q : VK} (h : tE (en X io s0) W c (bin g fa fb) σ H Q) : tOp r (tE (en X io s0) W c fa) (tEW (en X io s0) W c fb) σ H Q := by
  obtain ⟨G, F0, ρ, F, rr, q⟩ := h
  refine ⟨G, F0, ρ, F, rr, (Post.bind q id).imp fun x F1 H1 d1 ρ1 r1 l1 k1 p1 q1 => ?_⟩
  refine ⟨G, F0, ρ1, F1, r1, (Post.bind q1 id).imp fun y F2 H2 d2 ρ2 r2 l2 k2 p2 q2 => ?_⟩
  obtain ⟨d, e, q3⟩ := Post.lift q2
  exact hg x y d1 d2 d F2 H2 Q r2.sub (.inl (Rep.mono l2 p1)) p2 e fun v F3 H3 z p => q3 v F3 H3 (r2.ext z) z.fle (fun _ => z.hle) p
theorem me_bin {op : Operator} (ho : OpR X (binaryOp op) r) (hg : VOp X.K g r) (ha : PE X a (tEW (en X io s0) W c fa)) (hb : PE X b (tEW (en X io s0) W true fb)) : PE X (.BinOp a op b pos) (tE (en X io s0) W c (bin g fa fb)) := pe_weak (pe_op ho ha hb) fun _ _ _ h => val2 hg h
theorem me_bin' {op : Operator} (ho : OpR X (binaryOp op) r) (hg : VOp X.K g r) (ha : PE X a (tE (en X io s0) W c fa)) (hb : PE X b (tEW (en X io s0) W c fb)) : PE X (.BinOp a op b pos) (tE (en X io s0) W c (bin g fa fb)) := pe_weak (pe_op ho ha hb) fun _ _ _ h => val2' hg h
theorem me_cmp {op : CmpOp} (ho : OpR X (compareOp op) r) (hg : VOp X.K g r) (hm : behindInMarks op b = false) (ha : PE X a (tEW (en X io s0) W c fa)) (hb : PE X b (tEW (en X io s0) W true fb)) : PE X (.Compare a [op] [b] pos) (tE (en X io s0) W c (bin g fa fb)) := pe_weak (pe_cmpR ho ha hb hm) fun _ _ _ h => val2 hg h
theorem me_cmp' {op : CmpOp} (ho : OpR X (compareOp op) r) (hg : VOp X.K g r) (hm : behindInMarks op b = false) (ha : PE X a (tE (en X io s0) W c fa)) (hb : PE X b (tEW (en X io s0) W c fb)) : PE X (.Compare a [op] [b] pos) (tE (en X io s0) W c (bin g fa fb)) := pe_weak (pe_cmpR ho ha hb hm) fun _ _ _ h => val2' hg h
/-- a value's test -/
theorem tst_of {σ : L2.St} {H : Hp} {Q : Bool → Hp → Prop} (h : tT (en X io s0) W c (tst fa) σ H Q) : tE (en X io s0) W c fa σ H (fun x H1 => ∃ b, x = .bl b ∧ Q b H1) := by
  obtain ⟨G, F0, ρ, F, rr, q⟩ := h
  refine ⟨G, F0, ρ, F, rr, (Post.bind q id).imp fun x F1 H1 d1 ρ1 r1 l1 k1 p1 q1 => ?_⟩
  obtain ⟨b, e, q2⟩ := Post.lift q1
  cases d1 with
  | bool b' =>
    cases e
    cases p1
    exact ⟨_, rfl, q2 _ F1 H1 r1 (.refl _) (fun _ => .refl _) rfl⟩
  | _ => cases e
theorem mt_val (ha : PE X a (tE (en X io s0) W c fa)) (he : ∀ whole, isTrue a X.env whole = (do let v ← whole; standAt a.pos; holding [v] (truthy v))) : PT X a (tT (en X io s0) W c (tst fa)) := pt_weak (pt_val ha he) fun _ _ _ h => tst_of h
theorem mt_cmp {op : CmpOp} (ho : OpR X (compareOp op) r) (hg : VOp X.K g r) (hm : behindInMarks op b = false) (ha : PE X a (tEW (en X io s0) W c fa)) (hb : PE X b (tEW (en X io s0) W true fb)) : PT X (.Compare a [op] [b] pos) (tT (en X io s0) W c (tst (bin g fa fb))) := pt_weak (pt_cmpR ho ha hb hm) fun _ _ _ h => val2 hg (tst_of h)
theorem mt_cmp' {op : CmpOp} (ho : OpR X (compareOp op) r) (hg : VOp X.K g r) (hm : behindInMarks op b = false) (ha : PE X a (tE (en X io s0) W c fa)) (hb : PE X b (tEW (en X io s0) W c fb)) : PT X (.Compare a [op] [b] pos) (tT (en X io s0) W c (tst (bin g fa fb))) := pt_weak (pt_cmpR ho ha hb hm) fun _ _ _ h => val2' hg (tst_of h)
end
end Ev

set_option Elab.async false
set_option linter.all false
set_option maxRecDepth 100000
set_option maxHeartbeats 1000000
namespace Ev
open PySem PySem.Spec PyProof.Rows L2
/-! ## names, constants -/
def dVar (i : Nat) : Den PyData := fun ρ => match ρ[i]? with
  | some (.fz d) => .ok d ρ
  | _ => .bad
/-- a name whose list may be owned: where it is only read -/
def dOwn (i : Nat) : Den PyData := fun ρ => match ρ[i]? with
  | some (.fz d) => .ok d ρ
  | some (.ow (.lst xs)) => .ok (.list xs) ρ
  | _ => .bad
/-- .. or the script -/
def dRd (i : Nat) : Den PyData := fun ρ => match ρ[i]? with
  | some (.fz d) => .ok d ρ
  | some (.ow (.lst xs)) => .ok (.list xs) ρ
  | some (.sc xs) => .ok (.list xs) ρ
  | _ => .bad
/-- a name whose list is handed on for good -/
def dFrz (i : Nat) : Den PyData := fun ρ => match ρ[i]? with
  | some (.fz d) => .ok d ρ
  | some (.ow (.lst xs)) => .ok (.list xs) (ρ.set i (.fz (.list xs)))
  | _ => .bad
def dCon (d : PyData) : Den PyData := fun ρ => .ok d ρ
section
variable {X : Cx} {io : List Nat} {s0 : L2.St} {W : WX} {c : Bool} {i : Nat} {x : Str} {pos : Pos}
theorem me_var (hN : X.N[i]? = some x) (hv : Vis X.env.scope x) (hd : (x == ("__debug__" : Str)) = false) (hcd : (x == ("__classdict__" : Str)) = false) : PE X (.Name x pos) (tE (en X io s0) W c (dVar i)) := pe_weak (pe_var hN hv hd hcd) fun σ H Q ⟨G, F0, ρ, F, r, q⟩ => by
  unfold dVar at q
  split at q
  · rename_i d e
    obtain ⟨v, e2, p⟩ := r.fz e
    exact ⟨v, e2, q v F H r (.refl _) (fun _ => .refl _) p⟩
  · exact q.elim
theorem me_own (hN : X.N[i]? = some x) (hv : Vis X.env.scope x) (hd : (x == ("__debug__" : Str)) = false) (hcd : (x == ("__classdict__" : Str)) = false) : PE X (.Name x pos) (tEW (en X io s0) W c (dOwn i)) := pe_weak (pe_var hN hv hd hcd) fun σ H Q ⟨G, F0, ρ, F, r, q⟩ => by
  unfold dOwn at q
  split at q
  · rename_i d e
    obtain ⟨v, e2, p⟩ := r.fz e
    exact ⟨v, e2, q v F H r (.refl _) (fun _ => .refl _) (.inl p)⟩
  · rename_i xs e
    obtain ⟨a, vs, e2, e3, p⟩ := r.lst e
    exact ⟨_, e2, q _ F H r (.refl _) (fun _ => .refl _) (.inr ⟨xs, a, vs, rfl, rfl, e3, p⟩)⟩
  · exact q.elim
theorem me_rd (hN : X.N[i]? = some x) (hv : Vis X.env.scope x) (hd : (x == ("__debug__" : Str)) = false) (hcd : (x == ("__classdict__" : Str)) = false) : PE X (.Name x pos) (tED (en X io s0) W c (dRd i)) := pe_weak (pe_var hN hv hd hcd) fun σ H Q ⟨G, F0, ρ, F, r, q⟩ => by
  unfold dRd at q
  split at q
  · rename_i d e
    obtain ⟨v, e2, p⟩ := r.fz e
    exact ⟨v, e2, q v F H r (.refl _) (fun _ => .refl _) (.inl (.inl p))⟩
  · rename_i xs e
    obtain ⟨a, vs, e2, e3, p⟩ := r.lst e
    exact ⟨_, e2, q _ F H r (.refl _) (fun _ => .refl _) (.inl (.inr ⟨xs, a, vs, rfl, rfl, e3, p⟩))⟩
  · rename_i xs e
    obtain ⟨a, vs, e2, e3, p⟩ := r.sc e
    exact ⟨_, e2, q _ F H r (.refl _) (fun _ => .refl _) (.inr ⟨xs, a, vs, rfl, rfl, e3, p⟩)⟩
  · exact q.elim
theorem me_frz (hN : X.N[i]? = some x) (hv : Vis X.env.scope x) (hd : (x == ("__debug__" : Str)) = false) (hcd : (x == ("__classdict__" : Str)) = false) : PE X (.Name x pos) (tE (en X io s0) W c (dFrz i)) := pe_weak (pe_var hN hv hd hcd) fun σ H Q ⟨G, F0, ρ, F, r, q⟩ => by
  unfold dFrz at q
  split at q
  · rename_i d e
    obtain ⟨v, e2, p⟩ := r.fz e
    exact ⟨v, e2, q v F H r (.refl _) (fun _ => .refl _) p⟩
  · rename_i xs e
    obtain ⟨F', a, l, e2, p, r'⟩ := r.freeze e
    exact ⟨_, e2, q _ F' H r' l (fun _ => .refl _) p⟩
  · exact q.elim
theorem me_con {e : Expr} {v : V} {d : PyData} (h : PE X e (tC v)) (p : ∀ F, Rep X.K F v d) : PE X e (tE (en X io s0) W c (dCon d)) := pe_weak h fun σ H Q ⟨G, F0, ρ, F, r, q⟩ => q v F H r (.refl _) (fun _ => .refl _) (p F)
theorem me_int {n : Int} {j : Nat} : PE X (.Constant (.int n) j pos) (tE (en X io s0) W c (dCon (.int n))) := me_con pe_int fun _ => .int n
theorem me_bl {n : Bool} {j : Nat} : PE X (.Constant (.bool n) j pos) (tE (en X io s0) W c (dCon (.bool n))) := me_con pe_bl fun _ => .bl n
theorem me_non {j : Nat} : PE X (.Constant .none j pos) (tE (en X io s0) W c (dCon .none)) := me_con pe_non fun _ => .non
theorem me_str {n : Str} {j : Nat} : PE X (.Constant (.str n) j pos) (tE (en X io s0) W c (dCon (.str n))) := me_con pe_str fun _ => .str n
theorem me_gint {n : Int} {t : Tok} (hg : Gl X x) (hm : X.mg x = some (.int n t)) (hd : (x == ("__debug__" : Str)) = false) : PE X (.Name x pos) (tE (en X io s0) W c (dCon (.int n))) := me_con (pe_glob (v := .int n) hg hm ⟨_, rfl⟩ hd) fun _ => .int n
end
/-! ## and, or, not, a if c else b, a < b < c -/
def dAnd (fa fb : Den PyData) : Den PyData := fun ρ => (fa ρ).bind fun d ρ1 => match d with
  | .bool true => fb ρ1
  | .bool false => .ok (.bool false) ρ1
  | _ => .bad
def dOr (fa fb : Den PyData) : Den PyData := fun ρ => (fa ρ).bind fun d ρ1 => match d with
  | .bool true => .ok (.bool true) ρ1
  | .bool false => fb ρ1
  | _ => .bad
def dNot (fa : Den PyData) : Den PyData := fun ρ => (fa ρ).bind fun d ρ1 => match d with
  | .bool b => .ok (.bool !b) ρ1
  | _ => .bad
def dIte (fc fa fb : Den PyData) : Den PyData := fun ρ => (fc ρ).bind fun d ρ1 => match d with
  | .bool true => fa ρ1
  | .bool false => fb ρ1
  | _ => .bad
def dChain (g g' : PyData → PyData → Option PyData) (fa fb fc : Den PyData) : Den PyData := fun ρ => (fa ρ).bind fun d1 ρ1 => (fb ρ1).bind fun d2 ρ2 => match g d1 d2 with
  | some (.bool true) => (fc ρ2).bind fun d3 ρ3 => lift (g' d2 d3) ρ3
  | some (.bool false) => .ok (.bool false) ρ2
  | _ => .bad
section
variable {X : Cx} {io : List Nat} {s0 : L2.St} {W : WX} {c : Bool} {a b e : Expr} {rest : List Expr} {fa fb fc : Den PyData} {g g' : PyData → PyData → Option PyData} {r r' : R2} {pos : Pos}
theorem me_one {op : BoolOp} (h : PE X a (tE (en X io s0) W c fa)) : PE X (.BoolOp op [a] pos) (tE (en X io s0) W c fa) := pe_one h
theorem me_and (ha : PE X a (tE (en X io s0) W c fa)) (hb : PE X (.BoolOp .And (b :: rest) pos) (tE (en X io s0) W c fb)) : PE X (.BoolOp .And (a :: b :: rest) pos) (tE (en X io s0) W c (dAnd fa fb)) := pe_weak (pe_and ha hb) fun σ H Q ⟨G, F0, ρ, F, r, q⟩ =>
  ⟨G, F0, ρ, F, r, (Post.bind q id).imp fun v F1 H1 d ρ1 r1 l1 k1 p1 q1 => by
    cases d with
    | bool z =>
      cases p1
      cases z with
      | true => exact ⟨true, rfl, ⟨G, F0, ρ1, F1, r1, q1⟩⟩
      | false => exact ⟨false, rfl, q1 _ F1 H1 r1 (.refl _) (fun _ => .refl _) (.bl false)⟩
    | _ => exact q1.elim⟩
theorem me_or (ha : PE X a (tE (en X io s0) W c fa)) (hb : PE X (.BoolOp .Or (b :: rest) pos) (tE (en X io s0) W c fb)) : PE X (.BoolOp .Or (a :: b :: rest) pos) (tE (en X io s0) W c (dOr fa fb)) := pe_weak (pe_or ha hb) fun σ H Q ⟨G, F0, ρ, F, r, q⟩ =>
  ⟨G, F0, ρ, F, r, (Post.bind q id).imp fun v F1 H1 d ρ1 r1 l1 k1 p1 q1 => by
    cases d with
    | bool z =>
      cases p1
      cases z with
      | false => exact ⟨false, rfl, ⟨G, F0, ρ1, F1, r1, q1⟩⟩
      | true => exact ⟨true, rfl, q1 _ F1 H1 r1 (.refl _) (fun _ => .refl _) (.bl true)⟩
    | _ => exact q1.elim⟩
theorem me_not (ha : PE X a (tE (en X io s0) W c fa)) : PE X (.UnaryOp .Not a pos) (tE (en X io s0) W c (dNot fa)) := pe_weak (pe_not ha) fun σ H Q ⟨G, F0, ρ, F, r, q⟩ =>
  ⟨G, F0, ρ, F, r, (Post.bind q id).imp fun v F1 H1 d ρ1 r1 l1 k1 p1 q1 => by
    cases d with
    | bool z =>
      cases p1
      exact ⟨z, rfl, q1 _ F1 H1 r1 (.refl _) (fun _ => .refl _) (.bl _)⟩
    | _ => exact q1.elim⟩
theorem me_ite (hc : PT X e (tT (en X io s0) W c (tst fc))) (ha : PE X a (tE (en X io s0) W c fa)) (hb : PE X b (tE (en X io s0) W c fb)) : PE X (.IfExp e a b pos) (tE (en X io s0) W c (dIte fc fa fb)) := pe_weak (pe_ifExp hc ha hb) fun σ H Q ⟨G, F0, ρ, F, r, q⟩ =>
  ⟨G, F0, ρ, F, r, by
    unfold dIte at q
    unfold tst
    cases e : fc ρ with
    | exc x ρ1 => rw [e] at q; exact q
    | bad => rw [e] at q; exact q
    | ok d ρ1 =>
      rw [e] at q
      cases d with
      | bool z =>
        rintro v F1 H1 r1 l1 k1 rfl
        cases v with
        | true => exact ⟨G, F0, ρ1, F1, r1, Post.shift (r := fa ρ1) q l1 k1⟩
        | false => exact ⟨G, F0, ρ1, F1, r1, Post.shift (r := fb ρ1) q l1 k1⟩
      | _ => exact q.elim⟩
/-- tests of and, or, not -/
theorem mw_one_and (h : PT X a (tT (en X io s0) W c (tst fa))) : PW X (.BoolOp .And [a] pos) (tT (en X io s0) W c (tst fa)) := pw_and1 h
theorem mw_one_or (h : PT X a (tT (en X io s0) W c (tst fa))) : PW X (.BoolOp .Or [a] pos) (tT (en X io s0) W c (tst fa)) := pw_or1 h
theorem mw_and (ha : PT X a (tT (en X io s0) W c (tst fa))) (hb : PW X (.BoolOp .And (b :: rest) pos) (tT (en X io s0) W c (tst fb))) : PW X (.BoolOp .And (a :: b :: rest) pos) (tT (en X io s0) W c (tst (dAnd fa fb))) := pw_weak (pw_and ha hb) fun σ H Q ⟨G, F0, ρ, F, r, q⟩ =>
  ⟨G, F0, ρ, F, r, by
    unfold tst dAnd at q
    unfold tst
    cases e : fa ρ with
    | exc x ρ1 => rw [e] at q; exact q
    | bad => rw [e] at q; exact q
    | ok d ρ1 =>
      rw [e] at q
      cases d with
      | bool z =>
        rintro v F1 H1 r1 l1 k1 rfl
        cases v with
        | true => exact ⟨G, F0, ρ1, F1, r1, Post.shift (r := (fb ρ1).bind fun d1 ρ1 => lift (asB d1) ρ1) q l1 k1⟩
        | false => exact Post.shift (r := Rs.ok false ρ1) q l1 k1 false F1 H1 r1 (.refl _) (fun _ => .refl _) rfl
      | _ => exact q.elim⟩
theorem mw_or (ha : PT X a (tT (en X io s0) W c (tst fa))) (hb : PW X (.BoolOp .Or (b :: rest) pos) (tT (en X io s0) W c (tst fb))) : PW X (.BoolOp .Or (a :: b :: rest) pos) (tT (en X io s0) W c (tst (dOr fa fb))) := pw_weak (pw_or ha hb) fun σ H Q ⟨G, F0, ρ, F, r, q⟩ =>
  ⟨G, F0, ρ, F, r, by
    unfold tst dOr at q
    unfold tst
    cases e : fa ρ with
    | exc x ρ1 => rw [e] at q; exact q
    | bad => rw [e] at q; exact q
    | ok d ρ1 =>
      rw [e] at q
      cases d with
      | bool z =>
        rintro v F1 H1 r1 l1 k1 rfl
        cases v with
        | false => exact ⟨G, F0, ρ1, F1, r1, Post.shift (r := (fb ρ1).bind fun d1 ρ1 => lift (asB d1) ρ1) q l1 k1⟩
        | true => exact Post.shift (r := Rs.ok true ρ1) q l1 k1 true F1 H1 r1 (.refl _) (fun _ => .refl _) rfl
      | _ => exact q.elim⟩
theorem mt_not (ha : PT X a (tT (en X io s0) W c (tst fa))) : PT X (.UnaryOp .Not a pos) (tT (en X io s0) W c (tst (dNot fa))) := pt_weak (pt_not ha) fun σ H Q ⟨G, F0, ρ, F, r, q⟩ =>
  ⟨G, F0, ρ, F, r, by
    unfold tst dNot at q
    unfold tst
    cases e : fa ρ with
    | exc x ρ1 => rw [e] at q; exact q
    | bad => rw [e] at q; exact q
    | ok d ρ1 =>
      rw [e] at q
      cases d with
      | bool z =>
        rintro v F1 H1 r1 l1 k1 rfl
        exact q _ F1 H1 r1 l1 k1 rfl
      | _ => exact q.elim⟩
theorem chain_of (hg : VOp X.K g r) (hg' : VOp X.K g' r') {σ : L2.St} {H : Hp} {Q : VK} (h : tE (en X io s0) W c (dChain g g' fa fb fc) σ H Q) : tChain r r' (tEW (en X io s0) W c fa) (tE (en X io s0) W true fb) (tEW (en X io s0) W c fc) σ H Q := by
  obtain ⟨G, F0, ρ, F, rr, q⟩ := h
  refine ⟨G, F0, ρ, F, rr, (Post.bind q id).imp fun x F1 H1 d1 ρ1 r1 l1 k1 p1 q1 => ?_⟩
  refine ⟨G, F0, ρ1, F1, r1, (Post.bind q1 fun _ => rfl).imp fun y F2 H2 d2 ρ2 r2 l2 k2 p2 q2 => ?_⟩
  cases e : g d1 d2 with
  | none => rw [e] at q2; exact q2.elim
  | some d =>
    rw [e] at q2
    refine hg x y d1 d2 d F2 H2 _ r2.sub (p1.mono l2 (k2 rfl)) (.inl p2) e fun v F3 H3 z p => ?_
    have r3 := r2.ext z
    cases d with
    | bool b =>
      cases p
      cases b with
      | false => exact ⟨false, rfl, q2 _ F3 H3 r3 z.fle (fun _ => z.hle) (.bl false)⟩
      | true =>
        refine ⟨true, rfl, ⟨G, F0, ρ2, F3, r3, (Post.shift (Post.bind (k := fun d3 ρ3 => lift (g' d2 d3) ρ3) q2 id) z.fle fun _ => z.hle).imp fun w F4 H4 d4 ρ4 r4 l4 k4 p4 q4 => ?_⟩⟩
        obtain ⟨d5, e5, q5⟩ := Post.lift q4
        exact hg' y w d2 d4 d5 F4 H4 Q r4.sub (.inl (Rep.mono (z.fle.trans l4) p2)) p4 e5 fun v F5 H5 z5 p5 => q5 v F5 H5 (r4.ext z5) z5.fle (fun _ => z5.hle) p5
    | _ => exact q2.elim
theorem me_chain {op op' : CmpOp} (ho : OpR X (compareOp op) r) (ho' : OpR X (compareOp op') r') (hg : VOp X.K g r) (hg' : VOp X.K g' r') (hm : lastMarks [op, op'] [b, e] = false) (ha : PE X a (tEW (en X io s0) W c fa)) (hb : PE X b (tE (en X io s0) W true fb)) (hc : PE X e (tEW (en X io s0) W c fc)) :
    PE X (.Compare a [op, op'] [b, e] pos) (tE (en X io s0) W c (dChain g g' fa fb fc)) := pe_weak (pe_chain ho ho' ha hb hc hm) fun _ _ _ h => chain_of hg hg' h
theorem mt_chain {op op' : CmpOp} (ho : OpR X (compareOp op) r) (ho' : OpR X (compareOp op') r') (hg : VOp X.K g r) (hg' : VOp X.K g' r') (hm : lastMarks [op, op'] [b, e] = false) (ha : PE X a (tEW (en X io s0) W c fa)) (hb : PE X b (tE (en X io s0) W true fb)) (hc : PE X e (tEW (en X io s0) W c fc)) :
    PT X (.Compare a [op, op'] [b, e] pos) (tT (en X io s0) W c (tst (dChain g g' fa fb fc))) := pt_weak (pt_chain ho ho' ha hb hc hm) fun _ _ _ h => chain_of hg hg' (tst_of h)
/-- - a -/
theorem me_un {op : UnaryOp} {f : PyData → Option PyData} {r : V → Hp → VK → Prop} (ho : UnR X (unaryOp op) r) (hg : VUn X.K f r) (ha : PE X a (tE (en X io s0) W c fa)) : PE X (.UnaryOp op a pos) (tE (en X io s0) W c (una f fa)) := pe_weak (pe_un ho ha) fun σ H Q ⟨G, F0, ρ, F, rr, q⟩ =>
  ⟨G, F0, ρ, F, rr, (Post.bind q id).imp fun x F1 H1 d1 ρ1 r1 l1 k1 p1 q1 => by
    obtain ⟨d, e, q3⟩ := Post.lift q1
    exact hg x d1 d F1 H1 Q r1.sub (.inl p1) e fun v F3 H3 z p => q3 v F3 H3 (r1.ext z) z.fle (fun _ => z.hle) p⟩
end
/-! ## argument lists -/
def isStar : Expr → Bool
  | .Starred _ _ => true
  | _ => false
theorem star_cons {e : Expr} (h : isStar e = false) (es : List Expr) (env : PySem.Env) : starEach (e :: es) env = (false, eval e env) :: starEach es env := by
  cases e <;> first | rfl | cases h
theorem star_none {env : PySem.Env} {pos : Pos} : ∀ {es : List Expr}, (∀ e ∈ es, isStar e = false) → (backTo pos (starEach es env)).any (·.1) = false
  | [], _ => rfl
  | e :: es, h => by
    rw [star_cons (h e List.mem_cons_self)]
    show (false || (backTo pos (starEach es env)).any (·.1)) = false
    rw [Bool.false_or]
    exact star_none fun x hx => h x (List.mem_cons_of_mem _ hx)
def aNil : Den (List PyData) := fun ρ => .ok [] ρ
def aCons (f : Den PyData) (fs : Den (List PyData)) : Den (List PyData) := fun ρ => (f ρ).bind fun d ρ1 => (fs ρ1).bind fun ds ρ2 => .ok (d :: ds) ρ2
/-- arguments that are data -/
def tAS (C : En) (W : WX) (c : Bool) (f : Den (List PyData)) : TA := fun σ H Q => ∃ G F0 ρ F, R C G F0 ρ F σ H ∧ Post (fun F _ v d => Reps C.K F v d) C W c G F0 F σ H (fun v _ H' _ _ => Q v H') (f ρ)
section
variable {X : Cx} {io : List Nat} {s0 : L2.St} {W : WX} {c : Bool} {e : Expr} {es : List Expr} {f : Den PyData} {fs : Den (List PyData)} {pos : Pos}
theorem DRs.mono {K : Frag} {F H F' H' : Hp} (l : Le F F') (k : Le H H') : ∀ {vs : List V} {ds : List PyData}, DRs K F H vs ds → DRs K F' H' vs ds
  | _, _, .nil => .nil
  | _, _, .cons h r => .cons (h.mono l k) (DRs.mono l k r)
theorem ma_nil : PA X [] (tAS (en X io s0) W c aNil) := pa_weak pa_nil fun σ H Q ⟨G, F0, ρ, F, r, q⟩ => q [] F H r (.refl _) (fun _ => .refl _) .nil
theorem maW_nil : PA X [] (tA (en X io s0) W c aNil) := pa_weak pa_nil fun σ H Q ⟨G, F0, ρ, F, r, q⟩ => q [] F H r (.refl _) (fun _ => .refl _) .nil
theorem ma_cons (hs : isStar e = false) (h : PE X e (tE (en X io s0) W c f)) (hr : PA X es (tAS (en X io s0) W c fs)) : PA X (e :: es) (tAS (en X io s0) W c (aCons f fs)) := pa_weak (pa_cons h hr (star_cons hs _ _)) fun σ H Q ⟨G, F0, ρ, F, r, q⟩ =>
  ⟨G, F0, ρ, F, r, (Post.bind q id).imp fun v F1 H1 d ρ1 r1 l1 k1 p1 q1 => ⟨G, F0, ρ1, F1, r1, (Post.bind q1 id).imp fun vs F2 H2 ds ρ2 r2 l2 k2 p2 q2 => q2 _ F2 H2 r2 (.refl _) (fun _ => .refl _) (.cons (Rep.mono l2 p1) p2)⟩⟩
theorem maW_cons (hs : isStar e = false) (h : PE X e (tED (en X io s0) W c f)) (hr : PA X es (tA (en X io s0) W true fs)) : PA X (e :: es) (tA (en X io s0) W c (aCons f fs)) := pa_weak (pa_cons h hr (star_cons hs _ _)) fun σ H Q ⟨G, F0, ρ, F, r, q⟩ =>
  ⟨G, F0, ρ, F, r, (Post.bind q id).imp fun v F1 H1 d ρ1 r1 l1 k1 p1 q1 => ⟨G, F0, ρ1, F1, r1, (Post.bind q1 fun _ => rfl).imp fun vs F2 H2 ds ρ2 r2 l2 k2 p2 q2 => q2 _ F2 H2 r2 (.refl _) (fun _ => .refl _) (.cons (DR.mono l2 (k2 rfl) p1) p2)⟩⟩
theorem maW_of (h : PA X es (tAS (en X io s0) W c fs)) : PA X es (tA (en X io s0) W c fs) := pa_weak h fun σ H Q ⟨G, F0, ρ, F, r, q⟩ => ⟨G, F0, ρ, F, r, by
  cases e : fs ρ with
  | ok d ρ' => rw [e] at q; exact fun v F' H' r' l k p => q v F' H' r' l k p.drs
  | exc x ρ' => rw [e] at q; exact q
  | bad => rw [e] at q; exact q⟩
/-- a tuple, a list -/
def dTup (fs : Den (List PyData)) : Den PyData := fun ρ => (fs ρ).bind fun ds ρ1 => .ok (.tuple ds) ρ1
def dLst (fs : Den (List PyData)) : Den PyData := fun ρ => (fs ρ).bind fun ds ρ1 => .ok (.list ds) ρ1
theorem me_tup {j : Nat} (hl : ∀ ρ ds ρ', fs ρ = .ok ds ρ' → ds.length ≤ sizeLine) (h : PA X es (tAS (en X io s0) W c fs)) : PE X (.Tuple es j pos) (tE (en X io s0) W c (dTup fs)) := pe_weak (pe_tup h) fun σ H Q ⟨G, F0, ρ, F, r, q⟩ =>
  ⟨G, F0, ρ, F, r, by
    unfold dTup at q
    cases e : fs ρ with
    | exc x ρ1 => rw [e] at q; exact q
    | bad => rw [e] at q; exact q
    | ok ds ρ1 =>
      rw [e] at q
      intro vs F1 H1 r1 l1 k1 p1
      refine ⟨by rw [p1.length]; exact hl _ _ _ e, fun p n => ?_⟩
      have z := Ext.new (o := .tup vs) r1.sub n
      exact q _ _ _ (r1.ext z) (l1.trans z.fle) (fun h => (k1 h).trans z.hle) (.tup (.of upd_same) (p1.mono z.fle))⟩
theorem me_lst (hl : ∀ ρ ds ρ', fs ρ = .ok ds ρ' → ds.length ≤ sizeLine) (h : PA X es (tAS (en X io s0) W c fs)) : PE X (.List es pos) (tE (en X io s0) W c (dLst fs)) := pe_weak (pe_lst h) fun σ H Q ⟨G, F0, ρ, F, r, q⟩ =>
  ⟨G, F0, ρ, F, r, by
    unfold dLst at q
    cases e : fs ρ with
    | exc x ρ1 => rw [e] at q; exact q
    | bad => rw [e] at q; exact q
    | ok ds ρ1 =>
      rw [e] at q
      intro vs F1 H1 r1 l1 k1 p1
      refine ⟨by rw [p1.length]; exact hl _ _ _ e, fun p n => ?_⟩
      have z := Ext.new (o := .lst vs) r1.sub n
      exact q _ _ _ (r1.ext z) (l1.trans z.fle) (fun h => (k1 h).trans z.hle) (.lst upd_same (p1.mono z.fle))⟩
/-! ## built-in functions and types -/
variable {x : Str} {p : Pos} {id T : String} {r : List V → Hp → VK → Prop} {g : List PyData → Option PyData}
theorem fn_of (hg : VFn X.K g r) {σ : L2.St} {H : Hp} {Q : VK} (h : tE (en X io s0) W c (fnc g fs) σ H Q) : tCB r (tA (en X io s0) W c fs) σ H Q := by
  obtain ⟨G, F0, ρ, F, rr, q⟩ := h
  refine ⟨G, F0, ρ, F, rr, (Post.bind q id).imp fun x F1 H1 d1 ρ1 r1 l1 k1 p1 q1 => ?_⟩
  obtain ⟨d, e, q3⟩ := Post.lift q1
  exact hg x d1 d F1 H1 Q r1.sub p1 e fun v F3 H3 z p => q3 v F3 H3 (r1.ext z) z.fle (fun _ => z.hle) p
theorem me_callB (hc : CallR X (.builtin id) r) (hg : VFn X.K g r) (hG : Gl X x) (hm : X.mg x = none) (hv : bootBuiltins x = some (.builtin id)) (hn : x ≠ "__name__") (hdb : (x == ("__debug__" : Str)) = false) (hst : ∀ y ∈ e :: es, isStar y = false) (ha : PA X (e :: es) (tA (en X io s0) W c fs)) :
    PE X (.Call (.Name x p) (e :: es) [] pos) (tE (en X io s0) W c (fnc g fs)) :=
  pe_weak (pe_callB hc hG hm hv ha hn hdb (star_cons (hst e List.mem_cons_self) _ _) (star_none fun y hy => hst y (List.mem_cons_of_mem _ hy))) fun _ _ _ h => fn_of hg h
theorem me_callTy (hc : CallR X (.type T) r) (hg : VFn X.K g r) (hG : Gl X x) (hm : X.mg x = none) (hv : bootBuiltins x = some (.type T)) (hn : x ≠ "__name__") (hdb : (x == ("__debug__" : Str)) = false) (hst : ∀ y ∈ e :: es, isStar y = false) (ha : PA X (e :: es) (tA (en X io s0) W c fs)) :
    PE X (.Call (.Name x p) (e :: es) [] pos) (tE (en X io s0) W c (fnc g fs)) :=
  pe_weak (pe_callTy hc hG hm hv ha hn hdb (star_cons (hst e List.mem_cons_self) _ _) (star_none fun y hy => hst y (List.mem_cons_of_mem _ hy))) fun _ _ _ h => fn_of hg h
end
end Ev

set_option Elab.async false
set_option linter.all false
set_option maxRecDepth 100000
set_option maxHeartbeats 1000000
namespace Ev
open PySem PySem.Spec PyProof.Rows L2
/-! ## operators -/
def isI : PyData → Option Int
  | .int i => some i
  | _ => none
def allI : List PyData → Option (List Int)
  | [] => some []
  | .int i :: r => (allI r).map (i :: ·)
  | _ :: _ => none
theorem allI_map : ∀ ns : List Int, allI (ns.map .int) = some ns
  | [] => rfl
  | n :: ns => by rw [List.map_cons, allI, allI_map ns]; rfl
theorem allI_eq : ∀ {ds : List PyData} {ns : List Int}, allI ds = some ns → ds = ns.map .int
  | [], ns, h => by cases h; rfl
  | .int i :: r, ns, h => by
    rw [allI] at h
    cases e : allI r with
    | none => rw [e] at h; cases h
    | some ms =>
      rw [e] at h
      cases h
      rw [List.map_cons, ← allI_eq e]
  | .none :: _, _, h => by cases h
  | .bool _ :: _, _, h => by cases h
  | .str _ :: _, _, h => by cases h
  | .list _ :: _, _, h => by cases h
  | .tuple _ :: _, _, h => by cases h
  | .dict _ :: _, _, h => by cases h
theorem reps_ints {K : Frag} {F : Hp} : ∀ {ns : List Int} {vs : List V}, Reps K F vs (ns.map .int) → vs = ns.map V.int
  | [], _, h => by cases h; rfl
  | n :: ns, _, h => by
    cases h with
    | cons h r =>
      cases h
      rw [List.map_cons, reps_ints r]
/-- sums -/
def gAdd : PyData → PyData → Option PyData
  | .int i, .int j => some (.int (i + j))
  | .list xs, .list ys => if xs.length + ys.length ≤ sizeLine then some (.list (xs ++ ys)) else none
  | .tuple xs, .tuple ys => if xs.length + ys.length ≤ sizeLine then some (.tuple (xs ++ ys)) else none
  | .str x, .str y => if x.length + y.length ≤ sizeLine then some (.str (x ++ y)) else none
  | _, _ => none
def rAddA (K : Frag) : R2 := fun x y H Q => ((rI0 fun i j => .int (i + j)) x y H Q ∨ rCat x y H Q) ∨ (rCatA K x y H Q ∨ (∃ i j, x = .str i ∧ y = .str j ∧ i.length + j.length ≤ sizeLine ∧ Q (.str (i ++ j)) H))
theorem o_add {X : Cx} : OpR X (binaryOp .Add) (rAddA X.K) := (op_add.or op_cat).or (op_catA.or op_add_str)
theorem v_add {K : Frag} : VOp K gAdd (rAddA K) := by
  intro x y dx dy d F H Q l hx hy e q
  cases dx <;> cases dy <;> try (cases e; done)
  · cases e
    exact .inl (.inl ⟨_, _, hx.int, hy.int, q _ F H (.refl l) (.int _)⟩)
  · simp only [gAdd] at e
    split at e
    · rename_i hz
      cases e
      exact .inr (.inr ⟨_, _, hx.str, hy.str, hz, q _ F H (.refl l) (.str _)⟩)
    · cases e
  · simp only [gAdd] at e
    split at e
    · rename_i hz
      cases e
      obtain ⟨a, vs, e1, h1, r1⟩ := hx.list l
      obtain ⟨b, us, e2, h2, r2⟩ := hy.list l
      refine .inl (.inr ⟨a, b, vs, us, e1, e2, h1, h2, by rw [r1.length, r2.length]; exact hz, fun p n => ?_⟩)
      have z := Ext.new (o := .lst (vs ++ us)) l n
      exact q _ _ _ z (.lst upd_same ((r1.append r2).mono z.fle))
    · cases e
  · simp only [gAdd] at e
    split at e
    · rename_i hz
      cases e
      obtain ⟨a, vs, e1, h1, r1⟩ := hx.tuple l
      obtain ⟨b, us, e2, h2, r2⟩ := hy.tuple l
      refine .inr (.inl ⟨a, b, vs, us, e1, e2, h1, h2, by rw [r1.length, r2.length]; exact hz, fun e => ?_, fun _ e => ?_, fun _ _ p n => ?_⟩)
      · subst e
        cases r1
        exact q _ F H (.refl l) (e2 ▸ hy.rep fun _ => nofun)
      · subst e
        cases r2
        rw [List.append_nil] at q
        exact q _ F H (.refl l) (e1 ▸ hx.rep fun _ => nofun)
      · have z := Ext.new (o := .tup (vs ++ us)) l n
        exact q _ _ _ z (.tup (.of upd_same) ((r1.append r2).mono z.fle))
    · cases e
/-- differences, products, rests -/
def gII (C : Int → Int → Bool) (g : Int → Int → Int) : PyData → PyData → Option PyData
  | .int i, .int j => if C i j = true then some (.int (g i j)) else none
  | _, _ => none
theorem v_ii {K : Frag} {D : Int → Int → Prop} {C : Int → Int → Bool} {g : Int → Int → Int} (hD : ∀ i j, C i j = true → D i j) : VOp K (gII C g) (rI D fun i j => .int (g i j)) := by
  intro x y dx dy d F H Q l hx hy e q
  cases dx <;> try (cases e; done)
  cases dy <;> try (cases e; done)
  rename_i i j
  simp only [gII] at e
  split at e
  · rename_i hc
    cases e
    exact ⟨i, j, hx.int, hy.int, hD i j hc, q _ F H (.refl l) (.int _)⟩
  · cases e
def gSub := gII (fun _ _ => true) fun i j => i - j
theorem o_sub {X : Cx} : OpR X (binaryOp .Sub) (rI (fun _ _ => True) fun i j => .int (i - j)) := by
  intro pins s σ H x y v u Q I rx ry h
  obtain ⟨i, j, e1, e2, _, q⟩ := h
  exact op_sub pins s σ H x y v u Q I rx ry ⟨i, j, e1, e2, q⟩
theorem v_sub {K : Frag} : VOp K gSub (rI (fun _ _ => True) fun i j => .int (i - j)) := v_ii fun _ _ _ => trivial
def cMod (_ j : Int) : Bool := decide (0 < j)
def gMod := gII cMod fun i j => i % j
theorem v_mod {K : Frag} : VOp K gMod (rI (fun _ j => 0 < j) fun i j => .int (i % j)) := v_ii fun _ _ h => of_decide_eq_true h
def cDiv (_ j : Int) : Bool := decide (0 < j ∧ j < 1073741824)
def gDiv := gII cDiv fun i j => i / j
theorem v_div {K : Frag} : VOp K gDiv (rI CDiv fun i j => .int (i / j)) := v_ii fun i j h => by
  have h : decide (0 < j ∧ j < 1073741824) = true := h
  have h2 := of_decide_eq_true h
  exact h2
def cPow (i j : Int) : Bool := decide (0 ≤ j ∧ j ≤ 1000000 ∧ i.natAbs < 2 ^ 64)
def gPow := gII cPow fun i j => i ^ j.toNat
theorem v_pow {K : Frag} : VOp K gPow (rI CPow fun i j => .int (i ^ j.toNat)) := v_ii fun i j h => by
  have h : decide (0 ≤ j ∧ j ≤ 1000000 ∧ i.natAbs < 2 ^ 64) = true := h
  have h2 := of_decide_eq_true h
  exact h2
def gShl := gII cPow fun i j => i * 2 ^ j.toNat
theorem v_shl {K : Frag} : VOp K gShl (rI CPow fun i j => .int (i * 2 ^ j.toNat)) := v_ii fun i j h => by
  have h : decide (0 ≤ j ∧ j ≤ 1000000 ∧ i.natAbs < 2 ^ 64) = true := h
  have h2 := of_decide_eq_true h
  exact h2
def gShr := gII (fun _ j => decide (0 ≤ j)) fun i j => i / 2 ^ j.toNat
theorem v_shr {K : Frag} : VOp K gShr (rI (fun _ j => 0 ≤ j) fun i j => .int (i / 2 ^ j.toNat)) := v_ii fun _ _ h => of_decide_eq_true h
def gBand := gII (fun _ _ => true) Builtin.bitAnd
def gBor := gII (fun _ _ => true) Builtin.bitOr
theorem rI_of {X : Cx} {f : Value → Value → Sem Value} {g : Int → Int → V} (h : OpR X f (rI0 g)) : OpR X f (rI (fun _ _ => True) g) := by
  intro pins s σ H x y v u Q I rx ry h'
  obtain ⟨i, j, e1, e2, _, q⟩ := h'
  exact h pins s σ H x y v u Q I rx ry ⟨i, j, e1, e2, q⟩
theorem v_band {K : Frag} : VOp K gBand (rI (fun _ _ => True) fun i j => .int (Builtin.bitAnd i j)) := v_ii fun _ _ _ => trivial
theorem v_bor {K : Frag} : VOp K gBor (rI (fun _ _ => True) fun i j => .int (Builtin.bitOr i j)) := v_ii fun _ _ _ => trivial
/-- products: ints, a list or a tuple told some times -/
def gMul : PyData → PyData → Option PyData
  | .int i, .int j => if decide ((-(2 ^ 64) < i ∧ i < 2 ^ 64) ∨ (-(2 ^ 64) < j ∧ j < 2 ^ 64)) = true then some (.int (i * j)) else none
  | .list xs, .int k => if decide (0 ≤ k ∧ k < 2 ^ 62 ∧ xs.length * k.toNat ≤ sizeLine) = true then some (.list (List.replicate k.toNat xs).flatten) else none
  | .tuple xs, .int k => if decide (xs.length ≠ 0 ∧ 2 ≤ k ∧ k ≤ 1000 ∧ xs.length ≤ 1000) = true then some (.tuple (List.replicate k.toNat xs).flatten) else none
  | _, _ => none
theorem Reps.rep {K : Frag} {F : Hp} {vs : List V} {ds : List PyData} (r : Reps K F vs ds) : ∀ n : Nat, Reps K F (List.replicate n vs).flatten (List.replicate n ds).flatten
  | 0 => .nil
  | n + 1 => by
    rw [List.replicate_succ, List.replicate_succ, List.flatten_cons, List.flatten_cons]
    exact r.append (r.rep n)
def rMulA (K : Frag) : R2 := fun x y H Q => ((rI CMul fun i j => .int (i * j)) x y H Q ∨ rRep x y H Q) ∨ rRepT K x y H Q
theorem o_mul {X : Cx} : OpR X (binaryOp .Mult) (rMulA X.K) := (op_mul.or op_rep).or op_repT
theorem v_mul {K : Frag} : VOp K gMul (rMulA K) := by
  intro x y dx dy d F H Q l hx hy e q
  cases dx <;> cases dy <;> try (cases e; done)
  · rename_i i j
    simp only [gMul] at e
    split at e
    · rename_i hc
      cases e
      have h2 := of_decide_eq_true hc
      exact .inl (.inl ⟨i, j, hx.int, hy.int, h2, q _ F H (.refl l) (.int _)⟩)
    · cases e
  · rename_i xs k
    simp only [gMul] at e
    split at e
    · rename_i hc
      cases e
      obtain ⟨h0, h1, h2⟩ := of_decide_eq_true hc
      obtain ⟨a, vs, e1, g1, r1⟩ := hx.list l
      refine .inl (.inr ⟨a, k, vs, e1, hy.int, g1, by omega, by omega, by rw [r1.length]; exact h2, fun p n => ?_⟩)
      have z := Ext.new (o := .lst (List.replicate k.toNat vs).flatten) l n
      exact q _ _ _ z (.lst upd_same ((r1.rep _).mono z.fle))
    · cases e
  · rename_i xs k
    simp only [gMul] at e
    split at e
    · rename_i hc
      cases e
      obtain ⟨h0, h1, h2, h3⟩ := of_decide_eq_true hc
      obtain ⟨a, vs, e1, g1, r1⟩ := hx.tuple l
      refine .inr ⟨a, k, vs, e1, hy.int, g1, fun z => h0 (by rw [← r1.length, z]; rfl), h1, h2, by rw [r1.length]; exact h3, fun p n => ?_⟩
      have z := Ext.new (o := .tup (List.replicate k.toNat vs).flatten) l n
      exact q _ _ _ z (.tup (.of upd_same) ((r1.rep _).mono z.fle))
    · cases e
/-! ## comparisons -/
section
variable {X : Cx} {pins : List (Addr × Obj)} {σ : L2.St} {H F : Hp} {s : Shared}
theorem WR.reads (I : Inv X pins σ H s) (l : Le F H) {v : V} {d : PyData} {u : Value} (h : WR X.K F H v d) (r : RelV v u) : ∃ as, Reads s.heap u d as := by
  rcases h with h | ⟨ds, a, vs, rfl, rfl, h, q⟩
  · exact Rep.reads I l u h r
  · cases r
    obtain ⟨its, rv, ⟨o, n, ho, hc, _, hd⟩, _⟩ := I.list (SqL.of h)
    obtain ⟨as, hr⟩ := Reps.reads I l its q rv
    exact ⟨_, .list ho hc hd hr⟩
end
/-- a rule that says what a datum's operation gives; it stands by itself -/
def rG (K : Frag) (g : PyData → PyData → Option PyData) : R2 := fun x y H Q => ∃ F dx dy d, Le F H ∧ WR K F H x dx ∧ WR K F H y dy ∧ g dx dy = some d ∧ ∀ v F' H', Ext F H F' H' → Rep K F' v d → Q v H'
theorem v_G {K : Frag} {g : PyData → PyData → Option PyData} : VOp K g (rG K g) := fun _ _ dx dy d F _ _ l hx hy e q => ⟨F, dx, dy, d, l, hx, hy, e, q⟩
def gEq : PyData → PyData → Option Bool
  | .tuple [], .tuple ys => some ys.isEmpty
  | .tuple xs, .tuple [] => some xs.isEmpty
  | .list [], .list ys => some ys.isEmpty
  | .list xs, .list [] => some xs.isEmpty
  | .str x, .str y => some (x == y)
  | d, e => if (SeqAt.shaped d && SeqAt.shaped e) = true then some (PyData.eqv d e) else none
def gEqB (d e : PyData) : Option PyData := (gEq d e).map .bool
def gNeB (d e : PyData) : Option PyData := (gEq d e).map fun b => .bool !b
theorem ReadsAll.len {h : Heap} : ∀ {us : List Value} {ds : List PyData} {as : List Addr}, ReadsAll h us ds as → us.length = ds.length
  | _, _, _, .nil => rfl
  | _, _, _, .cons _ r => by rw [List.length_cons, List.length_cons, ReadsAll.len r]
theorem emp_len (ys : List PyData) : (([] : List PyData).length == ys.length) = ys.isEmpty := by cases ys <;> rfl
theorem emp_len' (ys : List PyData) : (ys.length == ([] : List PyData).length) = ys.isEmpty := by cases ys <;> rfl
theorem eq_run {X : Cx} {s : Shared} {E : Value → Shared → Prop} {Q : Value → Shared → Prop} {d e : PyData} {v u : Value} {as bs : List Addr} {k : Bool} (hu : X.A.units + 64 < cLine) (r1 : Reads s.heap v d as) (r2 : Reads s.heap u e bs) (h : gEq d e = some k) (q : Q (.bool k) s) : wpAny (model X.prog X.w) X.A (compareOp .Eq v u) Q E s := by
  have tup : ∀ {xs ys : List PyData} {as bs : List Addr}, Reads s.heap v (.tuple xs) as → Reads s.heap u (.tuple ys) bs → (xs = [] ∨ ys = []) → Q (.bool (xs.length == ys.length)) s → wpAny (model X.prog X.w) X.A (compareOp .Eq v u) Q E s := by
    intro xs ys as bs r1 r2 hn q
    cases r1 with
    | tuple h1 c1 d1 a1 =>
      cases r2 with
      | tuple h2 c2 d2 a2 =>
        rename_i o1 vs1 n1 a0 o2 vs2 n2
        have e1 := ReadsAll.len a1
        have e2 := ReadsAll.len a2
        simp only [Array.length_toList] at e1 e2
        have hm : min vs1.size vs2.size = 0 := by
          rcases hn with z | z
          · rw [z] at e1
            have e1 : vs1.size = 0 := e1
            omega
          · rw [z] at e2
            have e2 : vs2.size = 0 := e2
            omega
        refine SeqAt.eq_tupleAt ⟨_, h1, c1, _, d1⟩ ⟨_, h2, c2, _, d2⟩ (by omega) (e := fun _ => true) (fun j j1 j2 => by omega) ?_
        rw [hm, e1, e2]
        exact q
  have lst : ∀ {xs ys : List PyData} {as bs : List Addr}, Reads s.heap v (.list xs) as → Reads s.heap u (.list ys) bs → (xs = [] ∨ ys = []) → Q (.bool (xs.length == ys.length)) s → wpAny (model X.prog X.w) X.A (compareOp .Eq v u) Q E s := by
    intro xs ys as bs r1 r2 hn q
    cases r1 with
    | list h1 c1 d1 a1 =>
      cases r2 with
      | list h2 c2 d2 a2 =>
        rename_i o1 vs1 n1 b1 a0 o2 vs2 n2 b0
        have e1 := ReadsAll.len a1
        have e2 := ReadsAll.len a2
        simp only [Array.length_toList] at e1 e2
        by_cases hz : vs1.size = vs2.size
        · have e0 : vs1.size = 0 := by
            rcases hn with z | z
            · rw [z] at e1
              exact e1
            · rw [z] at e2
              exact hz.trans e2
          refine SeqAt.eq_listAt ⟨_, h1, c1, _, d1⟩ ⟨_, h2, c2, _, d2⟩ hz (by omega) (e := fun _ => true) (fun j j1 j2 => by omega) ?_
          rw [e0]
          have : (xs.length == ys.length) = true := by rw [← e1, ← e2, hz]; simp
          rw [this] at q
          exact q
        · refine SeqAt.eq_list_lengthsAt ⟨_, h1, c1, _, d1⟩ ⟨_, h2, c2, _, d2⟩ (by simpa using hz) (by omega) ?_
          have : (xs.length == ys.length) = false := by rw [← e1, ← e2]; simpa using hz
          rw [this] at q
          exact q
  have gen : (if (SeqAt.shaped d && SeqAt.shaped e) = true then some (PyData.eqv d e) else none) = some k → wpAny (model X.prog X.w) X.A (compareOp .Eq v u) Q E s := by
    intro h
    split at h
    · rename_i hs
      cases h
      obtain ⟨s1, s2⟩ := Bool.and_eq_true_iff.mp hs
      exact SeqAt.compareEq_shaped r1 r2 s1 s2 hu q
    · cases h
  unfold gEq at h
  split at h
  · cases h
    exact tup r1 r2 (.inl rfl) (by rw [emp_len]; exact q)
  · cases h
    exact tup r1 r2 (.inr rfl) (by rw [emp_len']; exact q)
  · cases h
    exact lst r1 r2 (.inl rfl) (by rw [emp_len]; exact q)
  · cases h
    exact lst r1 r2 (.inr rfl) (by rw [emp_len']; exact q)
  · cases h
    cases r1
    cases r2
    exact PyProof.Rows.eq_str q
  · exact gen h
theorem ne_run {X : Cx} {s : Shared} {E : Value → Shared → Prop} {Q : Value → Shared → Prop} {d e : PyData} {v u : Value} {as bs : List Addr} {k : Bool} (hu : X.A.units + 64 < cLine) (r1 : Reads s.heap v d as) (r2 : Reads s.heap u e bs) (h : gEq d e = some k) (q : Q (.bool !k) s) : wpAny (model X.prog X.w) X.A (compareOp .NotEq v u) Q E s := by
  have tup : ∀ {xs ys : List PyData} {as bs : List Addr}, Reads s.heap v (.tuple xs) as → Reads s.heap u (.tuple ys) bs → (xs = [] ∨ ys = []) → Q (.bool !(xs.length == ys.length)) s → wpAny (model X.prog X.w) X.A (compareOp .NotEq v u) Q E s := by
    intro xs ys as bs r1 r2 hn q
    cases r1 with
    | tuple h1 c1 d1 a1 =>
      cases r2 with
      | tuple h2 c2 d2 a2 =>
        rename_i o1 vs1 n1 a0 o2 vs2 n2
        have e1 := ReadsAll.len a1
        have e2 := ReadsAll.len a2
        simp only [Array.length_toList] at e1 e2
        have hm : min vs1.size vs2.size = 0 := by
          rcases hn with z | z
          · rw [z] at e1
            have e1 : vs1.size = 0 := e1
            omega
          · rw [z] at e2
            have e2 : vs2.size = 0 := e2
            omega
        refine SeqAt.RcNeAt.tuples (A := X.A) ⟨_, h1, c1, _, d1⟩ ⟨_, h2, c2, _, d2⟩ (by omega) (e := fun _ => true) (fun j j1 j2 => by omega) X.prog X.w E Q ?_
        rw [hm, e1, e2]
        exact q
  have lst : ∀ {xs ys : List PyData} {as bs : List Addr}, Reads s.heap v (.list xs) as → Reads s.heap u (.list ys) bs → (xs = [] ∨ ys = []) → Q (.bool !(xs.length == ys.length)) s → wpAny (model X.prog X.w) X.A (compareOp .NotEq v u) Q E s := by
    intro xs ys as bs r1 r2 hn q
    cases r1 with
    | list h1 c1 d1 a1 =>
      cases r2 with
      | list h2 c2 d2 a2 =>
        rename_i o1 vs1 n1 b1 a0 o2 vs2 n2 b0
        have e1 := ReadsAll.len a1
        have e2 := ReadsAll.len a2
        simp only [Array.length_toList] at e1 e2
        by_cases hz : vs1.size = vs2.size
        · have e0 : vs1.size = 0 := by
            rcases hn with z | z
            · rw [z] at e1
              exact e1
            · rw [z] at e2
              exact hz.trans e2
          refine SeqAt.RcNeAt.lists (A := X.A) ⟨_, h1, c1, _, d1⟩ ⟨_, h2, c2, _, d2⟩ hz (by omega) (e := fun _ => true) (fun j j1 j2 => by omega) X.prog X.w E Q ?_
          rw [e0]
          have : (xs.length == ys.length) = true := by rw [← e1, ← e2, hz]; simp
          rw [this] at q
          exact q
        · refine SeqAt.RcNeAt.lists_lengths (A := X.A) ⟨_, h1, c1, _, d1⟩ ⟨_, h2, c2, _, d2⟩ (by simpa using hz) (by omega) X.prog X.w E Q ?_
          have : (xs.length == ys.length) = false := by rw [← e1, ← e2]; simpa using hz
          rw [this] at q
          exact q
  have gen : (if (SeqAt.shaped d && SeqAt.shaped e) = true then some (PyData.eqv d e) else none) = some k → wpAny (model X.prog X.w) X.A (compareOp .NotEq v u) Q E s := by
    intro h
    split at h
    · rename_i hs
      cases h
      obtain ⟨s1, s2⟩ := Bool.and_eq_true_iff.mp hs
      exact SeqAt.compareNe_shaped r1 r2 s1 s2 hu q
    · cases h
  unfold gEq at h
  split at h
  · cases h
    exact tup r1 r2 (.inl rfl) (by rw [emp_len]; exact q)
  · cases h
    exact tup r1 r2 (.inr rfl) (by rw [emp_len']; exact q)
  · cases h
    exact lst r1 r2 (.inl rfl) (by rw [emp_len]; exact q)
  · cases h
    exact lst r1 r2 (.inr rfl) (by rw [emp_len']; exact q)
  · cases h
    cases r1
    cases r2
    exact PyProof.Rows.ne_str q
  · exact gen h
theorem o_eq {X : Cx} (hu : X.A.units + 64 < cLine) : OpR X (compareOp .Eq) (rG X.K gEqB) := by
  intro pins s σ H x y v u Q I rx ry ⟨F, dx, dy, d, l, hx, hy, e, q⟩
  obtain ⟨as, r1⟩ := hx.reads I l rx
  obtain ⟨bs, r2⟩ := hy.reads I l ry
  unfold gEqB at e
  cases h : gEq dx dy with
  | none => rw [h] at e; cases e
  | some k =>
    rw [h] at e
    cases e
    exact eq_run hu r1 r2 h ⟨.bl k, H, I, rfl, q _ F H (.refl l) (.bl k)⟩
theorem o_ne {X : Cx} (hu : X.A.units + 64 < cLine) : OpR X (compareOp .NotEq) (rG X.K gNeB) := by
  intro pins s σ H x y v u Q I rx ry ⟨F, dx, dy, d, l, hx, hy, e, q⟩
  obtain ⟨as, r1⟩ := hx.reads I l rx
  obtain ⟨bs, r2⟩ := hy.reads I l ry
  unfold gNeB at e
  cases h : gEq dx dy with
  | none => rw [h] at e; cases e
  | some k =>
    rw [h] at e
    cases e
    exact ne_run hu r1 r2 h ⟨.bl !k, H, I, rfl, q _ F H (.refl l) (.bl _)⟩
/-- x in a list, a tuple, a text -/
def gIn (d : PyData) : PyData → Option Bool
  | .list ds => if (SeqAt.shaped d && PyData.canLayAll0 ds) = true then some (ds.any fun z => PyData.eqv z d) else none
  | .tuple ds => if (SeqAt.shaped d && PyData.canLayAll0 ds) = true then some (ds.any fun z => PyData.eqv z d) else none
  | .str y => match d with
    | .str x => some (!(Builtin.Str.occurrences y x 0 y.length 1).isEmpty)
    | _ => none
  | _ => none
def gInB (d e : PyData) : Option PyData := (gIn d e).map .bool
def gNotInB (d e : PyData) : Option PyData := (gIn d e).map fun b => .bool !b
theorem o_in {X : Cx} (hu : X.A.units + 65 < cLine) : OpR X (compareOp .In) (rG X.K gInB) := by
  intro pins s σ H x y v u Q I rx ry ⟨F, dx, dy, d, l, hx, hy, e, q⟩
  have fin : ∀ {k : Bool}, gIn dx dy = some k → Q (.bl k) H := fun {k} h => by
    unfold gInB at e
    rw [h] at e
    cases e
    exact q _ F H (.refl l) (.bl k)
  cases dy with
  | list ds =>
    obtain ⟨as, r1⟩ := hx.reads I l rx
    obtain ⟨bs, r2⟩ := hy.reads I l ry
    by_cases hc : (SeqAt.shaped dx && PyData.canLayAll0 ds) = true
    · obtain ⟨h1, h2⟩ := Bool.and_eq_true_iff.mp hc
      exact SeqAt.in_list_reads r2 r1 h2 (SeqAt.canLay_of_shaped h1) (room_in_shaped h1 hu) ⟨.bl _, H, I, rfl, fin (if_pos hc)⟩
    · unfold gInB at e
      rw [show gIn dx (.list ds) = none from if_neg hc] at e
      cases e
  | tuple ds =>
    obtain ⟨as, r1⟩ := hx.reads I l rx
    obtain ⟨bs, r2⟩ := hy.reads I l ry
    by_cases hc : (SeqAt.shaped dx && PyData.canLayAll0 ds) = true
    · obtain ⟨h1, h2⟩ := Bool.and_eq_true_iff.mp hc
      exact SeqAt.in_tuple_reads r2 r1 h2 (SeqAt.canLay_of_shaped h1) (room_in_shaped h1 hu) ⟨.bl _, H, I, rfl, fin (if_pos hc)⟩
    · unfold gInB at e
      rw [show gIn dx (.tuple ds) = none from if_neg hc] at e
      cases e
  | str y' =>
    cases dx with
    | str x' => exact op_in_str pins s σ H x y v u Q I rx ry ⟨x', y', hx.str, hy.str, fin rfl⟩
    | _ => cases e
  | _ => cases e
theorem o_notIn {X : Cx} (hu : X.A.units + 65 < cLine) : OpR X (compareOp .NotIn) (rG X.K gNotInB) := by
  intro pins s σ H x y v u Q I rx ry ⟨F, dx, dy, d, l, hx, hy, e, q⟩
  have fin : ∀ {k : Bool}, gIn dx dy = some k → Q (.bl !k) H := fun {k} h => by
    unfold gNotInB at e
    rw [h] at e
    cases e
    exact q _ F H (.refl l) (.bl _)
  cases dy with
  | list ds =>
    obtain ⟨as, r1⟩ := hx.reads I l rx
    obtain ⟨bs, r2⟩ := hy.reads I l ry
    by_cases hc : (SeqAt.shaped dx && PyData.canLayAll0 ds) = true
    · obtain ⟨h1, h2⟩ := Bool.and_eq_true_iff.mp hc
      exact SeqAt.notIn_list_reads r2 r1 h2 (SeqAt.canLay_of_shaped h1) (room_in_shaped h1 hu) ⟨.bl _, H, I, rfl, fin (if_pos hc)⟩
    · unfold gNotInB at e
      rw [show gIn dx (.list ds) = none from if_neg hc] at e
      cases e
  | tuple ds =>
    obtain ⟨as, r1⟩ := hx.reads I l rx
    obtain ⟨bs, r2⟩ := hy.reads I l ry
    by_cases hc : (SeqAt.shaped dx && PyData.canLayAll0 ds) = true
    · obtain ⟨h1, h2⟩ := Bool.and_eq_true_iff.mp hc
      exact SeqAt.notIn_tuple_reads r2 r1 h2 (SeqAt.canLay_of_shaped h1) (room_in_shaped h1 hu) ⟨.bl _, H, I, rfl, fin (if_pos hc)⟩
    · unfold gNotInB at e
      rw [show gIn dx (.tuple ds) = none from if_neg hc] at e
      cases e
  | str y' =>
    cases dx with
    | str x' => exact op_notin_str pins s σ H x y v u Q I rx ry ⟨x', y', hx.str, hy.str, fin rfl⟩
    | _ => cases e
  | _ => cases e
/-- is None, is True, is False -/
def isNo : PyData → Bool
  | .none => true
  | _ => false
def isBo (b : Bool) : PyData → Bool
  | .bool c => c == b
  | _ => false
def gIs : PyData → PyData → Option Bool
  | d, .none => some (isNo d)
  | d, .bool b => some (isBo b d)
  | _, _ => none
def gIsB (d e : PyData) : Option PyData := (gIs d e).map .bool
def gNotIsB (d e : PyData) : Option PyData := (gIs d e).map fun b => .bool !b
theorem is_bool_gen {M : Model} {A : Around} {E : Value → Shared → Prop} {s : Shared} {Q : Value → Shared → Prop} {v : Value} {b : Bool} (hv : ∀ i, v ≠ .builtin i) (h : Q (.bool (v == .bool b)) s) : wpAny M A (compareOp .Is v (.bool b)) Q E s := by
  cases v <;> first | exact wpAny_pure h | exact absurd rfl (hv _)
theorem isnot_bool_gen {M : Model} {A : Around} {E : Value → Shared → Prop} {s : Shared} {Q : Value → Shared → Prop} {v : Value} {b : Bool} (hv : ∀ i, v ≠ .builtin i) (h : Q (.bool (!(v == .bool b))) s) : wpAny M A (compareOp .IsNot v (.bool b)) Q E s := by
  cases v <;> first | exact wpAny_pure h | exact absurd rfl (hv _)
theorem is_val {K : Frag} {F H : Hp} {x : V} {v : Value} {d : PyData} (hx : WR K F H x d) (rx : RelV x v) : (v == Value.none) = isNo d ∧ (∀ i, v ≠ .builtin i) ∧ ∀ b, (v == Value.bool b) = isBo b d := by
  rcases hx with h | ⟨ds, a, vs, rfl, rfl, _⟩
  · cases h with
    | non => cases rx; exact ⟨rfl, fun _ => nofun, fun b => rfl⟩
    | bl b => cases rx; exact ⟨rfl, fun _ => nofun, fun c => by cases b <;> cases c <;> rfl⟩
    | int i => obtain ⟨t, rfl⟩ := rx; exact ⟨rfl, fun _ => nofun, fun b => rfl⟩
    | str i => obtain ⟨t, rfl⟩ := rx; exact ⟨rfl, fun _ => nofun, fun b => rfl⟩
    | lst _ _ => cases rx; exact ⟨rfl, fun _ => nofun, fun b => rfl⟩
    | tup _ _ => cases rx; exact ⟨rfl, fun _ => nofun, fun b => rfl⟩
    | dic _ _ => cases rx; exact ⟨rfl, fun _ => nofun, fun b => rfl⟩
  · cases rx; exact ⟨rfl, fun _ => nofun, fun b => rfl⟩
theorem o_is {X : Cx} : OpR X (compareOp .Is) (rG X.K gIsB) := by
  intro pins s σ H x y v u Q I rx ry ⟨F, dx, dy, d, l, hx, hy, e, q⟩
  obtain ⟨h1, h3, h2⟩ := is_val hx rx
  cases dy <;> try (cases dx <;> cases e; done)
  · have := hy.non
    subst this
    cases ry
    refine is_none_gen ⟨.bl _, H, I, rfl, ?_⟩
    rw [h1]
    exact q _ F H (.refl l) (by cases e; exact .bl _)
  · have := hy.bl
    subst this
    cases ry
    refine is_bool_gen h3 ⟨.bl _, H, I, rfl, ?_⟩
    rw [h2]
    exact q _ F H (.refl l) (by cases e; exact .bl _)
theorem o_isnot {X : Cx} : OpR X (compareOp .IsNot) (rG X.K gNotIsB) := by
  intro pins s σ H x y v u Q I rx ry ⟨F, dx, dy, d, l, hx, hy, e, q⟩
  obtain ⟨h1, h3, h2⟩ := is_val hx rx
  cases dy <;> try (cases dx <;> cases e; done)
  · have := hy.non
    subst this
    cases ry
    refine isnot_none_gen ⟨.bl _, H, I, rfl, ?_⟩
    rw [h1]
    exact q _ F H (.refl l) (by cases e; exact .bl _)
  · have := hy.bl
    subst this
    cases ry
    refine isnot_bool_gen h3 ⟨.bl _, H, I, rfl, ?_⟩
    rw [h2]
    exact q _ F H (.refl l) (by cases e; exact .bl _)
end Ev
namespace Ev
open PySem PySem.Spec PyProof.Rows L2
/-! ## orders -/
def leI : List Int → List Int → Bool
  | [], _ => true
  | _ :: _, [] => false
  | x :: xs, y :: ys => if x = y then leI xs ys else decide (x ≤ y)
theorem lexAt_leI (ns ms : List Int) : ∀ k i : Nat, i + k = min ns.length ms.length → Ob.lexAt (fun j => decide (ns.getD j 0 = ms.getD j 0)) (fun j => decide (ns.getD j 0 ≤ ms.getD j 0)) (decide (ns.length ≤ ms.length)) i k = leI (ns.drop i) (ms.drop i) := by
  intro k
  induction k with
  | zero =>
    intro i h
    rw [Ob.lexAt_zero]
    by_cases hl : ns.length ≤ ms.length
    · have e : ns.drop i = [] := List.drop_eq_nil_of_le (by omega)
      rw [e, decide_eq_true hl]
      rfl
    · have h1 : i < ns.length := by omega
      have e : ms.drop i = [] := List.drop_eq_nil_of_le (by omega)
      rw [e, decide_eq_false hl, List.drop_eq_getElem_cons h1]
      rfl
  | succ k ih =>
    intro i h
    have h1 : i < ns.length := by omega
    have h2 : i < ms.length := by omega
    rw [Ob.lexAt_succ, ih (i + 1) (by omega), List.drop_eq_getElem_cons h1, List.drop_eq_getElem_cons h2]
    have e1 : ns.getD i 0 = ns[i] := by simp [h1]
    have e2 : ms.getD i 0 = ms[i] := by simp [h2]
    simp only [e1, e2, leI, decide_eq_true_eq]
def gLt (d e : PyData) : Option PyData := match d, e with
  | .int i, .int j => some (.bool (decide (i < j)))
  | .str x, .str y => some (.bool (decide (x.cps.toList < y.cps.toList)))
  | .tuple xs, .tuple ys => if (PySem.W.alike (.tuple xs) (.tuple ys) && decide (PyData.depth (.tuple xs) ≤ 64)) = true then some (.bool (PySem.W.dataLt (.tuple xs) (.tuple ys))) else none
  | _, _ => none
def gLe (d e : PyData) : Option PyData := match d, e with
  | .int i, .int j => some (.bool (decide (i ≤ j)))
  | .tuple xs, .tuple ys => match allI xs, allI ys with
    | some ns, some ms => some (.bool (leI ns ms))
    | _, _ => none
  | _, _ => none
def gGt (d e : PyData) : Option PyData := match d, e with
  | .int i, .int j => some (.bool (decide (j < i)))
  | _, _ => none
def gGe (d e : PyData) : Option PyData := match d, e with
  | .int i, .int j => some (.bool (decide (j ≤ i)))
  | _, _ => none
theorem o_lt {X : Cx} (hu : X.A.units + 64 < cLine) : OpR X (compareOp .Lt) (rG X.K gLt) := by
  intro pins s σ H x y v u Q I rx ry ⟨F, dx, dy, d, l, hx, hy, e, q⟩
  cases dx <;> cases dy <;> try (cases e; done)
  · cases e
    exact op_lt pins s σ H x y v u Q I rx ry ⟨_, _, hx.int, hy.int, q _ F H (.refl l) (.bl _)⟩
  · cases e
    exact op_lt_str pins s σ H x y v u Q I rx ry ⟨_, _, hx.str, hy.str, q _ F H (.refl l) (.bl _)⟩
  · rename_i xs ys
    simp only [gLt] at e
    split at e
    · rename_i hc
      cases e
      obtain ⟨h1, h2⟩ := Bool.and_eq_true_iff.mp hc
      have h2 := of_decide_eq_true h2
      obtain ⟨as, r1⟩ := hx.reads I l rx
      obtain ⟨bs, r2⟩ := hy.reads I l ry
      exact PySem.W.rcLt_alike _ _ X.A s v u as bs r1 r2 h1 nofun (by omega) X.prog X.w X.xe _ ⟨.bl _, H, I, rfl, q _ F H (.refl l) (.bl _)⟩
    · cases e
theorem o_le {X : Cx} (hu : X.A.units + 64 < cLine) : OpR X (compareOp .LtE) (rG X.K gLe) := by
  intro pins s σ H x y v u Q I rx ry ⟨F, dx, dy, d, l, hx, hy, e, q⟩
  cases dx <;> cases dy <;> try (cases e; done)
  · cases e
    exact op_le pins s σ H x y v u Q I rx ry ⟨_, _, hx.int, hy.int, q _ F H (.refl l) (.bl _)⟩
  · rename_i xs ys
    simp only [gLe] at e
    cases e1 : allI xs with
    | none => rw [e1] at e; cases e
    | some ns =>
      cases e2 : allI ys with
      | none => rw [e1, e2] at e; cases e
      | some ms =>
        rw [e1, e2] at e
        cases e
        have f1 := allI_eq e1
        have f2 := allI_eq e2
        subst f1 f2
        obtain ⟨a, vs, rfl, h1, r1⟩ := hx.tuple l
        obtain ⟨b, us, rfl, h2, r2⟩ := hy.tuple l
        have g1 := reps_ints r1
        have g2 := reps_ints r2
        subst g1 g2
        refine op_leT (by omega) pins s σ H _ _ v u Q I rx ry ⟨a, b, ns, ms, rfl, rfl, h1, h2, ?_⟩
        rw [lexAt_leI ns ms _ 0 (by omega)]
        exact q _ F H (.refl l) (.bl _)
theorem o_gt {X : Cx} : OpR X (compareOp .Gt) (rG X.K gGt) := by
  intro pins s σ H x y v u Q I rx ry ⟨F, dx, dy, d, l, hx, hy, e, q⟩
  cases dx <;> cases dy <;> try (cases e; done)
  cases e
  exact op_gt pins s σ H x y v u Q I rx ry ⟨_, _, hx.int, hy.int, q _ F H (.refl l) (.bl _)⟩
theorem o_ge {X : Cx} : OpR X (compareOp .GtE) (rG X.K gGe) := by
  intro pins s σ H x y v u Q I rx ry ⟨F, dx, dy, d, l, hx, hy, e, q⟩
  cases dx <;> cases dy <;> try (cases e; done)
  cases e
  exact op_ge pins s σ H x y v u Q I rx ry ⟨_, _, hx.int, hy.int, q _ F H (.refl l) (.bl _)⟩
def gNeg : PyData → Option PyData
  | .int i => some (.int (-i))
  | _ => none
theorem v_neg {K : Frag} : VUn K gNeg (rU fun i => .int (-i)) := by
  intro x dx d F H Q l hx e q
  cases dx <;> try (cases e; done)
  cases e
  exact ⟨_, hx.int, q _ F H (.refl l) (.int _)⟩
end Ev

set_option Elab.async false
set_option linter.all false
set_option maxRecDepth 100000
set_option maxHeartbeats 1000000
namespace Ev
open PySem PySem.Spec PyProof.Rows L2
/-! ## built-in functions -/
def rF (K : Frag) (g : List PyData → Option PyData) : List V → Hp → VK → Prop := fun xs H Q => ∃ F ds d, Le F H ∧ DRs K F H xs ds ∧ g ds = some d ∧ ∀ v F' H', Ext F H F' H' → Rep K F' v d → Q v H'
theorem vf_F {K : Frag} {g : List PyData → Option PyData} : VFn K g (rF K g) := fun _ ds d F _ _ l h e q => ⟨F, ds, d, l, h, e, q⟩
def gLen : List PyData → Option PyData
  | [.list xs] => some (.int xs.length)
  | [.tuple xs] => some (.int xs.length)
  | [.str x] => if x.length ≤ sizeLine then some (.int x.length) else none
  | [.dict kvs] => some (.int kvs.length)
  | _ => none
theorem c_len {X : Cx} : CallR X (.builtin "len") (rF X.K gLen) := by
  intro pins s σ H xs us Q I r ⟨F, ds, d, l, hx, e, q⟩
  match ds, e with
  | [.list ys], e =>
    cases e
    obtain ⟨v, rfl, h⟩ := hx.one
    obtain ⟨a, vs, rfl, h1, r1⟩ := h.list l
    exact call_len_seq pins s σ H _ us Q I r ⟨a, vs, rfl, .inl h1, by rw [r1.length]; exact q _ F H (.refl l) (.int _)⟩
  | [.tuple ys], e =>
    cases e
    obtain ⟨v, rfl, h⟩ := hx.one
    obtain ⟨a, vs, rfl, h1, r1⟩ := h.tuple l
    exact call_len_seq pins s σ H _ us Q I r ⟨a, vs, rfl, .inr h1, by rw [r1.length]; exact q _ F H (.refl l) (.int _)⟩
  | [.str x], e =>
    simp only [gLen] at e
    split at e
    · rename_i hz
      cases e
      obtain ⟨v, rfl, h⟩ := hx.one
      have := h.str
      subst this
      exact call_len_str pins s σ H _ us Q I r ⟨x, rfl, hz, q _ F H (.refl l) (.int _)⟩
    · cases e
  | [.dict ks], e =>
    cases e
    obtain ⟨v, rfl, h⟩ := hx.one
    have h := h.rep fun _ => nofun
    cases h with
    | dic h1 r1 =>
      rename_i a kvs ds
      refine call_lenD pins s σ H _ us Q I r ⟨a, kvs, rfl, l _ _ h1, ?_⟩
      have n1 := r1.length
      have n2 : ((kvs.map fun p => keyD p.1).zip ds).length = kvs.length := by
        rw [List.length_zip, List.length_map]
        simp only [List.length_map] at n1
        omega
      have := q (.int kvs.length) F H (.refl l)
      rw [n2] at this
      exact this (.int _)
def gTuple : List PyData → Option PyData
  | [.list xs] => some (.tuple xs)
  | [.tuple xs] => some (.tuple xs)
  | _ => none
theorem c_tuple {X : Cx} : CallR X (.type "tuple") (rF X.K gTuple) := by
  intro pins s σ H xs us Q I r ⟨F, ds, d, l, hx, e, q⟩
  match ds, e with
  | [.list ys], e =>
    cases e
    obtain ⟨v, rfl, h⟩ := hx.one
    obtain ⟨a, vs, rfl, h1, r1⟩ := h.list l
    refine call_tuple_of pins s σ H _ us Q I r ⟨a, vs, rfl, .inl ⟨h1, fun p n => ?_⟩⟩
    have z := Ext.new (o := .tup vs) l n
    exact q _ _ _ z (.tup (.of upd_same) (r1.mono z.fle))
  | [.tuple ys], e =>
    cases e
    obtain ⟨v, rfl, h⟩ := hx.one
    obtain ⟨a, vs, rfl, h1, r1⟩ := h.tuple l
    exact call_tuple_of pins s σ H _ us Q I r ⟨a, vs, rfl, .inr ⟨h1, q _ F H (.refl l) (h.rep fun _ => nofun)⟩⟩
def gList : List PyData → Option PyData
  | [.list xs] => some (.list xs)
  | [.tuple xs] => some (.list xs)
  | _ => none
theorem c_list {X : Cx} : CallR X (.type "list") (rF X.K gList) := by
  intro pins s σ H xs us Q I r ⟨F, ds, d, l, hx, e, q⟩
  match ds, e with
  | [.list ys], e =>
    cases e
    obtain ⟨v, rfl, h⟩ := hx.one
    obtain ⟨a, vs, rfl, h1, r1⟩ := h.list l
    refine call_list_of pins s σ H _ us Q I r ⟨a, vs, rfl, .inl h1, fun p n => ?_⟩
    have z := Ext.new (o := .lst vs) l n
    exact q _ _ _ z (.lst upd_same (r1.mono z.fle))
  | [.tuple ys], e =>
    cases e
    obtain ⟨v, rfl, h⟩ := hx.one
    obtain ⟨a, vs, rfl, h1, r1⟩ := h.tuple l
    refine call_list_of pins s σ H _ us Q I r ⟨a, vs, rfl, .inr h1, fun p n => ?_⟩
    have z := Ext.new (o := .lst vs) l n
    exact q _ _ _ z (.lst upd_same (r1.mono z.fle))
def gInt : List PyData → Option PyData
  | [.int i] => some (.int i)
  | [.bool b] => some (.int (if b = true then 1 else 0))
  | _ => none
theorem c_int {X : Cx} : CallR X (.type "int") (rF X.K gInt) := by
  intro pins s σ H xs us Q I r ⟨F, ds, d, l, hx, e, q⟩
  match ds, e with
  | [.int i], e =>
    cases e
    obtain ⟨v, rfl, h⟩ := hx.one
    have := h.int
    subst this
    exact call_int1 pins s σ H _ us Q I r (.inl ⟨i, rfl, q _ F H (.refl l) (.int _)⟩)
  | [.bool b], e =>
    cases e
    obtain ⟨v, rfl, h⟩ := hx.one
    have := h.bl
    subst this
    exact call_int1 pins s σ H _ us Q I r (.inr ⟨b, rfl, q _ F H (.refl l) (.int _)⟩)
def gAbs : List PyData → Option PyData
  | [.int i] => some (.int (if i < 0 then -i else i))
  | _ => none
theorem c_abs {X : Cx} : CallR X (.builtin "abs") (rF X.K gAbs) := by
  intro pins s σ H xs us Q I r ⟨F, ds, d, l, hx, e, q⟩
  match ds, e with
  | [.int i], e =>
    cases e
    obtain ⟨v, rfl, h⟩ := hx.one
    have := h.int
    subst this
    exact call_abs pins s σ H _ us Q I r ⟨i, rfl, q _ F H (.refl l) (.int _)⟩
def gMin2 : List PyData → Option PyData
  | [.int i, .int j] => some (.int (if j < i then j else i))
  | _ => none
theorem c_min {X : Cx} (hc : X.calm = true) : CallR X (.builtin "min") (rF X.K gMin2) := by
  intro pins s σ H xs us Q I r ⟨F, ds, d, l, hx, e, q⟩
  match ds, e with
  | [.int i, .int j], e =>
    cases e
    obtain ⟨v, u, rfl, h1, h2⟩ := hx.two
    have := h1.int
    subst this
    have := h2.int
    subst this
    exact call_min2 hc pins s σ H _ us Q I r ⟨i, j, rfl, q _ F H (.refl l) (.int _)⟩
def gMax2 : List PyData → Option PyData
  | [.int i, .int j] => some (.int (if j > i then j else i))
  | _ => none
theorem c_max {X : Cx} (hc : X.calm = true) : CallR X (.builtin "max") (rF X.K gMax2) := by
  intro pins s σ H xs us Q I r ⟨F, ds, d, l, hx, e, q⟩
  match ds, e with
  | [.int i, .int j], e =>
    cases e
    obtain ⟨v, u, rfl, h1, h2⟩ := hx.two
    have := h1.int
    subst this
    have := h2.int
    subst this
    exact call_max2 hc pins s σ H _ us Q I r ⟨i, j, rfl, q _ F H (.refl l) (.int _)⟩
def allB : List PyData → Option (List Bool)
  | [] => some []
  | .bool i :: r => (allB r).map (i :: ·)
  | _ :: _ => none
theorem allB_map : ∀ ns : List Bool, allB (ns.map .bool) = some ns
  | [] => rfl
  | n :: ns => by rw [List.map_cons, allB, allB_map ns]; rfl
theorem allB_eq : ∀ {ds : List PyData} {ns : List Bool}, allB ds = some ns → ds = ns.map .bool
  | [], ns, h => by cases h; rfl
  | .bool i :: r, ns, h => by
    rw [allB] at h
    cases e : allB r with
    | none => rw [e] at h; cases h
    | some ms =>
      rw [e] at h
      cases h
      rw [List.map_cons, ← allB_eq e]
  | .none :: _, _, h => by cases h
  | .int _ :: _, _, h => by cases h
  | .str _ :: _, _, h => by cases h
  | .list _ :: _, _, h => by cases h
  | .tuple _ :: _, _, h => by cases h
  | .dict _ :: _, _, h => by cases h
theorem reps_bls {K : Frag} {F : Hp} : ∀ {ns : List Bool} {vs : List V}, Reps K F vs (ns.map .bool) → vs = ns.map V.bl
  | [], _, h => by cases h; rfl
  | n :: ns, _, h => by
    cases h with
    | cons h r =>
      cases h
      rw [List.map_cons, reps_bls r]
def gAny : List PyData → Option PyData
  | [.list xs] => (allB xs).map fun bs => .bool (bs.any id)
  | _ => none
def gAll : List PyData → Option PyData
  | [.list xs] => (allB xs).map fun bs => .bool (bs.all id)
  | _ => none
theorem c_any {X : Cx} (hc : X.calm = true) : CallR X (.builtin "any") (rF X.K gAny) := by
  intro pins s σ H xs us Q I r ⟨F, ds, d, l, hx, e, q⟩
  match ds, e with
  | [.list ys], e =>
    simp only [gAny] at e
    cases e1 : allB ys with
    | none => rw [e1] at e; cases e
    | some bs =>
      rw [e1] at e
      cases e
      have := allB_eq e1
      subst this
      obtain ⟨v, rfl, h⟩ := hx.one
      obtain ⟨a, vs, rfl, h1, r1⟩ := h.list l
      have := reps_bls r1
      subst this
      exact cr_any hc pins s σ H _ us Q I r ⟨a, bs, rfl, h1, q _ F H (.refl l) (.bl _)⟩
theorem c_all {X : Cx} (hc : X.calm = true) : CallR X (.builtin "all") (rF X.K gAll) := by
  intro pins s σ H xs us Q I r ⟨F, ds, d, l, hx, e, q⟩
  match ds, e with
  | [.list ys], e =>
    simp only [gAll] at e
    cases e1 : allB ys with
    | none => rw [e1] at e; cases e
    | some bs =>
      rw [e1] at e
      cases e
      have := allB_eq e1
      subst this
      obtain ⟨v, rfl, h⟩ := hx.one
      obtain ⟨a, vs, rfl, h1, r1⟩ := h.list l
      have := reps_bls r1
      subst this
      exact cr_all hc pins s σ H _ us Q I r ⟨a, bs, rfl, h1, q _ F H (.refl l) (.bl _)⟩
def gSum : List PyData → Option PyData
  | [.list xs] => (allI xs).map fun ns => .int ns.sum
  | _ => none
theorem c_sum {X : Cx} (hc : X.calm = true) : CallR X (.builtin "sum") (rF X.K gSum) := by
  intro pins s σ H xs us Q I r ⟨F, ds, d, l, hx, e, q⟩
  match ds, e with
  | [.list ys], e =>
    simp only [gSum] at e
    cases e1 : allI ys with
    | none => rw [e1] at e; cases e
    | some bs =>
      rw [e1] at e
      cases e
      have := allI_eq e1
      subst this
      obtain ⟨v, rfl, h⟩ := hx.one
      obtain ⟨a, vs, rfl, h1, r1⟩ := h.list l
      have := reps_ints r1
      subst this
      exact cr_sum hc pins s σ H _ us Q I r ⟨a, bs, rfl, h1, q _ F H (.refl l) (.int _)⟩
/-! ## repr -/
def gRepr : List PyData → Option PyData
  | [d] => if (d.showable && decide (PyData.depth d ≤ 60) && decide (d.shown.length ≤ sizeLine) && !d.hasDict) = true then some (.str d.shown) else none
  | _ => none
/-! ## isinstance -/
def tyName : PyData → String
  | .none => "NoneType"
  | .bool _ => "bool"
  | .int _ => "int"
  | .str _ => "str"
  | .list _ => "list"
  | .tuple _ => "tuple"
  | .dict _ => "dict"
inductive Ty where
  | int | bool | str | list | tuple | dict
def Ty.name : Ty → String
  | .int => "int"
  | .bool => "bool"
  | .str => "str"
  | .list => "list"
  | .tuple => "tuple"
  | .dict => "dict"
def isTy : Ty → PyData → Bool
  | .int, .int _ => true
  | .int, .bool _ => true
  | .bool, .bool _ => true
  | .str, .str _ => true
  | .list, .list _ => true
  | .tuple, .tuple _ => true
  | .dict, .dict _ => true
  | _, _ => false
theorem kb_all : (["NoneType", "bool", "int", "str", "list", "tuple", "dict"].all fun a => ["int", "bool", "str", "list", "tuple", "dict"].all fun b => kitB a b == some (a == b || (a == "bool" && b == "int"))) = true := by decide +kernel
theorem kb_of {a b : String} {r : Bool} (ha : a ∈ ["NoneType", "bool", "int", "str", "list", "tuple", "dict"]) (hb : b ∈ ["int", "bool", "str", "list", "tuple", "dict"]) (e : (a == b || (a == "bool" && b == "int")) = r) : kitB a b = some r := by
  have h := List.all_eq_true.mp (List.all_eq_true.mp kb_all a ha) b hb
  rw [← e]
  exact eq_of_beq h
theorem kit_isTy {K : Frag} (t : Ty) (d : PyData) : PySem.W.kitOne K (.type (tyName d)) (.type t.name) = some (isTy t d) := by
  cases t <;> cases d <;> exact kit_ty (kb_of (by simp [tyName]) (by simp [Ty.name]) (by simp [tyName, Ty.name, isTy]))
theorem tyx_of {K : Frag} {F H : Hp} (l : Le F H) {v : V} {d : PyData} (h : DR K F H v d) : TyX K H v (.type (tyName d)) := by
  rcases h with (h | ⟨ds, a, vs, rfl, rfl, h, _⟩) | ⟨ds, a, vs, rfl, rfl, h, _⟩
  · cases h with
    | non => exact .base .non
    | bl b => exact .base (.bl b)
    | int i => exact .base (.int i)
    | str i => exact .base (.str i)
    | lst h _ => exact .base (.lst (l _ _ h))
    | tup h _ =>
      rcases l.sqT h with (h | ⟨o, h⟩) | ⟨o, its, n, h, hc, _⟩
      · exact .base (.tup h)
      · exact .fTuple h
      · exact .kTuple h hc
    | dic h _ => exact .base (.dK (l _ _ h))
  · exact .base (.lst h)
  · rcases h with (h | ⟨o, h⟩) | ⟨o, its, n, h, hc, _⟩
    · exact .base (.lst h)
    · exact .base (.frz h)
    · exact .kList h hc
section
variable {X : Cx} {io : List Nat} {s0 : L2.St} {W : WX} {c : Bool} {a : Expr} {fa : Den PyData} {pos p p' : Pos}
theorem me_isi (t : Ty) {x : Str} (hx : x = Str.ofString t.name) (hG : Gl X "isinstance") (hm : X.mg "isinstance" = none) (hG2 : Gl X x) (hm2 : X.mg x = none) (hs : isStar a = false) (ha : PE X a (tED (en X io s0) W c fa)) : PE X (.Call (.Name "isinstance" p) [a, .Name x p'] [] pos) (tE (en X io s0) W c (una (fun d => some (.bool (isTy t d))) fa)) := by
  have hb : bootBuiltins x = some (.type t.name) := by subst hx; cases t <;> decide +kernel
  have hd : (x == ("__debug__" : Str)) = false := by subst hx; cases t <;> decide
  have hn : x ≠ "__name__" := by subst hx; cases t <;> decide
  have h2 : PE X (.Name x p') (tC (.ty t.name)) := pe_bltn hG2 hm2 hb rfl hn hd
  have hs2 : isStar (.Name x p') = false := rfl
  refine pe_weak (pe_callB call_isi hG hm (by decide +kernel) (pa_cons ha (pa_cons h2 pa_nil (star_cons hs2 _ _)) (star_cons hs _ _)) (by decide) (by decide) (star_cons hs _ _) (star_none fun y hy => by
    have : y = .Name x p' := by simpa using hy
    rw [this]
    rfl)) fun σ H Q ⟨G, F0, ρ, F, r, q⟩ => ⟨G, F0, ρ, F, r, (Post.bind q id).imp fun v F1 H1 d ρ1 r1 l1 k1 p1 q1 => ?_⟩
  exact ⟨v, .ty t.name, .type (tyName d), .type t.name, isTy t d, rfl, .ty _, tyx_of r1.sub p1, kit_isTy t d, q1 _ F1 H1 r1 (.refl _) (fun _ => .refl _) (.bl _)⟩
end
end Ev

set_option Elab.async false
set_option linter.all false
set_option maxRecDepth 100000
set_option maxHeartbeats 1000000
namespace Ev
open PySem PySem.Spec PyProof.Rows L2
/-! ## subscripts -/
def gIx : PyData → PyData → Option PyData
  | .list xs, .int i => atI xs i
  | .tuple xs, .int i => atI xs i
  | .str z, .int i => if z.length ≤ sizeLine then (atI z.cps.toList i).map fun c => .str ⟨#[c]⟩ else none
  | _, _ => none
theorem Reps.atI {K : Frag} {F : Hp} {vs : List V} {ds : List PyData} {i : Int} {d : PyData} (r : Reps K F vs ds) (h : L2.atI ds i = some d) : ∃ v, L2.atI vs i = some v ∧ Rep K F v d := by
  unfold L2.atI at h ⊢
  rw [r.length]
  cases e : ixN ds.length i with
  | none => rw [e] at h; cases h
  | some j =>
    rw [e] at h
    exact r.get h
def isSlice : Expr → Bool
  | .Slice _ _ _ _ => true
  | _ => false
theorem plainIx {b : Expr} (h : isSlice b = false) : PlainIx b := by
  cases b <;> first | (intro _ _; rfl) | cases h
/-- a two-place rule of readable values -/
def VOpD (K : Frag) (g : PyData → PyData → Option PyData) (r : R2) : Prop :=
  ∀ x y dx dy d (F H : Hp) (Q : VK), Le F H → DR K F H x dx → DR K F H y dy → g dx dy = some d → (∀ v F' H', Ext F H F' H' → Rep K F' v d → Q v H') → r x y H Q
theorem v_ix {K : Frag} : VOpD K gIx (rIx K) := by
  intro x y dx dy d F H Q l hx hy e q
  cases dx <;> cases dy <;> try (cases e; done)
  · rename_i z i
    simp only [gIx] at e
    split at e
    · rename_i hz
      cases e2 : L2.atI z.cps.toList i with
      | none => rw [e2] at e; cases e
      | some c =>
        rw [e2] at e
        cases e
        exact .inr (.inr ⟨z, i, c, hx.str, hy.int, hz, e2, q _ F H (.refl l) (.str _)⟩)
    · cases e
  · obtain ⟨a, vs, e1, h1, r1⟩ := hx.list l
    obtain ⟨v, e2, p⟩ := r1.atI e
    exact .inl ⟨a, vs, _, v, e1, hy.int, h1, e2, q v F H (.refl l) p⟩
  · obtain ⟨a, vs, e1, h1, r1⟩ := hx.tuple l
    obtain ⟨v, e2, p⟩ := r1.atI e
    exact .inr (.inl ⟨a, vs, _, v, e1, hy.int, h1, e2, q v F H (.refl l) p⟩)
section
variable {X : Cx} {io : List Nat} {s0 : L2.St} {W : WX} {c : Bool} {a b : Expr} {fa fb : Den PyData} {g : PyData → PyData → Option PyData} {r : R2} {pos : Pos}
theorem valD (hg : VOpD X.K g r) {σ : L2.St} {H : Hp} {Q : VK} (h : tE (en X io s0) W c (bin g fa fb) σ H Q) : tOp r (tED (en X io s0) W c fa) (tED (en X io s0) W true fb) σ H Q := by
  obtain ⟨G, F0, ρ, F, rr, q⟩ := h
  refine ⟨G, F0, ρ, F, rr, (Post.bind q id).imp fun x F1 H1 d1 ρ1 r1 l1 k1 p1 q1 => ?_⟩
  refine ⟨G, F0, ρ1, F1, r1, (Post.bind q1 fun _ => rfl).imp fun y F2 H2 d2 ρ2 r2 l2 k2 p2 q2 => ?_⟩
  obtain ⟨d, e, q3⟩ := Post.lift q2
  exact hg x y d1 d2 d F2 H2 Q r2.sub (p1.mono l2 (k2 rfl)) p2 e fun v F3 H3 z p => q3 v F3 H3 (r2.ext z) z.fle (fun _ => z.hle) p
theorem valD' (hg : VOpD X.K g r) {σ : L2.St} {H : Hp} {Q : VK} (h : tE (en X io s0) W c (bin g fa fb) σ H Q) : tOp r (tE (en X io s0) W c fa) (tED (en X io s0) W c fb) σ H Q := by
  obtain ⟨G, F0, ρ, F, rr, q⟩ := h
  refine ⟨G, F0, ρ, F, rr, (Post.bind q id).imp fun x F1 H1 d1 ρ1 r1 l1 k1 p1 q1 => ?_⟩
  refine ⟨G, F0, ρ1, F1, r1, (Post.bind q1 id).imp fun y F2 H2 d2 ρ2 r2 l2 k2 p2 q2 => ?_⟩
  obtain ⟨d, e, q3⟩ := Post.lift q2
  exact hg x y d1 d2 d F2 H2 Q r2.sub (.inl (.inl (Rep.mono l2 p1))) p2 e fun v F3 H3 z p => q3 v F3 H3 (r2.ext z) z.fle (fun _ => z.hle) p
theorem me_ix (hs : isSlice b = false) (ha : PE X a (tED (en X io s0) W c fa)) (hb : PE X b (tED (en X io s0) W true fb)) : PE X (.Subscript a b pos) (tE (en X io s0) W c (bin gIx fa fb)) := pe_weak (pe_ix ix_seq ha hb (plainIx hs)) fun _ _ _ h => valD v_ix h
theorem me_ix' (hs : isSlice b = false) (ha : PE X a (tE (en X io s0) W c fa)) (hb : PE X b (tED (en X io s0) W c fb)) : PE X (.Subscript a b pos) (tE (en X io s0) W c (bin gIx fa fb)) := pe_weak (pe_ix ix_seq ha hb (plainIx hs)) fun _ _ _ h => valD' v_ix h
/-! ## slices -/
def cutD (xs : List PyData) (lo hi : Option Int) : List PyData := (xs.drop (HT.sIx xs.length 0 lo)).take (HT.sIx xs.length xs.length hi - HT.sIx xs.length 0 lo)
def gSl (lo hi : Option Int) : PyData → Option PyData
  | .list xs => some (.list (cutD xs lo hi))
  | .tuple xs => some (.tuple (cutD xs lo hi))
  | .str z => if z.length ≤ sizeLine then some (.str (Txt.slice z lo hi)) else none
  | _ => none
/-- a part of a slice -/
def dPart : Option (Den PyData) → Den (Option Int)
  | none => fun ρ => .ok none ρ
  | some f => fun ρ => (f ρ).bind fun d ρ1 => lift ((isI d).map some) ρ1
def dSl (fa : Den PyData) (fl fh : Option (Den PyData)) : Den PyData := fun ρ => (fa ρ).bind fun d ρ1 => (dPart fl ρ1).bind fun l ρ2 => (dPart fh ρ2).bind fun h ρ3 => lift (gSl l h d) ρ3
theorem Reps.cut {K : Frag} {F : Hp} {vs : List V} {ds : List PyData} (r : Reps K F vs ds) (lo hi : Option Int) : Reps K F (cutV vs lo hi) (cutD ds lo hi) := by
  unfold cutV cutD
  rw [r.length]
  exact (r.drop _).take _
/-- a part's reading -/
def tP (C : En) (W : WX) (c : Bool) (f : Den (Option Int)) : TO := fun σ H Q => ∃ G F0 ρ F, R C G F0 ρ F σ H ∧ Post (fun _ _ v d => v = d) C W c G F0 F σ H (fun v _ H' _ _ => Q v H') (f ρ)
theorem mp_none : PO X none (tP (en X io s0) W c (dPart none)) := ⟨fun pins s σ H Q I ⟨G, F0, ρ, F, r, q⟩ => po_none.run pins s σ H Q I (q none F H r (.refl _) (fun _ => .refl _) rfl)⟩
theorem mp_some (h : PE X a (tE (en X io s0) W c fa)) : PO X (some a) (tP (en X io s0) W c (dPart (some fa))) := ⟨fun pins s σ H Q I ⟨G, F0, ρ, F, r, q⟩ => (po_some h).run pins s σ H Q I ⟨G, F0, ρ, F, r, (Post.bind q id).imp fun x F1 H1 d ρ1 r1 l1 k1 p1 q1 => by
  obtain ⟨o, e, q3⟩ := Post.lift q1
  cases d with
  | int i =>
    cases e
    cases p1
    exact ⟨i, rfl, q3 _ F1 H1 r1 (.refl _) (fun _ => .refl _) rfl⟩
  | _ => cases e⟩⟩
def rSlAll (K : Frag) : V → Option Int → Option Int → Hp → VK → Prop := fun x lo hi H Q => (rSlL K x lo hi H Q ∨ rSlA K x lo hi H Q) ∨ C8.rSlX x lo hi H Q
theorem sl_all : L2.SlR X (rSlAll X.K) := (sl_list.or sl_tupA).or C8.sl_txt
theorem v_sl {K : Frag} {x : V} {dx d : PyData} {lo hi : Option Int} {F H : Hp} {Q : VK} (l : Le F H) (hx : DR K F H x dx) (e : gSl lo hi dx = some d) (q : ∀ v F' H', Ext F H F' H' → Rep K F' v d → Q v H') : rSlAll K x lo hi H Q := by
  cases dx <;> try (cases e; done)
  · rename_i z
    simp only [gSl] at e
    split at e
    · rename_i hz
      cases e
      exact .inr ⟨z, hx.str, hz, q _ F H (.refl l) (.str _)⟩
    · cases e
  · cases e
    obtain ⟨a, vs, e1, h1, r1⟩ := hx.list l
    refine .inl (.inl ⟨a, vs, e1, h1, fun p n => ?_⟩)
    have z := Ext.new (o := .lst (cutV vs lo hi)) l n
    exact q _ _ _ z (.lst upd_same ((r1.cut lo hi).mono z.fle))
  · rename_i xs
    cases e
    obtain ⟨a, vs, e1, h1, r1⟩ := hx.tuple l
    refine .inl (.inr ⟨a, vs, e1, h1, fun hw => ?_, fun _ p n => ?_⟩)
    · have e2 : cutD xs lo hi = xs := by
        unfold cutD
        rw [← r1.length, hw.1, hw.2, r1.length]
        simp
      rw [e2] at q
      exact q _ F H (.refl l) (e1 ▸ hx.rep fun _ => nofun)
    · have z := Ext.new (o := .tup (cutV vs lo hi)) l n
      exact q _ _ _ z (.tup (.of upd_same) ((r1.cut lo hi).mono z.fle))
theorem sl_of {fl fh : Option (Den PyData)} {σ : L2.St} {H : Hp} {Q : VK} (h : tE (en X io s0) W c (dSl fa fl fh) σ H Q) : L2.tSl (rSlAll X.K) (tED (en X io s0) W c fa) (tP (en X io s0) W true (dPart fl)) (tP (en X io s0) W true (dPart fh)) σ H Q := by
  obtain ⟨G, F0, ρ, F, rr, q⟩ := h
  refine ⟨G, F0, ρ, F, rr, (Post.bind q id).imp fun x F1 H1 d1 ρ1 r1 l1 k1 p1 q1 => ?_⟩
  refine ⟨G, F0, ρ1, F1, r1, (Post.bind q1 fun _ => rfl).imp fun y F2 H2 d2 ρ2 r2 l2 k2 p2 q2 => ?_⟩
  refine ⟨G, F0, ρ2, F2, r2, (Post.bind q2 fun _ => rfl).imp fun z F3 H3 d3 ρ3 r3 l3 k3 p3 q3 => ?_⟩
  obtain ⟨d, e, q4⟩ := Post.lift q3
  subst p2 p3
  exact v_sl r3.sub (p1.mono (l2.trans l3) ((k2 rfl).trans (k3 rfl))) e fun v F4 H4 z p => q4 v F4 H4 (r3.ext z) z.fle (fun _ => z.hle) p
theorem me_sl {lo hi : Option Expr} {fl fh : Option (Den PyData)} {p2 : Pos} (ha : PE X a (tED (en X io s0) W c fa)) (hl : PO X lo (tP (en X io s0) W true (dPart fl))) (hh : PO X hi (tP (en X io s0) W true (dPart fh))) : PE X (.Subscript a (.Slice lo hi none p2) pos) (tE (en X io s0) W c (dSl fa fl fh)) := pe_weak (pe_slice sl_all ha hl hh) fun _ _ _ h => sl_of h
end
end Ev

set_option Elab.async false
set_option linter.all false
set_option maxRecDepth 100000
set_option maxHeartbeats 1000000
namespace Ev
open PySem PySem.Spec PyProof.Rows L2
/-! ## enumerate of a tuple -/
section
open AutoSeq1 (wpAny_loadPart')
abbrev tupItObj (t : Addr) : Obj := { cls := .type "tuple_iterator", data := .fields #[.ref t, .int 0 0] }
abbrev enumObj0 (it : Addr) : Obj := { cls := .type "enumerate", data := .fields #[.none, .bool false, .ref it, rawInt 0, .none, .none] }
theorem enum_newT (t : Addr) (vs : Array Value) (n : Nat) (dct : Option Addr) (sl : Array (Option Value)) :
    Meets (Builtin.«enumerate.__new__» ⟨[.type "enumerate", .ref t], []⟩) (fun _ R s => s.heap.get? t = some { cls := .type "tuple", dict := dct, data := .seq vs n, slots := sl } ∧ R (.ok (.ret (.ref (s.heap.push (tupItObj t)).objs.size))) { s with heap := (s.heap.push (tupItObj t)).push (enumObj0 s.heap.objs.size) }) :=
  .of_wp fun prog w A R s hh => by
    obtain ⟨hp, gn, dr, tk, osx⟩ := s
    obtain ⟨ht, k⟩ := hh
    have hsub := sub_enumerate
    have hT : Heap.IsTuple (Shared.heap ⟨hp, gn, dr, tk, osx⟩) t vs := ⟨_, ht, rfl, n, rfl⟩
    wp_walk using wpAny_loadPart' ht
    refine wpAny_stack_any fun st => wpAny_pure ?_
    split
    · rename_i cc _ _ _ _ _
      cases (cc == Value.type "enumerate")
      · wp_walk using wpAny_loadPart' ht, wpAny_pyIter_tuple hT
        exact ⟨_, rfl, k⟩
      · wp_walk using wpAny_loadPart' ht, wpAny_pyIter_tuple hT
        exact ⟨_, rfl, k⟩
    · wp_walk using wpAny_loadPart' ht, wpAny_pyIter_tuple hT
      exact ⟨_, rfl, k⟩
theorem call_enumT {prog : Program} {w : World} {A : Around} {E : Value → Shared → Prop} {s : Shared} {t : Addr} {vs : Array Value} {Q : Value → Shared → Prop} (hT : s.heap.IsTuple t vs)
    (k : ∀ h', IsEnum h' (s.heap.objs.size + 1) s.heap.objs.size 0 .none → h'.IsTupleIter s.heap.objs.size t 0 → (∀ b o, s.heap.get? b = some o → h'.get? b = some o) → Q (.ref (s.heap.objs.size + 1)) { s with heap := h' }) :
    wpAny (model prog w) A (call (.type "enumerate") [.ref t]) Q E s := by
  obtain ⟨⟨c0, d0, dt, sl⟩, ho, hc, n, hd⟩ := hT
  replace hc : c0 = .type "tuple" := hc
  replace hd : dt = .seq vs n := hd
  subst hc hd
  refine callType_new F.called_enumerate (by decide) (F.typeCall_enumerate_1 _) (F.newCall_enumerate_1 _) (fun obj => F.args_object_init_2 obj _) F.entry_enumerate_new (enum_newT t vs n d0 sl) ⟨ho, ?_⟩
  have hz : (s.heap.push (tupItObj t)).objs.size = s.heap.objs.size + 1 := Heap.size_push ..
  show _ ∧ _
  rw [hz]
  have he : IsEnum ((s.heap.push (tupItObj t)).push (enumObj0 s.heap.objs.size)) (s.heap.objs.size + 1) s.heap.objs.size 0 .none := by
    have q := Heap.get?_push_size (s.heap.push (tupItObj t)) (o := enumObj0 s.heap.objs.size) rfl
    rw [hz] at q
    exact q
  exact ⟨⟨_, he, rfl⟩, k _ he ⟨_, Heap.get?_push_of_some _ (Heap.get?_push_size _ rfl), rfl, rfl⟩ fun b o x => Heap.get?_push_of_some _ (Heap.get?_push_of_some _ x)⟩
end
/-- the tuple at a, each item in a new pair -/
def ItE (K : Frag) (a : Addr) : It :=
  ⟨fun i H => ∃ (xs : List V) (x : V), SqT K H a xs ∧ xs[i]? = some x, fun i H v H' => ∃ T x, v = .ref T ∧ H T = none ∧ H' = L2.upd H T (.tup [.int (i : Nat), x]) ∧ ∀ xs, SqT K H a xs → xs[i]? = some x, fun i H => ∃ xs : List V, SqT K H a xs ∧ xs.length = i⟩
theorem turn_enumT {P : Program} {w : World} {K : Frag} {elts : List Expr} {kk : Nat} {tpos : Pos} (a e it : Addr) (hne : e ≠ it) :
    Turn P w K (.Tuple elts kk tpos) (ItE K a) [e, it] e (fun i h => (∃ old, IsEnum h e it ((i : Nat) : Int) old) ∧ h.IsTupleIter it a i) where
  mem := by simp
  obj := fun i h ⟨⟨old, he⟩, ⟨o, ho, _, hd⟩⟩ b hb => by
    rcases (show b = e ∨ b = it by simpa using hb) with z | z
    · exact z ▸ ⟨_, he, fun v q => nomatch q⟩
    · exact z ▸ ⟨o, ho, fun v q => by rw [hd] at q; cases q⟩
  keep := fun i h h' ⟨⟨old, he⟩, hi⟩ k => ⟨⟨old, k e (by simp) _ he⟩, hi.at fun o q => k it (by simp) o q⟩
  item := by
    intro X hP hw hK hc i pins s σ H E I hf st hg
    subst hP hw hK
    obtain ⟨⟨old, he⟩, hit⟩ := st
    obtain ⟨xs, x, hq, hx⟩ := hg
    obtain ⟨its, rv, p, hz⟩ := I.tuple hq
    obtain ⟨u, hu, ru⟩ := rv.get hx
    have hel : e < s.heap.objs.size := Heap.lt_size he
    have hil : it < s.heap.objs.size := let ⟨_, q, _⟩ := hit; Heap.lt_size q
    have hai : a ≠ it := fun z => by
      obtain ⟨o1, g1, c1, _⟩ := hit
      obtain ⟨o2, g2, c2, _⟩ := p
      rw [z, g1] at g2
      cases g2
      rw [c1] at c2
      injection c2 with q
      exact absurd q (by decide)
    have hea : e ∉ [it, a] := fun z => by
      rcases (show e = it ∨ e = a by simpa using z) with z | z
      · exact hne z
      · obtain ⟨o2, g2, c2, _⟩ := p
        have he' : s.heap.get? e = some _ := he
        rw [z, g2] at he'
        cases he'
        injection c2 with q
        exact absurd q (by decide)
    have hil' : i < its.toArray.size := by
      have q := (List.getElem?_eq_some_iff.mp hu).1
      simpa using q
    have D := Draws.tuple (prog := X.prog) (w := X.w) (A := X.A.in1) (I.ok.hd hc) it a hai its.toArray
    refine wpAny_pyNext_enum_itemD (i := i) D he ⟨hit, p⟩ hil' hne hea fun y h' tk hy ho hst hT hsz hk => ?_
    have ey : y = u := by
      have q : its.toArray[i]? = some y := hy
      rw [List.getElem?_toArray, hu] at q
      exact (Option.some.inj q).symm
    subst ey
    refine ⟨_, rfl, wpAny_letOwnedTupleGo_enum (s := { s with heap := h', toks := tk + 1 }) ho fun h2 he' sb => ?_⟩
    have hT2 : h2.get? s.heap.objs.size = some { cls := .type "tuple", data := .seq #[.int i tk, y] } := (sb.2 _ (Nat.ne_of_gt hel)).trans hT
    have new : ObjOk X.prog X.w (L2.upd H s.heap.objs.size (.tup [.int (i : Nat), x])) h2 s.heap.objs.size (.tup [.int (i : Nat), x]) := ⟨by show 2 ≤ sizeLine; decide, [.int i tk, y], .cons ⟨_, rfl⟩ (.cons ru .nil), ⟨_, hT2, rfl, _, rfl⟩⟩
    have I1 : Inv X pins σ (L2.upd H s.heap.objs.size (.tup [.int (i : Nat), x])) { s with heap := h2, toks := tk + 1 } :=
      I.turnedNew (ch := [e, it]) (fun b ob hb q => by
        have n1 : b ≠ e := fun z => hb (by simp [z])
        have n2 : b ≠ it := fun z => hb (by simp [z])
        exact (sb.2 b n1).trans (hk b ob n1 n2 q)) hf (Nat.le_refl _) new
    refine ⟨.ref s.heap.objs.size, _, I1, rfl, ⟨_, x, rfl, I.hok.fresh (Nat.le_refl _), rfl, fun ys hy => by rw [I.tuple_inj hy hq]; exact hx⟩, ⟨⟨y, ?_⟩, hst.1.at fun o q => (sb.2 it (Ne.symm hne)).trans q⟩, fun b hb => ?_⟩
    · rw [show ((i + 1 : Nat) : Int) = (i : Int) + 1 by omega]
      exact he'
    · have hb' : b < s.heap.objs.size := by
        rcases (show b = e ∨ b = it by simpa using hb) with z | z <;> (rw [z]; assumption)
      rw [upd_ne (Nat.ne_of_lt hb')]
      exact (hf b hb).1
  done := by
    intro X hP hw hK hc i pins s σ H E I hf st hg
    subst hP hw hK
    obtain ⟨⟨old, he⟩, hit⟩ := st
    obtain ⟨xs, hq, hx⟩ := hg
    obtain ⟨its, rv, p, hz⟩ := I.tuple hq
    have hai : a ≠ it := fun z => by
      obtain ⟨o1, g1, c1, _⟩ := hit
      obtain ⟨o2, g2, c2, _⟩ := p
      rw [z, g1] at g2
      cases g2
      rw [c1] at c2
      injection c2 with q
      exact absurd q (by decide)
    have D := Draws.tuple (prog := X.prog) (w := X.w) (A := X.A.in1) (I.ok.hd hc) it a hai its.toArray
    have hn : i = its.toArray.size := by
      have q := rv.length
      simp
      omega
    obtain ⟨f0, f1, f2, f3, f4, f5⟩ := hf it (by simp)
    exact wpAny_pyNext_enum_endD D he (hn ▸ ⟨hit, p⟩) fun h' eb => ⟨rfl, I.turned (t' := s.toks) (fun b o hb q => eb b o hb q) f0 f1 f3 f4 f5⟩
  self := fun A i s Q E ⟨⟨_, he⟩, _⟩ h => wpAny_pyIter_enum he h
/-- enumerate of a list or a tuple -/
def iEnumA (K : Frag) (ta : TA) : TI := fun σ H Rk => ta σ H fun vs H1 => ∃ a, vs = [.ref a] ∧ ((∃ xs, SqL K H1 a xs ∧ (xs.length ≤ sizeLine → Rk (Ite K a) H1)) ∨ ∃ xs, SqT K H1 a xs ∧ (xs.length ≤ sizeLine → Rk (ItE K a) H1))
theorem pi_enumA {X : Cx} {e : Expr} {ta : TA} {p pos tpos : Pos} {elts : List Expr} {kk : Nat} (hg : Gl X "enumerate") (hm : X.mg "enumerate" = none) (ha : PA X [e] ta) (hs : starEach [e] X.env = [(false, eval e X.env)]) :
    PI X (.Tuple elts kk tpos) (.Call (.Name "enumerate" p) [e] [] pos) (iEnumA X.K ta) := by
  refine ⟨fun pins s σ H Rk I h => ?_⟩
  refine Call_ (ld_blt I hg hm boot_enumerate (PyProof.Rows.callWith_type1 (thn (ha.run pos pins s σ H _ I h) fun us s1 ⟨vs, H1, I1, r1, a, ex, q1⟩ => ?_) hs rfl))
  subst ex
  cases r1 with
  | cons r rr =>
    cases rr
    cases r
    have fp2 : ∀ b ∈ [s1.heap.objs.size + 1, s1.heap.objs.size], FpOk X pins H1 b := fun b hb => by
      have hle : s1.heap.objs.size ≤ b := by
        rcases (show b = s1.heap.objs.size + 1 ∨ b = s1.heap.objs.size by simpa using hb) with z | z <;> omega
      exact I1.fpOk hle (I1.hok.fresh hle)
    rcases q1 with ⟨xs, hq, q⟩ | ⟨xs, hq, q⟩
    · obtain ⟨its, rv, p', hz⟩ := I1.list hq
      refine call_enumerate_list p'.isList fun h' he hit hsz hk => wpAny_pyIter_enum he ?_
      exact ⟨s1.heap.objs.size + 1, [s1.heap.objs.size + 1, s1.heap.objs.size], _, _, H1, rfl, I1.kept (t' := s1.toks) hk, turn_enum a _ _, ⟨⟨.none, he⟩, hit, Nat.succ_ne_self _⟩, fp2, q hz⟩
    · obtain ⟨its, rv, p', hz⟩ := I1.tuple hq
      refine call_enumT p' fun h' he hit hk => wpAny_pyIter_enum he ?_
      exact ⟨s1.heap.objs.size + 1, [s1.heap.objs.size + 1, s1.heap.objs.size], _, _, H1, rfl, I1.kept (t' := s1.toks) hk, turn_enumT a _ _ (Nat.succ_ne_self _), ⟨⟨.none, he⟩, hit⟩, fp2, q hz⟩
end Ev

set_option Elab.async false
set_option linter.all false
set_option maxRecDepth 100000
set_option maxHeartbeats 1000000
namespace Ev
open PySem PySem.Spec PyProof.Rows L2
/-! ## what is walked -/
def Wk (K : Frag) (J : It) (F : Hp) (ds : List PyData) : Prop := ds.length ≤ sizeLine ∧ ∀ (i : Nat) (H2 F2 : Hp), Le F F2 → Le F2 H2 →
  (i < ds.length → J.go i H2 ∧ ∀ x H3, J.yld i H2 x H3 → ∃ F3 d, Ext F2 H2 F3 H3 ∧ ds[i]? = some d ∧ Rep K F3 x d) ∧ (i = ds.length → J.stop i H2)
def tI (C : En) (W : WX) (c : Bool) (f : Den (List PyData)) : TI := fun σ H Rk => ∃ G F0 ρ F, R C G F0 ρ F σ H ∧ Post (fun F' _ (J : It) ds => Wk C.K J F' ds) C W c G F0 F σ H (fun J _ H' _ _ => Rk J H') (f ρ)
/-- a datum, or the script -/
def FR (K : Frag) (F : Hp) (v : V) (d : PyData) : Prop := Rep K F v d ∨ ∃ ds a vs, d = .list ds ∧ v = .ref a ∧ SqL K F a vs ∧ Reps K F vs ds
def tEF (C : En) (W : WX) (c : Bool) (f : Den PyData) : TE := fun σ H Q => ∃ G F0 ρ F, R C G F0 ρ F σ H ∧ Post (fun F _ v d => FR C.K F v d) C W c G F0 F σ H (fun v _ H' _ _ => Q v H') (f ρ)
def dSc (i : Nat) : Den PyData := fun ρ => match ρ[i]? with
  | some (.fz d) => .ok d ρ
  | some (.sc xs) => .ok (.list xs) ρ
  | _ => .bad
def signs (z : Str) : List PyData := z.cps.toList.map fun c => .str ⟨#[c]⟩
def items : PyData → Option (List PyData)
  | .list xs => some xs
  | .tuple xs => some xs
  | .str z => if (signs z).length ≤ sizeLine then some (signs z) else none
  | _ => none
theorem wk_tup {K : Frag} {F : Hp} {a : Addr} {vs : List V} {ds : List PyData} (h : SqT K F a vs) (r : Reps K F vs ds) (z : vs.length ≤ sizeLine) : Wk K (Itt K a) F ds := ⟨by rw [← r.length]; exact z, fun i H2 F2 l k => by
  have hq : SqT K H2 a vs := k.sqT (l.sqT h)
  refine ⟨fun hi => ?_, fun hi => ⟨vs, hq, by rw [r.length]; exact Nat.le_of_eq hi.symm⟩⟩
  obtain ⟨v, e, p⟩ := r.get (List.getElem?_eq_getElem hi)
  refine ⟨⟨vs, v, hq, e⟩, fun x H3 ⟨e3, y⟩ => ?_⟩
  subst e3
  have := y vs hq
  rw [e] at this
  cases this
  exact ⟨F2, _, .refl k, List.getElem?_eq_getElem hi, p.mono l⟩⟩
theorem wk_list' {K : Frag} {F : Hp} {a : Addr} {vs : List V} {ds : List PyData} (h : SqL K F a vs) (r : Reps K F vs ds) (z : vs.length ≤ sizeLine) : Wk K (Itl K a) F ds := ⟨by rw [← r.length]; exact z, fun i H2 F2 l k => by
  have hq : SqL K H2 a vs := k.sqL (l.sqL h)
  refine ⟨fun hi => ?_, fun hi => ⟨vs, hq, by rw [r.length]; exact Nat.le_of_eq hi.symm⟩⟩
  obtain ⟨v, e, p⟩ := r.get (List.getElem?_eq_getElem hi)
  refine ⟨⟨vs, v, hq, e⟩, fun x H3 ⟨e3, y⟩ => ?_⟩
  subst e3
  have := y vs hq
  rw [e] at this
  cases this
  exact ⟨F2, _, .refl k, List.getElem?_eq_getElem hi, p.mono l⟩⟩
theorem wk_str {K : Frag} {F : Hp} {z : Str} (hz : (signs z).length ≤ sizeLine) : Wk K (Its z) F (signs z) := ⟨hz, fun i H2 F2 l k => by
  have hl : (signs z).length = z.cps.size := by simp [signs]
  refine ⟨fun hi => ⟨by rw [hl] at hi; exact hi, fun x H3 ⟨e3, c, e, ev⟩ => ?_⟩, fun hi => Nat.le_of_eq (by rw [hi, hl])⟩
  subst e3 ev
  refine ⟨F2, .str ⟨#[c]⟩, .refl k, ?_, .str _⟩
  unfold signs
  rw [List.getElem?_map, Array.getElem?_toList, e]
  rfl⟩
theorem wk_range {K : Frag} {F : Hp} {lo : Int} {n : Nat} (hz : n ≤ sizeLine) : Wk K (Itr lo n) F ((List.range n).map fun k : Nat => .int (lo + k)) := ⟨by simpa using hz, fun i H2 F2 l k => by
  have hl : ((List.range n).map fun k : Nat => PyData.int (lo + k)).length = n := by simp
  refine ⟨fun hi => ⟨by rw [hl] at hi; exact hi, fun x H3 ⟨e3, e⟩ => ?_⟩, fun hi => Nat.le_of_eq (by rw [hi, hl])⟩
  subst e3 e
  rw [hl] at hi
  exact ⟨F2, .int (lo + i), .refl k, by simp [hi], .int _⟩⟩
/-- pairs of places and items -/
def numbered : Nat → List PyData → List PyData
  | _, [] => []
  | k, d :: ds => .tuple [.int (k : Nat), d] :: numbered (k + 1) ds
theorem numbered_length : ∀ (k : Nat) (ds : List PyData), (numbered k ds).length = ds.length
  | _, [] => rfl
  | k, d :: ds => by rw [numbered, List.length_cons, List.length_cons, numbered_length (k + 1) ds]
theorem numbered_get : ∀ (k : Nat) (ds : List PyData) (i : Nat) (d : PyData), ds[i]? = some d → (numbered k ds)[i]? = some (.tuple [.int ((k + i : Nat) : Int), d])
  | _, [], _, _, h => by simp at h
  | k, d :: ds, 0, e, h => by simp at h; subst h; rfl
  | k, d :: ds, i + 1, e, h => by
    rw [numbered, List.getElem?_cons_succ, numbered_get (k + 1) ds i e (by simpa using h)]
    rw [show k + 1 + i = k + (i + 1) by omega]
theorem wk_enumL {K : Frag} {F : Hp} {a : Addr} {vs : List V} {ds : List PyData} (h : SqL K F a vs) (r : Reps K F vs ds) (z : vs.length ≤ sizeLine) : Wk K (Ite K a) F (numbered 0 ds) := ⟨by rw [numbered_length, ← r.length]; exact z, fun i H2 F2 l k => by
  have hq : SqL K H2 a vs := k.sqL (l.sqL h)
  rw [numbered_length]
  refine ⟨fun hi => ?_, fun hi => ⟨vs, hq, by rw [r.length]; exact Nat.le_of_eq hi.symm⟩⟩
  obtain ⟨v, e, p⟩ := r.get (List.getElem?_eq_getElem hi)
  refine ⟨⟨vs, v, hq, e⟩, fun x H3 ⟨T, y, ex, nT, e3, hy⟩ => ?_⟩
  subst ex e3
  have := hy vs hq
  rw [e] at this
  cases this
  have z := Ext.new (o := .tup [.int (i : Nat), v]) k nT
  have g := numbered_get 0 ds i _ (List.getElem?_eq_getElem hi)
  rw [Nat.zero_add] at g
  exact ⟨_, _, z, g, .tup (.of upd_same) (.cons (.int _) (.cons (p.mono (l.trans z.fle)) .nil))⟩⟩
theorem wk_enumT {K : Frag} {F : Hp} {a : Addr} {vs : List V} {ds : List PyData} (h : SqT K F a vs) (r : Reps K F vs ds) (z : vs.length ≤ sizeLine) : Wk K (ItE K a) F (numbered 0 ds) := ⟨by rw [numbered_length, ← r.length]; exact z, fun i H2 F2 l k => by
  have hq : SqT K H2 a vs := k.sqT (l.sqT h)
  rw [numbered_length]
  refine ⟨fun hi => ?_, fun hi => ⟨vs, hq, by rw [r.length]; exact hi.symm⟩⟩
  obtain ⟨v, e, p⟩ := r.get (List.getElem?_eq_getElem hi)
  refine ⟨⟨vs, v, hq, e⟩, fun x H3 ⟨T, y, ex, nT, e3, hy⟩ => ?_⟩
  subst ex e3
  have := hy vs hq
  rw [e] at this
  cases this
  have z := Ext.new (o := .tup [.int (i : Nat), v]) k nT
  have g := numbered_get 0 ds i _ (List.getElem?_eq_getElem hi)
  rw [Nat.zero_add] at g
  exact ⟨_, _, z, g, .tup (.of upd_same) (.cons (.int _) (.cons (p.mono (l.trans z.fle)) .nil))⟩⟩
def zipped : List PyData → List PyData → List PyData
  | d :: ds, e :: es => .tuple [d, e] :: zipped ds es
  | _, _ => []
theorem zipped_length : ∀ ds es : List PyData, (zipped ds es).length = min ds.length es.length
  | [], es => by simp [zipped]
  | _ :: _, [] => by simp [zipped]
  | d :: ds, e :: es => by rw [zipped, List.length_cons, List.length_cons, List.length_cons, zipped_length ds es]; omega
theorem zipped_get : ∀ (ds es : List PyData) (i : Nat) (d e : PyData), ds[i]? = some d → es[i]? = some e → (zipped ds es)[i]? = some (.tuple [d, e])
  | [], _, _, _, _, h, _ => by simp at h
  | _ :: _, [], _, _, _, _, h => by simp at h
  | d :: ds, e :: es, 0, _, _, h, h2 => by simp at h h2; subst h h2; rfl
  | d :: ds, e :: es, i + 1, _, _, h, h2 => by
    rw [zipped, List.getElem?_cons_succ]
    exact zipped_get ds es i _ _ (by simpa using h) (by simpa using h2)
theorem wk_zipL {K : Frag} {F : Hp} {a b : Addr} {vs us : List V} {ds es : List PyData} (h : SqL K F a vs) (r : Reps K F vs ds) (h2 : SqL K F b us) (r2 : Reps K F us es) (hz : (zipped ds es).length ≤ sizeLine) : Wk K (Itz K a b) F (zipped ds es) := ⟨hz, fun i H2 F2 l k => by
  have hq : SqL K H2 a vs := k.sqL (l.sqL h)
  have hq2 : SqL K H2 b us := k.sqL (l.sqL h2)
  have n1 := r.length
  have n2 := r2.length
  rw [zipped_length]
  refine ⟨fun hi => ?_, fun hi => ⟨vs, us, hq, hq2, by omega⟩⟩
  obtain ⟨v, e, p⟩ := r.get (List.getElem?_eq_getElem (show i < ds.length by omega))
  obtain ⟨u, e2, p2⟩ := r2.get (List.getElem?_eq_getElem (show i < es.length by omega))
  refine ⟨⟨vs, us, v, u, hq, hq2, e, e2⟩, fun x H3 hy => ?_⟩
  obtain ⟨T, x1, x2, ex, nT, e3, f1, f2⟩ := hy
  subst ex e3
  have q1 := f1 vs hq
  have q2 := f2 us hq2
  rw [e] at q1
  rw [e2] at q2
  cases q1
  cases q2
  have z := Ext.new (o := .tup [v, u]) k nT
  exact ⟨_, _, z, zipped_get ds es i _ _ (List.getElem?_eq_getElem _) (List.getElem?_eq_getElem _), .tup (.of upd_same) (.cons (p.mono (l.trans z.fle)) (.cons (p2.mono (l.trans z.fle)) .nil))⟩⟩
theorem wk_zipT {K : Frag} {F : Hp} {a b : Addr} {vs us : List V} {ds es : List PyData} (h : SqT K F a vs) (r : Reps K F vs ds) (h2 : SqT K F b us) (r2 : Reps K F us es) (hz : (zipped ds es).length ≤ sizeLine) : Wk K (RZ.ItzT K a b) F (zipped ds es) := ⟨hz, fun i H2 F2 l k => by
  have hq : SqT K H2 a vs := k.sqT (l.sqT h)
  have hq2 : SqT K H2 b us := k.sqT (l.sqT h2)
  have n1 := r.length
  have n2 := r2.length
  rw [zipped_length]
  refine ⟨fun hi => ?_, fun hi => ⟨vs, us, hq, hq2, by omega⟩⟩
  obtain ⟨v, e, p⟩ := r.get (List.getElem?_eq_getElem (show i < ds.length by omega))
  obtain ⟨u, e2, p2⟩ := r2.get (List.getElem?_eq_getElem (show i < es.length by omega))
  refine ⟨⟨vs, us, v, u, hq, hq2, e, e2⟩, fun x H3 hy => ?_⟩
  obtain ⟨T, x1, x2, ex, nT, e3, f1, f2⟩ := hy
  subst ex e3
  have q1 := f1 vs hq
  have q2 := f2 us hq2
  rw [e] at q1
  rw [e2] at q2
  cases q1
  cases q2
  have z := Ext.new (o := .tup [v, u]) k nT
  exact ⟨_, _, z, zipped_get ds es i _ _ (List.getElem?_eq_getElem _) (List.getElem?_eq_getElem _), .tup (.of upd_same) (.cons (p.mono (l.trans z.fle)) (.cons (p2.mono (l.trans z.fle)) .nil))⟩⟩
/-- a list, a tuple or a text, walked -/
def iAny (K : Frag) (te : TE) : TI := fun σ H Rk => te σ H fun x H1 => (∃ a, x = .ref a ∧ ((∃ xs, SqL K H1 a xs ∧ (xs.length ≤ sizeLine → Rk (Itl K a) H1)) ∨ ∃ xs, SqT K H1 a xs ∧ (xs.length ≤ sizeLine → Rk (Itt K a) H1))) ∨ ∃ z, x = .str z ∧ Rk (Its z) H1
theorem pi_any {X : Cx} {tg e : Expr} {te : TE} (he : PE X e te) : PI X tg e (iAny X.K te) := by
  refine ⟨fun pins s σ H Rk I h => ?_⟩
  refine thn (he.run pins s σ H _ I h) fun v s1 ⟨x, H1, I1, r1, q1⟩ => ?_
  have one : ∀ b ∈ [s1.heap.objs.size], FpOk X pins H1 b := fun b hb => by
    have e : b = s1.heap.objs.size := by simpa using hb
    subst e
    exact I1.fpOk (Nat.le_refl _) (I1.hok.fresh (Nat.le_refl _))
  rcases q1 with ⟨a, rfl, ⟨xs, hq, q⟩ | ⟨xs, hq, q⟩⟩ | ⟨z, rfl, q⟩
  · cases r1
    obtain ⟨its, rv, p, hz⟩ := I1.list hq
    exact wpAny_pyIter_list p.isList ⟨s1.heap.objs.size, [s1.heap.objs.size], _, _, H1, rfl, I1.kept (t' := s1.toks) fun b o e => Heap.get?_push_of_some _ e, turn_list a _, ⟨_, Heap.get?_push_size _ rfl, rfl, rfl⟩, one, q hz⟩
  · cases r1
    obtain ⟨its, rv, p, hz⟩ := I1.tuple hq
    exact wpAny_pyIter_tuple (show s1.heap.IsTuple a its.toArray from p) ⟨s1.heap.objs.size, [s1.heap.objs.size], _, _, H1, rfl, I1.kept (t' := s1.toks) fun b o e => Heap.get?_push_of_some _ e, turn_tuple a _, ⟨_, Heap.get?_push_size _ rfl, rfl, rfl⟩, one, q hz⟩
  · obtain ⟨t, rfl⟩ := r1
    cases ha : z.cps.all (· < 128)
    · exact wpAny_pyIter_wide ha (pi_one (tk := s1.toks) I1 _ (turn_str _ z t "str_iterator" (.inr rfl)) ⟨_, Heap.get?_push_size _ rfl, rfl, rfl⟩ q)
    · exact wpAny_pyIter_ascii ha (pi_one (tk := s1.toks) I1 _ (turn_str _ z t "str_ascii_iterator" (.inl rfl)) ⟨_, Heap.get?_push_size _ rfl, rfl, rfl⟩ q)
/-! ## the sources -/
def dIt (f : Den PyData) : Den (List PyData) := fun ρ => (f ρ).bind fun d ρ1 => lift (items d) ρ1
def rng2 (lo hi : Int) : Option (List PyData) := if decide (-(2 ^ 62) ≤ lo ∧ lo < 2 ^ 62 ∧ -(2 ^ 62) ≤ hi ∧ hi < 2 ^ 62 ∧ (hi - lo).toNat ≤ sizeLine) = true then some ((List.range (hi - lo).toNat).map fun k : Nat => .int (lo + k)) else none
def dRng1 (f : Den PyData) : Den (List PyData) := fun ρ => (f ρ).bind fun d ρ1 => lift (match d with
  | .int j => rng2 0 j
  | _ => none) ρ1
def dRng2 (f g : Den PyData) : Den (List PyData) := fun ρ => (f ρ).bind fun d ρ1 => (g ρ1).bind fun e ρ2 => lift (match d, e with
  | .int i, .int j => rng2 i j
  | _, _ => none) ρ2
def dEnum (f : Den PyData) : Den (List PyData) := fun ρ => (f ρ).bind fun d ρ1 => lift (match d with
  | .list xs => some (numbered 0 xs)
  | .tuple xs => some (numbered 0 xs)
  | _ => none) ρ1
def dZip (f g : Den PyData) : Den (List PyData) := fun ρ => (f ρ).bind fun d ρ1 => (g ρ1).bind fun e ρ2 => lift (match d, e with
  | .list xs, .list ys => if (zipped xs ys).length ≤ sizeLine then some (zipped xs ys) else none
  | .tuple xs, .tuple ys => if (zipped xs ys).length ≤ sizeLine then some (zipped xs ys) else none
  | _, _ => none) ρ2
theorem pi_weak {X : Cx} {tg e : Expr} {t t' : TI} (h : PI X tg e t) (w : ∀ σ H Q, t' σ H Q → t σ H Q) : PI X tg e t' := ⟨fun pins s σ H Q I q => h.run pins s σ H Q I (w σ H Q q)⟩
section
variable {X : Cx} {io : List Nat} {s0 : L2.St} {W : WX} {c : Bool} {a b tg : Expr} {fa fb : Den PyData} {pos p : Pos} {i : Nat} {x : Str}
theorem me_sc (hN : X.N[i]? = some x) (hv : Vis X.env.scope x) (hd : (x == ("__debug__" : Str)) = false) (hcd : (x == ("__classdict__" : Str)) = false) : PE X (.Name x pos) (tEF (en X io s0) W c (dSc i)) := pe_weak (pe_var hN hv hd hcd) fun σ H Q ⟨G, F0, ρ, F, r, q⟩ => by
  unfold dSc at q
  split at q
  · rename_i d e
    obtain ⟨v, e2, p⟩ := r.fz e
    exact ⟨v, e2, q v F H r (.refl _) (fun _ => .refl _) (.inl p)⟩
  · rename_i xs e
    obtain ⟨w, r'⟩ := r
    obtain ⟨v, e2, a, vs, rfl, e3, p⟩ := r'.slot i _ e
    exact ⟨_, e2, q _ F H ⟨w, r'⟩ (.refl _) (fun _ => .refl _) (.inr ⟨xs, a, vs, rfl, rfl, e3, p⟩)⟩
  · exact q.elim
theorem me_toF {e : Expr} {f : Den PyData} (h : PE X e (tE (en X io s0) W c f)) : PE X e (tEF (en X io s0) W c f) := pe_weak h fun σ H Q ⟨G, F0, ρ, F, r, q⟩ => ⟨G, F0, ρ, F, r, by
  cases e : f ρ with
  | ok d ρ' => rw [e] at q; exact fun v F' H' r' l k p => q v F' H' r' l k (.inl p)
  | exc x ρ' => rw [e] at q; exact q
  | bad => rw [e] at q; exact q⟩
theorem FR.list {K : Frag} {F : Hp} {v : V} {ds : List PyData} (r : FR K F v (.list ds)) : ∃ a vs, v = .ref a ∧ SqL K F a vs ∧ Reps K F vs ds := by
  rcases r with r | ⟨ds, a, vs, e, e2, h, q⟩
  · cases r with
    | lst h q => exact ⟨_, _, rfl, .of h, q⟩
  · cases e
    exact ⟨a, vs, e2, h, q⟩
theorem FR.tuple {K : Frag} {F : Hp} {v : V} {ds : List PyData} (r : FR K F v (.tuple ds)) : ∃ a vs, v = .ref a ∧ SqT K F a vs ∧ Reps K F vs ds := by
  rcases r with r | ⟨ds, a, vs, e, e2, h, q⟩
  · cases r with
    | tup h q => exact ⟨_, _, rfl, h, q⟩
  · cases e
theorem mi_any (ha : PE X a (tEF (en X io s0) W c fa)) : PI X tg a (tI (en X io s0) W c (dIt fa)) := pi_weak (pi_any ha) fun σ H Rk ⟨G, F0, ρ, F, r, q⟩ =>
  ⟨G, F0, ρ, F, r, (Post.bind q id).imp fun v F1 H1 d ρ1 r1 l1 k1 p1 q1 => by
    obtain ⟨ds, e, q2⟩ := Post.lift q1
    cases d with
    | list xs =>
      cases e
      obtain ⟨a, vs, rfl, h, rr⟩ := p1.list
      exact .inl ⟨a, rfl, .inl ⟨vs, r1.sub.sqL h, fun hz => q2 _ F1 H1 r1 (.refl _) (fun _ => .refl _) (wk_list' h rr hz)⟩⟩
    | tuple xs =>
      cases e
      obtain ⟨a, vs, rfl, h, rr⟩ := p1.tuple
      exact .inl ⟨a, rfl, .inr ⟨vs, r1.sub.sqT h, fun hz => q2 _ F1 H1 r1 (.refl _) (fun _ => .refl _) (wk_tup h rr hz)⟩⟩
    | str z =>
      simp only [items] at e
      split at e
      rotate_left
      · cases e
      rename_i hz
      cases e
      have : v = .str z := by
        rcases p1 with p1 | ⟨_, _, _, e, _⟩
        · cases p1; rfl
        · cases e
      subst this
      exact .inr ⟨z, rfl, q2 _ F1 H1 r1 (.refl _) (fun _ => .refl _) (wk_str hz)⟩
    | _ => cases e⟩
theorem mi_range1 (hg : Gl X "range") (hm : X.mg "range" = none) (hs : isStar a = false) (ha : PE X a (tE (en X io s0) W c fa)) : PI X tg (.Call (.Name "range" p) [a] [] pos) (tI (en X io s0) W c (dRng1 fa)) := pi_weak (pi_range1 hg hm (pa_cons ha pa_nil (star_cons hs _ _)) (star_cons hs _ _)) fun σ H Rk ⟨G, F0, ρ, F, r, q⟩ =>
  ⟨G, F0, ρ, F, r, (Post.bind q id).imp fun v F1 H1 d ρ1 r1 l1 k1 p1 q1 => by
    obtain ⟨ds, e, q2⟩ := Post.lift q1
    cases d with
    | int j =>
      cases p1
      simp only [rng2] at e
      split at e
      · rename_i hc
        have hc := of_decide_eq_true hc
        cases e
        have e0 : (j - 0).toNat = j.toNat := by simp
        rw [e0] at q2
        exact ⟨j, rfl, hc.2.2.1, hc.2.2.2.1, q2 _ F1 H1 r1 (.refl _) (fun _ => .refl _) (wk_range (by have := hc.2.2.2.2; omega))⟩
      · cases e
    | _ => cases e⟩
theorem mi_range2 (hg : Gl X "range") (hm : X.mg "range" = none) (hs : isStar a = false) (hs2 : isStar b = false) (ha : PE X a (tE (en X io s0) W c fa)) (hb : PE X b (tE (en X io s0) W c fb)) : PI X tg (.Call (.Name "range" p) [a, b] [] pos) (tI (en X io s0) W c (dRng2 fa fb)) := pi_weak (pi_range2 hg hm (pa_cons ha (pa_cons hb pa_nil (star_cons hs2 _ _)) (star_cons hs _ _)) ((star_cons hs _ _).trans (by rw [star_cons hs2]; rfl)) (star_cons hs2 _ _)) fun σ H Rk ⟨G, F0, ρ, F, r, q⟩ =>
  ⟨G, F0, ρ, F, r, (Post.bind q id).imp fun v F1 H1 d ρ1 r1 l1 k1 p1 q1 => ⟨G, F0, ρ1, F1, r1, (Post.bind q1 id).imp fun u F2 H2 d2 ρ2 r2 l2 k2 p2 q2 => by
    obtain ⟨ds, e, q3⟩ := Post.lift q2
    cases d with
    | int i =>
      cases d2 with
      | int j =>
        cases p1
        cases p2
        simp only [rng2] at e
        split at e
        · rename_i hc
          have hc := of_decide_eq_true hc
          cases e
          exact ⟨i, j, rfl, ⟨hc.1, hc.2.1, hc.2.2.1, hc.2.2.2.1⟩, q3 _ F2 H2 r2 (.refl _) (fun _ => .refl _) (wk_range hc.2.2.2.2)⟩
        · cases e
      | _ => cases e
    | _ => cases e⟩⟩
theorem mi_enum {elts : List Expr} {kk : Nat} {tpos : Pos} (hg : Gl X "enumerate") (hm : X.mg "enumerate" = none) (hs : isStar a = false) (ha : PE X a (tEF (en X io s0) W c fa)) : PI X (.Tuple elts kk tpos) (.Call (.Name "enumerate" p) [a] [] pos) (tI (en X io s0) W c (dEnum fa)) := pi_weak (pi_enumA hg hm (pa_cons ha pa_nil (star_cons hs _ _)) (star_cons hs _ _)) fun σ H Rk ⟨G, F0, ρ, F, r, q⟩ =>
  ⟨G, F0, ρ, F, r, (Post.bind q id).imp fun v F1 H1 d ρ1 r1 l1 k1 p1 q1 => by
    obtain ⟨ds, e, q2⟩ := Post.lift q1
    cases d with
    | list xs =>
      cases e
      obtain ⟨a, vs, rfl, h, rr⟩ := p1.list
      exact ⟨a, rfl, .inl ⟨vs, r1.sub.sqL h, fun hz => q2 _ F1 H1 r1 (.refl _) (fun _ => .refl _) (wk_enumL h rr hz)⟩⟩
    | tuple xs =>
      cases e
      obtain ⟨a, vs, rfl, h, rr⟩ := p1.tuple
      exact ⟨a, rfl, .inr ⟨vs, r1.sub.sqT h, fun hz => q2 _ F1 H1 r1 (.refl _) (fun _ => .refl _) (wk_enumT h rr hz)⟩⟩
    | _ => cases e⟩
theorem FR.mono {K : Frag} {F F' : Hp} (l : Le F F') {v : V} {d : PyData} (r : FR K F v d) : FR K F' v d := r.elim (fun r => .inl (r.mono l)) fun ⟨ds, a, vs, e, e2, h, q⟩ => .inr ⟨ds, a, vs, e, e2, l.sqL h, q.mono l⟩
theorem mi_zip {elts : List Expr} {kk : Nat} {tpos : Pos} (hg : Gl X "zip") (hm : X.mg "zip" = none) (hs : isStar a = false) (hs2 : isStar b = false) (ha : PE X a (tEF (en X io s0) W c fa)) (hb : PE X b (tEF (en X io s0) W c fb)) : PI X (.Tuple elts kk tpos) (.Call (.Name "zip" p) [a, b] [] pos) (tI (en X io s0) W c (dZip fa fb)) := pi_weak (RZ.pi_zipA hg hm (pa_cons ha (pa_cons hb pa_nil (star_cons hs2 _ _)) (star_cons hs _ _)) (star_cons hs _ _) (by rw [star_cons hs2]; rfl)) fun σ H Rk ⟨G, F0, ρ, F, r, q⟩ =>
  ⟨G, F0, ρ, F, r, (Post.bind q id).imp fun v F1 H1 d ρ1 r1 l1 k1 p1 q1 => ⟨G, F0, ρ1, F1, r1, (Post.bind q1 id).imp fun u F2 H2 d2 ρ2 r2 l2 k2 p2 q2 => by
    obtain ⟨ds, e, q3⟩ := Post.lift q2
    cases d <;> cases d2 <;> try (cases e; done)
    · simp only at e
      split at e
      rotate_left
      · cases e
      rename_i hz
      cases e
      obtain ⟨a, vs, rfl, h, rr⟩ := p1.list
      obtain ⟨b, us, rfl, h2, rr2⟩ := p2.list
      exact ⟨a, b, vs, us, rfl, .inl ⟨r2.sub.sqL (l2.sqL h), r2.sub.sqL h2, q3 _ F2 H2 r2 (.refl _) (fun _ => .refl _) (wk_zipL (l2.sqL h) (rr.mono l2) h2 rr2 hz)⟩⟩
    · simp only at e
      split at e
      rotate_left
      · cases e
      rename_i hz
      cases e
      obtain ⟨a, vs, rfl, h, rr⟩ := p1.tuple
      obtain ⟨b, us, rfl, h2, rr2⟩ := p2.tuple
      exact ⟨a, b, vs, us, rfl, .inr ⟨r2.sub.sqT (l2.sqT h), r2.sub.sqT h2, q3 _ F2 H2 r2 (.refl _) (fun _ => .refl _) (wk_zipT (l2.sqT h) (rr.mono l2) h2 rr2 hz)⟩⟩⟩⟩
end
/-! ## targets -/
abbrev DenG := PyData → Ens → Option Ens
/-- sl: the slots that may be stored -/
def tG (C : En) (sl : List Nat) (f : DenG) : TG := fun v σ H Q => ∃ G F0 ρ F d ρ', R C G F0 ρ F σ H ∧ Rep C.K F v d ∧ f d ρ = some ρ' ∧ ∀ σ', R C G F0 ρ' F σ' H → σ'.length = σ.length → (∀ j, j ∉ sl → σ'[j]? = σ[j]?) → Q σ' H
def tGs (C : En) (sl : List Nat) (f : List PyData → Ens → Option Ens) : TGs := fun vs σ H Q => ∃ G F0 ρ F ds ρ', R C G F0 ρ F σ H ∧ Reps C.K F vs ds ∧ f ds ρ = some ρ' ∧ ∀ σ', R C G F0 ρ' F σ' H → σ'.length = σ.length → (∀ j, j ∉ sl → σ'[j]? = σ[j]?) → Q σ' H
def gNm (i : Nat) : DenG := fun d ρ => some (ρ.set i (.fz d))
def gsNil : List PyData → Ens → Option Ens := fun ds ρ => match ds with
  | [] => some ρ
  | _ => none
def gsCons (f : DenG) (fs : List PyData → Ens → Option Ens) : List PyData → Ens → Option Ens := fun ds ρ => match ds with
  | d :: r => (f d ρ).bind fun ρ1 => fs r ρ1
  | _ => none
def gTp (n : Nat) (fs : List PyData → Ens → Option Ens) : DenG := fun d ρ => match d with
  | .tuple ds => if ds.length = n then fs ds ρ else none
  | _ => none
theorem pg_weak {X : Cx} {e : Expr} {t t' : TG} (h : PG X e t) (w : ∀ v σ H Q, t' v σ H Q → t v σ H Q) : PG X e t' := ⟨fun pins s σ H v u Q I r q => h.run pins s σ H v u Q I r (w v σ H Q q)⟩
theorem pgs_weak {X : Cx} {e : List Expr} {t t' : TGs} (h : PGs X e t) (w : ∀ v σ H Q, t' v σ H Q → t v σ H Q) : PGs X e t' := ⟨fun pins s σ H v u Q I r q => h.run pins s σ H v u Q I r (w v σ H Q q)⟩
theorem asg_cons {e : Expr} (h : isStar e = false) (es : List Expr) (env : PySem.Env) : assignEach (e :: es) env = (false, assign e env) :: assignEach es env := by
  cases e <;> first | rfl | cases h
theorem asg_len {env : PySem.Env} : ∀ {es : List Expr}, (∀ e ∈ es, isStar e = false) → (assignEach es env).length = es.length ∧ (assignEach es env).findIdx? (·.1) = none
  | [], _ => ⟨rfl, rfl⟩
  | e :: es, h => by
    obtain ⟨h1, h2⟩ := asg_len (env := env) fun x hx => h x (List.mem_cons_of_mem _ hx)
    rw [asg_cons (h e List.mem_cons_self)]
    refine ⟨by rw [List.length_cons, List.length_cons, h1], ?_⟩
    rw [List.findIdx?_cons, h2]
    rfl
section
variable {X : Cx} {io : List Nat} {s0 : L2.St} {e : Expr} {es : List Expr} {f : DenG} {fs : List PyData → Ens → Option Ens} {pos : Pos} {i : Nat} {x : Str}
theorem mg_nm (hN : X.N.Nodup) (hi : X.N[i]? = some x) (hx : Loc X.env.scope x) (hf : X.fn x = true ∨ X.env.scope.names.lookup x = some .local) (hio : i ∉ io) : PG X (.Name x pos) (tG (en X io s0) [i] (gNm i)) := pg_weak (pg_name hN hi hx hf) fun v σ H Q ⟨G, F0, ρ, F, d, ρ', r, p, e, q⟩ => by
  cases e
  exact q _ (r.set hio p) (List.length_set ..) fun j hj => List.getElem?_set_ne (fun z => hj (by simp [z]))
theorem mgs_nil : PGs X [] (tGs (en X io s0) [] gsNil) := pgs_weak pgs_nil fun v σ H Q ⟨G, F0, ρ, F, d, ρ', r, p, e, q⟩ => by
  cases d with
  | nil =>
    cases e
    cases p
    exact ⟨rfl, q _ r rfl fun _ _ => rfl⟩
  | cons _ _ => cases e
theorem mgs_cons (hs : isStar e = false) {sl sl' : List Nat} (h1 : PG X e (tG (en X io s0) sl f)) (h2 : PGs X es (tGs (en X io s0) sl' fs)) : PGs X (e :: es) (tGs (en X io s0) (sl ++ sl') (gsCons f fs)) := pgs_weak (pgs_cons h1 h2 (by rw [asg_cons hs]; rfl)) fun v σ H Q ⟨G, F0, ρ, F, d, ρ', r, p, e, q⟩ => by
  cases d with
  | nil => cases e
  | cons d ds =>
    cases p with
    | cons p1 p2 =>
      unfold gsCons at e
      cases e1 : f d ρ with
      | none => simp [e1] at e
      | some ρ1 =>
        simp [e1] at e
        exact ⟨_, _, rfl, G, F0, ρ, F, d, ρ1, r, p1, e1, fun σ1 r1 n1 k1 => ⟨G, F0, ρ1, F, ds, ρ', r1, p2, e, fun σ2 r2 n2 k2 => q σ2 r2 (n2.trans n1) fun j hj => by
          rw [k2 j (fun z => hj (List.mem_append_right _ z)), k1 j (fun z => hj (List.mem_append_left _ z))]⟩⟩
theorem mg_tup {k : Nat} {sl : List Nat} (hc : X.calm = true) (hs : ∀ y ∈ es, isStar y = false) (h : PGs X es (tGs (en X io s0) sl fs)) : PG X (.Tuple es k pos) (tG (en X io s0) sl (gTp es.length fs)) := pg_weak (pg_tup hc h (asg_len hs).1 (asg_len hs).2) fun v σ H Q ⟨G, F0, ρ, F, d, ρ', r, p, e, q⟩ => by
  cases d with
  | tuple ds =>
    simp only [gTp] at e
    split at e
    · rename_i hl
      cases p with
      | tup h1 r1 => exact ⟨_, _, rfl, r.sub.sqT h1, by rw [r1.length]; exact hl, G, F0, ρ, F, ds, ρ', r, r1, e, q⟩
    · cases e
  | _ => cases e
end
end Ev

set_option Elab.async false
set_option linter.all false
set_option maxRecDepth 100000
set_option maxHeartbeats 1000000
namespace Ev
open PySem PySem.Spec PyProof.Rows L2
/-! ## statements -/
def Out.seq (o : Out) (k : Ens → Out) : Out := match o with
  | .nx e => k e
  | o => o
@[simp] theorem nx_seq (e : Ens) (k : Ens → Out) : (Out.nx e).seq k = k e := rfl
@[simp] theorem bk_seq (e : Ens) (k : Ens → Out) : (Out.bk e).seq k = .bk e := rfl
@[simp] theorem ct_seq (e : Ens) (k : Ens → Out) : (Out.ct e).seq k = .ct e := rfl
@[simp] theorem rt_seq (d : PyData) (e : Ens) (k : Ens → Out) : (Out.rt d e).seq k = .rt d e := rfl
@[simp] theorem ro_seq (d : Own) (e : Ens) (k : Ens → Out) : (Out.ro d e).seq k = .ro d e := rfl
@[simp] theorem oexc_seq (x : Ex) (e : Ens) (k : Ens → Out) : (Out.exc x e).seq k = .exc x e := rfl
@[simp] theorem obad_seq (k : Ens → Out) : Out.bad.seq k = .bad := rfl
/-- an expression's outcome, ahead of a statement's -/
def Rs.out {α : Type} (r : Rs α) (k : α → Ens → Out) : Out := match r with
  | .ok a e => k a e
  | .exc x e => .exc x e
  | .bad => .bad
@[simp] theorem ok_out {α : Type} (a : α) (e : Ens) (k : α → Ens → Out) : (Rs.ok a e).out k = k a e := rfl
@[simp] theorem exc_out {α : Type} (x : Ex) (e : Ens) (k : α → Ens → Out) : (Rs.exc x e : Rs α).out k = .exc x e := rfl
@[simp] theorem bad_out {α : Type} (k : α → Ens → Out) : (Rs.bad : Rs α).out k = .bad := rfl
section
variable {C : En} {W : WX} {G F0 F F' : Hp} {D : Ends}
theorem PostS.shift {o : Out} (q : PostS C W G F0 F D o) (l : Le F F') : PostS C W G F0 F' D o := by
  cases o with
  | nx ρ => exact fun σ' F2 H2 r2 l2 => q σ' F2 H2 r2 (l.trans l2)
  | bk ρ => exact fun σ' F2 H2 r2 l2 => q σ' F2 H2 r2 (l.trans l2)
  | ct ρ => exact fun σ' F2 H2 r2 l2 => q σ' F2 H2 r2 (l.trans l2)
  | rt d ρ => exact fun v σ' F2 H2 r2 l2 p => q v σ' F2 H2 r2 (l.trans l2) p
  | ro d ρ => exact fun v σ' F2 H2 r2 l2 => q v σ' F2 H2 r2 (l.trans l2)
  | exc x ρ => exact fun cls dd σ' F2 H2 r2 l2 p => q cls dd σ' F2 H2 r2 (l.trans l2) p
  | bad => exact q
/-- an expression ahead of what follows -/
theorem Post.out {α β : Type} {Rel : Hp → Hp → β → α → Prop} {c : Bool} {σ : L2.St} {H : Hp} {r : Rs α} {k : α → Ens → Out} (q : PostS C W G F0 F D (r.out k)) :
    Post Rel C W c G F0 F σ H (fun _ F' _ d ρ' => PostS C W G F0 F' D (k d ρ')) r := by
  cases r with
  | ok d ρ => exact fun v F2 H2 r2 l2 k2 p => PostS.shift (o := k d ρ) q l2
  | exc x ρ => exact fun cls dd F2 H2 r2 l2 p => q cls dd σ F2 H2 r2 l2 p
  | bad => exact q
theorem PostS.ends {D' : Ends} {o : Out} (q : PostS C W G F0 F D o) (h : ∀ σ H, D.nx σ H → D'.nx σ H) (hb : ∀ σ H, D.bk σ H → D'.bk σ H) (hc : ∀ σ H, D.ct σ H → D'.ct σ H) (hr : ∀ v H, D.rt v H → D'.rt v H) : PostS C W G F0 F D' o := by
  cases o with
  | nx ρ => exact fun σ' F2 H2 r2 l2 => h _ _ (q σ' F2 H2 r2 l2)
  | bk ρ => exact fun σ' F2 H2 r2 l2 => hb _ _ (q σ' F2 H2 r2 l2)
  | ct ρ => exact fun σ' F2 H2 r2 l2 => hc _ _ (q σ' F2 H2 r2 l2)
  | rt d ρ => exact fun v σ' F2 H2 r2 l2 p => hr _ _ (q v σ' F2 H2 r2 l2 p)
  | ro d ρ => exact fun v σ' F2 H2 r2 l2 => hr _ _ (q v σ' F2 H2 r2 l2)
  | exc x ρ => exact q
  | bad => exact q
end
def sNil : DenS := fun ρ => .nx ρ
def sCons (f g : DenS) : DenS := fun ρ => (f ρ).seq g
def sAsg (f : Den PyData) (g : DenG) : DenS := fun ρ => (f ρ).out fun d ρ1 => match g d ρ1 with
  | some ρ2 => .nx ρ2
  | none => .bad
def sRet (f : Den PyData) : DenS := fun ρ => (f ρ).out fun d ρ1 => .rt d ρ1
def sExp (f : Den PyData) : DenS := fun ρ => (f ρ).out fun _ ρ1 => .nx ρ1
def sIf (c : Den Bool) (f g : DenS) : DenS := fun ρ => (c ρ).out fun b ρ1 => if b = true then f ρ1 else g ρ1
/-- a turn's end -/
def Out.turn (o : Out) (k : Ens → Out) : Out := match o with
  | .nx e => k e
  | .ct e => k e
  | .bk e => .nx e
  | o => o
def forL (g : DenG) (f : DenS) : List PyData → DenS
  | [], ρ => .nx ρ
  | d :: ds, ρ => match g d ρ with
    | some ρ1 => (f ρ1).turn (forL g f ds)
    | none => .bad
def sFor (s : Den (List PyData)) (g : DenG) (f : DenS) : DenS := fun ρ => (s ρ).out fun ds ρ1 => forL g f ds ρ1
def whileL (c : Den Bool) (f : DenS) : Nat → DenS
  | 0, _ => .bad
  | n + 1, ρ => (c ρ).out fun b ρ1 => if b = true then (f ρ1).turn (whileL c f n) else .nx ρ1
section
variable {X : Cx} {io : List Nat} {s0 : L2.St} {W : WX} {e tg : Expr} {f g : DenS} {fe : Den PyData} {fc : Den Bool} {dg : DenG} {st : Stmt} {sts a b : List Stmt} {pos : Pos}
theorem ms_nil : PSs X [] (tS (en X io s0) W sNil) := pss_weak pss_nil fun D σ H ⟨G, F0, ρ, F, r, q⟩ => q σ F H r (.refl _)
theorem ms_cons (h1 : PS X st (tS (en X io s0) W f)) (h2 : PSs X sts (tS (en X io s0) W g)) : PSs X (st :: sts) (tS (en X io s0) W (sCons f g)) := pss_weak (pss_cons h1 h2) fun D σ H ⟨G, F0, ρ, F, r, q⟩ =>
  ⟨G, F0, ρ, F, r, by
    unfold sCons at q
    cases e : f ρ with
    | nx ρ1 =>
      rw [e] at q
      exact fun σ' F' H' r' l => ⟨G, F0, ρ1, F', r', PostS.shift (o := g ρ1) q l⟩
    | bk ρ1 => rw [e] at q; exact q
    | ct ρ1 => rw [e] at q; exact q
    | rt d ρ1 => rw [e] at q; exact q
    | ro d ρ1 => rw [e] at q; exact q
    | exc x ρ1 => rw [e] at q; exact q
    | bad => rw [e] at q; exact q⟩
theorem ms_asg (hs : swapsWithSole [tg] e pos.line X.env = pure false) (hw : swappedStores [tg] e X.env = pure none) (hst : isStar tg = false) (he : PE X e (tE (en X io s0) W false fe)) {sl : List Nat} (hg : PG X tg (tG (en X io s0) sl dg)) : PS X (.Assign [tg] e pos) (tS (en X io s0) W (sAsg fe dg)) := ps_weak (ps_asg he hg hs hw (by rw [asg_cons hst]; rfl)) fun D σ H ⟨G, F0, ρ, F, r, q⟩ =>
  ⟨G, F0, ρ, F, r, (Post.out q).imp fun v F1 H1 d ρ1 r1 l1 k1 p1 q1 => by
    cases e : dg d ρ1 with
    | none => rw [e] at q1; exact q1.elim
    | some ρ2 =>
      rw [e] at q1
      exact ⟨G, F0, ρ1, F1, d, ρ2, r1, p1, e, fun σ' r2 _ _ => q1 σ' F1 H1 r2 (.refl _)⟩⟩
theorem ms_ret (he : PE X e (tE (en X io s0) W false fe)) : PS X (.Return (some e) pos) (tS (en X io s0) W (sRet fe)) := ps_weak (ps_ret he) fun D σ H ⟨G, F0, ρ, F, r, q⟩ =>
  ⟨G, F0, ρ, F, r, (Post.out q).imp fun v F1 H1 d ρ1 r1 l1 k1 p1 q1 => q1 v σ F1 H1 r1 (.refl _) p1⟩
theorem ms_exp (hs : swapsWith e none pos.line X.env = pure false) (he : PE X e (tE (en X io s0) W false fe)) : PS X (.Expr e pos) (tS (en X io s0) W (sExp fe)) := ps_weak (ps_expr he hs) fun D σ H ⟨G, F0, ρ, F, r, q⟩ =>
  ⟨G, F0, ρ, F, r, (Post.out q).imp fun v F1 H1 d ρ1 r1 l1 k1 p1 q1 => q1 σ F1 H1 r1 (.refl _)⟩
theorem ms_if (hc : PT X e (tT (en X io s0) W false fc)) (ha : PSs X a (tS (en X io s0) W f)) (hb : PSs X b (tS (en X io s0) W g)) : PS X (.If e a b pos) (tS (en X io s0) W (sIf fc f g)) := ps_weak (ps_if hc ha hb) fun D σ H ⟨G, F0, ρ, F, r, q⟩ =>
  ⟨G, F0, ρ, F, r, (Post.out q).imp fun v F1 H1 d ρ1 r1 l1 k1 p1 q1 => by
    subst p1
    cases v with
    | true => exact ⟨G, F0, ρ1, F1, r1, q1⟩
    | false => exact ⟨G, F0, ρ1, F1, r1, q1⟩⟩
theorem ms_pass : PS X (.Pass pos) (tS (en X io s0) W fun ρ => .nx ρ) := ps_weak ps_pass fun D σ H ⟨G, F0, ρ, F, r, q⟩ => q σ F H r (.refl _)
theorem ms_break : PS X (.Break pos) (tS (en X io s0) W fun ρ => .bk ρ) := ps_weak ps_break fun D σ H ⟨G, F0, ρ, F, r, q⟩ => q σ F H r (.refl _)
theorem ms_cont : PS X (.Continue pos) (tS (en X io s0) W fun ρ => .ct ρ) := ps_weak ps_continue fun D σ H ⟨G, F0, ρ, F, r, q⟩ => q σ F H r (.refl _)
/-- a turn of a loop -/
theorem turn_of {C : En} {G F0 F : Hp} {D : Ends} {N : L2.St → Hp → Prop} {o : Out} {k : Ens → Out} (q : PostS C W G F0 F D (o.turn k)) (hN : ∀ ρ' σ' F' H', R C G F0 ρ' F' σ' H' → Le F F' → PostS C W G F0 F' D (k ρ') → N σ' H') : PostS C W G F0 F { D with nx := N, ct := N, bk := D.nx } o := by
  cases o with
  | nx ρ => exact fun σ' F' H' r l => hN ρ σ' F' H' r l (PostS.shift (o := k ρ) q l)
  | ct ρ => exact fun σ' F' H' r l => hN ρ σ' F' H' r l (PostS.shift (o := k ρ) q l)
  | bk ρ => exact q
  | rt d ρ => exact q
  | ro d ρ => exact q
  | exc x ρ => exact q
  | bad => exact q
theorem ms_for {iter : Expr} {fs : Den (List PyData)} (hp : PassesOwn (model X.prog X.w) X.A X.env X.xe) (hc : X.calm = true) (hset : ∀ x, foldedSetIterable iter X.env x = pure x) (hi : PI X tg iter (tI (en X io s0) W false fs)) {sl : List Nat} (hg : PG X tg (tG (en X io s0) sl dg)) (hb : PSs X a (tS (en X io s0) W f)) :
    PS X (.For tg iter a [] pos) (tS (en X io s0) W (sFor fs dg f)) := ps_weak (ps_for hp hc hi hg hb hset) fun D σ H ⟨G, F0, ρ, F, r, q⟩ =>
  ⟨G, F0, ρ, F, r, (Post.out q).imp fun J F1 H1 ds ρ1 r1 l1 k1 p1 q1 => by
    refine ⟨fun i m σ' H' => ∃ ρ' F', R (en X io s0) G F0 ρ' F' σ' H' ∧ Le F1 F' ∧ i + m = ds.length ∧ PostS (en X io s0) W G F0 F' D (forL dg f (ds.drop i) ρ'), ⟨ds.length, ρ1, F1, r1, .refl _, Nat.zero_add _, q1⟩, ?_⟩
    rintro i m σ2 H2 ⟨ρ2, F2, r2, l2, hm, q2⟩
    obtain ⟨w1, w2⟩ := p1.2 i H2 F2 l2 r2.sub
    by_cases hi : i < ds.length
    · obtain ⟨go, yl⟩ := w1 hi
      rw [List.drop_eq_getElem_cons hi, forL] at q2
      refine .inr ⟨go, fun σ' H' => ∃ ρ' F', R (en X io s0) G F0 ρ' F' σ' H' ∧ Le F1 F' ∧ PostS (en X io s0) W G F0 F' D (forL dg f (ds.drop (i + 1)) ρ'), fun σ' H' ⟨ρ', F', r', l', q'⟩ => ⟨m - 1, by omega, ρ', F', r', l', by omega, q'⟩, fun x H3 y => ?_⟩
      obtain ⟨F3, d, z, ed, p⟩ := yl x H3 y
      rw [List.getElem?_eq_getElem hi] at ed
      cases ed
      cases e : dg ds[i] ρ2 with
      | none => rw [e] at q2; exact q2.elim
      | some ρ3 =>
        rw [e] at q2
        refine ⟨G, F0, ρ2, F3, ds[i], ρ3, r2.ext z, p, e, fun σ3 r3 _ _ => ⟨G, F0, ρ3, F3, r3, ?_⟩⟩
        exact turn_of (PostS.shift (o := (f ρ3).turn (forL dg f (ds.drop (i + 1)))) q2 z.fle) fun ρ' σ' F' H' r' l' q' => ⟨ρ', F', r', l2.trans (z.fle.trans l'), q'⟩
    · have hi : i = ds.length := by omega
      rw [List.drop_eq_nil_of_le (by omega), forL] at q2
      exact .inl ⟨w2 hi, q2 σ2 F2 H2 r2 (.refl _)⟩⟩
theorem ms_while {n : Nat} (hp : PassesOwn (model X.prog X.w) X.A X.env X.xe) (hc : PT X e (tT (en X io s0) W false fc)) (hb : PSs X a (tS (en X io s0) W f)) : PS X (.While e a [] pos) (tS (en X io s0) W (whileL fc f n)) := ps_weak (ps_while hp hc hb) fun D σ H ⟨G, F0, ρ, F, r, q⟩ => by
  refine ⟨fun m σ' H' => ∃ ρ' F', R (en X io s0) G F0 ρ' F' σ' H' ∧ PostS (en X io s0) W G F0 F' D (whileL fc f m ρ'), ⟨n, ρ, F, r, q⟩, ?_⟩
  rintro m σ1 H1 ⟨ρ1, F1, r1, q1⟩
  cases m with
  | zero => exact q1.elim
  | succ m =>
    refine ⟨G, F0, ρ1, F1, r1, (Post.out q1).imp fun v F2 H2 d ρ2 r2 l2 k2 p2 q2 => ?_⟩
    subst p2
    cases v with
    | true =>
      rw [if_pos rfl] at q2 ⊢
      exact ⟨fun σ' H' => ∃ ρ' F', R (en X io s0) G F0 ρ' F' σ' H' ∧ PostS (en X io s0) W G F0 F' D (whileL fc f m ρ'), fun σ' H' h => ⟨m, Nat.lt_succ_self m, h⟩, G, F0, ρ2, F2, r2, turn_of q2 fun ρ' σ' F' H' r' l' q' => ⟨ρ', F', r', q'⟩⟩
    | false =>
      rw [if_neg Bool.false_ne_true] at q2 ⊢
      exact q2 σ1 F2 H2 r2 (.refl _)
end
end Ev

set_option Elab.async false
set_option linter.all false
set_option maxRecDepth 100000
set_option maxHeartbeats 1000000
namespace Ev
open PySem PySem.Spec PyProof.Rows L2
/-! ## comprehensions -/
def wipeE (ρ : Ens) : List Nat → Ens
  | [] => ρ
  | v :: vs => (wipeE ρ vs).set v .un
def keepF : Option Sl → Sl
  | some (.fz d) => .fz d
  | _ => .un
/-- the slots of the block's names as they were ahead of it -/
def restE (ρ ρ' : Ens) : List Nat → Ens
  | [] => ρ'
  | v :: vs => (restE ρ ρ' vs).set v (keepF ρ[v]?)
section
variable {C : En} {G F0 F F' H H' : Hp} {ρ ρ' : Ens} {σ σ' : L2.St}
theorem R.unsetV (r : R C G F0 ρ F σ H) {i : Nat} (hi : i ∉ C.io) : R C G F0 (ρ.set i .un) F (σ.set i none) H := by
  obtain ⟨w, r⟩ := r
  refine ⟨w, by rw [List.length_set, List.length_set]; exact r.len, fun j s e => ?_, fun j k o o' u e1 e2 e3 e4 => ?_, r.own, r.sub, r.gle, r.frm, fun j hj => ?_⟩
  · by_cases h : i = j
    · subst h
      have hl : i < ρ.length := by
        have := (List.getElem?_eq_some_iff.mp e).1
        simpa using this
      rw [List.getElem?_set_self hl] at e
      cases e
      exact ⟨none, List.getElem?_set_self (by rw [← r.len]; exact hl), trivial⟩
    · rw [List.getElem?_set_ne h] at e ⊢
      exact r.slot j s e
  · have ne : ∀ {k : Nat} {o : Own}, (ρ.set i .un)[k]? = some (.ow o) → i ≠ k := fun {k o} e z => by
      subst z
      rw [List.getElem?_set] at e
      simp at e
    have h1 := ne e1
    have h2 := ne e2
    rw [List.getElem?_set_ne h1] at e1 e3
    rw [List.getElem?_set_ne h2] at e2 e4
    exact r.sep j k o o' u e1 e2 e3 e4
  · rw [List.getElem?_set_ne (fun z : i = j => hi (z ▸ hj))]
    exact r.pin j hj
theorem R.wipe (r : R C G F0 ρ F σ H) : ∀ {vs : List Nat}, (∀ v ∈ vs, v ∉ C.io) → R C G F0 (wipeE ρ vs) F (L2.wipe σ vs) H
  | [], _ => r
  | v :: vs, h => (R.wipe r fun x hx => h x (List.mem_cons_of_mem _ hx)).unsetV (h v List.mem_cons_self)
theorem wipe_same (hl : σ'.length = σ.length) {vs : List Nat} (h : ∀ j, j ∉ vs → σ'[j]? = σ[j]?) : L2.wipe σ' vs = L2.wipe σ vs := by
  have key : ∀ (τ : L2.St) (vs : List Nat) (j : Nat), (L2.wipe τ vs)[j]? = if j < τ.length ∧ j ∈ vs then some none else τ[j]? := by
    intro τ vs
    induction vs with
    | nil => intro j; simp [L2.wipe]
    | cons v vs ih =>
      intro j
      unfold L2.wipe
      by_cases e : v = j
      · subst e
        by_cases hv : v < τ.length
        · rw [List.getElem?_set_self (by rw [wipe_length]; exact hv), if_pos ⟨hv, List.mem_cons_self⟩]
        · rw [if_neg (fun z => hv z.1), List.getElem?_eq_none (by rw [List.length_set, wipe_length]; omega), List.getElem?_eq_none (by omega)]
      · rw [List.getElem?_set_ne e, ih j]
        by_cases hm : j ∈ vs
        · by_cases hj : j < τ.length
          · rw [if_pos ⟨hj, hm⟩, if_pos ⟨hj, List.mem_cons_of_mem _ hm⟩]
          · rw [if_neg (fun z => hj z.1), if_neg (fun z => hj z.1)]
        · rw [if_neg (fun z => hm z.2), if_neg (fun z => (List.mem_cons.mp z.2).elim (fun q => e q.symm) hm)]
  apply List.ext_getElem?
  intro j
  rw [key, key]
  by_cases hm : j ∈ vs
  · rw [hl]
    by_cases hj : j < σ.length
    · rw [if_pos ⟨hj, hm⟩, if_pos ⟨hj, hm⟩]
    · rw [if_neg (fun z => hj z.1), if_neg (fun z => hj z.1), List.getElem?_eq_none (by omega), List.getElem?_eq_none (by omega)]
  · rw [if_neg (fun z => hm z.2), if_neg (fun z => hm z.2)]
    exact h j hm
theorem wipe_wipe (vs : List Nat) : L2.wipe (L2.wipe σ vs) vs = L2.wipe σ vs := wipe_same (wipe_length _ _) fun j hj => by
  have : ∀ (vs : List Nat), j ∉ vs → (L2.wipe σ vs)[j]? = σ[j]? := by
    intro vs
    induction vs with
    | nil => intro _; rfl
    | cons v vs ih =>
      intro h
      unfold L2.wipe
      rw [List.getElem?_set_ne (fun z => h (by simp [z]))]
      exact ih fun z => h (List.mem_cons_of_mem _ z)
  exact this vs hj
/-- a slot's old value put back -/
theorem R.put (r : R C G F0 ρ F σ H) {i : Nat} {s : Sl} {v : Option V} (hi : i ∉ C.io) (hs : ∀ o, s ≠ .ow o) (q : ∀ w, SlR C.K F H w s v) : R C G F0 (ρ.set i s) F (σ.set i v) H := by
  obtain ⟨w, r⟩ := r
  refine ⟨w, by rw [List.length_set, List.length_set]; exact r.len, fun j t e => ?_, fun j k o o' u e1 e2 e3 e4 => ?_, r.own, r.sub, r.gle, r.frm, fun j hj => ?_⟩
  · by_cases h : i = j
    · subst h
      have hl : i < ρ.length := by
        have := (List.getElem?_eq_some_iff.mp e).1
        simpa using this
      rw [List.getElem?_set_self hl] at e
      cases e
      exact ⟨v, List.getElem?_set_self (by rw [← r.len]; exact hl), q w⟩
    · rw [List.getElem?_set_ne h] at e ⊢
      exact r.slot j t e
  · have ne : ∀ {k : Nat} {o : Own}, (ρ.set i s)[k]? = some (.ow o) → i ≠ k := fun {k o} e z => by
      subst z
      have hl : i < ρ.length := by
        have := (List.getElem?_eq_some_iff.mp e).1
        simpa using this
      rw [List.getElem?_set_self hl] at e
      cases e
      exact hs o rfl
    have h1 := ne e1
    have h2 := ne e2
    rw [List.getElem?_set_ne h1] at e1 e3
    rw [List.getElem?_set_ne h2] at e2 e4
    exact r.sep j k o o' u e1 e2 e3 e4
  · rw [List.getElem?_set_ne (fun z : i = j => hi (z ▸ hj))]
    exact r.pin j hj
theorem wipe_set : ∀ (τ : L2.St) (vs : List Nat) (v : Nat), (L2.wipe τ vs).set v none = L2.wipe (τ.set v none) vs
  | τ, [], v => rfl
  | τ, u :: vs, v => by
    unfold L2.wipe
    rw [← wipe_set τ vs v]
    by_cases h : u = v
    · rw [h]
    · rw [List.set_comm _ _ h]
theorem rest_gen : ∀ (vs : List Nat) (τ : L2.St), vs.Nodup → (∀ v ∈ vs, v ∉ C.io) → (∀ j ∈ vs, ∀ x, τ[j]? = some x → ∀ w, SlR C.K F' H' w (keepF ρ[j]?) x) → (∀ v ∈ vs, C.s0[v]? = C.s0[v]?) → R C G F0 ρ' F' (L2.wipe τ vs) H' → R C G F0 (restE ρ ρ' vs) F' τ H'
  | [], _, _, _, _, _, r => r
  | v :: vs, τ, nd, h, q, z, r => by
    obtain ⟨nv, nd⟩ := List.nodup_cons.mp nd
    have r' : R C G F0 ρ' F' (L2.wipe (τ.set v none) vs) H' := by
      rw [← wipe_set]
      exact r
    have ih := rest_gen vs (τ.set v none) nd (fun x hx => h x (List.mem_cons_of_mem _ hx)) (fun j hj x e w => by
      rw [List.getElem?_set_ne (fun z : v = j => nv (z ▸ hj))] at e
      exact q j (List.mem_cons_of_mem _ hj) x e w) (fun _ _ => rfl) r'
    by_cases hv : v < τ.length
    · have e : τ[v]? = some τ[v] := List.getElem?_eq_getElem hv
      have p := ih.put (i := v) (s := keepF ρ[v]?) (v := τ[v]) (h v List.mem_cons_self) (fun o z => by
        unfold keepF at z
        split at z <;> cases z) (q v List.mem_cons_self _ e)
      have e2 : (τ.set v none).set v τ[v] = τ := by
        rw [List.set_set]
        simp
      rw [e2] at p
      exact p
    · have e2 : τ.set v none = τ := List.set_eq_of_length_le (by omega)
      rw [e2] at ih
      unfold restE
      rw [List.set_eq_of_length_le (by rw [ih.len]; omega)]
      exact ih
theorem R.rest {G1 F01 : Hp} (r0 : R C G1 F01 ρ F σ H) (l : Le F F') {vs : List Nat} (nd : vs.Nodup) (h : ∀ v ∈ vs, v ∉ C.io) (r : R C G F0 ρ' F' (L2.wipe σ vs) H') : R C G F0 (restE ρ ρ' vs) F' σ H' := by
  refine rest_gen vs σ nd h (fun j hj x e w => ?_) (fun _ _ => rfl) r
  cases e2 : ρ[j]? with
  | none => trivial
  | some s =>
    cases s with
    | fz d =>
      obtain ⟨u, e3, p⟩ := r0.fz e2
      rw [e] at e3
      cases e3
      exact ⟨u, rfl, p.mono l⟩
    | un => trivial
    | ow o => trivial
    | sc xs => trivial
/-- the new list becomes a datum -/
theorem R.done (r : R C (L2.upd G p o) F1 ρ F σ H) (n : G p = none) (n1 : F1 p = none) (f : ∀ a, G a ≠ none → F1 a = F0 a) : R C G F0 ρ (L2.upd F p o) σ H ∧ Le F (L2.upd F p o) := by
  obtain ⟨w, r⟩ := r
  obtain ⟨f1, wp⟩ := r.frm p (by rw [upd_same]; simp)
  rw [n1] at f1
  have l : Le F (L2.upd F p o) := (Le.refl F).upd f1
  refine ⟨⟨w, r.len, fun i s e => ?_, r.sep, fun a z e => ?_, fun a u e => ?_, fun a u e => r.gle a u ?_, fun a h => ?_, r.pin⟩, l⟩
  · obtain ⟨v, e2, q⟩ := r.slot i s e
    exact ⟨v, e2, q.mono l (fun a u _ h => h) fun _ _ h => h⟩
  · obtain ⟨h1, h2⟩ := r.own a z e
    rw [upd_ne (fun y => by subst y; rw [wp] at e; cases e)]
    exact ⟨h1, h2⟩
  · by_cases h : a = p
    · subst h
      rw [upd_same] at e
      cases e
      exact r.gle a o upd_same
    · rw [upd_ne h] at e
      exact r.sub a u e
  · rw [upd_ne (ne_of_none e n)]
    exact e
  · have ne : a ≠ p := fun y => h (y ▸ n)
    obtain ⟨h1, h2⟩ := r.frm a (by rw [upd_ne ne]; exact h)
    exact ⟨by rw [upd_ne ne, h1]; exact f a h, h2⟩
end
def noex {α : Type} : Rs α → Rs α
  | .exc _ _ => .bad
  | r => r
/-- the turns of a comprehension -/
def lcL (g : DenG) (tt : Den Bool) (te : Den PyData) (vs : List Nat) : List PyData → Den (List PyData)
  | [], ρ => .ok [] ρ
  | d :: ds, ρ => match g d ρ with
    | none => .bad
    | some ρa => (noex (tt ρa)).bind fun b ρb => if b = true then (noex (te ρb)).bind fun y ρc => (lcL g tt te vs ds (wipeE ρc vs)).bind fun ys ρd => .ok (y :: ys) ρd else lcL g tt te vs ds (wipeE ρb vs)
def dLc (s : Den (List PyData)) (g : DenG) (tt : Den Bool) (te : Den PyData) (vs : List Nat) : Den PyData := fun ρ => (s ρ).bind fun ds ρ1 => (lcL g tt te vs ds (wipeE ρ1 vs)).bind fun out ρ2 => .ok (.list out) (restE ρ1 ρ2 vs)
abbrev WF : WX := fun _ _ _ _ => False
section
variable {X : Cx} {io : List Nat} {s0 : L2.St} {W : WX} {c : Bool} {fs : Den (List PyData)} {dg : DenG} {sl vs : List Nat} {ft : Den Bool} {fe : Den PyData}
theorem noex_post {α β : Type} {Rel : Hp → Hp → β → α → Prop} {C : En} {G F0 F : Hp} {σ : L2.St} {H : Hp} {Q : β → Hp → Hp → α → Ens → Prop} {r : Rs α} (q : Post Rel C W c G F0 F σ H Q (noex r)) : Post Rel C WF c G F0 F σ H Q r := by
  cases r with
  | ok d ρ => exact q
  | exc x ρ => exact q.elim
  | bad => exact q
/-- what the turns still give, behind what is made: p the new list -/
theorem lc_of {σ : L2.St} {H : Hp} {Q : VK} (nd : vs.Nodup) (hio : ∀ v ∈ vs, v ∉ io) (hsl : ∀ j ∈ sl, j ∈ vs) (h : tE (en X io s0) W c (dLc fs dg ft fe vs) σ H Q) :
    tLc (tI (en X io s0) W c fs) (tG (en X io s0) sl dg) (tT (en X io s0) WF c ft) (tE (en X io s0) WF c fe) vs σ H Q := by
  obtain ⟨G, F0, ρ, F, r, q⟩ := h
  refine ⟨G, F0, ρ, F, r, (Post.bind q id).imp fun J F1 H1 ds ρ1 r1 l1 k1 wk q1 => ?_⟩
  intro p np
  have gp : G p = none := r1.gle.none np
  have fp : F1 p = none := r1.sub.none np
  have f1 := r1.frm
  -- behind the source: the result's wish
  have fin : ∀ out ρ2 F2 H2 vsD, R (en X io s0) (L2.upd G p (.lst vsD)) F1 ρ2 F2 (L2.wipe σ vs) H2 → Le F1 F2 → (c = true → Le H1 H2) → Reps X.K F2 vsD out → (∀ v F' H', R (en X io s0) G F0 (restE ρ1 ρ2 vs) F' σ H' → Le F1 F' → (c = true → Le H1 H') → Rep X.K F' v (.list out) → Q v H') → Q (.ref p) H2 := by
    intro out ρ2 F2 H2 vsD r2 l2 k2 p2 q2
    obtain ⟨r3, l3⟩ := r2.done gp fp f1
    exact q2 _ _ H2 (R.rest r1 (l2.trans l3) nd hio r3) (l2.trans l3) k2 (.lst upd_same (p2.mono l3))
  refine ⟨fun i m H2 => ∃ ρ2 F2 accV accD, R (en X io s0) (L2.upd G p (.lst accV)) F1 ρ2 F2 (L2.wipe σ vs) H2 ∧ Le F1 F2 ∧ (c = true → Le H1 H2) ∧ Reps X.K F2 accV accD ∧ i + m = ds.length ∧ accD.length ≤ i ∧
    lcL dg ft fe vs ds (wipeE ρ1 vs) = (lcL dg ft fe vs (ds.drop i) ρ2).bind fun ys ρd => .ok (accD ++ ys) ρd, ⟨ds.length, wipeE ρ1 vs, F1, [], [], ?_, .refl _, fun _ => .new np, .nil, Nat.zero_add _, Nat.le_refl _, ?_⟩, ?_⟩
  · exact (R.guard (r1.wipe (vs := vs) hio) np)
  · rw [List.drop_zero]
    cases lcL dg ft fe vs ds (wipeE ρ1 vs) <;> rfl
  rintro i m H2 ⟨ρ2, F2, accV, accD, r2, l2, k2, p2, hm, hz, he⟩
  obtain ⟨w1, w2⟩ := wk.2 i H2 F2 l2 r2.sub
  by_cases hi : i < ds.length
  · obtain ⟨go, yl⟩ := w1 hi
    rw [List.drop_eq_getElem_cons hi, lcL] at he
    refine .inr ⟨go, fun H' => ∃ ρ2 F2 accV accD, R (en X io s0) (L2.upd G p (.lst accV)) F1 ρ2 F2 (L2.wipe σ vs) H' ∧ Le F1 F2 ∧ (c = true → Le H1 H') ∧ Reps X.K F2 accV accD ∧ accD.length ≤ i + 1 ∧
      lcL dg ft fe vs ds (wipeE ρ1 vs) = (lcL dg ft fe vs (ds.drop (i + 1)) ρ2).bind fun ys ρd => .ok (accD ++ ys) ρd, fun H' ⟨a1, a2, a3, a4, a5, a6, a7, a8, a9, a10⟩ => ⟨m - 1, by omega, a1, a2, a3, a4, a5, a6, a7, a8, by omega, a9, a10⟩, fun x H3 y => ?_⟩
    obtain ⟨F3, d, z, ed, px⟩ := yl x H3 y
    rw [List.getElem?_eq_getElem hi] at ed
    cases ed
    cases e : dg ds[i] ρ2 with
    | none =>
      rw [e] at he
      rw [he] at q1
      exact (show False from q1).elim
    | some ρa =>
      rw [e] at he
      dsimp only at he
      refine ⟨_, _, ρ2, F3, ds[i], ρa, r2.ext z, px, e, fun σ' ra hl hj => ?_⟩
      have hw : L2.wipe σ' vs = L2.wipe σ vs := (wipe_same hl fun j h => hj j fun h2 => h (hsl j h2)).trans (wipe_wipe vs)
      refine ⟨hw, _, _, ρa, F3, ra, ?_⟩
      cases eb : ft ρa with
      | exc x ρb =>
        rw [eb] at he
        rw [he] at q1
        exact (show False from q1).elim
      | bad =>
        rw [eb] at he
        rw [he] at q1
        exact (show False from q1).elim
      | ok b ρb =>
        rw [eb] at he
        rintro v F4 H4 r4 l4 k4 rfl
        cases v with
        | false =>
          rw [if_neg Bool.false_ne_true]
          refine ⟨wipeE ρb vs, F4, accV, accD, hw ▸ r4.wipe (vs := vs) hio, l2.trans (z.fle.trans l4), fun h => (k2 h).trans (z.hle.trans (k4 h)), p2.mono (z.fle.trans l4), by omega, ?_⟩
          rw [he]
          rfl
        | true =>
          rw [if_pos rfl]
          refine ⟨_, _, ρb, F4, r4, ?_⟩
          cases ey : fe ρb with
          | exc x ρc =>
            have he : _ = ((noex (fe ρb)).bind _).bind _ := he
            rw [ey] at he
            rw [he] at q1
            exact (show False from q1).elim
          | bad =>
            have he : _ = ((noex (fe ρb)).bind _).bind _ := he
            rw [ey] at he
            rw [he] at q1
            exact (show False from q1).elim
          | ok y ρc =>
            have he : _ = ((noex (fe ρb)).bind _).bind _ := he
            rw [ey] at he
            intro u F5 H5 r5 l5 k5 p5
            have la : accV.length < sizeLine := by
              rw [p2.length]
              exact Nat.lt_of_le_of_lt hz (Nat.lt_of_lt_of_le hi wk.1)
            refine ⟨accV, r5.gle p _ upd_same, la, wipeE ρc vs, F5, accV ++ [u], accD ++ [y], hw ▸ (R.guardW (o' := .lst (accV ++ [u])) r5 fp).wipe (vs := vs) hio, l2.trans (z.fle.trans (l4.trans l5)), fun h a o ea => ?_, (p2.mono (z.fle.trans (l4.trans l5))).append (.cons p5 .nil), by rw [List.length_append]; simp; omega, ?_⟩
            · rw [upd_ne (ne_of_none ea np)]
              exact ((k2 h).trans (z.hle.trans ((k4 h).trans (k5 h)))) a o ea
            · rw [he]
              show (((lcL dg ft fe vs (ds.drop (i + 1)) (wipeE ρc vs)).bind fun ys ρd => .ok (y :: ys) ρd).bind fun ys ρd => .ok (accD ++ ys) ρd) = _
              cases lcL dg ft fe vs (ds.drop (i + 1)) (wipeE ρc vs) with
              | ok ys ρd => simp
              | exc _ _ => rfl
              | bad => rfl
  · have hi : i = ds.length := by omega
    refine .inl ⟨w2 hi, ?_⟩
    rw [List.drop_eq_nil_of_le (by omega), lcL] at he
    have he : lcL dg ft fe vs ds (wipeE ρ1 vs) = .ok accD ρ2 := by
      rw [he]
      simp
    rw [he] at q1
    exact fin accD ρ2 F2 H2 accV r2 l2 k2 p2 q1
end
/-! ## the rules -/
section
variable {X : Cx} {io : List Nat} {s0 : L2.St} {W : WX} {c : Bool} {elt tg iter : Expr} {ifs : List Expr} {scope : Scope} {own : List (Str × Nat)} {pos spos py : Pos} {fs : Den (List PyData)} {dg : DenG} {sl : List Nat} {ft : Den Bool} {fe : Den PyData} {i : Nat} {y : Str}
/-- no test, one test -/
def tYesD : Den Bool := fun ρ => .ok true ρ
theorem mts_nil {X : Cx} : PTs X [] (tT (en X io s0) W c tYesD) := ⟨fun pins s σ H Q I ⟨G, F0, ρ, F, r, q⟩ => pts_nil.run pins s σ H Q I (q true F H r (.refl _) (fun _ => .refl _) rfl)⟩
theorem mts_one {X : Cx} {e : Expr} (h : PT X e (tT (en X io s0) W c ft)) : PTs X [e] (tT (en X io s0) W c ft) := pts_one h
theorem me_lc (hc : X.calm = true) (hN : X.N.Nodup) (nd : (own.map (·.2)).Nodup) (hio : ∀ v ∈ own.map (·.2), v ∉ io) (hsl : ∀ j ∈ sl, j ∈ own.map (·.2)) (hset : ∀ x, foldedSetIterable iter X.env x = pure x) (hi : PI X tg iter (tI (en X io s0) W c fs)) (ok : BlkOk X.N X.env.scope scope own)
    (hg : ∀ (s : Shared) (H : Hp) (B : Addr) (cl : List (Str × Addr)) (fp : List Addr), PG (X.blk s H scope (compEnvC scope cl B X.env) fp) tg (tG (en X io s0) sl dg)) (ht : ∀ (s : Shared) (H : Hp) (B : Addr) (cl : List (Str × Addr)) (fp : List Addr), PTs (X.blk s H scope (compEnvC scope cl B X.env) fp) ifs (tT (en X io s0) WF c ft))
    (he : ∀ (s : Shared) (H : Hp) (B : Addr) (cl : List (Str × Addr)) (fp : List Addr), PE (X.blk s H scope (compEnvC scope cl B X.env) fp) elt (tE (en X io s0) WF c fe)) : PE X (.ListComp elt [⟨tg, iter, ifs, 0⟩] scope pos) (tE (en X io s0) W c (dLc fs dg ft fe (own.map (·.2)))) :=
  pe_weak (pe_lc hc hN hi ok hg ht he hset) fun _ _ _ h => lc_of nd hio hsl h
/-- name = [..], the name a local -/
theorem ms_lc (hc : X.calm = true) (hN : X.N.Nodup) (nd : (own.map (·.2)).Nodup) (hio : ∀ v ∈ own.map (·.2), v ∉ io) (hsl : ∀ j ∈ sl, j ∈ own.map (·.2)) (hset : ∀ x, foldedSetIterable iter X.env x = pure x) (hy : X.N[i]? = some y) (hyl : X.env.scope.names.lookup y = some .local) (hyo : i ∉ io)
    (hsw : swapsWith (.ListComp elt [⟨tg, iter, ifs, 0⟩] scope pos) (some (.Name y py)) spos.line X.env = pure true) (hi : PI X tg iter (tI (en X io s0) W false fs)) (ok : BlkOk X.N X.env.scope scope own)
    (hg : ∀ (s : Shared) (H : Hp) (B : Addr) (cl : List (Str × Addr)) (fp : List Addr), PG (X.blk s H scope (compEnvC scope cl B X.env) fp) tg (tG (en X io s0) sl dg)) (ht : ∀ (s : Shared) (H : Hp) (B : Addr) (cl : List (Str × Addr)) (fp : List Addr), PTs (X.blk s H scope (compEnvC scope cl B X.env) fp) ifs (tT (en X io s0) WF false ft))
    (he : ∀ (s : Shared) (H : Hp) (B : Addr) (cl : List (Str × Addr)) (fp : List Addr), PE (X.blk s H scope (compEnvC scope cl B X.env) fp) elt (tE (en X io s0) WF false fe)) : PS X (.Assign [.Name y py] (.ListComp elt [⟨tg, iter, ifs, 0⟩] scope pos) spos) (tS (en X io s0) W (sAsg (dLc fs dg ft fe (own.map (·.2))) (gNm i))) :=
  ps_weak (ps_setLc hc hN hy hyl hsw hi ok hg ht he hset) fun D σ H ⟨G, F0, ρ, F, r, q⟩ => by
    refine lc_of nd hio hsl ⟨G, F0, ρ, F, r, (Post.out q).imp fun v F1 H1 d ρ1 r1 l1 k1 p1 q1 => ?_⟩
    exact q1 _ F1 H1 (r1.set hyo p1) (.refl _)
end
end Ev

set_option Elab.async false
set_option linter.all false
set_option maxRecDepth 100000
set_option maxHeartbeats 1000000
namespace Ev
open PySem PySem.Spec PyProof.Rows L2
/-! ## new lists that a slot is to own -/
section
variable {C : En} {G F0 F F1 H : Hp} {ρ : Ens} {σ : L2.St} {p : Addr}
theorem R.own {xs : List PyData} {vs : List V} {i : Nat} (r : R C (L2.upd G p (.lst vs)) F1 ρ F σ H) (n : G p = none) (n1 : F1 p = none) (f : ∀ a, G a ≠ none → F1 a = F0 a) (hi : i ∉ C.io) (q : Reps C.K F vs xs) : R C G F0 (ρ.set i (.ow (.lst xs))) F (σ.set i (some (.ref p))) H := by
  obtain ⟨w, r⟩ := r
  obtain ⟨f1, wp⟩ := r.frm p (by rw [upd_same]; simp)
  rw [n1] at f1
  have hp : H p = some (.lst vs) := r.gle p _ upd_same
  have other : ∀ {j : Nat} {o : Own}, ρ[j]? = some (.ow o) → σ[j]? ≠ some (some (.ref p)) := fun {j o} e z => by
    obtain ⟨v, e2, a, rfl, q⟩ := r.slot j _ e
    rw [e2] at z
    cases z
    cases o with
    | lst ys => obtain ⟨_, _, _, h⟩ := q; rw [wp] at h; cases h
    | dic ys => obtain ⟨_, _, _, h⟩ := q; rw [wp] at h; cases h
  refine ⟨fun a => if a = p then some (p, 0) else w a, by rw [List.length_set, List.length_set]; exact r.len, fun j s e => ?_, fun j k o o' u e1 e2 e3 e4 => ?_, fun a z e => ?_, r.sub, fun a u e => r.gle a u ?_, fun a h => ?_, fun j hj => ?_⟩
  · by_cases h : i = j
    · subst h
      have hl : i < ρ.length := by
        have := (List.getElem?_eq_some_iff.mp e).1
        simpa using this
      rw [List.getElem?_set_self hl] at e
      cases e
      exact ⟨some (.ref p), List.getElem?_set_self (by rw [← r.len]; exact hl), p, rfl, vs, hp, q, if_pos rfl⟩
    · rw [List.getElem?_set_ne h] at e ⊢
      obtain ⟨v, e2, q2⟩ := r.slot j s e
      refine ⟨v, e2, q2.mono (.refl _) (fun a o _ h => h) fun a z h => ?_⟩
      rw [if_neg (fun e => by subst e; rw [wp] at h; cases h)]
      exact h
  · have key : ∀ {k : Nat} {o : Own}, (ρ.set i (.ow (.lst xs)))[k]? = some (.ow o) → i ≠ k → ρ[k]? = some (.ow o) := fun {k o} e z => by rw [List.getElem?_set_ne z] at e; exact e
    have sP : ∀ {k : Nat}, i = k → ∀ {o : Own}, (ρ.set i (.ow (.lst xs)))[k]? = some (.ow o) → (σ.set i (some (.ref p)))[k]? = some (some (.ref p)) := fun {k} z {o} e => by
      subst z
      have hl : i < ρ.length := by
        have := (List.getElem?_eq_some_iff.mp e).1
        simpa using this
      exact List.getElem?_set_self (by rw [← r.len]; exact hl)
    by_cases h1 : i = j
    · by_cases h2 : i = k
      · rw [← h1, ← h2]
      · rw [sP h1 e1] at e3
        rw [List.getElem?_set_ne h2, ← e3] at e4
        exact absurd e4 (other (key e2 h2))
    · by_cases h2 : i = k
      · rw [sP h2 e2] at e4
        rw [List.getElem?_set_ne h1, ← e4] at e3
        exact absurd e3 (other (key e1 h1))
      · rw [List.getElem?_set_ne h1] at e3
        rw [List.getElem?_set_ne h2] at e4
        exact r.sep j k o o' u (key e1 h1) (key e2 h2) e3 e4
  · by_cases h : a = p
    · subst h
      exact ⟨f1, by rw [hp]; simp⟩
    · rw [if_neg h] at e
      exact r.own a z e
  · rw [upd_ne (ne_of_none e n)]
    exact e
  · have ne : a ≠ p := fun y => h (y ▸ n)
    obtain ⟨h1, h2⟩ := r.frm a (by rw [upd_ne ne]; exact h)
    exact ⟨h1.trans (f a h), by rw [if_neg ne]; exact h2⟩
  · rw [List.getElem?_set_ne (fun z : i = j => hi (z ▸ hj))]
    exact r.pin j hj
end
/-- behind an expression that makes a list -/
def PostN (C : En) (W : WX) (c : Bool) (G F0 F : Hp) (σ : L2.St) (H : Hp) (Q : Addr → List V → Hp → Hp → Hp → List PyData → Ens → Prop) : Rs (List PyData) → Prop
  | .ok xs ρ' => ∀ p vs F1 F' H', R C (L2.upd G p (.lst vs)) F1 ρ' F' σ H' → G p = none → F1 p = none → (∀ a, G a ≠ none → F1 a = F0 a) → Le F F' → (c = true → Le H H') → Reps C.K F' vs xs → Q p vs F1 F' H' xs ρ'
  | .exc x ρ' => ∀ cls dd F' H', R C G F0 ρ' F' σ H' → Le F F' → ExR C.K C.mg F' H' cls dd x → W cls dd σ H'
  | .bad => False
def tN (C : En) (W : WX) (c : Bool) (f : Den (List PyData)) : TE := fun σ H Q => ∃ G F0 ρ F, R C G F0 ρ F σ H ∧ PostN C W c G F0 F σ H (fun p _ _ _ H' _ _ => Q (.ref p) H') (f ρ)
/-- as a datum -/
def dFix (f : Den (List PyData)) : Den PyData := fun ρ => (f ρ).bind fun xs ρ1 => .ok (.list xs) ρ1
section
variable {X : Cx} {io : List Nat} {s0 : L2.St} {W : WX} {c : Bool} {e : Expr} {es : List Expr} {f : Den (List PyData)} {fs : Den (List PyData)} {fe : Den PyData} {pos p pt : Pos} {i : Nat} {x : Str}
theorem PostN.shift {C : En} {G F0 F F' H H' : Hp} {σ : L2.St} {Q : Addr → List V → Hp → Hp → Hp → List PyData → Ens → Prop} {r : Rs (List PyData)} (q : PostN C W c G F0 F σ H Q r) (l : Le F F') (k : c = true → Le H H') : PostN C W c G F0 F' σ H' Q r := by
  cases r with
  | ok d ρ => exact fun p vs F1 F2 H2 r2 n n1 fr l2 k2 p2 => q p vs F1 F2 H2 r2 n n1 fr (l.trans l2) (fun h => (k h).trans (k2 h)) p2
  | exc x ρ => exact fun cls dd F2 H2 r2 l2 p => q cls dd F2 H2 r2 (l.trans l2) p
  | bad => exact q
theorem Post.bindN {α β : Type} {Rel : Hp → Hp → β → α → Prop} {c1 : Bool} {C : En} {G F0 F H : Hp} {σ : L2.St} {Q : Addr → List V → Hp → Hp → Hp → List PyData → Ens → Prop} {r : Rs α} {k : α → Ens → Rs (List PyData)} (q : PostN C W c G F0 F σ H Q (r.bind k)) (hc : c = true → c1 = true) : Post Rel C W c1 G F0 F σ H (fun _ F' H' d ρ' => PostN C W c G F0 F' σ H' Q (k d ρ')) r := by
  cases r with
  | ok d ρ => exact fun v F2 H2 r2 l2 k2 p => PostN.shift (r := k d ρ) q l2 fun h => k2 (hc h)
  | exc x ρ => exact q
  | bad => exact q
theorem me_fix (h : PE X e (tN (en X io s0) W c f)) : PE X e (tE (en X io s0) W c (dFix f)) := pe_weak h fun σ H Q ⟨G, F0, ρ, F, r, q⟩ => ⟨G, F0, ρ, F, r, by
  unfold dFix at q
  cases e : f ρ with
  | exc x ρ1 => rw [e] at q; exact q
  | bad => rw [e] at q; exact q
  | ok xs ρ1 =>
    rw [e] at q
    intro p vs F1 F' H' r' n n1 fr l k rp
    obtain ⟨r3, l3⟩ := r'.done n n1 fr
    exact q _ _ H' r3 (l.trans l3) k (.lst upd_same (rp.mono l3))⟩
/-- a new object p, tracked, told to nobody -/
theorem fresh_N {C : En} {G F0 F H : Hp} {ρ : Ens} {σ : L2.St} {vs : List V} {p : Addr} (r : R C G F0 ρ F σ H) (n : H p = none) : R C (L2.upd G p (.lst vs)) F ρ F σ (L2.upd H p (.lst vs)) ∧ G p = none ∧ F p = none ∧ ∀ a, G a ≠ none → F a = F0 a := ⟨r.guard n, r.gle.none n, r.sub.none n, r.frm⟩
theorem mn_lst (hl : ∀ ρ ds ρ', fs ρ = .ok ds ρ' → ds.length ≤ sizeLine) (h : PA X es (tAS (en X io s0) W c fs)) : PE X (.List es pos) (tN (en X io s0) W c fs) := pe_weak (pe_lst h) fun σ H Q ⟨G, F0, ρ, F, r, q⟩ =>
  ⟨G, F0, ρ, F, r, by
    cases e : fs ρ with
    | exc x ρ1 => rw [e] at q; exact q
    | bad => rw [e] at q; exact q
    | ok ds ρ1 =>
      rw [e] at q
      intro vs F1 H1 r1 l1 k1 p1
      refine ⟨by rw [p1.length]; exact hl _ _ _ e, fun p n => ?_⟩
      obtain ⟨g, n1, n2, fr⟩ := fresh_N (vs := vs) r1 n
      exact q p vs F1 F1 _ g n1 n2 fr l1 (fun h => (k1 h).trans (.new n)) p1⟩
/-- list(e) -/
def nList (fa : Den PyData) : Den (List PyData) := fun ρ => (fa ρ).bind fun d ρ1 => lift (match d with
  | .list xs => some xs
  | .tuple xs => some xs
  | _ => none) ρ1
theorem mn_list (hG : Gl X "list") (hm : X.mg "list" = none) (hs : isStar e = false) (ha : PE X e (tED (en X io s0) W c fe)) : PE X (.Call (.Name "list" p) [e] [] pos) (tN (en X io s0) W c (nList fe)) := pe_weak (pe_callTy call_list_of hG hm (by decide +kernel) (pa_cons ha pa_nil (star_cons hs _ _)) (by decide) (by decide) (star_cons hs _ _) rfl) fun σ H Q ⟨G, F0, ρ, F, r, q⟩ =>
  ⟨G, F0, ρ, F, r, (Post.bindN q id).imp fun v F1 H1 d ρ1 r1 l1 k1 p1 q1 => by
    cases d with
    | list xs =>
      obtain ⟨a, vs, rfl, h, rr⟩ := p1.list r1.sub
      refine ⟨a, vs, rfl, .inl h, fun p n => ?_⟩
      obtain ⟨g, n1, n2, fr⟩ := fresh_N (vs := vs) r1 n
      exact q1 p vs F1 F1 _ g n1 n2 fr (.refl _) (fun h => .new n) rr
    | tuple xs =>
      obtain ⟨a, vs, rfl, h, rr⟩ := p1.tuple r1.sub
      refine ⟨a, vs, rfl, .inr h, fun p n => ?_⟩
      obtain ⟨g, n1, n2, fr⟩ := fresh_N (vs := vs) r1 n
      exact q1 p vs F1 F1 _ g n1 n2 fr (.refl _) (fun h => .new n) rr
    | _ => exact (show False from q1).elim⟩
/-- name = a new list -/
def sNew (i : Nat) (f : Den (List PyData)) : DenS := fun ρ => (f ρ).out fun xs ρ1 => .nx (ρ1.set i (.ow (.lst xs)))
theorem new_of {D : Ends} {σ : L2.St} {H : Hp} (hio : i ∉ io) (h : tS (en X io s0) W (sNew i f) D σ H) : tN (en X io s0) W false f σ H (fun x H1 => D.nx (σ.set i (some x)) H1) := by
  obtain ⟨G, F0, ρ, F, r, q⟩ := h
  refine ⟨G, F0, ρ, F, r, ?_⟩
  unfold sNew at q
  cases e : f ρ with
  | exc x ρ1 => rw [e] at q; exact fun cls dd F' H' r' l p => q cls dd σ F' H' r' l p
  | bad => rw [e] at q; exact q
  | ok xs ρ1 =>
    rw [e] at q
    intro p vs F1 F' H' r' n n1 fr l k rp
    exact q _ F' H' (r'.own n n1 fr hio rp) l
theorem ms_new (hs : swapsWithSole [.Name x p] e pos.line X.env = pure false) (hN : X.N.Nodup) (hi : X.N[i]? = some x) (hx : Loc X.env.scope x) (hf : X.fn x = true ∨ X.env.scope.names.lookup x = some .local) (hio : i ∉ io) (he : PE X e (tN (en X io s0) W false f)) : PS X (.Assign [.Name x p] e pos) (tS (en X io s0) W (sNew i f)) :=
  ps_weak (ps_asg he (pg_name hN hi hx hf) hs rfl rfl) fun D σ H h => new_of hio h
end
/-! ## what the owned lists do -/
/-- the list of a slot -/
def ownL (ρ : Ens) (i : Nat) : Option (List PyData) := match ρ[i]? with
  | some (.ow (.lst xs)) => some xs
  | _ => none
theorem ownL_eq {ρ : Ens} {i : Nat} {xs : List PyData} (h : ownL ρ i = some xs) : ρ[i]? = some (.ow (.lst xs)) := by
  unfold ownL at h
  split at h
  · cases h; assumption
  · cases h
/-- name.append(e): the receiver is read ahead of e -/
def sApp (i : Nat) (f : Den PyData) : DenS := fun ρ => match ownL ρ i with
  | none => .bad
  | some _ => (f ρ).out fun d ρ1 => match ownL ρ1 i with
    | some xs => if xs.length < sizeLine then .nx (ρ1.set i (.ow (.lst (xs ++ [d])))) else .bad
    | none => .bad
def sExt (i : Nat) (f : Den PyData) : DenS := fun ρ => match ownL ρ i with
  | none => .bad
  | some _ => (f ρ).out fun d ρ1 => match ownL ρ1 i, d with
    | some xs, .list ys => if xs.length + ys.length ≤ sizeLine then .nx (ρ1.set i (.ow (.lst (xs ++ ys)))) else .bad
    | _, _ => .bad
section
variable {X : Cx} {io : List Nat} {s0 : L2.St} {W : WX} {c : Bool} {e : Expr} {fe : Den PyData} {pos cpos apos p : Pos} {i : Nat} {x : Str}
theorem few_one (h : isStar e = false) : ((backTo cpos (starEach [e] X.env)).all (fun x => !x.1) && (backToKw cpos (keywordEach [] X.env)).all (fun x => x.1.isSome) && decide ([e].length + ([] : List Keyword).length + (if ([] : List Keyword).isEmpty then 0 else 1) < 30)) = true := by
  rw [star_cons h]
  rfl
theorem R.ty (r : R (en X io s0) G F0 ρ F σ H) {xs : List PyData} (e : ρ[i]? = some (.ow (.lst xs))) : ∃ a vs, σ[i]? = some (some (.ref a)) ∧ H a = some (.lst vs) ∧ Reps X.K F vs xs ∧ tyV X.K "list" (.ref a) H := by
  obtain ⟨a, vs, e1, e2, q⟩ := r.lst e
  exact ⟨a, vs, e1, e2, q, .inl ⟨rfl, _, SqL.of e2⟩⟩
theorem ms_app (hN : X.N[i]? = some x) (hv : Vis X.env.scope x) (hd : (x == ("__debug__" : Str)) = false) (hcd : (x == ("__classdict__" : Str)) = false) (hst : isStar e = false) (hline : (apos.endLine == cpos.line) = true) (he : PE X e (tE (en X io s0) W false fe)) :
    PS X (.Expr (.Call (.Attribute (.Name x p) "append" apos) [e] [] cpos) pos) (tS (en X io s0) W (sApp i fe)) :=
  ps_weak (ps_expr (pe_bm PySem.F.plainAttrs_list PySem.F.slot_list_append PySem.F.type_list_append mt_append (pe_var hN hv hd hcd) (pa_cons he pa_nil (star_cons hst _ _)) rfl (few_one hst) hline (star_cons hst _ _) rfl)) fun D σ H ⟨G, F0, ρ, F, r, q⟩ => by
    unfold sApp at q
    cases e0 : ownL ρ i with
    | none => rw [e0] at q; exact q.elim
    | some ys =>
      rw [e0] at q
      obtain ⟨a, vs, e1, e2, q2, ty⟩ := r.ty (ownL_eq e0)
      refine ⟨.ref a, e1, ty, G, F0, ρ, F, r, (Post.out q).imp fun v F1 H1 d ρ1 r1 l1 k1 p1 q1 => ?_⟩
      cases e3 : ownL ρ1 i with
      | none => rw [e3] at q1; exact q1.elim
      | some xs =>
        rw [e3] at q1
        dsimp only at q1
        split at q1
        · rename_i hz
          obtain ⟨b, us, e4, e5, q5⟩ := r1.lst (ownL_eq e3)
          rw [e1] at e4
          cases e4
          refine ⟨a, us, v, rfl, rfl, e5, by rw [q5.length]; exact hz, ?_⟩
          exact q1 σ F1 _ (r1.write (ownL_eq e3) e1 (q5.append (.cons p1 .nil))) (.refl _)
        · exact q1.elim
theorem ms_ext (hN : X.N[i]? = some x) (hv : Vis X.env.scope x) (hd : (x == ("__debug__" : Str)) = false) (hcd : (x == ("__classdict__" : Str)) = false) (hst : isStar e = false) (hline : (apos.endLine == cpos.line) = true) (he : PE X e (tE (en X io s0) W false fe)) :
    PS X (.Expr (.Call (.Attribute (.Name x p) "extend" apos) [e] [] cpos) pos) (tS (en X io s0) W (sExt i fe)) :=
  ps_weak (ps_expr (pe_bm PySem.F.plainAttrs_list PySem.F.slot_list_extend PySem.F.type_list_extend mt_extend (pe_var hN hv hd hcd) (pa_cons he pa_nil (star_cons hst _ _)) rfl (few_one hst) hline (star_cons hst _ _) rfl)) fun D σ H ⟨G, F0, ρ, F, r, q⟩ => by
    unfold sExt at q
    cases e0 : ownL ρ i with
    | none => rw [e0] at q; exact q.elim
    | some ys =>
      rw [e0] at q
      obtain ⟨a, vs, e1, e2, q2, ty⟩ := r.ty (ownL_eq e0)
      refine ⟨.ref a, e1, ty, G, F0, ρ, F, r, (Post.out q).imp fun v F1 H1 d ρ1 r1 l1 k1 p1 q1 => ?_⟩
      cases e3 : ownL ρ1 i with
      | none => rw [e3] at q1; exact q1.elim
      | some xs =>
        rw [e3] at q1
        cases d with
        | list ys =>
          dsimp only at q1
          split at q1
          · rename_i hz
            obtain ⟨b, us, e4, e5, q5⟩ := r1.lst (ownL_eq e3)
            rw [e1] at e4
            cases e4
            cases p1 with
            | lst hb rb =>
              rename_i b zs
              refine ⟨a, b, us, zs, rfl, rfl, e5, r1.sub _ _ hb, by rw [q5.length, rb.length]; exact hz, ?_⟩
              exact q1 σ F1 _ (r1.write (ownL_eq e3) e1 (q5.append rb)) (.refl _)
          · exact q1.elim
        | _ => exact q1.elim
end
end Ev

set_option Elab.async false
set_option linter.all false
set_option maxRecDepth 100000
set_option maxHeartbeats 1000000
namespace Ev
open PySem PySem.Spec PyProof.Rows L2
/-! ## a, b = x, y -/
inductive RH where
  | val (f : Den PyData)
  | new (f : Den (List PyData))
def RH.tE (C : En) (W : WX) : RH → TE
  | .val f => Ev.tE C W false f
  | .new f => Ev.tN C W false f
/-- what a right hand gives, as a slot -/
def RH.run : RH → Den Sl
  | .val f => fun ρ => (f ρ).bind fun d ρ1 => .ok (.fz d) ρ1
  | .new f => fun ρ => (f ρ).bind fun xs ρ1 => .ok (.ow (.lst xs)) ρ1
def sPar (i j : Nat) (a b : RH) : DenS := fun ρ => (a.run ρ).out fun s ρ1 => (b.run ρ1).out fun u ρ2 => .nx ((ρ2.set i s).set j u)
section
variable {X : Cx} {io : List Nat} {s0 : L2.St} {W : WX} {ea eb : Expr} {ra rb : RH} {i j : Nat} {x y : Str} {px py pt pos : Pos} {kt k2 : Nat} {pt2 : Pos}
/-- one right hand: what it gave is kept apart till it is stored -/
theorem rh_one {C : En} {G F0 G1 F01 F : Hp} {ρ : Ens} {σ : L2.St} {H : Hp} {D : Ends} {Q : VK} {k : Sl → Ens → Out} (r : R C G1 F01 ρ F σ H) (cv : ∀ {ρ F σ H}, R C G1 F01 ρ F σ H → R C G F0 ρ F σ H) (q : PostS C W G F0 F D ((ra.run ρ).out k))
    (h : ∀ v s ρ1 F1 H1 G2 F02, R C G2 F02 ρ1 F1 σ H1 → Le F F1 → PostS C W G F0 F1 D (k s ρ1) →
      (∀ (ρ2 : Ens) (F2 : Hp) (σ2 : L2.St) (H2 : Hp) (n : Nat), R C G2 F02 ρ2 F2 σ2 H2 → Le F1 F2 → n ∉ C.io → R C G1 F01 (ρ2.set n s) F2 (σ2.set n (some v)) H2) →
      (∀ {ρ F σ H}, R C G2 F02 ρ F σ H → R C G F0 ρ F σ H) → Q v H1) : ra.tE C W σ H Q := by
  cases ra with
  | val f =>
    refine ⟨G1, F01, ρ, F, r, ?_⟩
    have q : PostS C W G F0 F D (((f ρ).bind fun d ρ1 => .ok (.fz d) ρ1).out k) := q
    cases e : f ρ with
    | exc x ρ1 => rw [e] at q; exact fun cls dd F' H' r' l p => q cls dd σ F' H' (cv r') l p
    | bad => rw [e] at q; exact q
    | ok d ρ1 =>
      rw [e] at q
      intro v F1 H1 r1 l1 k1 p1
      exact h v _ ρ1 F1 H1 G1 F01 r1 l1 (PostS.shift (o := k (.fz d) ρ1) q l1) (fun ρ2 F2 σ2 H2 n r2 l2 hn => r2.set hn (Rep.mono l2 p1)) cv
  | new f =>
    refine ⟨G1, F01, ρ, F, r, ?_⟩
    have q : PostS C W G F0 F D (((f ρ).bind fun d ρ1 => .ok (.ow (.lst d)) ρ1).out k) := q
    cases e : f ρ with
    | exc x ρ1 => rw [e] at q; exact fun cls dd F' H' r' l p => q cls dd σ F' H' (cv r') l p
    | bad => rw [e] at q; exact q
    | ok xs ρ1 =>
      rw [e] at q
      intro p vs F1 F' H' r' n n1 fr l k' rp
      exact h _ _ ρ1 F' H' _ _ r' l (PostS.shift (o := k (.ow (.lst xs)) ρ1) q l) (fun ρ2 F2 σ2 H2 m r2 l2 hm => r2.own n n1 fr hm (rp.mono l2)) fun r => cv (R.unguard r n fr)
theorem ms_par (hc : X.calm = true) (hN : X.N.Nodup) (hi : X.N[i]? = some x) (hj : X.N[j]? = some y) (hij : i ≠ j) (hio : i ∉ io) (hjo : j ∉ io) (hx : X.env.scope.names.lookup x = some .local) (hy : X.env.scope.names.lookup y = some .local) (sa : isStar ea = false) (sb : isStar eb = false)
    (hw : swappedStores [.Tuple [.Name x px, .Name y py] kt pt] (.Tuple [ea, eb] k2 pt2) X.env = pure (some [x, y])) (ha : PE X ea (ra.tE (en X io s0) W)) (hb : PE X eb (rb.tE (en X io s0) W)) :
    PS X (.Assign [.Tuple [.Name x px, .Name y py] kt pt] (.Tuple [ea, eb] k2 pt2) pos) (tS (en X io s0) W (sPar i j ra rb)) :=
  ps_weak (ps_par hc hN hi hj hij hx hy (pa_cons ha (pa_cons hb pa_nil (star_cons sb _ _)) (star_cons sa _ _)) hw) fun D σ H ⟨G, F0, ρ, F, r, q⟩ => by
    unfold sPar at q
    refine rh_one r id q fun v s ρ1 F1 H1 G2 F02 r1 l1 q1 st1 cv1 => ?_
    refine rh_one r1 cv1 q1 fun u t ρ2 F2 H2 G3 F03 r2 l2 q2 st2 cv2 => ?_
    refine ⟨v, u, rfl, ?_⟩
    have r3 := st1 _ _ _ _ i (st2 ρ2 F2 σ H2 j r2 (.refl _) hjo) l2 hio
    rw [List.set_comm _ _ (Ne.symm hij), List.set_comm _ _ (Ne.symm hij)] at r3
    exact q2 _ _ _ r3 (.refl _)
end
/-! ## pop, stores by place -/
/-- name.pop(), name.pop(k) -/
def dPop (i : Nat) : Den PyData := fun ρ => match ownL ρ i with
  | some xs => match xs[xs.length - 1]? with
    | some d => .ok d (ρ.set i (.ow (.lst xs.dropLast)))
    | none => .bad
  | none => .bad
def dPopAt (i : Nat) (f : Den PyData) : Den PyData := fun ρ => match ownL ρ i with
  | none => .bad
  | some _ => (f ρ).bind fun d ρ1 => match ownL ρ1 i, d with
    | some xs, .int k => if decide (-(2 ^ 63) ≤ k ∧ k < 2 ^ 63) = true then (match seqIndex? k xs.length with
      | some j => match xs[j]? with
        | some d => .ok d (ρ1.set i (.ow (.lst (xs.eraseIdx j))))
        | none => .bad
      | none => .bad) else .bad
    | _, _ => .bad
theorem Reps.erase {K : Frag} {F : Hp} : ∀ {vs : List V} {ds : List PyData} (j : Nat), Reps K F vs ds → Reps K F (vs.eraseIdx j) (ds.eraseIdx j)
  | _, _, _, .nil => .nil
  | _, _, 0, .cons _ r => r
  | _, _, j + 1, .cons h r => .cons h (Reps.erase j r)
theorem Reps.dropLast {K : Frag} {F : Hp} {vs : List V} {ds : List PyData} (r : Reps K F vs ds) : Reps K F vs.dropLast ds.dropLast := by
  rw [List.dropLast_eq_take, List.dropLast_eq_take, r.length]
  exact r.take _
theorem Reps.set {K : Frag} {F : Hp} {v : V} {d : PyData} (h : Rep K F v d) : ∀ {vs : List V} {ds : List PyData} (j : Nat), Reps K F vs ds → Reps K F (vs.set j v) (ds.set j d)
  | _, _, _, .nil => .nil
  | _, _, 0, .cons _ r => .cons h r
  | _, _, j + 1, .cons k r => .cons k (Reps.set h j r)
section
variable {X : Cx} {io : List Nat} {s0 : L2.St} {W : WX} {c : Bool} {e : Expr} {fe : Den PyData} {pos cpos apos p : Pos} {i : Nat} {x : Str}
theorem me_pop (hN : X.N[i]? = some x) (hv : Vis X.env.scope x) (hd : (x == ("__debug__" : Str)) = false) (hcd : (x == ("__classdict__" : Str)) = false) (hline : (apos.endLine == cpos.line) = true) :
    PE X (.Call (.Attribute (.Name x p) "pop" apos) [] [] cpos) (tE (en X io s0) W false (dPop i)) :=
  pe_weak (pe_bm0 PySem.F.plainAttrs_list PySem.F.slot_list_pop PySem.F.type_list_pop mt_pop (pe_var hN hv hd hcd) rfl hline) fun σ H Q ⟨G, F0, ρ, F, r, q⟩ => by
    unfold dPop at q
    cases e0 : ownL ρ i with
    | none => rw [e0] at q; exact q.elim
    | some xs =>
      rw [e0] at q
      obtain ⟨a, vs, e1, e2, q2, ty⟩ := r.ty (ownL_eq e0)
      dsimp only at q
      cases e3 : xs[xs.length - 1]? with
      | none => rw [e3] at q; exact q.elim
      | some d =>
        rw [e3] at q
        obtain ⟨v, e4, p4⟩ := q2.get e3
        refine ⟨.ref a, e1, ty, a, vs, v, rfl, rfl, e2, by rw [q2.length]; exact e4, ?_⟩
        exact q v F _ (r.write (ownL_eq e0) e1 q2.dropLast) (.refl _) (fun z => nomatch z) p4
theorem me_popAt (hN : X.N[i]? = some x) (hv : Vis X.env.scope x) (hd : (x == ("__debug__" : Str)) = false) (hcd : (x == ("__classdict__" : Str)) = false) (hst : isStar e = false) (hline : (apos.endLine == cpos.line) = true) (he : PE X e (tE (en X io s0) W false fe)) :
    PE X (.Call (.Attribute (.Name x p) "pop" apos) [e] [] cpos) (tE (en X io s0) W false (dPopAt i fe)) :=
  pe_weak (pe_bm PySem.F.plainAttrs_list PySem.F.slot_list_pop PySem.F.type_list_pop mt_popAt (pe_var hN hv hd hcd) (pa_cons he pa_nil (star_cons hst _ _)) rfl (few_one hst) hline (star_cons hst _ _) rfl) fun σ H Q ⟨G, F0, ρ, F, r, q⟩ => by
    unfold dPopAt at q
    cases e0 : ownL ρ i with
    | none => rw [e0] at q; exact q.elim
    | some ys =>
      rw [e0] at q
      obtain ⟨a, vs, e1, e2, q2, ty⟩ := r.ty (ownL_eq e0)
      refine ⟨.ref a, e1, ty, G, F0, ρ, F, r, (Post.bind q id).imp fun v F1 H1 d ρ1 r1 l1 k1 p1 q1 => ?_⟩
      cases e3 : ownL ρ1 i with
      | none => rw [e3] at q1; exact q1.elim
      | some xs =>
        rw [e3] at q1
        cases d with
        | int k =>
          dsimp only at q1
          split at q1
          · rename_i hc
            obtain ⟨h1, h2⟩ := of_decide_eq_true hc
            obtain ⟨b, us, e4, e5, q5⟩ := r1.lst (ownL_eq e3)
            rw [e1] at e4
            cases e4
            cases p1
            cases e6 : seqIndex? k xs.length with
            | none => rw [e6] at q1; exact (show False from q1).elim
            | some j =>
              rw [e6] at q1
              dsimp only at q1
              cases e7 : xs[j]? with
              | none => rw [e7] at q1; exact (show False from q1).elim
              | some d =>
                rw [e7] at q1
                obtain ⟨v, e8, p8⟩ := q5.get e7
                refine ⟨a, us, k, j, v, rfl, rfl, e5, h1, h2, by rw [q5.length]; exact e6, e8, ?_⟩
                exact q1 v F1 _ (r1.write (ownL_eq e3) e1 (q5.erase j)) (.refl _) (fun z => nomatch z) p8
          · exact (show False from q1).elim
        | _ => exact q1.elim
end
end Ev

set_option Elab.async false
set_option linter.all false
set_option maxRecDepth 100000
set_option maxHeartbeats 1000000
namespace Ev
open PySem PySem.Spec PyProof.Rows L2
/-! ## defs: a promise where no repr is under way -/
structure FnG (P : Program) (w : World) (K : Frag) (mg : Str → Option Value) (base : Heap) (k : Nat) (f : Addr) (fd : FuncData) (ps : List Str) (sp : Sp) : Prop where
  len : ∀ vs H Q E, sp vs H Q E → vs.length = ps.length
  run : ∀ (A : Around) (outer : List PySem.Env) (s : Shared) (H : Hp) (args : Args) (us : List Value) (vs : List V) (Q : VK) (E : XK), Room k A → A.guards = some [] → Env0 P w K mg base A outer s H → BindsTo s fd args (ps.zip us) → Vals vs us → sp vs H Q E → codeAny (model P w) A (.call (.ref f) args) (CR (L2.CX P w) outer P w H s Q E) s
theorem FnG.mono {P : Program} {w : World} {K : Frag} {mg : Str → Option Value} {base : Heap} {j k : Nat} {f : Addr} {fd : FuncData} {ps : List Str} {sp : Sp} (F : FnG P w K mg base j f fd ps sp) (h : j ≤ k) : FnG P w K mg base k f fd ps sp :=
  ⟨F.len, fun A outer s H args us vs Q E hr => F.run A outer s H args us vs Q E (hr.mono h)⟩
theorem FnG.of {P : Program} {w : World} {K : Frag} {mg : Str → Option Value} {base : Heap} {k : Nat} {f : Addr} {fd : FuncData} {ps : List Str} {sp : Sp} (F : FnOk P w K mg base (L2.CX P w) k f fd ps sp) : FnG P w K mg base k f fd ps sp :=
  ⟨F.len, fun A outer s H args us vs Q E hr _ => F.run A outer s H args us vs Q E hr⟩
section
variable {P : Program} {w : World} {K : Frag} {mg : Str → Option Value} {base : Heap} {k : Nat} {f : Addr} {N ps : List Str} {sp : Sp} {x qual : Str} {params : Arguments} {body : List Stmt} {scope : Scope} {dvs : List V} {kws : List (Str × V)} {fd : FuncData}
abbrev cxG (P : Program) (w : World) (K : Frag) (mg : Str → Option Value) (base : Heap) (N : List Str) (qual : Str) (scope : Scope) (f : Addr) (cdv : Value) (A : Around) (outer : List PySem.Env) (s : Shared) (H : Hp) (E : XK) : Cx := cxOf (L2.CX P w) P w K mg base N qual scope f cdv A outer s H E
/-- a def by its body -/
theorem fnG_of (F : FunD K x qual params body scope dvs kws f fd) (S : FnScope N ps scope) (len : ∀ vs H Q E, sp vs H Q E → vs.length = ps.length)
    (hbody : ∀ (cdv : Value) (A : Around) (outer : List PySem.Env) (s : Shared) (H : Hp) (vs : List V) (Q : VK) (E : XK), Room k (A.deeper (envOfC qual scope s.heap.objs.size f cdv)) → A.guards = some [] → sp vs H Q E →
      ∃ t, PSs (cxG P w K mg base N qual scope f cdv A outer s H E) body t ∧ t { nx := fun _ H' => Q .non H', rt := Q } (start N vs) H) : FnG P w K mg base (k + 1) f fd ps sp := by
  obtain ⟨oc, od, dV, kV, doc, pm, an, cdv, ct, osl, rfl, lk, hcd, _, _⟩ := F.ex
  refine ⟨len, fun A outer s H args us vs Q E hr gd e0 hb r hsp => ?_⟩
  have hl := len _ _ _ _ hsp
  have KX : K.In s.heap := e0.mod.kin.keeps fun b o e => (e0.bs b o e).1
  have lim : s.heap.NoLimit := e0.mod.nolimit.keeps fun b o e => (e0.bs b o e).1
  have hkind : ∀ y ∈ ps.zip us, scope.names.lookup y.1 = some .local ∨ (scope.names.lookup y.1 = some .cell ∧ ((cellsFrom (s.heap.objs.size + 1) scope.names []).lookup y.1).isSome = true) := by
    rintro ⟨n, v⟩ hy
    rcases S.par n (List.of_mem_zip hy).1 with z | z
    · exact .inl z
    · exact .inr ⟨z, PySem.W.cellsFrom_some _ _ _ (.inl z)⟩
  refine codeAny_call_function hr.depth (KX _ _ lk) rfl S.co S.gen rfl (PySem.W.codeRec_of KX hcd) (hb _ _ _ _ ?_)
  refine wpAny_newFunctionEnv_cells S.kind hkind fun env he s1 inc => ?_
  subst he
  refine ⟨lim.keeps inc.toInCall.keep, codeAny_func ?_⟩
  obtain ⟨t, ht, hq⟩ := hbody cdv A outer s H vs Q E (hr.deeper _) gd hsp
  have I : Inv (cxG P w K mg base N qual scope f cdv A outer s H E) [] (start N vs) H s1 := inv_start S hr.hd e0 hl r inc
  refine wpAny_mono (ht.run [] s1 (start N vs) H _ I hq) (fun fl s' hs => ?_) fun e s' hs => hs
  have fin : ∀ {σ' : L2.St} {H' : Hp} {v : V} {u : Value}, Inv (cxG P w K mg base N qual scope f cdv A outer s H E) [] σ' H' s' → RelV v u → Q v H' → CE outer P w H s Q u s' := fun {σ' H' v u} J rv q => ⟨v, H', J.os, J.bare, J.base, J.hok, rv, q⟩
  cases fl with
  | next => obtain ⟨σ', H', J, q⟩ := hs; exact fin (v := V.non) (u := Value.none) J rfl q
  | ret u => obtain ⟨v, σ', H', J, rv, q⟩ := hs; exact fin J rv q
  | brk => obtain ⟨_, _, _, q⟩ := hs; exact q.elim
  | cont => obtain ⟨_, _, _, q⟩ := hs; exact q.elim
end
/-- a call of such a def -/
def tCallG (sp : Sp) (W : WX) (t : TA) : TE := fun σ H Q => t σ H fun vs H1 => sp vs H1 Q fun cls d H' => W cls d σ H'
theorem pe_callG {X : Cx} {W : WX} {k : Nat} {f : Addr} {fd : FuncData} {ps : List Str} {sp : Sp} {x : Str} {p pos : Pos} {e : Expr} {es : List Expr} {t : TA} (F : FnG X.prog X.w X.K X.mg X.base k f fd ps sp) (hr : Room k X.A) (gd : X.A.guards = some []) (hg : Gl X x) (hm : X.mg x = some (.ref f)) (hk : PySem.W.keepIn X.K (.ref f) = true)
    (hb : Binds X.K fd ps []) (tk : Takes X W) (ha : PA X (e :: es) t) (hdb : (x == ("__debug__" : Str)) = false) (hst : ∀ y ∈ e :: es, isStar y = false) : PE X (.Call (.Name x p) (e :: es) [] pos) (tCallG sp W t) := by
  refine ⟨fun pins s σ H Q I h => wpAny_Call_Name_kw (ld_glob I hg hm ?_ hdb)⟩
  refine PySem.W.callWith_K (h₀ := X.base) I.ok.mod.kin hk (thn (ha.run pos pins s σ H _ I h) fun us s1 ⟨vs, H1, I1, r, q⟩ => ⟨I1.kIn, ?_⟩) (star_cons (hst e List.mem_cons_self) _ _) (star_none fun y hy => hst y (List.mem_cons_of_mem _ hy))
  have hl : us.length = ps.length := by rw [← r.length]; exact F.len _ _ _ _ q
  have hb' := hb s1 us I1.kIn (by rw [List.append_nil]; exact hl)
  rw [List.append_nil] at hb'
  refine wpAny_call (codeAny_mono (F.run X.A X.stack s1 H1 ⟨us, []⟩ us vs Q _ hr gd I1.env0 hb' r q) fun res s' hq => ?_)
  cases res with
  | error er => exact passAt tk σ pins H1 s1 er s' I1 hq
  | ok fl =>
    cases fl with
    | ret u => exact I1.after hq
    | next => exact hq.elim
    | brk => exact hq.elim
    | cont => exact hq.elim
end Ev

set_option Elab.async false
set_option linter.all false
set_option maxRecDepth 100000
set_option maxHeartbeats 1000000
namespace Ev
open PySem PySem.Spec PyProof.Rows L2
/-! ## what a def does, as a function of its arguments' slots -/
inductive Fo where
  | ret (d : PyData) (as : List Sl)
  | own (o : Own) (as : List Sl)
  | exc (x : Ex) (as : List Sl)
  | bad
abbrev Fn := List Sl → Fo
/-- arguments and their values -/
structure ArgsR (K : Frag) (F H : Hp) (w : Ownr) (as : List Sl) (vs : List V) : Prop where
  len : as.length = vs.length
  slot : ∀ (i : Nat) (s : Sl), as[i]? = some s → ∃ v, vs[i]? = some v ∧ SlR K F H w s (some v)
  sep : ∀ (i j : Nat) (o o' : Own) (v : V), as[i]? = some (.ow o) → as[j]? = some (.ow o') → vs[i]? = some v → vs[j]? = some v → i = j
  own : ∀ a p, w a = some p → F a = none ∧ H a ≠ none
  sub : Le F H
/-- behind a call -/
structure Aft (K : Frag) (F H : Hp) (w : Ownr) (as' : List Sl) (vs : List V) (F' H' : Hp) (w' : Ownr) : Prop where
  args : ArgsR K F' H' w' as' vs
  fle : Le F F'
  frame : ∀ a o, H a = some o → w a = none → H' a = some o ∧ F' a = F a ∧ w' a = none
def FPost (K : Frag) (mg : Str → Option Value) (F H : Hp) (w : Ownr) (vs : List V) (Q : VK) (E : XK) : Fo → Prop
  | .ret d as' => ∀ v F' H' w', Aft K F H w as' vs F' H' w' → Rep K F' v d → Q v H'
  | .own o as' => ∀ a F' H' w', Aft K F H w as' vs F' H' w' → OwnR K F' H' w' o a → (∀ (i : Nat) (o' : Own), as'[i]? = some (.ow o') → vs[i]? ≠ some (.ref a)) → Q (.ref a) H'
  | .exc x as' => ∀ cls dd F' H' w', Aft K F H w as' vs F' H' w' → ExR K mg F' H' cls dd x → E cls dd H'
  | .bad => False
def spOf (K : Frag) (mg : Str → Option Value) (n : Nat) (f : Fn) : Sp := fun vs H Q E => vs.length = n ∧ ∃ as F w, ArgsR K F H w as vs ∧ FPost K mg F H w vs Q E (f as)
/-- what a body tells of the arguments: those that it may change, as they are -/
def outs : List Sl → Ens → List Sl
  | .ow _ :: as, s :: ρ => s :: outs as ρ
  | a :: as, _ :: ρ => a :: outs as ρ
  | _ :: as, [] => .un :: outs as []
  | [], _ => []
theorem outs_len : ∀ (as : List Sl) (ρ : Ens), (outs as ρ).length = as.length
  | [], [] => rfl
  | [], _ :: _ => rfl
  | a :: as, [] => by
    have e : outs (a :: as) [] = .un :: outs as [] := by cases a <;> rfl
    rw [e, List.length_cons, List.length_cons, outs_len as []]
  | a :: as, s :: ρ => by
    have e : outs (a :: as) (s :: ρ) = (match a with | .ow _ => s | b => b) :: outs as ρ := by cases a <;> rfl
    rw [e, List.length_cons, List.length_cons, outs_len as ρ]
def isOw : Sl → Bool
  | .ow _ => true
  | _ => false
theorem outs_get : ∀ (as : List Sl) (ρ : Ens) (i : Nat) (a s : Sl), as[i]? = some a → ρ[i]? = some s → (outs as ρ)[i]? = some (if isOw a = true then s else a)
  | [], _, _, _, _, h, _ => by simp at h
  | _ :: _, [], _, _, _, _, h => by simp at h
  | b :: as, t :: ρ, 0, a, s, h, h2 => by
    simp at h h2
    subst h h2
    cases b <;> rfl
  | b :: as, t :: ρ, i + 1, a, s, h, h2 => by
    have ih := outs_get as ρ i a s (by simpa using h) (by simpa using h2)
    cases b <;> (simp only [outs, List.getElem?_cons_succ]; exact ih)
theorem outs_nil : ∀ (as : List Sl) (i : Nat) (s : Sl), (outs as [])[i]? = some s → s = .un
  | [], _, _, h => by simp [outs] at h
  | a :: as, i, s, h => by
    have e : outs (a :: as) [] = .un :: outs as [] := by cases a <;> rfl
    rw [e] at h
    cases i with
    | zero => simp at h; exact h.symm
    | succ i => exact outs_nil as i s (by simpa using h)
theorem outs_over : ∀ (as : List Sl) (ρ : Ens) (i : Nat) (s : Sl), ρ.length ≤ i → (outs as ρ)[i]? = some s → s = .un
  | as, [], i, s, _, h => outs_nil as i s h
  | [], _ :: _, _, _, _, h => by simp [outs] at h
  | a :: as, t :: ρ, 0, _, h, _ => by simp at h
  | a :: as, t :: ρ, i + 1, s, hl, h => by
    have e : outs (a :: as) (t :: ρ) = (match a with | .ow _ => t | b => b) :: outs as ρ := by cases a <;> rfl
    rw [e] at h
    exact outs_over as ρ i s (by simpa using hl) (by simpa using h)
/-- the body as a function of the arguments; n: the slots; io: those that it never stores -/
def okio (io : List Nat) (as : List Sl) : Bool := (List.range as.length).all fun i => match as[i]? with
  | some (.ow _) => io.contains i
  | _ => true
def fnOf (n : Nat) (io : List Nat) (b : DenS) : Fn := fun as => if okio io as = true then (match b (as ++ List.replicate (n - as.length) .un) with
  | .rt d ρ => .ret d (outs as ρ)
  | .ro o ρ => .own o (outs as ρ)
  | .nx ρ => .ret .none (outs as ρ)
  | .exc x ρ => .exc x (outs as ρ)
  | _ => .bad) else .bad
theorem mem_ios {io : List Nat} {as : List Sl} (hk : okio io as = true) {i : Nat} {o : Own} (h : as[i]? = some (.ow o)) : i ∈ io := by
  have hl := (List.getElem?_eq_some_iff.mp h).1
  have := List.all_eq_true.mp hk i (List.mem_range.mpr hl)
  rw [h] at this
  simpa using this
theorem start_get {N : List Str} {vs : List V} {i : Nat} {v : V} (h : vs[i]? = some v) : (L2.start N vs)[i]? = some (some v) := by
  unfold L2.start
  have hl := (List.getElem?_eq_some_iff.mp h).1
  rw [List.getElem?_append_left (by simpa using hl), List.getElem?_map, h]
  rfl
/-- the entry -/
theorem enter {K : Frag} {mg : Str → Option Value} {F H : Hp} {w : Ownr} {as : List Sl} {vs : List V} {N : List Str} {io : List Nat} (hN : vs.length ≤ N.length) (A : ArgsR K F H w as vs) :
    R ⟨K, mg, io, L2.start N vs⟩ (fun a => if w a = none then H a else none) F (as ++ List.replicate (N.length - as.length) .un) F (L2.start N vs) H := by
  have hlen : (L2.start N vs).length = N.length := by
    unfold L2.start
    rw [List.length_append, List.length_map, List.length_replicate]
    omega
  have low : ∀ {i : Nat} {s : Sl}, (as ++ List.replicate (N.length - as.length) Sl.un)[i]? = some s → (as[i]? = some s ∧ i < vs.length) ∨ s = .un := fun {i s} e => by
    by_cases hi : i < as.length
    · rw [List.getElem?_append_left hi] at e
      exact .inl ⟨e, by rw [← A.len]; exact hi⟩
    · rw [List.getElem?_append_right (by omega), List.getElem?_replicate] at e
      split at e
      · cases e; exact .inr rfl
      · cases e
  refine ⟨w, ?_, fun i s e => ?_, fun i j o o' v e1 e2 e3 e4 => ?_, A.own, A.sub, fun a o e => ?_, fun a h => ?_, fun i _ => rfl⟩
  · rw [hlen, List.length_append, List.length_replicate, A.len]
    omega
  · rcases low e with ⟨e2, hi⟩ | rfl
    · obtain ⟨v, e3, q⟩ := A.slot i s e2
      exact ⟨_, start_get e3, q⟩
    · have hl := (List.getElem?_eq_some_iff.mp e).1
      rw [List.length_append, List.length_replicate, A.len] at hl
      have hl2 : i < (L2.start N vs).length := by rw [hlen]; omega
      exact ⟨_, List.getElem?_eq_getElem hl2, trivial⟩
  · rcases low e1 with ⟨g1, h1⟩ | z
    · rcases low e2 with ⟨g2, h2⟩ | z
      · obtain ⟨v1, k1, _⟩ := A.slot i _ g1
        obtain ⟨v2, k2, _⟩ := A.slot j _ g2
        rw [start_get k1] at e3
        rw [start_get k2, ← e3] at e4
        have : v2 = v1 := by simpa using e4
        exact A.sep i j o o' v1 g1 g2 k1 (this ▸ k2)
      · cases z
    · cases z
  · have e : (if w a = none then H a else none) = some o := e
    split at e
    · exact e
    · cases e
  · have h : (if w a = none then H a else none) ≠ none := h
    split at h
    · rename_i hw
      exact ⟨rfl, hw⟩
    · exact absurd rfl h
/-- the end -/
theorem leaveW {K : Frag} {mg : Str → Option Value} {F H F' H' : Hp} {w w' : Ownr} {as : List Sl} {vs : List V} {N : List Str} {io : List Nat} {ρ' : Ens} {σ' : L2.St} (hk : okio io as = true) (A : ArgsR K F H w as vs) (l : Le F F')
    (r : RW ⟨K, mg, io, L2.start N vs⟩ (fun a => if w a = none then H a else none) F ρ' F' σ' H' w') : Aft K F H w (outs as ρ') vs F' H' w' := by
  have get : ∀ {i : Nat} {s : Sl}, (outs as ρ')[i]? = some s → ∃ v, vs[i]? = some v ∧ (s = .un ∨ ∃ a t, as[i]? = some a ∧ ρ'[i]? = some t ∧ s = if isOw a = true then t else a) := fun {i s} e => by
    have hi := (List.getElem?_eq_some_iff.mp e).1
    rw [outs_len] at hi
    have hv : i < vs.length := by rw [← A.len]; exact hi
    refine ⟨_, List.getElem?_eq_getElem hv, ?_⟩
    by_cases hr : i < ρ'.length
    · have h1 := List.getElem?_eq_getElem hi
      have h2 := List.getElem?_eq_getElem hr
      rw [outs_get as ρ' i _ _ h1 h2] at e
      exact .inr ⟨_, _, h1, h2, (Option.some.inj e).symm⟩
    · exact .inl (outs_over as ρ' i s (by omega) e)
  have pin : ∀ {i : Nat} {o : Own} {v : V}, as[i]? = some (.ow o) → vs[i]? = some v → σ'[i]? = some (some v) := fun {i o v} e1 e2 => (r.pin i (mem_ios hk e1)).trans (start_get e2)
  refine ⟨⟨by rw [outs_len]; exact A.len, fun i s e => ?_, fun i j o o' v e1 e2 e3 e4 => ?_, r.own, r.sub⟩, l, fun a o e hw => ?_⟩
  · obtain ⟨v, h3, h⟩ := get e
    refine ⟨v, h3, ?_⟩
    rcases h with rfl | ⟨a, t, h1, h2, rfl⟩
    · trivial
    cases a with
    | ow o =>
      obtain ⟨u, h4, q⟩ := r.slot i t h2
      rw [pin h1 h3] at h4
      cases h4
      exact q
    | un => trivial
    | fz d =>
      obtain ⟨v', h4, u, e5, q⟩ := A.slot i _ h1
      rw [h3] at h4
      cases h4
      exact ⟨u, e5, q.mono l⟩
    | sc xs =>
      obtain ⟨v', h4, b, us, e5, q, q'⟩ := A.slot i _ h1
      rw [h3] at h4
      cases h4
      exact ⟨b, us, e5, l.sqL q, q'.mono l⟩
  · obtain ⟨u, h3, h⟩ := get e1
    obtain ⟨u2, k3, k⟩ := get e2
    rcases h with h | ⟨a, t, h1, h2, h4⟩
    · cases h
    rcases k with k | ⟨a2, t2, k1, k2, k4⟩
    · cases k
    cases a with
    | ow b =>
      cases a2 with
      | ow b2 =>
        have h4 : Sl.ow o = t := h4
        have k4 : Sl.ow o' = t2 := k4
        subst h4 k4
        rw [h3] at e3
        rw [k3] at e4
        cases e3
        cases e4
        exact r.sep i j o o' _ h2 k2 (pin h1 h3) (pin k1 k3)
      | _ => cases k4
    | _ => cases h4
  · have hg : (fun a => if w a = none then H a else none) a = some o := by
      show (if w a = none then H a else none) = some o
      rw [if_pos hw]
      exact e
    obtain ⟨f1, f2⟩ := r.frm a (by show (if w a = none then H a else none) ≠ none; rw [if_pos hw, e]; simp)
    exact ⟨r.gle a o hg, f1, f2⟩
/-- the values' places hold what the arguments were -/
theorem leave_new {K : Frag} {mg : Str → Option Value} {F H F' H' : Hp} {w w' : Ownr} {as : List Sl} {vs : List V} {N : List Str} {io : List Nat} {ρ' : Ens} {σ' : L2.St} {a : Addr} (hk : okio io as = true) (A : ArgsR K F H w as vs)
    (r : RW ⟨K, mg, io, L2.start N vs⟩ (fun a => if w a = none then H a else none) F ρ' F' σ' H' w') (h : ∀ (i : Nat) (o' : Own), ρ'[i]? = some (.ow o') → σ'[i]? ≠ some (some (.ref a))) :
    ∀ (i : Nat) (o' : Own), (outs as ρ')[i]? = some (.ow o') → vs[i]? ≠ some (.ref a) := fun i o' e z => by
  have hi := (List.getElem?_eq_some_iff.mp e).1
  rw [outs_len] at hi
  have hv : i < vs.length := by rw [← A.len]; exact hi
  have h1 := List.getElem?_eq_getElem hi
  by_cases hr : i < ρ'.length
  rotate_left
  · have := outs_over as ρ' i _ (by omega) e
    cases this
  have h2 := List.getElem?_eq_getElem hr
  rw [outs_get as ρ' i _ _ h1 h2] at e
  cases ha : as[i] with
  | ow b =>
    rw [ha] at h1 e
    have e : some (ρ'[i]'(by omega)) = some (Sl.ow o') := e
    rw [e] at h2
    exact h i o' h2 ((r.pin i (mem_ios hk h1)).trans (start_get z))
  | _ => rw [ha] at e; cases e
abbrev WE (E : XK) : WX := fun cls d _ H => E cls d H
/-- a def's promise, by its body's denotation -/
theorem fnG_den {P : Program} {w : World} {K : Frag} {mg : Str → Option Value} {base : Heap} {k : Nat} {f : Addr} {N ps : List Str} {x qual : Str} {params : Arguments} {body : List Stmt} {scope : Scope} {dvs : List V} {kws : List (Str × V)} {fd : FuncData} {io : List Nat} {b : DenS}
    (F : FunD K x qual params body scope dvs kws f fd) (S : FnScope N ps scope)
    (hbody : ∀ (cdv : Value) (A : Around) (outer : List PySem.Env) (s : Shared) (H : Hp) (vs : List V) (E : XK), Room k (A.deeper (envOfC qual scope s.heap.objs.size f cdv)) → A.guards = some [] →
      PSs (cxG P w K mg base N qual scope f cdv A outer s H E) body (tS (en (cxG P w K mg base N qual scope f cdv A outer s H E) io (L2.start N vs)) (WE E) b)) : FnG P w K mg base (k + 1) f fd ps (spOf K mg ps.length (fnOf N.length io b)) := by
  have hpl : ps.length ≤ N.length := by
    have := congrArg List.length S.pre
    rw [List.length_take] at this
    omega
  refine fnG_of F S (fun vs H Q E h => h.1) fun cdv A outer s H vs Q E hr gd hsp => ?_
  obtain ⟨hl, as, F1, wo, ar, q⟩ := hsp
  refine ⟨_, hbody cdv A outer s H vs E hr gd, ?_⟩
  have r := enter (mg := mg) (N := N) (io := io) (by omega) ar
  unfold fnOf at q
  split at q
  rotate_left
  · exact q.elim
  rename_i hk
  refine ⟨_, F1, _, F1, r, ?_⟩
  cases e : b (as ++ List.replicate (N.length - as.length) Sl.un) with
  | nx ρ' =>
    rw [e] at q
    rintro σ' F' H' ⟨w', r2⟩ l
    exact q .non F' H' w' (leaveW hk ar l r2) .non
  | rt d ρ' =>
    rw [e] at q
    rintro v σ' F' H' ⟨w', r2⟩ l p
    exact q v F' H' w' (leaveW hk ar l r2) p
  | ro o ρ' =>
    rw [e] at q
    rintro a σ' F' H' ⟨w', r2, q2, h2⟩ l
    exact q a F' H' w' (leaveW hk ar l r2) q2 (leave_new hk ar r2 h2)
  | exc x ρ' =>
    rw [e] at q
    rintro cls dd σ' F' H' ⟨w', r2⟩ l p
    exact q cls dd F' H' w' (leaveW hk ar l r2) p
  | bk ρ' => rw [e] at q; exact q.elim
  | ct ρ' => rw [e] at q; exact q.elim
  | bad => rw [e] at q; exact q.elim
end Ev

set_option Elab.async false
set_option linter.all false
set_option maxRecDepth 100000
set_option maxHeartbeats 1000000
namespace Ev
open PySem PySem.Spec PyProof.Rows L2
/-! ## calls -/
inductive Ag where
  | val (d : PyData)
  | io (i : Nat)
def slOf (ρ : Ens) : Ag → Sl
  | .val d => .fz d
  | .io i => (ρ[i]?).getD .un
def AgR (K : Frag) (σ : L2.St) (F : Hp) : V → Ag → Prop
  | v, .val d => Rep K F v d
  | v, .io i => σ[i]? = some (some v)
inductive AgsR (K : Frag) (σ : L2.St) (F : Hp) : List V → List Ag → Prop
  | nil : AgsR K σ F [] []
  | cons {v : V} {vs : List V} {a : Ag} {as : List Ag} : AgR K σ F v a → AgsR K σ F vs as → AgsR K σ F (v :: vs) (a :: as)
theorem AgR.mono {K : Frag} {σ : L2.St} {F F' : Hp} (l : Le F F') : ∀ {v : V} {a : Ag}, AgR K σ F v a → AgR K σ F' v a
  | _, .val _, h => Rep.mono l h
  | _, .io _, h => h
theorem AgsR.mono {K : Frag} {σ : L2.St} {F F' : Hp} (l : Le F F') : ∀ {vs : List V} {as : List Ag}, AgsR K σ F vs as → AgsR K σ F' vs as
  | _, _, .nil => .nil
  | _, _, .cons h r => .cons (h.mono l) (AgsR.mono l r)
theorem AgsR.length {K : Frag} {σ : L2.St} {F : Hp} : ∀ {vs : List V} {as : List Ag}, AgsR K σ F vs as → vs.length = as.length
  | _, _, .nil => rfl
  | _, _, .cons _ r => by rw [List.length_cons, List.length_cons, AgsR.length r]
theorem AgsR.get {K : Frag} {σ : L2.St} {F : Hp} : ∀ {vs : List V} {as : List Ag} {i : Nat} {a : Ag}, AgsR K σ F vs as → as[i]? = some a → ∃ v, vs[i]? = some v ∧ AgR K σ F v a
  | _, _, _, _, .nil, e => by simp at e
  | _, _, 0, _, .cons h _, e => by simp at e; subst e; exact ⟨_, rfl, h⟩
  | _, _, i + 1, _, .cons _ r, e => by
    obtain ⟨v, e2, h⟩ := AgsR.get (i := i) r (by simpa using e)
    exact ⟨v, by simpa using e2, h⟩
def back (ρ : Ens) : List Ag → List Sl → Ens
  | .io i :: as, s :: ss => (back ρ as ss).set i s
  | _ :: as, _ :: ss => back ρ as ss
  | _, _ => ρ
theorem back_len (ρ : Ens) : ∀ (as : List Ag) (ss : List Sl), (back ρ as ss).length = ρ.length
  | [], _ => by unfold back; rfl
  | a :: _, [] => by cases a <;> rfl
  | .io i :: as, s :: ss => by rw [back, List.length_set]; exact back_len ρ as ss
  | .val _ :: as, s :: ss => by
    show (back ρ as ss).length = _
    exact back_len ρ as ss
theorem back_get (ρ : Ens) : ∀ (as : List Ag) (ss : List Sl) (j : Nat) (t : Sl), ss.length = as.length → (back ρ as ss)[j]? = some t → (∃ p : Nat, as[p]? = some (.io j) ∧ ss[p]? = some t) ∨ ((∀ p : Nat, as[p]? ≠ some (.io j)) ∧ ρ[j]? = some t)
  | [], ss, j, t, _, e => by
    unfold back at e
    exact .inr ⟨fun p => by simp, e⟩
  | _ :: _, [], _, _, h, _ => by simp at h
  | .io i :: as, s :: ss, j, t, h, e => by
    rw [back] at e
    by_cases q : i = j
    · subst q
      have hl : i < (back ρ as ss).length := by
        have := (List.getElem?_eq_some_iff.mp e).1
        simpa using this
      rw [List.getElem?_set_self hl] at e
      exact .inl ⟨0, rfl, e⟩
    · rw [List.getElem?_set_ne q] at e
      rcases back_get ρ as ss j t (by simpa using h) e with ⟨p, e1, e2⟩ | ⟨e1, e2⟩
      · exact .inl ⟨p + 1, by simpa using e1, by simpa using e2⟩
      · refine .inr ⟨fun p z => ?_, e2⟩
        cases p with
        | zero => simp at z; exact q z
        | succ p => exact e1 p (by simpa using z)
  | .val d :: as, s :: ss, j, t, h, e => by
    have e : (back ρ as ss)[j]? = some t := e
    rcases back_get ρ as ss j t (by simpa using h) e with ⟨p, e1, e2⟩ | ⟨e1, e2⟩
    · exact .inl ⟨p + 1, by simpa using e1, by simpa using e2⟩
    · refine .inr ⟨fun p z => ?_, e2⟩
      cases p with
      | zero => simp at z
      | succ p => exact e1 p (by simpa using z)
/-- an owned object whose parts stay -/
theorem FldsR.part {K : Frag} {F F' H H' : Hp} {w w' : Ownr} {top : Addr} (l : Le F F') (h : ∀ b j o, w b = some (top, j) → H b = some o → H' b = some o) (hw : ∀ b j, w b = some (top, j) → w' b = some (top, j)) : ∀ {j : Nat} {f : List (Key × Fld)} {v : List (Key × V)}, FldsR K F H w top j f v → FldsR K F' H' w' top j f v
  | _, [], [], _ => trivial
  | _, (_, .dat d) :: _, (_, _) :: _, ⟨e, q, r⟩ => ⟨e, Rep.mono l q, FldsR.part l h hw r⟩
  | _, (_, .lst xs) :: _, (_, _) :: _, ⟨e, ⟨a, vs, e1, e2, r1, e3⟩, r⟩ => ⟨e, ⟨a, vs, e1, h a _ _ e3 e2, r1.mono l, hw _ _ e3⟩, FldsR.part l h hw r⟩
  | _, [], _ :: _, q => q.elim
  | _, _ :: _, [], q => q.elim
theorem OwnR.part {K : Frag} {F F' H H' : Hp} {w w' : Ownr} {a : Addr} (l : Le F F') (h : ∀ b j o, w b = some (a, j) → H b = some o → H' b = some o) (hw : ∀ b j, w b = some (a, j) → w' b = some (a, j)) : ∀ {o : Own}, OwnR K F H w o a → OwnR K F' H' w' o a
  | .lst xs, ⟨vs, e, r, e2⟩ => ⟨vs, h a _ _ e2 e, r.mono l, hw _ _ e2⟩
  | .dic kvs, ⟨hs, e, r, e2⟩ => ⟨hs, h a _ _ e2 e, r.part l h hw, hw _ _ e2⟩
theorem OwnR.top {K : Frag} {F H : Hp} {w : Ownr} {a : Addr} : ∀ {o : Own}, OwnR K F H w o a → w a = some (a, 0)
  | .lst xs, ⟨vs, e, r, e2⟩ => e2
  | .dic kvs, ⟨hs, e, r, e2⟩ => e2
open Classical in
/-- what is handed on -/
noncomputable def wOf (w : Ownr) (T : Addr → Prop) : Ownr := fun a => match w a with
  | some (t, j) => if T t then some (t, j) else none
  | none => none
theorem wOf_some {w : Ownr} {T : Addr → Prop} {a : Addr} {p : Addr × Nat} (h : wOf w T a = some p) : w a = some p ∧ T p.1 := by
  unfold wOf at h
  cases e : w a with
  | none => rw [e] at h; cases h
  | some q =>
    obtain ⟨t, j⟩ := q
    rw [e] at h
    dsimp only at h
    split at h
    · rename_i ht
      cases h
      exact ⟨rfl, ht⟩
    · cases h
theorem wOf_in {w : Ownr} {T : Addr → Prop} {a : Addr} {t : Addr} {j : Nat} (h : w a = some (t, j)) (ht : T t) : wOf w T a = some (t, j) := by
  unfold wOf
  rw [h]
  exact if_pos ht
theorem wOf_out {w : Ownr} {T : Addr → Prop} {a : Addr} {t : Addr} {j : Nat} (h : w a = some (t, j)) (ht : ¬ T t) : wOf w T a = none := by
  unfold wOf
  rw [h]
  exact if_neg ht
theorem wOf_none {w : Ownr} {T : Addr → Prop} {a : Addr} (h : w a = none) : wOf w T a = none := by
  unfold wOf
  rw [h]
open Classical in
/-- behind the call: what was not handed on is as it was -/
noncomputable def wOn (w wc w' : Ownr) : Ownr := fun a => if w a ≠ none ∧ wc a = none then w a else w' a
def agIo : List Ag → List Nat
  | [] => []
  | .io i :: r => i :: agIo r
  | .val _ :: r => agIo r
theorem agIo_mem : ∀ {as : List Ag} {p i : Nat}, as[p]? = some (.io i) → i ∈ agIo as
  | [], _, _, h => by simp at h
  | .io j :: r, 0, i, h => by simp at h; subst h; exact List.mem_cons_self
  | .val _ :: r, 0, i, h => by simp at h
  | .io j :: r, p + 1, i, h => List.mem_cons_of_mem _ (agIo_mem (p := p) (by simpa using h))
  | .val _ :: r, p + 1, i, h => agIo_mem (as := r) (p := p) (by simpa using h)
theorem agIo_inj : ∀ {as : List Ag} {p q i : Nat}, (agIo as).Nodup → as[p]? = some (.io i) → as[q]? = some (.io i) → p = q
  | [], _, _, _, _, h, _ => by simp at h
  | .val d :: r, 0, _, _, _, h, _ => by simp at h
  | .val d :: r, _ + 1, 0, _, _, _, h => by simp at h
  | .val d :: r, p + 1, q + 1, i, n, h, h2 => by rw [agIo_inj (as := r) (p := p) (q := q) n (by simpa using h) (by simpa using h2)]
  | .io j :: r, 0, 0, _, _, _, _ => rfl
  | .io j :: r, 0, q + 1, i, n, h, h2 => by
    simp at h
    subst h
    exact absurd (agIo_mem (as := r) (p := q) (by simpa using h2)) (List.nodup_cons.mp n).1
  | .io j :: r, p + 1, 0, i, n, h, h2 => by
    simp at h2
    subst h2
    exact absurd (agIo_mem (as := r) (p := p) (by simpa using h)) (List.nodup_cons.mp n).1
  | .io j :: r, p + 1, q + 1, i, n, h, h2 => by rw [agIo_inj (as := r) (p := p) (q := q) (List.nodup_cons.mp n).2 (by simpa using h) (by simpa using h2)]
/-- the addresses that are handed on -/
def Tops (ρ : Ens) (as : List Ag) (vs : List V) (t : Addr) : Prop := ∃ (p i : Nat) (o : Own), as[p]? = some (.io i) ∧ ρ[i]? = some (.ow o) ∧ vs[p]? = some (.ref t)
section
variable {C : En} {G F0 F H F' H' : Hp} {ρ : Ens} {σ : L2.St} {w w' : Ownr} {as : List Ag} {vs : List V} {as' : List Sl}
theorem slOf_get {p : Nat} {s : Sl} (e : (as.map (slOf ρ))[p]? = some s) : (∃ d, as[p]? = some (.val d) ∧ s = .fz d) ∨ ∃ i : Nat, as[p]? = some (.io i) ∧ s = (ρ[i]?).getD .un := by
  rw [List.getElem?_map] at e
  cases h : as[p]? with
  | none => rw [h] at e; cases e
  | some a =>
    rw [h] at e
    cases e
    cases a with
    | val d => exact .inl ⟨d, rfl, rfl⟩
    | io i => exact .inr ⟨i, rfl, rfl⟩
theorem call_args (r : RW C G F0 ρ F σ H w) (ha : AgsR C.K σ F vs as) (nd : (agIo as).Nodup) : ArgsR C.K F H (wOf w (Tops ρ as vs)) (as.map (slOf ρ)) vs := by
  have ow : ∀ {p : Nat} {o : Own}, (as.map (slOf ρ))[p]? = some (.ow o) → ∃ (i : Nat) (a : Addr), as[p]? = some (.io i) ∧ ρ[i]? = some (.ow o) ∧ σ[i]? = some (some (.ref a)) ∧ vs[p]? = some (.ref a) ∧ OwnR C.K F H w o a := fun {p o} e => by
    rcases slOf_get e with ⟨d, _, z⟩ | ⟨i, e1, e2⟩
    · cases z
    · have e3 : ρ[i]? = some (.ow o) := by
        cases h : ρ[i]? with
        | none => rw [h] at e2; cases e2
        | some s => rw [h] at e2; rw [e2]; rfl
      obtain ⟨v, e4, q⟩ := ha.get e1
      obtain ⟨u, e5, a, rfl, q2⟩ := r.slot i _ e3
      have q : σ[i]? = some (some v) := q
      rw [e5] at q
      cases q
      exact ⟨i, a, e1, e3, e5, e4, q2⟩
  refine ⟨by rw [List.length_map]; exact ha.length.symm, fun p s e => ?_, fun p q o o' v e1 e2 e3 e4 => ?_, fun a p h => r.own a p (wOf_some h).1, r.sub⟩
  · rcases slOf_get e with ⟨d, e1, rfl⟩ | ⟨i, e1, rfl⟩
    · obtain ⟨v, e2, q⟩ := ha.get e1
      exact ⟨v, e2, v, rfl, q⟩
    · obtain ⟨v, e2, q⟩ := ha.get e1
      have q : σ[i]? = some (some v) := q
      refine ⟨v, e2, ?_⟩
      cases h : ρ[i]? with
      | none => trivial
      | some s =>
        obtain ⟨u, e3, q3⟩ := r.slot i s h
        rw [q] at e3
        cases e3
        show SlR C.K F H _ s (some v)
        cases s with
        | un => trivial
        | fz d => exact q3
        | sc xs => exact q3
        | ow o =>
          obtain ⟨a, e4, q4⟩ := q3
          cases e4
          exact ⟨a, rfl, q4.part (.refl _) (fun _ _ _ _ h => h) fun b j hb => wOf_in hb ⟨p, i, o, e1, h, e2⟩⟩
  · obtain ⟨i, a, h1, h2, h3, h4, _⟩ := ow e1
    obtain ⟨j, b, k1, k2, k3, k4, _⟩ := ow e2
    rw [h4] at e3
    rw [k4] at e4
    cases e3
    cases e4
    have := r.sep i j o o' _ h2 k2 h3 k3
    subst this
    exact agIo_inj nd h1 k1
theorem call_after (r : RW C G F0 ρ F σ H w) (ha : AgsR C.K σ F vs as) (nd : (agIo as).Nodup) (t : Aft C.K F H (wOf w (Tops ρ as vs)) as' vs F' H' w') (hl : as'.length = as.length) : RW C G F0 (back ρ as as') F' σ H' (wOn w (wOf w (Tops ρ as vs)) w') := by
  -- what was not handed on
  have stay : ∀ a p, w a = some p → wOf w (Tops ρ as vs) a = none → H' a = H a ∧ F' a = F a ∧ w' a = none ∧ wOn w (wOf w (Tops ρ as vs)) w' a = some p := fun a p h1 h2 => by
    obtain ⟨f1, f2⟩ := r.own a p h1
    cases e : H a with
    | none => exact absurd e f2
    | some o =>
      obtain ⟨g1, g2, g3⟩ := t.frame a o e h2
      refine ⟨g1, g2, g3, ?_⟩
      unfold wOn
      rw [if_pos ⟨by rw [h1]; simp, h2⟩]
      exact h1
  -- what was
  have on : ∀ a p, w' a = some p → wOn w (wOf w (Tops ρ as vs)) w' a = some p := fun a p h => by
    unfold wOn
    rw [if_neg]
    · exact h
    · rintro ⟨h1, h2⟩
      cases e : w a with
      | none => exact h1 e
      | some q =>
        have := (stay a q e h2).2.2.1
        rw [h] at this
        cases this
  have slot : ∀ {j : Nat} {s : Sl}, (back ρ as as')[j]? = some s → (∃ (p : Nat) (v : V), as[p]? = some (.io j) ∧ as'[p]? = some s ∧ vs[p]? = some v ∧ σ[j]? = some (some v) ∧ SlR C.K F' H' w' s (some v)) ∨ ((∀ p : Nat, as[p]? ≠ some (.io j)) ∧ ρ[j]? = some s) := fun {j s} e => by
    rcases back_get ρ as as' j s hl e with ⟨p, e1, e2⟩ | h
    · obtain ⟨v, e3, q⟩ := ha.get e1
      obtain ⟨u, e4, q4⟩ := t.args.slot p s e2
      rw [e3] at e4
      cases e4
      exact .inl ⟨p, v, e1, e2, e3, q, q4⟩
    · exact .inr h
  -- the parts of what was not handed on
  have notop : ∀ {j : Nat} {o : Own} {a : Addr}, ρ[j]? = some (.ow o) → σ[j]? = some (some (.ref a)) → (∀ p : Nat, as[p]? ≠ some (.io j)) → ¬ Tops ρ as vs a := fun {j o a} e1 e2 h ⟨p, i, o', k1, k2, k3⟩ => by
    obtain ⟨v, k4, q⟩ := ha.get k1
    rw [k3] at k4
    cases k4
    have q : σ[i]? = some (some (.ref a)) := q
    have := r.sep j i o o' _ e1 k2 e2 q
    subst this
    exact h p k1
  refine ⟨by rw [back_len]; exact r.len, fun j s e => ?_, fun i j o o' v e1 e2 e3 e4 => ?_, fun a p h => ?_, t.args.sub, fun a o h => ?_, fun a h => ?_, r.pin⟩
  · rcases slot e with ⟨p, v, e1, e2, e3, e4, q⟩ | ⟨e1, e2⟩
    · refine ⟨_, e4, ?_⟩
      cases s with
      | un => trivial
      | fz d => exact q
      | sc xs => exact q
      | ow o =>
        obtain ⟨a, e5, q5⟩ := q
        exact ⟨a, e5, q5.part (.refl _) (fun _ _ _ _ h => h) fun b j hb => on b _ hb⟩
    · obtain ⟨v, e3, q⟩ := r.slot j s e2
      refine ⟨v, e3, ?_⟩
      cases s with
      | un => trivial
      | fz d =>
        obtain ⟨u, e4, q4⟩ := q
        exact ⟨u, e4, q4.mono t.fle⟩
      | sc xs =>
        obtain ⟨a, us, e4, q4, q5⟩ := q
        exact ⟨a, us, e4, t.fle.sqL q4, q5.mono t.fle⟩
      | ow o =>
        obtain ⟨a, rfl, q4⟩ := q
        have nt := notop e2 e3 e1
        exact ⟨a, rfl, q4.part t.fle (fun b j o hb ho => by rw [(stay b _ hb (wOf_out hb nt)).1]; exact ho) fun b j hb => (stay b _ hb (wOf_out hb nt)).2.2.2⟩
  · rcases slot e1 with ⟨p, v1, h1, h2, h3, h4, q1⟩ | ⟨h1, h2⟩
    · rcases slot e2 with ⟨q, v2, k1, k2, k3, k4, q2⟩ | ⟨k1, k2⟩
      · rw [h4] at e3
        rw [k4, ← e3] at e4
        have : v2 = v1 := by simpa using e4
        subst this
        have := t.args.sep p q o o' v2 h2 k2 h3 k3
        subst this
        rw [h1] at k1
        cases k1
        rfl
      · exfalso
        obtain ⟨u, k3, a, rfl, q2⟩ := r.slot j _ k2
        rw [k3] at e4
        rw [h4, ← e4] at e3
        obtain ⟨b, e5, q5⟩ := q1
        have : b = a := by rw [e5] at e3; simpa using e3
        subst this
        have := (stay b _ q2.top (wOf_out q2.top (notop k2 k3 k1))).2.2.1
        rw [q5.top] at this
        cases this
    · rcases slot e2 with ⟨q, v2, k1, k2, k3, k4, q2⟩ | ⟨k1, k2⟩
      · exfalso
        obtain ⟨u, h3, a, rfl, q1⟩ := r.slot i _ h2
        rw [h3] at e3
        rw [k4, ← e3] at e4
        obtain ⟨b, e5, q5⟩ := q2
        have : b = a := by rw [e5] at e4; simpa using e4
        subst this
        have := (stay b _ q1.top (wOf_out q1.top (notop h2 h3 h1))).2.2.1
        rw [q5.top] at this
        cases this
      · exact r.sep i j o o' v h2 k2 e3 e4
  · unfold wOn at h
    split at h
    · rename_i hc
      obtain ⟨h1, h2, h3, h4⟩ := stay a p h hc.2
      obtain ⟨f1, f2⟩ := r.own a p h
      exact ⟨by rw [h2]; exact f1, by rw [h1]; exact f2⟩
    · exact t.args.own a p h
  · have g0 : w a = none := (r.frm a (by rw [h]; simp)).2
    exact (t.frame a o (r.gle a o h) (wOf_none g0)).1
  · obtain ⟨f1, g0⟩ := r.frm a h
    cases e : G a with
    | none => exact absurd e h
    | some o =>
      obtain ⟨h1, h2, h3⟩ := t.frame a o (r.gle a o e) (wOf_none g0)
      refine ⟨by rw [h2]; exact f1, ?_⟩
      unfold wOn
      rw [if_neg (fun z => z.1 g0)]
      exact h3
/-- nothing handed on: nothing changed -/
theorem call_calm (hn : agIo as = []) (t : Aft C.K F H (wOf w (Tops ρ as vs)) as' vs F' H' w') : Le H H' := fun a o e => by
  refine (t.frame a o e ?_).1
  cases h : wOf w (Tops ρ as vs) a with
  | none => rfl
  | some p =>
    obtain ⟨_, q, i, o', k1, _⟩ := wOf_some h
    have := agIo_mem k1
    rw [hn] at this
    cases this
end
/-- a list that nobody else holds becomes a datum -/
theorem RO.freeze {C : En} {G F0 F H : Hp} {ρ : Ens} {σ : L2.St} {xs : List PyData} {a : Addr} (r : RO C G F0 ρ F σ H (.lst xs) a) : ∃ F', Le F F' ∧ Rep C.K F' (.ref a) (.list xs) ∧ R C G F0 ρ F' σ H := by
  obtain ⟨w, r, ⟨vs, hv, q, wa⟩, hn⟩ := r
  have fa := (r.own a _ wa).1
  have lf : Le F (L2.upd F a (.lst vs)) := (Le.refl F).upd fa
  refine ⟨L2.upd F a (.lst vs), lf, .lst upd_same (q.mono lf), fun b => if b = a then none else w b, r.len, fun j s z => ?_, r.sep, fun b p z => ?_, fun b o z => ?_, r.gle, fun b h => ?_, r.pin⟩
  · obtain ⟨v, e5, q5⟩ := r.slot j s z
    refine ⟨v, e5, ?_⟩
    cases s with
    | un => trivial
    | fz d => obtain ⟨u, y, q⟩ := q5; exact ⟨u, y, q.mono lf⟩
    | sc ws => obtain ⟨a', vs', y, q, q'⟩ := q5; exact ⟨a', vs', y, lf.sqL q, q'.mono lf⟩
    | ow o =>
      obtain ⟨b, rfl, q6⟩ := q5
      have nb : b ≠ a := fun y => by subst y; exact hn j o z e5
      refine ⟨b, rfl, q6.part lf (fun _ _ _ _ h => h) fun c k hc => ?_⟩
      rw [if_neg]
      · exact hc
      · rintro rfl
        rw [wa] at hc
        cases hc
        exact nb rfl
  · by_cases h : b = a
    · subst h
      rw [if_pos rfl] at z
      cases z
    · rw [if_neg h] at z
      rw [upd_ne h]
      exact r.own b p z
  · by_cases h : b = a
    · subst h
      rw [upd_same] at z
      cases z
      exact hv
    · rw [upd_ne h] at z
      exact r.sub b o z
  · obtain ⟨h1, h2⟩ := r.frm b h
    have nb : b ≠ a := fun y => by subst y; rw [wa] at h2; cases h2
    exact ⟨by rw [upd_ne nb]; exact h1, by rw [if_neg nb]; exact h2⟩
/-! ## the call as an expression -/
def aVal (f : Den PyData) (fs : Den (List Ag)) : Den (List Ag) := fun ρ => (f ρ).bind fun d ρ1 => (fs ρ1).bind fun ds ρ2 => .ok (.val d :: ds) ρ2
def isIo : Option Sl → Bool
  | some (.ow _) => true
  | some (.sc _) => true
  | _ => false
def aIo (i : Nat) (fs : Den (List Ag)) : Den (List Ag) := fun ρ => if isIo ρ[i]? = true then (fs ρ).bind fun ds ρ2 => .ok (.io i :: ds) ρ2 else .bad
def agNil : Den (List Ag) := fun ρ => .ok [] ρ
def tG' (C : En) (W : WX) (c : Bool) (f : Den (List Ag)) : TA := fun σ H Q => ∃ G F0 ρ F, R C G F0 ρ F σ H ∧ Post (fun F _ vs as => AgsR C.K σ F vs as) C W c G F0 F σ H (fun v _ H' _ _ => Q v H') (f ρ)
def agOk (n : Nat) (c : Bool) (as : List Ag) : Bool := as.length == n && (decide (agIo as).Nodup && (!c || (agIo as).isEmpty))
/-- the call itself; n: the parameters -/
def callV (n : Nat) (c : Bool) (fn : Fn) (as : List Ag) : Den PyData := fun ρ => if agOk n c as = true then (match fn (as.map (slOf ρ)) with
  | .ret d ss => if ss.length = as.length then .ok d (back ρ as ss) else .bad
  | .own (.lst xs) ss => if ss.length = as.length then .ok (.list xs) (back ρ as ss) else .bad
  | .exc x ss => if ss.length = as.length then .exc x (back ρ as ss) else .bad
  | _ => .bad) else .bad
def callO (n i : Nat) (fn : Fn) (as : List Ag) : DenS := fun ρ => if agOk n false as = true then (match fn (as.map (slOf ρ)) with
  | .own o ss => if ss.length = as.length then .nx ((back ρ as ss).set i (.ow o)) else .bad
  | .exc x ss => if ss.length = as.length then .exc x (back ρ as ss) else .bad
  | _ => .bad) else .bad
def dCall (n : Nat) (c : Bool) (fn : Fn) (fa : Den (List Ag)) : Den PyData := fun ρ => (fa ρ).bind (callV n c fn)
def sCall (n i : Nat) (fn : Fn) (fa : Den (List Ag)) : DenS := fun ρ => (fa ρ).out (callO n i fn)
def pick {α : Type} (perm : List Nat) (l : List α) : List α := perm.filterMap fun i => l[i]?
def dCallK (n m k : Nat) (perm : List Nat) (c : Bool) (fn : Fn) (fa fk : Den (List Ag)) : Den PyData := fun ρ => (fa ρ).bind fun as ρ1 => (fk ρ1).bind fun bs ρ2 => if as.length = n ∧ bs.length = m then callV k c fn (pick perm (as ++ bs)) ρ2 else .bad
section
variable {X : Cx} {io : List Nat} {s0 : L2.St} {W : WX} {c : Bool} {e : Expr} {es : List Expr} {f : Den PyData} {fs : Den (List Ag)} {pos p : Pos} {i : Nat} {x : Str}
theorem mv_nil : PA X [] (tG' (en X io s0) W c agNil) := pa_weak pa_nil fun σ H Q ⟨G, F0, ρ, F, r, q⟩ => q [] F H r (.refl _) (fun _ => .refl _) .nil
theorem mv_val (hs : isStar e = false) (h : PE X e (tE (en X io s0) W c f)) (hr : PA X es (tG' (en X io s0) W c fs)) : PA X (e :: es) (tG' (en X io s0) W c (aVal f fs)) := pa_weak (pa_cons h hr (star_cons hs _ _)) fun σ H Q ⟨G, F0, ρ, F, r, q⟩ =>
  ⟨G, F0, ρ, F, r, (Post.bind q id).imp fun v F1 H1 d ρ1 r1 l1 k1 p1 q1 => ⟨G, F0, ρ1, F1, r1, (Post.bind q1 id).imp fun vs F2 H2 ds ρ2 r2 l2 k2 p2 q2 => q2 (v :: vs) F2 H2 r2 (.refl _) (fun _ => .refl _) (.cons (Rep.mono l2 p1) p2)⟩⟩
theorem mv_io (hN : X.N[i]? = some x) (hv : Vis X.env.scope x) (hd : (x == ("__debug__" : Str)) = false) (hcd : (x == ("__classdict__" : Str)) = false) (hr : PA X es (tG' (en X io s0) W c fs)) : PA X (.Name x p :: es) (tG' (en X io s0) W c (aIo i fs)) := pa_weak (pa_cons (pe_var hN hv hd hcd) hr rfl) fun σ H Q ⟨G, F0, ρ, F, r, q⟩ => by
  unfold aIo at q
  split at q
  rotate_left
  · exact q.elim
  rename_i hi
  have : ∃ v, σ[i]? = some (some v) := by
    obtain ⟨w, r⟩ := r
    cases e : ρ[i]? with
    | none => rw [e] at hi; cases hi
    | some s =>
      obtain ⟨u, e2, q2⟩ := r.slot i s e
      rw [e] at hi
      cases s with
      | ow o => obtain ⟨a, rfl, _⟩ := q2; exact ⟨_, e2⟩
      | sc xs => obtain ⟨a, vs, rfl, _⟩ := q2; exact ⟨_, e2⟩
      | _ => cases hi
  obtain ⟨v, e⟩ := this
  exact ⟨v, e, G, F0, ρ, F, r, (Post.bind q id).imp fun vs F2 H2 ds ρ2 r2 l2 k2 p2 q2 => q2 (v :: vs) F2 H2 r2 (.refl _) (fun _ => .refl _) (.cons e p2)⟩
/-- the callee's promise, used -/
theorem call_of {n : Nat} {fn : Fn} {G F0 F H : Hp} {ρ : Ens} {σ : L2.St} {as : List Ag} {vs : List V} {Q : VK} (hn : vs.length = n) (r : R (en X io s0) G F0 ρ F σ H) (ha : AgsR X.K σ F vs as) (nd : (agIo as).Nodup)
    (q : match fn (as.map (slOf ρ)) with
      | .ret d ss => ss.length = as.length ∧ ∀ v F' H', R (en X io s0) G F0 (back ρ as ss) F' σ H' → Le F F' → (agIo as = [] → Le H H') → Rep X.K F' v d → Q v H'
      | .own o ss => ss.length = as.length ∧ ∀ a F' H', RO (en X io s0) G F0 (back ρ as ss) F' σ H' o a → Le F F' → (agIo as = [] → Le H H') → Q (.ref a) H'
      | .exc x ss => ss.length = as.length ∧ ∀ cls dd F' H', R (en X io s0) G F0 (back ρ as ss) F' σ H' → Le F F' → ExR X.K X.mg F' H' cls dd x → W cls dd σ H'
      | .bad => False) : spOf X.K X.mg n fn vs H Q fun cls d H' => W cls d σ H' := by
  obtain ⟨w, r⟩ := r
  refine ⟨hn, _, F, _, call_args r ha nd, ?_⟩
  cases e : fn (as.map (slOf ρ)) with
  | ret d ss =>
    rw [e] at q
    exact fun v F' H' w' t p => q.2 v F' H' ⟨_, call_after r ha nd t q.1⟩ t.fle (fun h => call_calm (C := en X io s0) h t) p
  | exc x ss =>
    rw [e] at q
    exact fun cls dd F' H' w' t p => q.2 cls dd F' H' ⟨_, call_after r ha nd t q.1⟩ t.fle p
  | own o ss =>
    rw [e] at q
    intro a F' H' w' t p hnew
    have r2 := call_after r ha nd t q.1
    refine q.2 a F' H' ⟨_, r2, p.part (.refl _) (fun _ _ _ _ h => h) fun b j hb => ?_, fun i o' e1 e2 => ?_⟩ t.fle (fun h => call_calm (C := en X io s0) h t)
    · unfold wOn
      rw [if_neg]
      · exact hb
      · rintro ⟨h1, h2⟩
        cases eb : H b with
        | none =>
          cases ew : w b with
          | none => exact h1 ew
          | some z => exact (r.own b z ew).2 eb
        | some o =>
          have := (t.frame b o eb h2).2.2
          rw [hb] at this
          cases this
    · obtain ⟨v, e3, b, rfl, q3⟩ := r2.slot i _ e1
      rw [e2] at e3
      cases e3
      rcases back_get ρ as ss i _ q.1 e1 with ⟨p', k1, k2⟩ | ⟨k1, k2⟩
      · obtain ⟨v, k3, k4⟩ := ha.get k1
        have k4 : σ[i]? = some (some v) := k4
        rw [e2] at k4
        cases k4
        exact hnew p' o' k2 k3
      · obtain ⟨v, k3, c, rfl, q4⟩ := r.slot i _ k2
        rw [e2] at k3
        cases k3
        have nt : ¬ Tops ρ as vs a := fun ⟨p, j, o2, j1, j2, j3⟩ => by
          obtain ⟨v, j4, q5⟩ := ha.get j1
          rw [j3] at j4
          cases j4
          have q5 : σ[j]? = some (some (.ref a)) := q5
          have := r.sep i j o' o2 _ k2 j2 e2 q5
          subst this
          exact k1 p j1
        have hc := wOf_out q4.top nt
        cases eb : H a with
        | none => exact (r.own a _ q4.top).2 eb
        | some o =>
          have := (t.frame a o eb hc).2.2
          rw [p.top] at this
          cases this
  | bad => rw [e] at q; exact q
end
end Ev

set_option Elab.async false
set_option linter.all false
set_option maxRecDepth 100000
set_option maxHeartbeats 1000000
namespace Ev
open PySem PySem.Spec PyProof.Rows L2
/-! ## calls by place and by names -/
theorem FnG.bad {P : Program} {w : World} {K : Frag} {mg : Str → Option Value} {base : Heap} {k : Nat} {f : Addr} {fd : FuncData} {ps : List Str} : FnG P w K mg base k f fd ps (spOf K mg ps.length fun _ => .bad) :=
  ⟨fun _ _ _ _ h => h.1, fun _ _ _ _ _ _ _ _ _ _ _ _ _ _ h => by obtain ⟨_, _, _, _, _, q⟩ := h; exact q.elim⟩
/-- how a def is called by place -/
structure Cb (X : Cx) (x : Str) (f : Addr) (fd : FuncData) (ps : List Str) : Prop where
  gl : Gl X x
  mg : X.mg x = some (.ref f)
  kp : PySem.W.keepIn X.K (.ref f) = true
  bd : Binds X.K fd ps []
  db : (x == ("__debug__" : Str)) = false
/-- .. and by names: n by place -/
structure CbK (X : Cx) (x : Str) (f : Addr) (fd : FuncData) (ps : List Str) (n : Nat) (ks : List Str) (perm : List Nat) : Prop where
  gl : Gl X x
  mg : X.mg x = some (.ref f)
  kp : PySem.W.keepIn X.K (.ref f) = true
  bd : ∀ (s : Shared) (us ws : List Value), X.K.In s.heap → us.length = n → ws.length = ks.length → BindsTo s fd ⟨us, ks.zip ws⟩ (ps.zip (pick perm (us ++ ws)))
  db : (x == ("__debug__" : Str)) = false
theorem valsGet : ∀ {vs : List V} {us : List Value} {i : Nat} {v : V}, Vals vs us → vs[i]? = some v → ∃ u, us[i]? = some u ∧ RelV v u
  | _, _, _, _, .nil, e => by simp at e
  | _, _, 0, _, .cons h _, e => by simp at e; subst e; exact ⟨_, rfl, h⟩
  | _, _, i + 1, _, .cons _ r, e => by
    obtain ⟨u, e2, h⟩ := valsGet (i := i) r (by simpa using e)
    exact ⟨u, by simpa using e2, h⟩
theorem vals_pick {vs : List V} {us : List Value} (r : Vals vs us) : ∀ perm : List Nat, Vals (pick perm vs) (pick perm us)
  | [] => .nil
  | i :: perm => by
    unfold pick
    rw [List.filterMap_cons, List.filterMap_cons]
    have ih := vals_pick r perm
    by_cases h : i < vs.length
    · rw [List.getElem?_eq_getElem h, List.getElem?_eq_getElem (r.length ▸ h)]
      refine .cons ?_ ih
      obtain ⟨u, e, q⟩ := valsGet r (List.getElem?_eq_getElem h)
      rw [List.getElem?_eq_getElem (r.length ▸ h)] at e
      cases e
      exact q
    · rw [List.getElem?_eq_none (by omega), List.getElem?_eq_none (by rw [← r.length]; omega)]
      exact ih
theorem AgsR.append {K : Frag} {σ : L2.St} {F : Hp} : ∀ {vs us : List V} {as bs : List Ag}, AgsR K σ F vs as → AgsR K σ F us bs → AgsR K σ F (vs ++ us) (as ++ bs)
  | _, _, _, _, .nil, q => q
  | _, _, _, _, .cons h r, q => .cons h (AgsR.append r q)
theorem AgsR.pick {K : Frag} {σ : L2.St} {F : Hp} {vs : List V} {as : List Ag} (r : AgsR K σ F vs as) : ∀ perm : List Nat, AgsR K σ F (Ev.pick perm vs) (Ev.pick perm as)
  | [] => .nil
  | i :: perm => by
    unfold Ev.pick
    rw [List.filterMap_cons, List.filterMap_cons]
    have ih := AgsR.pick r perm
    by_cases h : i < as.length
    · obtain ⟨v, e, q⟩ := r.get (List.getElem?_eq_getElem h)
      rw [List.getElem?_eq_getElem h, e]
      exact .cons q ih
    · have hl := r.length
      rw [List.getElem?_eq_none (show vs.length ≤ i by omega), List.getElem?_eq_none (show as.length ≤ i by omega)]
      exact ih
section
variable {X : Cx} {io : List Nat} {s0 : L2.St} {W : WX} {c : Bool} {e : Expr} {es : List Expr} {f : Den PyData} {fs fk : Den (List Ag)} {pos p py kpos : Pos} {i j k n : Nat} {x y : Str} {fa : Addr} {fd : FuncData} {ps ks : List Str} {perm : List Nat} {fn : Fn} {nm : Option Str} {kws : List Keyword}
theorem callV_of {m : Nat} {G F0 F H : Hp} {ρ : Ens} {σ : L2.St} {Q : VK} {as : List Ag} {vs : List V} (r : R (en X io s0) G F0 ρ F σ H) (ha : AgsR X.K σ F vs as)
    (q : Post (fun F _ v d => Rep X.K F v d) (en X io s0) W c G F0 F σ H (fun v _ H' _ _ => Q v H') (callV m c fn as ρ)) : spOf X.K X.mg m fn vs H Q fun cls d H' => W cls d σ H' := by
  unfold callV at q
  split at q
  rotate_left
  · exact q.elim
  rename_i ok
  obtain ⟨ok0, ok⟩ := Bool.and_eq_true_iff.mp ok
  obtain ⟨ok1, ok2⟩ := Bool.and_eq_true_iff.mp ok
  have nd := of_decide_eq_true ok1
  have hn : as.length = m := by simpa using ok0
  refine call_of (W := W) (ha.length.trans hn) r ha nd ?_
  cases e : fn (as.map (slOf ρ)) with
  | ret d ss =>
    rw [e] at q
    dsimp only at q
    split at q
    · rename_i hl
      refine ⟨hl, fun v F' H' r' l k p => q v F' H' r' l (fun hc => k ?_) p⟩
      rw [hc] at ok2
      cases h : agIo as with
      | nil => rfl
      | cons _ _ => rw [h] at ok2; cases ok2
    · exact q.elim
  | exc x ss =>
    rw [e] at q
    dsimp only at q
    split at q
    · rename_i hl
      exact ⟨hl, fun cls dd F' H' r' l p => q cls dd F' H' r' l p⟩
    · exact q.elim
  | own o ss =>
    rw [e] at q
    cases o with
    | dic _ => exact q.elim
    | lst xs =>
      dsimp only at q
      split at q
      · rename_i hl
        refine ⟨hl, fun a F' H' r' l k => ?_⟩
        obtain ⟨F2, l2, p2, r2⟩ := r'.freeze
        refine q _ F2 H' r2 (l.trans l2) (fun hc => k ?_) p2
        rw [hc] at ok2
        cases h : agIo as with
        | nil => rfl
        | cons _ _ => rw [h] at ok2; cases ok2
      · exact q.elim
  | bad => rw [e] at q; exact q.elim
theorem callO_of {m : Nat} {G F0 F H : Hp} {ρ : Ens} {σ : L2.St} {D : Ends} {as : List Ag} {vs : List V} (hi : i ∉ io) (r : R (en X io s0) G F0 ρ F σ H) (ha : AgsR X.K σ F vs as)
    (q : PostS (en X io s0) W G F0 F D (callO m i fn as ρ)) : spOf X.K X.mg m fn vs H (fun v H' => D.nx (σ.set i (some v)) H') fun cls d H' => W cls d σ H' := by
  unfold callO at q
  split at q
  rotate_left
  · exact q.elim
  rename_i ok
  obtain ⟨ok0, ok⟩ := Bool.and_eq_true_iff.mp ok
  obtain ⟨ok1, ok2⟩ := Bool.and_eq_true_iff.mp ok
  have nd := of_decide_eq_true ok1
  have hn : as.length = m := by simpa using ok0
  refine call_of (W := W) (ha.length.trans hn) r ha nd ?_
  cases e : fn (as.map (slOf ρ)) with
  | own o ss =>
    rw [e] at q
    dsimp only at q
    split at q
    · rename_i hl
      refine ⟨hl, fun a F' H' r' l _ => q _ F' H' ?_ l⟩
      obtain ⟨w', r', p, hnew⟩ := r'
      refine ⟨w', by rw [List.length_set, List.length_set]; exact r'.len, fun j s e => ?_, fun j k o1 o2 u e1 e2 e3 e4 => ?_, r'.own, r'.sub, r'.gle, r'.frm, fun j hj => ?_⟩
      · by_cases h : i = j
        · subst h
          have hl : i < (back ρ as ss).length := by
            have := (List.getElem?_eq_some_iff.mp e).1
            simpa using this
          rw [List.getElem?_set_self hl] at e
          cases e
          exact ⟨some (.ref a), List.getElem?_set_self (by rw [← r'.len]; exact hl), a, rfl, p⟩
        · rw [List.getElem?_set_ne h] at e ⊢
          exact r'.slot j s e
      · have sP : ∀ {k : Nat}, i = k → ∀ {o1 : Own}, ((back ρ as ss).set i (.ow o))[k]? = some (.ow o1) → (σ.set i (some (.ref a)))[k]? = some (some (.ref a)) := fun {k} z {o1} e => by
          subst z
          have hl : i < (back ρ as ss).length := by
            have := (List.getElem?_eq_some_iff.mp e).1
            simpa using this
          exact List.getElem?_set_self (by rw [← r'.len]; exact hl)
        by_cases h1 : i = j
        · by_cases h2 : i = k
          · rw [← h1, ← h2]
          · rw [sP h1 e1] at e3
            rw [List.getElem?_set_ne h2, ← e3] at e4
            rw [List.getElem?_set_ne h2] at e2
            exact absurd e4 (hnew _ _ e2)
        · by_cases h2 : i = k
          · rw [sP h2 e2] at e4
            rw [List.getElem?_set_ne h1, ← e4] at e3
            rw [List.getElem?_set_ne h1] at e1
            exact absurd e3 (hnew _ _ e1)
          · rw [List.getElem?_set_ne h1] at e1 e3
            rw [List.getElem?_set_ne h2] at e2 e4
            exact r'.sep j k o1 o2 u e1 e2 e3 e4
      · rw [List.getElem?_set_ne (fun z : i = j => hi (z ▸ hj))]
        exact r'.pin j hj
    · exact q.elim
  | exc x ss =>
    rw [e] at q
    dsimp only at q
    split at q
    · rename_i hl
      exact ⟨hl, fun cls dd F' H' r' l p => q cls dd σ F' H' r' l p⟩
    · exact q.elim
  | ret d ss => rw [e] at q; exact q.elim
  | bad => rw [e] at q; exact q.elim
theorem me_call (B : Cb X x fa fd ps) (F : FnG X.prog X.w X.K X.mg X.base k fa fd ps (spOf X.K X.mg ps.length fn)) (hr : Room k X.A) (gd : X.A.guards = some []) (tk : Takes X W) (ha : PA X (e :: es) (tG' (en X io s0) W c fs)) (hst : ∀ y ∈ e :: es, isStar y = false) :
    PE X (.Call (.Name x p) (e :: es) [] pos) (tE (en X io s0) W c (dCall ps.length c fn fs)) := pe_weak (pe_callG F hr gd B.gl B.mg B.kp B.bd tk ha B.db hst) fun σ H Q ⟨G, F0, ρ, F1, r, q⟩ =>
  ⟨G, F0, ρ, F1, r, (Post.bind q id).imp fun vs F2 H2 as ρ2 r2 l2 k2 p2 q2 => callV_of r2 p2 q2⟩
/-- name = f(..), the object is the name's own -/
theorem ms_call (hs : swapsWithSole [.Name y py] (.Call (.Name x p) (e :: es) [] pos) kpos.line X.env = pure false) (hN : X.N.Nodup) (hi : X.N[i]? = some y) (hx : Loc X.env.scope y) (hf : X.fn y = true ∨ X.env.scope.names.lookup y = some .local) (hio : i ∉ io)
    (B : Cb X x fa fd ps) (F : FnG X.prog X.w X.K X.mg X.base k fa fd ps (spOf X.K X.mg ps.length fn)) (hr : Room k X.A) (gd : X.A.guards = some []) (tk : Takes X W) (ha : PA X (e :: es) (tG' (en X io s0) W false fs)) (hst : ∀ y ∈ e :: es, isStar y = false) :
    PS X (.Assign [.Name y py] (.Call (.Name x p) (e :: es) [] pos) kpos) (tS (en X io s0) W (sCall ps.length i fn fs)) := ps_weak (ps_asg (pe_callG F hr gd B.gl B.mg B.kp B.bd tk ha B.db hst) (pg_name hN hi hx hf) hs rfl rfl) fun D σ H ⟨G, F0, ρ, F1, r, q⟩ =>
  ⟨G, F0, ρ, F1, r, (Post.out (k := callO ps.length i fn) q).imp fun vs F2 H2 as ρ2 r2 l2 k2 p2 q2 => callO_of hio r2 p2 q2⟩
/-- keywords -/
theorem pk_weak {t t' : TA} (h : PK X kws t) (w : ∀ σ H Q, t' σ H Q → t σ H Q) : PK X kws t' := ⟨fun pos pins s σ H Q I q => h.run pos pins s σ H Q I (w σ H Q q)⟩
theorem mk_nil : PK X [] (tG' (en X io s0) W c agNil) := pk_weak pk_nil fun σ H Q ⟨G, F0, ρ, F, r, q⟩ => q [] F H r (.refl _) (fun _ => .refl _) .nil
theorem mk_val (h : PE X e (tE (en X io s0) W c f)) (hr : PK X kws (tG' (en X io s0) W c fs)) : PK X (⟨nm, e, kpos⟩ :: kws) (tG' (en X io s0) W c (aVal f fs)) := pk_weak (pk_cons h hr) fun σ H Q ⟨G, F0, ρ, F, r, q⟩ =>
  ⟨G, F0, ρ, F, r, (Post.bind q id).imp fun v F1 H1 d ρ1 r1 l1 k1 p1 q1 => ⟨G, F0, ρ1, F1, r1, (Post.bind q1 id).imp fun vs F2 H2 ds ρ2 r2 l2 k2 p2 q2 => q2 (v :: vs) F2 H2 r2 (.refl _) (fun _ => .refl _) (.cons (Rep.mono l2 p1) p2)⟩⟩
theorem run_kw {sp : Sp} {pins : List (Addr × Obj)} {σ : L2.St} {H : Hp} {s : Shared} {Q : VK} {us ws : List Value} {vs zs : List V} (B : CbK X x fa fd ps n ks perm) (F : FnG X.prog X.w X.K X.mg X.base k fa fd ps sp) (hr : Room k X.A) (gd : X.A.guards = some []) (tk : Takes X W)
    (I : Inv X pins σ H s) (r : Vals vs us) (rz : Vals zs ws) (l1 : vs.length = n) (l2 : zs.length = ks.length) (h : sp (pick perm (vs ++ zs)) H Q fun cls d H' => W cls d σ H') : wpAny (model X.prog X.w) X.A (call (.ref fa) us (ks.zip ws)) (EP X pins σ Q) X.xe s := by
  refine wpAny_call (codeAny_mono (F.run X.A X.stack s H ⟨us, ks.zip ws⟩ (pick perm (us ++ ws)) _ Q _ hr gd I.env0 (B.bd s us ws I.kIn (r.length.symm.trans l1) (rz.length.symm.trans l2)) (vals_pick (r.append rz) perm) h) fun res s' hq => ?_)
  cases res with
  | error er => exact passAt tk σ pins H s er s' I hq
  | ok fl =>
    cases fl with
    | ret u => exact I.after hq
    | next => exact hq.elim
    | brk => exact hq.elim
    | cont => exact hq.elim
theorem kw_den {G F0 F H : Hp} {ρ : Ens} {σ : L2.St} {Q : VK} (hn : ks.length = j) (r : R (en X io s0) G F0 ρ F σ H) (q : Post (fun F _ v d => Rep X.K F v d) (en X io s0) W c G F0 F σ H (fun v _ H' _ _ => Q v H') (dCallK n j ps.length perm c fn fs fk ρ)) :
    tG' (en X io s0) W c fs σ H fun vs H1 => tG' (en X io s0) W c fk σ H1 fun zs H2 => vs.length = n ∧ zs.length = ks.length ∧ spOf X.K X.mg ps.length fn (pick perm (vs ++ zs)) H2 Q fun cls d H' => W cls d σ H' :=
  ⟨G, F0, ρ, F, r, (Post.bind q id).imp fun vs F1 H1 as ρ1 r1 l1 k1 p1 q1 => ⟨G, F0, ρ1, F1, r1, (Post.bind q1 id).imp fun zs F2 H2 bs ρ2 r2 l2 k2 p2 q2 => by
    split at q2
    · rename_i h
      exact ⟨p1.length.trans h.1, p2.length.trans (h.2.trans hn.symm), callV_of r2 (((p1.mono l2).append p2).pick perm) q2⟩
    · exact q2.elim⟩⟩
theorem me_callK (B : CbK X x fa fd ps n ks perm) (F : FnG X.prog X.w X.K X.mg X.base k fa fd ps (spOf X.K X.mg ps.length fn)) (hr : Room k X.A) (gd : X.A.guards = some []) (tk : Takes X W) (ha : PA X (e :: es) (tG' (en X io s0) W c fs)) (hkw : PK X kws (tG' (en X io s0) W c fk)) (hst : ∀ y ∈ e :: es, isStar y = false)
    (hall : (backToKw pos (keywordEach kws X.env)).all (·.1.isSome) = true) (hks : (backToKw pos (keywordEach kws X.env)).filterMap (·.1) = ks) (hno : (backToKw pos (keywordEach kws X.env)).any (·.1.isNone) = false) (hn : ks.length = j) :
    PE X (.Call (.Name x p) (e :: es) kws pos) (tE (en X io s0) W c (dCallK n j ps.length perm c fn fs fk)) := by
  refine ⟨fun pins s σ H Q I ⟨G, F0, ρ, F1, r, q⟩ => wpAny_Call_Name_kw (ld_glob I B.gl B.mg ?_ B.db)⟩
  have h := kw_den (ks := ks) hn r q
  refine PySem.W.callWith_KW (h₀ := X.base) I.ok.mod.kin B.kp hall (thn (ha.run pos pins s σ H _ I h) fun us s1 ⟨vs, H1, I1, r1, q1⟩ => ?_) (by rw [star_none hst, hno]; rfl) (star_cons (hst e List.mem_cons_self) _ _)
  refine thn (hkw.run pos pins s1 σ H1 _ I1 q1) fun ws s2 ⟨zs, H2, I2, r2, l1, l2, q2⟩ => ⟨I2.kIn, ?_⟩
  rw [hks]
  exact run_kw B F hr gd tk I2 r1 r2 l1 l2 q2
theorem me_callK0 (B : CbK X x fa fd ps 0 ks perm) (F : FnG X.prog X.w X.K X.mg X.base k fa fd ps (spOf X.K X.mg ps.length fn)) (hr : Room k X.A) (gd : X.A.guards = some []) (tk : Takes X W) (hkw : PK X kws (tG' (en X io s0) W c fk))
    (hall : (backToKw pos (keywordEach kws X.env)).all (·.1.isSome) = true) (hks : (backToKw pos (keywordEach kws X.env)).filterMap (·.1) = ks) (hno : (backToKw pos (keywordEach kws X.env)).any (·.1.isNone) = false) (hn : ks.length = j) :
    PE X (.Call (.Name x p) [] kws pos) (tE (en X io s0) W c (dCallK 0 j ps.length perm c fn agNil fk)) := by
  refine ⟨fun pins s σ H Q I ⟨G, F0, ρ, F1, r, q⟩ => wpAny_Call_Name_kw (ld_glob I B.gl B.mg ?_ B.db)⟩
  have h : tG' (en X io s0) W c fk σ H fun zs H2 => zs.length = ks.length ∧ spOf X.K X.mg ps.length fn (pick perm zs) H2 Q fun cls d H' => W cls d σ H' :=
    ⟨G, F0, ρ, F1, r, (Post.bind (r := fk ρ) (k := fun bs ρ2 => if ([] : List Ag).length = 0 ∧ bs.length = j then callV ps.length c fn (pick perm ([] ++ bs)) ρ2 else .bad) q id).imp fun zs F2 H2 bs ρ2 r2 l2 k2 p2 q2 => by
      split at q2
      · rename_i h
        exact ⟨p2.length.trans (h.2.trans hn.symm), callV_of r2 (p2.pick perm) q2⟩
      · exact q2.elim⟩
  refine PySem.W.callWith_KW0 (h₀ := X.base) I.ok.mod.kin B.kp hall (thn (hkw.run pos pins s σ H _ I h) fun ws s2 ⟨zs, H2, I2, r2, l2, q2⟩ => ⟨I2.kIn, ?_⟩) (by rw [hno]; rfl)
  rw [hks]
  exact run_kw (vs := []) B F hr gd tk I2 .nil r2 rfl l2 q2
end
end Ev

set_option Elab.async false
set_option linter.all false
set_option maxRecDepth 100000
set_option maxHeartbeats 1000000
namespace Ev
open PySem PySem.Spec PyProof.Rows L2
/-! ## own dicts of data and lists -/
/-- a part of an owned object is changed -/
theorem RW.wr {C : En} {G F0 F H : Hp} {ρ : Ens} {σ : L2.St} {w : Ownr} {i j : Nat} {a b : Addr} {o o' : Own} {u : HO} (r : RW C G F0 ρ F σ H w) (e : ρ[i]? = some (.ow o)) (ea : σ[i]? = some (some (.ref a))) (hb : w b = some (a, j)) (q : OwnR C.K F (L2.upd H b u) w o' a) : RW C G F0 (ρ.set i (.ow o')) F σ (L2.upd H b u) w := by
  have hl : i < ρ.length := (List.getElem?_eq_some_iff.mp e).1
  obtain ⟨fb, nb⟩ := r.own b _ hb
  have ow : ∀ {k : Nat} {x : Own}, (ρ.set i (.ow o'))[k]? = some (.ow x) → ∃ y, ρ[k]? = some (.ow y) := fun {k x} z => by
    by_cases h : i = k
    · subst h; exact ⟨_, e⟩
    · rw [List.getElem?_set_ne h] at z; exact ⟨_, z⟩
  refine ⟨by rw [List.length_set]; exact r.len, fun k s z => ?_, fun k l o1 o2 v e1 e2 e3 e4 => ?_, fun c p z => ?_, fun c x z => ?_, fun c x z => ?_, r.frm, r.pin⟩
  · by_cases h : i = k
    · subst h
      rw [List.getElem?_set_self hl] at z
      cases z
      exact ⟨_, ea, a, rfl, q⟩
    · rw [List.getElem?_set_ne h] at z
      obtain ⟨v, e5, q5⟩ := r.slot k s z
      refine ⟨v, e5, ?_⟩
      cases s with
      | un => trivial
      | fz d => exact q5
      | sc ws => exact q5
      | ow x =>
        obtain ⟨c, rfl, q6⟩ := q5
        refine ⟨c, rfl, q6.part (.refl _) (fun b' j' x' hb' hx' => ?_) fun _ _ h => h⟩
        rw [upd_ne]
        · exact hx'
        · rintro rfl
          rw [hb] at hb'
          cases hb'
          exact h (r.sep i k o x _ e z ea e5)
  · obtain ⟨x1, h1⟩ := ow e1
    obtain ⟨x2, h2⟩ := ow e2
    exact r.sep k l x1 x2 v h1 h2 e3 e4
  · obtain ⟨h1, h2⟩ := r.own c p z
    refine ⟨h1, ?_⟩
    unfold L2.upd
    split
    · simp
    · exact h2
  · rw [upd_ne (fun y => by subst y; rw [fb] at z; cases z)]
    exact r.sub c x z
  · have : w c = none := (r.frm c (by rw [z]; simp)).2
    rw [upd_ne (fun y => by subst y; rw [hb] at this; cases this)]
    exact r.gle c x z
/-- the field of a key, and its place -/
def lookF : Nat → List (Key × Fld) → Key → Option (Fld × Nat)
  | _, [], _ => none
  | j, (k', f) :: r, k => if k' = k then some (f, j) else lookF (j + 1) r k
def putF (kvs : List (Key × Fld)) (k : Key) (f : Fld) : List (Key × Fld) := kvs.map fun kv => if kv.1 = k then (kv.1, f) else kv
def setF : List (Key × Fld) → Key → Fld → List (Key × Fld)
  | [], _, _ => []
  | (k', f') :: r, k, f => if k' = k then (k', f) :: r else (k', f') :: setF r k f
section
variable {K : Frag} {F H : Hp} {w : Ownr} {top : Addr}
theorem FldsR.look : ∀ {j : Nat} {kvs : List (Key × Fld)} {hs : List (Key × V)} {k : Key} {f : Fld} {m : Nat}, FldsR K F H w top j kvs hs → lookF j kvs k = some (f, m) → ∃ v, valV hs k = some v ∧ FldR K F H w top m f v
  | _, [], [], _, _, _, _, e => by cases e
  | _, [], _ :: _, _, _, _, q, _ => q.elim
  | _, _ :: _, [], _, _, _, q, _ => q.elim
  | j, (k', f') :: r, (k2, v) :: r', k, f, m, ⟨e1, q, q2⟩, e => by
    unfold lookF at e
    subst e1
    by_cases h : k' = k
    · rw [if_pos h] at e
      cases e
      exact ⟨v, valV_pos h, q⟩
    · rw [if_neg h] at e
      obtain ⟨v', e3, q3⟩ := FldsR.look q2 e
      exact ⟨v', (valV_neg h).trans e3, q3⟩
theorem FldsR.any : ∀ {j : Nat} {kvs : List (Key × Fld)} {hs : List (Key × V)} {k : Key} {f : Fld} {m : Nat}, FldsR K F H w top j kvs hs → lookF j kvs k = some (f, m) → (hs.any fun kv => decide (kv.1 = k)) = true := fun {j kvs hs k f m} q e => by
  obtain ⟨v, e2, _⟩ := q.look e
  rw [valV_any, e2]
  rfl
theorem FldsR.putD {k : Key} {d : PyData} {v : V} (p : Rep K F v d) : ∀ {j : Nat} {kvs : List (Key × Fld)} {hs : List (Key × V)}, FldsR K F H w top j kvs hs → FldsR K F H w top j (putF kvs k (.dat d)) (hs.map fun kv => if kv.1 = k then (kv.1, v) else kv)
  | _, [], [], _ => trivial
  | _, [], _ :: _, q => q.elim
  | _, _ :: _, [], q => q.elim
  | j, (k', f') :: r, (k2, u) :: r', ⟨e1, q, q2⟩ => by
    subst e1
    have ih := FldsR.putD (k := k) p q2
    show FldsR K F H w top j ((if k' = k then (k', Fld.dat d) else (k', f')) :: putF r k (.dat d)) ((if k' = k then (k', v) else (k', u)) :: r'.map fun kv => if kv.1 = k then (kv.1, v) else kv)
    by_cases h : k' = k
    · rw [if_pos h, if_pos h]
      exact ⟨rfl, p, ih⟩
    · rw [if_neg h, if_neg h]
      exact ⟨rfl, q, ih⟩
theorem FldsR.wrL {b : Addr} {us : List V} {ys : List PyData} (p : Reps K F us ys) : ∀ {j m : Nat} {kvs : List (Key × Fld)} {hs : List (Key × V)} {k : Key} {f : Fld}, w b = some (top, m + 1) → valV hs k = some (.ref b) → j ≤ m → FldsR K F H w top j kvs hs → lookF j kvs k = some (f, m) → FldsR K F (L2.upd H b (.lst us)) w top j (setF kvs k (.lst ys)) hs
  | _, _, [], [], _, _, _, _, _, _, e => by cases e
  | _, _, [], _ :: _, _, _, _, _, _, q, _ => q.elim
  | _, _, _ :: _, [], _, _, _, _, _, q, _ => q.elim
  | j, m, (k', f') :: r, (k2, u) :: r', k, f, hb, hv, hj, ⟨e1, q, q2⟩, e => by
    subst e1
    unfold lookF at e
    unfold setF
    have rest : ∀ {j2 : Nat}, m < j2 → ∀ {kvs : List (Key × Fld)} {hs : List (Key × V)}, FldsR K F H w top j2 kvs hs → FldsR K F (L2.upd H b (.lst us)) w top j2 kvs hs := by
      intro j2 hj2 kvs
      induction kvs generalizing j2 with
      | nil => intro hs q; cases hs with
        | nil => trivial
        | cons _ _ => exact q.elim
      | cons x r ih =>
        intro hs q
        obtain ⟨k1, g⟩ := x
        cases hs with
        | nil => exact q.elim
        | cons y r' =>
          obtain ⟨k2, v⟩ := y
          obtain ⟨h1, h2, h3⟩ := q
          refine ⟨h1, ?_, ih (j2 := j2 + 1) (by omega) h3⟩
          cases g with
          | dat d => exact h2
          | lst ws =>
            obtain ⟨c, cs, y1, y2, y3, y4⟩ := h2
            refine ⟨c, cs, y1, ?_, y3, y4⟩
            rw [upd_ne (fun y => ?_)]
            · exact y2
            · subst y
              rw [hb] at y4
              cases y4
              omega
    by_cases h : k' = k
    · rw [if_pos h] at e ⊢
      cases e
      have hv : some u = some (V.ref b) := (valV_pos (κ := Key) (p := (k', u)) h).symm.trans hv
      cases hv
      refine ⟨rfl, ⟨b, us, rfl, upd_same, p, hb⟩, rest (Nat.lt_succ_self _) q2⟩
    · rw [if_neg h] at e ⊢
      have hv := (valV_neg (κ := Key) (p := (k', u)) (r := r') h).symm.trans hv
      have hm : j + 1 ≤ m := by
        have : ∀ {j : Nat} {l : List (Key × Fld)}, lookF j l k = some (f, m) → j ≤ m := by
          intro j l
          induction l generalizing j with
          | nil => intro z; cases z
          | cons x l ih =>
            intro z
            obtain ⟨k1, f1⟩ := x
            unfold lookF at z
            split at z
            · cases z; exact Nat.le_refl _
            · have := ih z; omega
        exact this e
      refine ⟨rfl, ?_, FldsR.wrL p hb hv hm q2 e⟩
      cases f' with
      | dat d => exact q
      | lst ws =>
        obtain ⟨c, cs, y1, y2, y3, y4⟩ := q
        refine ⟨c, cs, y1, ?_, y3, y4⟩
        rw [upd_ne (fun y => ?_)]
        · exact y2
        · subst y
          rw [hb] at y4
          cases y4
          omega
end
/-- the dict of a slot -/
def dicL (ρ : Ens) (i : Nat) : Option (List (Key × Fld)) := match ρ[i]? with
  | some (.ow (.dic kvs)) => some kvs
  | _ => none
theorem dicL_eq {ρ : Ens} {i : Nat} {kvs : List (Key × Fld)} (h : dicL ρ i = some kvs) : ρ[i]? = some (.ow (.dic kvs)) := by
  unfold dicL at h
  split at h
  · cases h; assumption
  · cases h
def fldOf (ρ : Ens) (i : Nat) (k : Key) : Option Fld := (dicL ρ i).bind fun kvs => (lookF 0 kvs k).map (·.1)
section
variable {C : En} {G F0 F H : Hp} {ρ : Ens} {σ : L2.St} {i : Nat} {k : Key}
theorem R.dic (r : R C G F0 ρ F σ H) {kvs : List (Key × Fld)} (e : dicL ρ i = some kvs) : ∃ a hs w, RW C G F0 ρ F σ H w ∧ σ[i]? = some (some (.ref a)) ∧ H a = some (.dK hs) ∧ FldsR C.K F H w a 0 kvs hs ∧ w a = some (a, 0) := by
  obtain ⟨w, r⟩ := r
  obtain ⟨v, e2, a, rfl, hs, h1, h2, h3⟩ := r.slot i _ (dicL_eq e)
  exact ⟨a, hs, w, r, e2, h1, h2, h3⟩
theorem R.fld (r : R C G F0 ρ F σ H) {f : Fld} (e : fldOf ρ i k = some f) : ∃ a hs v, σ[i]? = some (some (.ref a)) ∧ H a = some (.dK hs) ∧ valV hs k = some v ∧ match f with
    | .dat d => Rep C.K F v d
    | .lst xs => ∃ b vs, v = .ref b ∧ H b = some (.lst vs) ∧ Reps C.K F vs xs := by
  unfold fldOf at e
  cases e1 : dicL ρ i with
  | none => rw [e1] at e; cases e
  | some kvs =>
    rw [e1] at e
    obtain ⟨⟨f', m⟩, e2, e3⟩ := Option.map_eq_some_iff.mp (show (lookF 0 kvs k).map (·.1) = some f from e)
    cases e3
    obtain ⟨a, hs, w, r, h1, h2, h3, h4⟩ := r.dic e1
    obtain ⟨v, e4, q⟩ := h3.look e2
    refine ⟨a, hs, v, h1, h2, e4, ?_⟩
    cases f' with
    | dat d => exact q
    | lst xs =>
      obtain ⟨b, vs, y1, y2, y3, _⟩ := q
      exact ⟨b, vs, y1, y2, y3⟩
/-- a field's list is changed -/
theorem R.wrF (r : R C G F0 ρ F σ H) {kvs : List (Key × Fld)} {xs ys : List PyData} {a b : Addr} {hs : List (Key × V)} {us : List V} (e : dicL ρ i = some kvs) (ef : (lookF 0 kvs k).map (·.1) = some (.lst xs)) (ea : σ[i]? = some (some (.ref a))) (eh : H a = some (.dK hs)) (ev : valV hs k = some (.ref b)) (q : Reps C.K F us ys) :
    R C G F0 (ρ.set i (.ow (.dic (setF kvs k (.lst ys))))) F σ (L2.upd H b (.lst us)) := by
  obtain ⟨⟨f', m⟩, e2, e3⟩ := Option.map_eq_some_iff.mp ef
  cases e3
  obtain ⟨a', hs', w, r, h1, h2, h3, h4⟩ := r.dic e
  rw [ea] at h1
  cases h1
  rw [eh] at h2
  cases h2
  obtain ⟨v, e4, b', vs, y1, y2, y3, y4⟩ := h3.look e2
  rw [ev] at e4
  cases e4
  cases y1
  refine ⟨w, r.wr (dicL_eq e) ea y4 ⟨hs, ?_, h3.wrL q y4 ev (Nat.zero_le _) e2, h4⟩⟩
  rw [upd_ne]
  · exact eh
  · rintro rfl
    rw [h4] at y4
    cases y4
/-- a field's datum is stored -/
theorem R.putF (r : R C G F0 ρ F σ H) {kvs : List (Key × Fld)} {f : Fld} {a : Addr} {hs : List (Key × V)} {v : V} {d : PyData} (e : dicL ρ i = some kvs) (ef : (lookF 0 kvs k).map (·.1) = some f) (ea : σ[i]? = some (some (.ref a))) (eh : H a = some (.dK hs)) (p : Rep C.K F v d) :
    R C G F0 (ρ.set i (.ow (.dic (putF kvs k (.dat d))))) F σ (L2.upd H a (.dK (putK hs k v))) := by
  obtain ⟨⟨f', m⟩, e2, e3⟩ := Option.map_eq_some_iff.mp ef
  cases e3
  obtain ⟨a', hs', w, r, h1, h2, h3, h4⟩ := r.dic e
  rw [ea] at h1
  cases h1
  rw [eh] at h2
  cases h2
  refine ⟨w, r.wr (dicL_eq e) ea h4 ⟨_, upd_same, ?_, h4⟩⟩
  unfold putK
  rw [if_pos (h3.any e2)]
  have h5 := h3.putD (k := k) p
  have go : ∀ {j : Nat} {kvs : List (Key × Fld)} {vs : List (Key × V)} {u : HO}, FldsR C.K F H w a j kvs vs → FldsR C.K F (L2.upd H a u) w a j kvs vs := by
    intro j kvs
    induction kvs generalizing j with
    | nil => intro hs u q; cases hs with
      | nil => trivial
      | cons _ _ => exact q.elim
    | cons x r ih =>
      intro hs u q
      obtain ⟨k1, g⟩ := x
      cases hs with
      | nil => exact q.elim
      | cons y r' =>
        obtain ⟨k2, v⟩ := y
        obtain ⟨h1, h2, h3⟩ := q
        refine ⟨h1, ?_, ih h3⟩
        cases g with
        | dat d => exact h2
        | lst ws =>
          obtain ⟨c, cs, y1, y2, y3, y4⟩ := h2
          refine ⟨c, cs, y1, ?_, y3, y4⟩
          rw [upd_ne (fun y => ?_)]
          · exact y2
          · subst y
            rw [h4] at y4
            cases y4
  exact go h5
end
/-! ## their words -/
def dFld (i : Nat) (k : Str) : Den PyData := fun ρ => match fldOf ρ i (.inr k) with
  | some (.dat d) => .ok d ρ
  | _ => .bad
def dFldW (i : Nat) (k : Str) : Den PyData := fun ρ => match fldOf ρ i (.inr k) with
  | some (.dat d) => .ok d ρ
  | some (.lst xs) => .ok (.list xs) ρ
  | _ => .bad
def fldL (ρ : Ens) (i : Nat) (k : Str) : Option (List PyData) := match fldOf ρ i (.inr k) with
  | some (.lst xs) => some xs
  | _ => none
def putL (ρ : Ens) (i : Nat) (k : Str) (ys : List PyData) : Ens := match dicL ρ i with
  | some kvs => ρ.set i (.ow (.dic (setF kvs (.inr k) (.lst ys))))
  | none => ρ
/-- x['k'] = e -/
def sFld (i : Nat) (k : Str) (f : Den PyData) : DenS := fun ρ => (f ρ).out fun d ρ1 => match dicL ρ1 i with
  | some kvs => if (lookF 0 kvs (.inr k)).isSome = true ∧ kvs.length < sizeLine then .nx (ρ1.set i (.ow (.dic (Ev.putF kvs (.inr k) (.dat d))))) else .bad
  | none => .bad
def dFPop (i : Nat) (k : Str) : Den PyData := fun ρ => match fldL ρ i k with
  | some xs => match xs[xs.length - 1]? with
    | some d => .ok d (putL ρ i k xs.dropLast)
    | none => .bad
  | none => .bad
def dFPop0 (i : Nat) (k : Str) : Den PyData := fun ρ => match fldL ρ i k with
  | some (d :: r) => .ok d (putL ρ i k r)
  | _ => .bad
def sFApp (i : Nat) (k : Str) (f : Den PyData) : DenS := fun ρ => match fldL ρ i k with
  | none => .bad
  | some _ => (f ρ).out fun d ρ1 => match fldL ρ1 i k with
    | some xs => if xs.length < sizeLine then .nx (putL ρ1 i k (xs ++ [d])) else .bad
    | none => .bad
def sFIns0 (i : Nat) (k : Str) (f : Den PyData) : DenS := fun ρ => match fldL ρ i k with
  | none => .bad
  | some _ => (f ρ).out fun d ρ1 => match fldL ρ1 i k with
    | some xs => if xs.length < sizeLine then .nx (putL ρ1 i k (d :: xs)) else .bad
    | none => .bad
section
variable {X : Cx} {io : List Nat} {s0 : L2.St} {W : WX} {c : Bool} {e : Expr} {fe : Den PyData} {pos cpos apos p q spos kpos zpos : Pos} {i j z : Nat} {x k : Str}
theorem get_fld (hN : X.N[i]? = some x) (hv : Vis X.env.scope x) (hd : (x == ("__debug__" : Str)) = false) (hcd : (x == ("__classdict__" : Str)) = false) (hu : X.A.units + 1 < cLine) : PE X (.Subscript (.Name x p) (.Constant (.str k) j q) pos) (tDGet (tVar i) (tC (.str k))) := pe_dget hu (pe_var hN hv hd hcd) pe_str (fun _ _ => rfl)
theorem me_fldW (hN : X.N[i]? = some x) (hv : Vis X.env.scope x) (hd : (x == ("__debug__" : Str)) = false) (hcd : (x == ("__classdict__" : Str)) = false) (hu : X.A.units + 1 < cLine) : PE X (.Subscript (.Name x p) (.Constant (.str k) j q) pos) (tEW (en X io s0) W c (dFldW i k)) :=
  pe_weak (get_fld hN hv hd hcd hu) fun σ H Q ⟨G, F0, ρ, F, r, q⟩ => by
    unfold dFldW at q
    cases e : fldOf ρ i (.inr k) with
    | none => rw [e] at q; exact q.elim
    | some f =>
      rw [e] at q
      obtain ⟨a, hs, v, h1, h2, h3, h4⟩ := r.fld e
      refine ⟨.ref a, h1, a, v, rfl, by have g := DGet.k (k := Sum.inr k) h2; rw [h3] at g; exact g, ?_⟩
      cases f with
      | dat d => exact q v F H r (.refl _) (fun _ => .refl _) (.inl h4)
      | lst xs =>
        obtain ⟨b, vs, rfl, h5, h6⟩ := h4
        exact q _ F H r (.refl _) (fun _ => .refl _) (.inr ⟨xs, b, vs, rfl, rfl, h5, h6⟩)
theorem me_fld (hN : X.N[i]? = some x) (hv : Vis X.env.scope x) (hd : (x == ("__debug__" : Str)) = false) (hcd : (x == ("__classdict__" : Str)) = false) (hu : X.A.units + 1 < cLine) : PE X (.Subscript (.Name x p) (.Constant (.str k) j q) pos) (tE (en X io s0) W c (dFld i k)) :=
  pe_weak (get_fld hN hv hd hcd hu) fun σ H Q ⟨G, F0, ρ, F, r, q⟩ => by
    unfold dFld at q
    cases e : fldOf ρ i (.inr k) with
    | none => rw [e] at q; exact q.elim
    | some f =>
      rw [e] at q
      obtain ⟨a, hs, v, h1, h2, h3, h4⟩ := r.fld e
      refine ⟨.ref a, h1, a, v, rfl, by have g := DGet.k (k := Sum.inr k) h2; rw [h3] at g; exact g, ?_⟩
      cases f with
      | dat d => exact q v F H r (.refl _) (fun _ => .refl _) h4
      | lst xs => exact q.elim
theorem ms_fld (hN : X.N[i]? = some x) (hv : Vis X.env.scope x) (hd : (x == ("__debug__" : Str)) = false) (hcd : (x == ("__classdict__" : Str)) = false) (hu : X.A.units + 1 < cLine) (he : PE X e (tE (en X io s0) W false fe)) (hs : swapsWith e (some (.Subscript (.Name x p) (.Constant (.str k) j q) spos)) pos.line X.env = pure false) :
    PS X (.Assign [.Subscript (.Name x p) (.Constant (.str k) j q) spos] e pos) (tS (en X io s0) W (sFld i k fe)) := ps_weak (ps_dput hu (pe_var hN hv hd hcd) pe_str he hs) fun D σ H ⟨G, F0, ρ, F, r, q⟩ =>
  ⟨G, F0, ρ, F, r, (Post.out q).imp fun v F1 H1 d ρ1 r1 l1 k1 p1 q1 => by
    cases e1 : dicL ρ1 i with
    | none => rw [e1] at q1; exact q1.elim
    | some kvs =>
      rw [e1] at q1
      dsimp only at q1
      split at q1
      rotate_left
      · exact q1.elim
      rename_i hc
      obtain ⟨⟨f, m⟩, ef⟩ := Option.isSome_iff_exists.mp hc.1
      have ef2 : (lookF 0 kvs (.inr k)).map (·.1) = some f := by rw [ef]; rfl
      obtain ⟨a, hs, w, r', h1, h2, h3, h4⟩ := r1.dic e1
      have hl : hs.length = kvs.length := by
        have : ∀ {j : Nat} {kvs : List (Key × Fld)} {hs : List (Key × V)}, FldsR X.K F1 H1 w a j kvs hs → hs.length = kvs.length := by
          intro j kvs
          induction kvs generalizing j with
          | nil => intro hs q; cases hs with
            | nil => rfl
            | cons _ _ => exact q.elim
          | cons x r ih =>
            intro hs q
            obtain ⟨k1, g⟩ := x
            cases hs with
            | nil => exact q.elim
            | cons y r' => exact congrArg Nat.succ (ih q.2.2)
        exact this h3
      refine ⟨.ref a, h1, a, _, rfl, DPut.k (k := Sum.inr k) (v := v) h2 (by rw [hl]; exact hc.2), ?_⟩
      exact q1 σ F1 _ (r1.putF e1 ef2 h1 h2 p1) (.refl _)⟩
theorem fldL_eq {ρ : Ens} {xs : List PyData} (h : fldL ρ i k = some xs) : ∃ kvs, dicL ρ i = some kvs ∧ (lookF 0 kvs (.inr k)).map (·.1) = some (.lst xs) ∧ fldOf ρ i (.inr k) = some (.lst xs) := by
  unfold fldL at h
  split at h
  · rename_i ys e
    cases h
    have e0 := e
    unfold fldOf at e
    cases e1 : dicL ρ i with
    | none => rw [e1] at e; cases e
    | some kvs =>
      rw [e1] at e
      exact ⟨kvs, rfl, e, e0⟩
  · cases h
theorem putL_eq {ρ : Ens} {kvs : List (Key × Fld)} {ys : List PyData} (h : dicL ρ i = some kvs) : putL ρ i k ys = ρ.set i (.ow (.dic (setF kvs (.inr k) (.lst ys)))) := by
  unfold putL
  rw [h]
theorem me_fpop (hN : X.N[i]? = some x) (hv : Vis X.env.scope x) (hd : (x == ("__debug__" : Str)) = false) (hcd : (x == ("__classdict__" : Str)) = false) (hu : X.A.units + 1 < cLine) (hline : (apos.endLine == cpos.line) = true) :
    PE X (.Call (.Attribute (.Subscript (.Name x p) (.Constant (.str k) j q) pos) "pop" apos) [] [] cpos) (tE (en X io s0) W false (dFPop i k)) :=
  pe_weak (pe_bm0 PySem.F.plainAttrs_list PySem.F.slot_list_pop PySem.F.type_list_pop mt_pop (get_fld hN hv hd hcd hu) rfl hline) fun σ H Q ⟨G, F0, ρ, F, r, q⟩ => by
    unfold dFPop at q
    cases e0 : fldL ρ i k with
    | none => rw [e0] at q; exact q.elim
    | some xs =>
      rw [e0] at q
      obtain ⟨kvs, e1, e2, e3⟩ := fldL_eq e0
      obtain ⟨a, hs, v, h1, h2, h3, b, vs, rfl, h5, h6⟩ := r.fld e3
      dsimp only at q
      cases e4 : xs[xs.length - 1]? with
      | none => rw [e4] at q; exact q.elim
      | some d =>
        rw [e4] at q
        obtain ⟨u, e5, p5⟩ := h6.get e4
        refine ⟨.ref a, h1, a, .ref b, rfl, by have g := DGet.k (k := Sum.inr k) h2; rw [h3] at g; exact g, .inl ⟨rfl, _, SqL.of h5⟩, b, vs, u, rfl, rfl, h5, by rw [h6.length]; exact e5, ?_⟩
        dsimp only at q
        rw [putL_eq e1] at q
        exact q u F _ (r.wrF e1 e2 h1 h2 h3 h6.dropLast) (.refl _) (fun z => nomatch z) p5
theorem me_fpop0 (hN : X.N[i]? = some x) (hv : Vis X.env.scope x) (hd : (x == ("__debug__" : Str)) = false) (hcd : (x == ("__classdict__" : Str)) = false) (hu : X.A.units + 1 < cLine) (hline : (apos.endLine == cpos.line) = true) :
    PE X (.Call (.Attribute (.Subscript (.Name x p) (.Constant (.str k) j q) pos) "pop" apos) [.Constant (.int 0) z zpos] [] cpos) (tE (en X io s0) W false (dFPop0 i k)) :=
  pe_weak (pe_bm PySem.F.plainAttrs_list PySem.F.slot_list_pop PySem.F.type_list_pop mt_popAt (get_fld hN hv hd hcd hu) (pa_cons pe_int pa_nil (star_cons rfl _ _)) rfl (few_one rfl) hline (star_cons rfl _ _) rfl) fun σ H Q ⟨G, F0, ρ, F, r, q⟩ => by
    unfold dFPop0 at q
    cases e0 : fldL ρ i k with
    | none => rw [e0] at q; exact q.elim
    | some xs =>
      rw [e0] at q
      obtain ⟨kvs, e1, e2, e3⟩ := fldL_eq e0
      obtain ⟨a, hs, v, h1, h2, h3, b, vs, rfl, h5, h6⟩ := r.fld e3
      cases xs with
      | nil => exact q.elim
      | cons d rr =>
        cases h6 with
        | cons p6 r6 =>
          rename_i u us
          refine ⟨.ref a, h1, a, .ref b, rfl, by have g := DGet.k (k := Sum.inr k) h2; rw [h3] at g; exact g, .inl ⟨rfl, _, SqL.of h5⟩, ?_⟩
          refine ⟨b, u :: us, 0, 0, u, rfl, rfl, h5, by decide, by decide, ?_, rfl, ?_⟩
          · simp [seqIndex?]
          · dsimp only at q
            rw [putL_eq e1] at q
            exact q u F _ (r.wrF e1 e2 h1 h2 h3 (by simpa using r6)) (.refl _) (fun z => nomatch z) p6
theorem ms_fapp (hN : X.N[i]? = some x) (hv : Vis X.env.scope x) (hd : (x == ("__debug__" : Str)) = false) (hcd : (x == ("__classdict__" : Str)) = false) (hu : X.A.units + 1 < cLine) (hst : isStar e = false) (hline : (apos.endLine == cpos.line) = true) (he : PE X e (tE (en X io s0) W true fe)) :
    PS X (.Expr (.Call (.Attribute (.Subscript (.Name x p) (.Constant (.str k) j q) kpos) "append" apos) [e] [] cpos) pos) (tS (en X io s0) W (sFApp i k fe)) :=
  ps_weak (ps_expr (pe_bm PySem.F.plainAttrs_list PySem.F.slot_list_append PySem.F.type_list_append mt_append (get_fld hN hv hd hcd hu) (pa_cons he pa_nil (star_cons hst _ _)) rfl (few_one hst) hline (star_cons hst _ _) rfl)) fun D σ H ⟨G, F0, ρ, F, r, q⟩ => by
    unfold sFApp at q
    cases e0 : fldL ρ i k with
    | none => rw [e0] at q; exact q.elim
    | some xs =>
      rw [e0] at q
      obtain ⟨kvs, e1, e2, e3⟩ := fldL_eq e0
      obtain ⟨a, hs, v, h1, h2, h3, b, vs, rfl, h5, h6⟩ := r.fld e3
      refine ⟨.ref a, h1, a, .ref b, rfl, by have g := DGet.k (k := Sum.inr k) h2; rw [h3] at g; exact g, .inl ⟨rfl, _, SqL.of h5⟩, G, F0, ρ, F, r, (Post.out q).imp fun v F1 H1 d ρ1 r1 l1 k1 p1 q1 => ?_⟩
      cases g0 : fldL ρ1 i k with
      | none => rw [g0] at q1; exact q1.elim
      | some ys =>
        rw [g0] at q1
        dsimp only at q1
        split at q1
        rotate_left
        · exact q1.elim
        rename_i hz
        obtain ⟨kvs', g1, g2, g3⟩ := fldL_eq g0
        obtain ⟨a', hs', v', y1, y2, y3, b', vs', rfl, y5, y6⟩ := r1.fld g3
        rw [h1] at y1
        cases y1
        have := k1 rfl _ _ h2
        rw [y2] at this
        cases this
        rw [h3] at y3
        cases y3
        refine ⟨b, vs', v, rfl, rfl, y5, by rw [y6.length]; exact hz, ?_⟩
        rw [putL_eq g1] at q1
        exact q1 σ F1 _ (r1.wrF g1 g2 h1 y2 h3 (y6.append (.cons p1 .nil))) (.refl _)
end
end Ev

set_option Elab.async false
set_option linter.all false
set_option maxRecDepth 100000
set_option maxHeartbeats 1000000
namespace Ev
open PySem PySem.Spec PyProof.Rows L2
/-! ## new objects become own ones -/
section
variable {C : En} {G G2 F0 F02 F H : Hp} {ρ : Ens} {σ : L2.St} {w : Ownr}
def adopt (w T : Ownr) : Ownr := fun a => match T a with
  | some p => some p
  | none => w a
theorem RW.adopt {T : Ownr} (r : RW C G2 F02 ρ F σ H w) (h1 : ∀ a p, T a = some p → G2 a ≠ none ∧ F02 a = none) (h2 : Le G G2) (h3 : ∀ a, G a ≠ none → T a = none ∧ F02 a = F0 a) : RW C G F0 ρ F σ H (Ev.adopt w T) ∧ (∀ a, w a ≠ none → T a = none) := by
  have nt : ∀ a, w a ≠ none → T a = none := fun a h => by
    cases e : T a with
    | none => rfl
    | some p => exact absurd (r.frm a (h1 a p e).1).2 h
  have on : ∀ a p, w a = some p → Ev.adopt w T a = some p := fun a p h => by
    unfold Ev.adopt
    rw [nt a (by rw [h]; simp)]
    exact h
  refine ⟨⟨r.len, fun i s e => ?_, r.sep, fun a p e => ?_, r.sub, fun a o e => r.gle a o (h2 a o e), fun a h => ?_, r.pin⟩, nt⟩
  · obtain ⟨v, e2, q⟩ := r.slot i s e
    exact ⟨v, e2, q.mono (.refl _) (fun _ _ _ h => h) on⟩
  · unfold Ev.adopt at e
    cases et : T a with
    | none =>
      rw [et] at e
      exact r.own a p e
    | some q =>
      obtain ⟨g1, g2⟩ := h1 a q et
      obtain ⟨f1, _⟩ := r.frm a g1
      exact ⟨f1.trans g2, fun z => g1 (r.gle.none z)⟩
  · obtain ⟨h4, h5⟩ := h3 a h
    have g : G2 a ≠ none := by
      cases e : G a with
      | none => exact absurd e h
      | some o => rw [h2 a o e]; simp
    obtain ⟨f1, w1⟩ := r.frm a g
    refine ⟨f1.trans h5, ?_⟩
    unfold Ev.adopt
    rw [h4]
    exact w1
end
/-! ## displays of dicts -/
inductive PsR (K : Frag) (F : Hp) : List Str → List (V × V) → List PyData → Prop
  | nil : PsR K F [] [] []
  | cons {k : Str} {ks : List Str} {v : V} {ps : List (V × V)} {d : PyData} {ds : List PyData} : Rep K F v d → PsR K F ks ps ds → PsR K F (k :: ks) ((.str k, v) :: ps) (d :: ds)
theorem PsR.kvs {K : Frag} {F : Hp} : ∀ {ks : List Str} {ps : List (V × V)} {ds : List PyData}, PsR K F ks ps ds → ∃ kvs : List (Key × V), ps = kvs.map (fun kv => (kV kv.1, kv.2)) ∧ kvs.map (·.1) = ks.map Sum.inr ∧ Reps K F (kvs.map (·.2)) ds
  | _, _, _, .nil => ⟨[], rfl, rfl, .nil⟩
  | _, _, _, .cons (k := k) (v := v) h r => by
    obtain ⟨kvs, e1, e2, e3⟩ := PsR.kvs r
    exact ⟨(.inr k, v) :: kvs, by rw [e1]; rfl, by rw [List.map_cons, List.map_cons, e2], .cons h e3⟩
theorem nodup_inr {l : List Str} (h : l.Nodup) : (l.map (Sum.inr : Str → Key)).Nodup := List.Pairwise.map _ (fun a b h z => h (by cases z; rfl)) h
def dVals : List (Str × Den PyData) → Den (List PyData)
  | [], ρ => .ok [] ρ
  | (_, f) :: r, ρ => (f ρ).bind fun d ρ1 => (dVals r ρ1).bind fun ds ρ2 => .ok (d :: ds) ρ2
def trs (C : En) (W : WX) (c : Bool) (l : List (Str × Den PyData)) : List (TE × TE) := l.map fun p => (tC (.str p.1), tE C W c p.2)
theorem merge_new : ∀ (kvs more : List (Key × V)), ((kvs ++ more).map (·.1)).Nodup → mergeK kvs more = kvs ++ more
  | kvs, [], _ => by rw [List.append_nil]; rfl
  | kvs, p :: r, h => by
    have e : putK kvs p.1 p.2 = kvs ++ [p] := by
      unfold putK
      rw [if_neg]
      intro z
      obtain ⟨q, hq, e⟩ := List.any_eq_true.mp z
      have e := of_decide_eq_true e
      rw [List.map_append, List.map_cons] at h
      have := (List.nodup_append.mp h).2.2 q.1 (List.mem_map_of_mem hq) p.1 List.mem_cons_self
      exact this e
    show mergeK (putK kvs p.1 p.2) r = _
    rw [e, merge_new (kvs ++ [p]) r (by rw [List.append_assoc]; exact h), List.append_assoc]
    rfl
def dDict (l : List (Str × Den PyData)) : Den PyData := fun ρ => (dVals l ρ).bind fun ds ρ1 => .ok (.dict ((l.map fun p => PyData.str p.1).zip ds)) ρ1
/-- {k: a new list, k': a datum, ..}, told back: nobody else holds it -/
def sRetD (k : Str) (f : Den (List PyData)) (l : List (Str × Den PyData)) : DenS := fun ρ => (f ρ).out fun xs ρ1 => (dVals l ρ1).out fun ds ρ2 => .ro (.dic ((.inr k, .lst xs) :: (l.map fun p => (Sum.inr p.1 : Key)).zip (ds.map Fld.dat))) ρ2
/-- return name, the name's own object -/
def sRetO (i : Nat) : DenS := fun ρ => match ρ[i]? with
  | some (.ow o) => .ro o (ρ.set i .un)
  | _ => .bad
section
variable {X : Cx} {io : List Nat} {s0 : L2.St} {W : WX} {c : Bool} {e : Expr} {fe : Den PyData} {fl : Den (List PyData)} {pos kpos p : Pos} {i j : Nat} {x k : Str} {l : List (Str × Den PyData)} {keys : List (Option Expr)} {values : List Expr}
theorem md_nil : PPs X pos [] [] (trs (en X io s0) W c []) := pps_nil
theorem md_cons (h : PE X e (tE (en X io s0) W c fe)) (hr : PPs X pos keys values (trs (en X io s0) W c l)) : PPs X pos (some (.Constant (.str k) j kpos) :: keys) (e :: values) (trs (en X io s0) W c ((k, fe) :: l)) := pps_cons pe_str h hr
theorem pairs_of {σ : L2.St} {G F0 : Hp} {Q : List (V × V) → Hp → Prop} : ∀ {l : List (Str × Den PyData)} {F H : Hp} {ρ : Ens}, R (en X io s0) G F0 ρ F σ H → Post (fun F _ ps ds => PsR X.K F (l.map (·.1)) ps ds) (en X io s0) W c G F0 F σ H (fun ps _ H' _ _ => Q ps H') (dVals l ρ) → tPairs (trs (en X io s0) W c l) σ H Q
  | [], F, H, ρ, r, q => q [] F H r (.refl _) (fun _ => .refl _) .nil
  | (k, f) :: l, F, H, ρ, r, q => by
    refine ⟨G, F0, ρ, F, r, (Post.bind q id).imp fun v F1 H1 d ρ1 r1 l1 k1 p1 q1 => ?_⟩
    refine pairs_of r1 ((Post.bind q1 id).imp fun ps F2 H2 ds ρ2 r2 l2 k2 p2 q2 => ?_)
    exact q2 _ F2 H2 r2 (.refl _) (fun _ => .refl _) (.cons (Rep.mono l2 p1) p2)
theorem map_snd {κ : Type} {α β : Type} {f : κ → β} : ∀ {l : List (κ × α)} {ks : List κ}, l.map (·.1) = ks → l.map (fun p => f p.1) = ks.map f := fun {l ks} h => by
  rw [← h, List.map_map]
  rfl
theorem me_dict (hall : keys.all (·.isSome) = true) (hl : keys.length = values.length) (h0 : keys ≠ []) (h15 : keys.length ≤ 15) (hn : l.length = keys.length) (nd : (l.map (·.1)).Nodup) (h : PPs X pos keys values (trs (en X io s0) W c l)) : PE X (.Dict keys values pos) (tE (en X io s0) W c (dDict l)) :=
  pe_weak (pe_disp h hall hl h0 h15) fun σ H Q ⟨G, F0, ρ, F, r, q⟩ => by
    intro p hp
    have gp : G p = none := r.gle.none hp
    have fp : F p = none := r.sub.none hp
    have fr := r.frm
    have rg := r.guard (o := .dK []) hp
    refine pairs_of rg ?_
    unfold dDict at q
    cases e : dVals l ρ with
    | bad => rw [e] at q; exact q.elim
    | exc x ρ1 =>
      rw [e] at q
      exact fun cls dd F' H' r' l' z => q cls dd F' H' (r'.unguard gp fr) l' z
    | ok ds ρ1 =>
      rw [e] at q
      intro ps F1 H1 r1 l1 k1 p1
      obtain ⟨kvs, e1, e2, e3⟩ := p1.kvs
      have hk : (kvs.map (·.1)).Nodup := by
        rw [e2]
        exact nodup_inr nd
      have hlen : kvs.length = l.length := by
        have := congrArg List.length e2
        simpa using this
      refine ⟨r1.gle p _ upd_same, kvs, e1, by omega, ?_⟩
      have hm : mergeK [] kvs = kvs := merge_new [] kvs hk
      rw [hm]
      obtain ⟨r2, l2⟩ := (r1.guardW (o' := .dK kvs) fp).done gp fp fr
      have l3 := l1.trans l2
      have := Rep.dic (a := p) (kvs := kvs) (upd_same (H := F1)) (e3.mono l2)
      rw [map_snd (f := keyD) e2] at this
      simp only [List.map_map] at this
      refine q _ _ _ r2 l3 (fun hc a o ea => ?_) this
      rw [upd_ne (ne_of_none ea hp)]
      exact (k1 hc) a o (by rw [upd_ne (ne_of_none ea hp)]; exact ea)
theorem ms_retD {e0 : Expr} (hall : keys.all (·.isSome) = true) (hl : keys.length = values.length) (h15 : keys.length ≤ 14) (hn : l.length = keys.length) (nd : (k :: l.map (·.1)).Nodup) (hf : PE X e0 (tN (en X io s0) W false fl)) (h : PPs X p keys values (trs (en X io s0) W false l)) :
    PS X (.Return (some (.Dict (some (.Constant (.str k) j kpos) :: keys) (e0 :: values) p)) pos) (tS (en X io s0) W (sRetD k fl l)) :=
  ps_weak (ps_ret (pe_disp (pps_cons pe_str hf h) (by rw [List.all_cons, hall]; rfl) (by rw [List.length_cons, List.length_cons, hl]) (by simp) (by rw [List.length_cons]; omega))) fun D σ H ⟨G, F0, ρ, F, r, q⟩ => by
    intro p hp
    have gp : G p = none := r.gle.none hp
    have fp : F p = none := r.sub.none hp
    have fr := r.frm
    have rg := r.guard (o := .dK []) hp
    refine ⟨_, _, ρ, F, rg, ?_⟩
    unfold sRetD at q
    cases e : fl ρ with
    | bad => rw [e] at q; exact q.elim
    | exc x ρ1 =>
      rw [e] at q
      exact fun cls dd F' H' r' l' z => q cls dd σ F' H' (r'.unguard gp fr) l' z
    | ok xs ρ1 =>
      rw [e] at q
      intro b vs F1 F2 H2 r2 nb nb1 fr2 l2 _ p2
      have gb : G b = none := by
        cases z : G b with
        | none => rfl
        | some o =>
          have := nb
          rw [upd_ne (ne_of_none z gp), z] at this
          cases this
      have hbp : b ≠ p := by
        rintro rfl
        rw [upd_same] at nb
        cases nb
      refine pairs_of r2 ?_
      cases e2 : dVals l ρ1 with
      | bad => simp only [ok_out, e2] at q; exact q.elim
      | exc x ρ2 =>
        simp only [ok_out, e2] at q
        exact fun cls dd F' H' r' l' z => q cls dd σ F' H' ((r'.unguard nb fr2).unguard gp fr) (l2.trans l') z
      | ok ds ρ2 =>
        simp only [ok_out, e2] at q
        intro ps F3 H3 r3 l3 k3 p3
        obtain ⟨kvs, e4, e5, e6⟩ := p3.kvs
        have hp3 : H3 p = some (.dK []) := r3.gle p _ (by rw [upd_ne hbp.symm]; exact upd_same)
        have hb3 : H3 b = some (.lst vs) := r3.gle b _ upd_same
        have hlen : kvs.length = l.length := by
          have := congrArg List.length e5
          simpa using this
        have hk : ((((Sum.inr k : Key), V.ref b) :: kvs).map (·.1)).Nodup := by
          rw [List.map_cons, e5]
          exact nodup_inr nd
        refine ⟨hp3, (.inr k, .ref b) :: kvs, by rw [e4]; rfl, by rw [List.length_cons]; omega, ?_⟩
        rw [merge_new [] _ hk, List.nil_append]
        -- the dict is written
        obtain ⟨w, r3⟩ := r3
        have wp : w p = none := (r3.frm p (by rw [upd_ne hbp.symm, upd_same]; simp)).2
        have f1p : F1 p = none := by rw [fr2 p (by rw [upd_same]; simp)]; exact fp
        have f3p : F3 p = none := ((r3.frm p (by rw [upd_ne hbp.symm, upd_same]; simp)).1).trans f1p
        have r4 : RW (en X io s0) (L2.upd (L2.upd G p (.dK ((.inr k, .ref b) :: kvs))) b (.lst vs)) F1 ρ2 F3 σ (L2.upd H3 p (.dK ((.inr k, .ref b) :: kvs))) w := by
          refine ⟨r3.len, fun i s z => ?_, r3.sep, fun a q z => ?_, fun a o z => ?_, fun a o z => ?_, fun a z => r3.frm a fun y => z ?_, r3.pin⟩
          · obtain ⟨v, z2, q2⟩ := r3.slot i s z
            exact ⟨v, z2, q2.mono (.refl _) (fun a o ha ho => by rw [upd_ne (fun y : a = p => ha (y ▸ wp))]; exact ho) fun _ _ h => h⟩
          · obtain ⟨h1, h2⟩ := r3.own a q z
            refine ⟨h1, ?_⟩
            rw [upd_ne (fun y : a = p => by rw [y, wp] at z; cases z)]
            exact h2
          · rw [upd_ne (fun y : a = p => by rw [y, f3p] at z; cases z)]
            exact r3.sub a o z
          · by_cases y : a = p
            · subst y
              rw [upd_ne hbp.symm, upd_same] at z
              rw [upd_same]
              exact z
            · rw [upd_ne y]
              by_cases y2 : a = b
              · subst y2
                rw [upd_same] at z
                rw [hb3]
                exact z
              · rw [upd_ne y2, upd_ne y] at z
                exact r3.gle a o (by rw [upd_ne y2, upd_ne y]; exact z)
          · by_cases y2 : a = b
            · subst y2
              rw [upd_same] at y
              cases y
            · rw [upd_ne y2] at y ⊢
              by_cases y3 : a = p
              · subst y3
                rw [upd_same] at y
                cases y
              · rw [upd_ne y3] at y ⊢
                exact y
        obtain ⟨r5, nt⟩ := r4.adopt (G := G) (F0 := F0) (T := fun a => if a = p then some (p, 0) else if a = b then some (p, 1) else none) (fun a q z => by
          have z : (if a = p then some (p, 0) else if a = b then some (p, 1) else none) = some q := z
          split at z
          · rename_i h
            subst h
            rw [upd_ne hbp.symm, upd_same]
            exact ⟨by simp, f1p⟩
          · split at z
            · rename_i h
              subst h
              rw [upd_same]
              exact ⟨by simp, nb1⟩
            · cases z) (fun a o z => by
          rw [upd_ne (ne_of_none z gb), upd_ne (ne_of_none z gp)]
          exact z) (fun a z => by
          have h1 : a ≠ p := fun y => z (y ▸ gp)
          have h2 : a ≠ b := fun y => z (y ▸ gb)
          refine ⟨by rw [if_neg h1, if_neg h2], ?_⟩
          rw [fr2 a (by rw [upd_ne h1]; exact z)]
          exact fr a z)
        refine q p σ F3 _ ⟨_, r5, ⟨_, upd_same, ?_, ?_⟩, fun i o' z1 z2 => ?_⟩ (l2.trans l3)
        · refine ⟨rfl, ⟨b, vs, rfl, by rw [upd_ne hbp]; exact hb3, p2.mono l3, ?_⟩, ?_⟩
          · show Ev.adopt w _ b = some (p, 0 + 1)
            unfold Ev.adopt
            dsimp only
            rw [if_neg hbp, if_pos rfl]
          · have go : ∀ {j : Nat} {ks : List Key} {kvs : List (Key × V)} {ds : List PyData} {H' : Hp} {w' : Ownr}, kvs.map (·.1) = ks → Reps X.K F3 (kvs.map (·.2)) ds → FldsR X.K F3 H' w' p j (ks.zip (ds.map Fld.dat)) kvs := by
              intro j ks kvs
              induction kvs generalizing j ks with
              | nil =>
                intro ds H' w' h1 h2
                subst h1
                cases h2
                trivial
              | cons x r ih =>
                intro ds H' w' h1 h2
                subst h1
                cases h2 with
                | cons h3 h4 => exact ⟨rfl, h3, ih rfl h4⟩
            rw [show (l.map fun p => (Sum.inr p.1 : Key)) = (l.map (·.1)).map Sum.inr by rw [List.map_map]; rfl]
            exact go e5 e6
        · show Ev.adopt w _ p = some (p, 0)
          unfold Ev.adopt
          dsimp only
          rw [if_pos rfl]
        · obtain ⟨v, z3, a, rfl, z4⟩ := r3.slot i _ z1
          rw [z2] at z3
          cases z3
          have := z4.top
          rw [wp] at this
          cases this
theorem ms_retO (hN : X.N[i]? = some x) (hv : Vis X.env.scope x) (hd : (x == ("__debug__" : Str)) = false) (hcd : (x == ("__classdict__" : Str)) = false) : PS X (.Return (some (.Name x p)) pos) (tS (en X io s0) W (sRetO i)) := ps_weak (ps_ret (pe_var hN hv hd hcd)) fun D σ H ⟨G, F0, ρ, F, r, q⟩ => by
  unfold sRetO at q
  split at q
  rotate_left
  · exact q.elim
  rename_i o e
  obtain ⟨w, r⟩ := r
  obtain ⟨v, e2, a, rfl, q2⟩ := r.slot i _ e
  have hl : i < ρ.length := (List.getElem?_eq_some_iff.mp e).1
  refine ⟨_, e2, q a σ F H ⟨w, ⟨by rw [List.length_set]; exact r.len, fun j s z => ?_, fun j l o1 o2 u e3 e4 e5 e6 => ?_, r.own, r.sub, r.gle, r.frm, r.pin⟩, q2, fun j o' z1 z2 => ?_⟩ (.refl _)⟩
  · by_cases h : i = j
    · subst h
      rw [List.getElem?_set_self hl] at z
      cases z
      exact ⟨_, e2, trivial⟩
    · rw [List.getElem?_set_ne h] at z
      exact r.slot j s z
  · have ne : ∀ {k : Nat} {o : Own}, (ρ.set i .un)[k]? = some (.ow o) → i ≠ k := fun {k o} e z => by
      subst z
      rw [List.getElem?_set] at e
      simp at e
    have h1 := ne e3
    have h2 := ne e4
    rw [List.getElem?_set_ne h1] at e3
    rw [List.getElem?_set_ne h2] at e4
    exact r.sep j l o1 o2 u e3 e4 e5 e6
  · have h : i ≠ j := fun z => by
      subst z
      rw [List.getElem?_set_self hl] at z1
      cases z1
    rw [List.getElem?_set_ne h] at z1
    exact h (r.sep i j o o' _ e z1 e2 z2)
end
end Ev

set_option Elab.async false
set_option linter.all false
set_option maxRecDepth 100000
set_option maxHeartbeats 1000000
namespace Ev
open PySem PySem.Spec PyProof.Rows L2
/-! ## row = deck[k]; cell = row[0]; row[0] = cell // many; if cell < many: row.pop(0); return int(cell) % many -/
def sGreat (i : Nat) (k : Str) (im ir ic : Nat) : DenS := fun ρ => match fldL ρ i k, ρ[im]? with
  | some (.int cell :: rest), some (.fz (.int m)) => if 0 < m ∧ m < 1073741824 ∧ ir < ρ.length ∧ ic < ρ.length then .rt (.int (cell % m)) (((putL ρ i k (if cell < m then rest else .int (cell / m) :: rest)).set ir .un).set ic .un) else .bad
  | _, _ => .bad
section
variable {X : Cx} {io : List Nat} {s0 : L2.St} {W : WX} {i im ir ic j j1 j2 j3 j4 : Nat} {x xm xr xc k : Str} {p1 p2 p3 p4 p5 p6 p7 p8 p9 p10 p11 p12 p13 p14 p15 p16 p17 p18 p19 p20 p21 p22 p23 p24 p25 p26 p27 p28 p29 p30 p31 p32 : Pos}
theorem upd_upd {H : Hp} {a : Addr} {u v : HO} : L2.upd (L2.upd H a u) a v = L2.upd H a v := by
  funext b
  unfold L2.upd
  split <;> rfl
structure Nm (X : Cx) (i : Nat) (x : Str) : Prop where
  at_ : X.N[i]? = some x
  vis : Vis X.env.scope x
  db : (x == ("__debug__" : Str)) = false
  cd : (x == ("__classdict__" : Str)) = false
structure Sto (X : Cx) (io : List Nat) (i : Nat) (x : Str) : Prop where
  loc : Loc X.env.scope x
  fn : X.fn x = true ∨ X.env.scope.names.lookup x = some .local
  io : i ∉ io
theorem ms_great (hN : X.N.Nodup) (hu : X.A.units + 1 < cLine) (n1 : Nm X i x) (n2 : Nm X im xm) (n3 : Nm X ir xr) (n4 : Nm X ic xc) (s3 : Sto X io ir xr) (s4 : Sto X io ic xc) (gi : Gl X "int") (mi : X.mg "int" = none) (d1 : i ≠ ir) (d2 : i ≠ ic) (d3 : im ≠ ir) (d4 : im ≠ ic) (d5 : ir ≠ ic)
    (hs1 : swapsWithSole [.Name xr p1] (.Subscript (.Name x p2) (.Constant (.str k) j p3) p4) p5.line X.env = pure false) (hs2 : swapsWithSole [.Name xc p6] (.Subscript (.Name xr p7) (.Constant (.int 0) j1 p8) p9) p10.line X.env = pure false)
    (hs3 : swapsWithSole [.Subscript (.Name xr p11) (.Constant (.int 0) j2 p12) p13] (.BinOp (.Name xc p14) .FloorDiv (.Name xm p15) p16) p17.line X.env = pure false) (hm : behindInMarks .Lt (.Name xm p19 : Expr) = false) (hline : (p23.endLine == p25.line) = true) :
    PSs X [.Assign [.Name xr p1] (.Subscript (.Name x p2) (.Constant (.str k) j p3) p4) p5, .Assign [.Name xc p6] (.Subscript (.Name xr p7) (.Constant (.int 0) j1 p8) p9) p10,
      .Assign [.Subscript (.Name xr p11) (.Constant (.int 0) j2 p12) p13] (.BinOp (.Name xc p14) .FloorDiv (.Name xm p15) p16) p17,
      .If (.Compare (.Name xc p18) [.Lt] [.Name xm p19] p20) [.Expr (.Call (.Attribute (.Name xr p22) "pop" p23) [.Constant (.int 0) j3 p24] [] p25) p26] [] p21,
      .Return (some (.BinOp (.Call (.Name "int" p27) [.Name xc p28] [] p29) .Mod (.Name xm p30) p31)) p32] (tS (en X io s0) W (sGreat i k im ir ic)) := by
  have v3 := pe_var (X := X) (pos := p7) n3.at_ n3.vis n3.db n3.cd
  refine pss_weak (pss_cons (ps_asg (get_fld n1.at_ n1.vis n1.db n1.cd hu) (pg_name hN n3.at_ s3.loc s3.fn) hs1) (pss_cons (ps_asg (pe_ix ix_seq v3 pe_int (fun _ _ => rfl)) (pg_name hN n4.at_ s4.loc s4.fn) hs2)
    (pss_cons (ps_asg (pe_op op_fdiv (pe_var n4.at_ n4.vis n4.db n4.cd) (pe_var n2.at_ n2.vis n2.db n2.cd)) (pg_sub (pe_var n3.at_ n3.vis n3.db n3.cd) pe_int set_list) hs3)
      (pss_cons (ps_if (pt_cmpR op_lt (pe_var n4.at_ n4.vis n4.db n4.cd) (pe_var n2.at_ n2.vis n2.db n2.cd) hm) (pss_cons (ps_expr (pe_bm PySem.F.plainAttrs_list PySem.F.slot_list_pop PySem.F.type_list_pop mt_popAt (pe_var n3.at_ n3.vis n3.db n3.cd) (pa_cons pe_int pa_nil (star_cons rfl _ _)) rfl (few_one rfl) hline (star_cons rfl _ _) rfl)) pss_nil) pss_nil)
        (pss_cons (ps_ret (pe_op op_mod (pe_callTy call_int1 gi mi (by decide +kernel) (pa_cons (pe_var n4.at_ n4.vis n4.db n4.cd) pa_nil (star_cons rfl _ _)) (by decide) (by decide) (star_cons rfl _ _) rfl) (pe_var n2.at_ n2.vis n2.db n2.cd))) pss_nil))))) ?_
  intro D σ H ⟨G, F0, ρ, F, r, q⟩
  unfold sGreat at q
  split at q
  rotate_left
  · exact q.elim
  rename_i cell rest m e1 e2
  split at q
  rotate_left
  · exact q.elim
  rename_i hm2
  obtain ⟨m1, m2, l1, l2⟩ := hm2
  rw [r.len] at l1 l2
  obtain ⟨kvs, f1, f2, f3⟩ := fldL_eq e1
  obtain ⟨a, hs, v, h1, h2, h3, b, vs, rfl, h5, h6⟩ := r.fld f3
  cases h6 with
  | cons p6 r6 =>
  cases p6
  rename_i us
  obtain ⟨vm, hvm, pm⟩ := r.fz e2
  cases pm
  -- the slots behind the two names
  have g1 : ∀ v, (σ.set ir v)[ir]? = some v := fun v => List.getElem?_set_self l1
  have g2 : ∀ v u, ((σ.set ir v).set ic u)[ic]? = some u := fun v u => List.getElem?_set_self (by rw [List.length_set]; exact l2)
  have g3 : ∀ v u, ((σ.set ir v).set ic u)[ir]? = some v := fun v u => (List.getElem?_set_ne (Ne.symm d5)).trans (g1 v)
  have g4 : ∀ v u, ((σ.set ir v).set ic u)[im]? = some (some (.int m)) := fun v u => (List.getElem?_set_ne (Ne.symm d4)).trans ((List.getElem?_set_ne (Ne.symm d3)).trans hvm)
  refine ⟨.ref a, h1, a, .ref b, rfl, by have g := DGet.k (k := Sum.inr k) h2; rw [h3] at g; exact g, ?_⟩
  refine ⟨_, g1 _, .inl ⟨b, _, 0, .int cell, rfl, rfl, SqL.of h5, by simp [L2.atI, ixN], ?_⟩⟩
  refine ⟨_, g2 _ _, _, g4 _ _, cell, m, rfl, rfl, ⟨m1, m2⟩, ?_⟩
  refine ⟨_, g3 _ _, b, _, 0, 0, rfl, rfl, h5, by simp [ixN], ?_⟩
  refine ⟨_, g2 _ _, _, g4 _ _, cell, m, rfl, rfl, ?_⟩
  have fin : ∀ (us' : List V) (ys : List PyData), Reps X.K F us' ys → R (en X io s0) G F0 (((ρ.set i (.ow (.dic (setF kvs (.inr k) (.lst ys))))).set ir .un).set ic .un) F ((σ.set ir (some (.ref b))).set ic (some (.int cell))) (L2.upd H b (.lst us')) := fun us' ys h =>
    ((r.wrF f1 f2 h1 h2 h3 h).put (i := ir) (s := .un) (v := some (.ref b)) s3.io (fun _ z => nomatch z) fun _ => trivial).put (i := ic) (s := .un) (v := some (.int cell)) s4.io (fun _ z => nomatch z) fun _ => trivial
  rw [putL_eq f1] at q
  refine ⟨decide (cell < m), rfl, ?_⟩
  -- the end
  have last : ∀ (us' : List V) (ys : List PyData), Reps X.K F us' ys → (if cell < m then rest else .int (cell / m) :: rest) = ys → tRet (tOp (rI (fun _ j => 0 < j) fun i j => .int (i % j)) (tCB (fun xs H Q => (∃ i, xs = [.int i] ∧ Q (.int i) H) ∨ ∃ k, xs = [.bl k] ∧ Q (.int (if k then 1 else 0)) H) (tCons (tVar ic) tNil)) (tVar im)) D ((σ.set ir (some (.ref b))).set ic (some (.int cell))) (L2.upd H b (.lst us')) := fun us' ys h e => by
    refine ⟨_, g2 _ _, .inl ⟨cell, rfl, _, g4 _ _, cell, m, rfl, rfl, m1, ?_⟩⟩
    subst e
    exact q _ _ F _ (fin us' _ h) (.refl _) (.int _)
  by_cases hc : cell < m
  · rw [decide_eq_true hc]
    dsimp only
    rw [if_pos rfl]
    refine ⟨_, g3 _ _, .inl ⟨rfl, _, SqL.of upd_same⟩, b, _, 0, 0, _, rfl, rfl, upd_same, by decide, by decide, by simp [seqIndex?], rfl, ?_⟩
    rw [upd_upd]
    exact last us rest r6 (if_pos hc)
  · rw [decide_eq_false hc]
    dsimp only
    rw [if_neg Bool.false_ne_true]
    exact last _ (.int (cell / m) :: rest) (.cons (.int _) r6) (if_neg hc)
end
end Ev

set_option Elab.async false
set_option linter.all false
set_option maxRecDepth 100000
set_option maxHeartbeats 1000000
namespace Ev
open PySem PySem.Spec PyProof.Rows L2
open PySem.W (EachIs)
/-! ## repr, sorted -/
def SysD (h : Heap) : Prop := ∃ mm, h.Ns sysModules mm
section
variable {X : Cx} {pins : List (Addr × Obj)} {σ : L2.St} {H F : Hp} {s : Shared}
theorem no_sys (I : Inv X pins σ H s) (hS : SysD X.base) {a : Addr} {o : Obj} {vs : Array Value} {n : Nat} (h : s.heap.get? a = some o) (d : o.data = .seq vs n) : a ≠ sysModules := by
  rintro rfl
  obtain ⟨mm, o', es, ep, e1, e2, _⟩ := hS
  have e3 := I.bk _ _ e1
  rw [h] at e3
  cases e3
  rw [d] at e2
  cases e2
theorem keysR' {P : Program} {w : World} (hp : Heap) : ∀ {es : List DictEntry} {kvs : List (Key × Value)}, Pairs (mixKind P w) es kvs → ReadsAll hp (es.map (·.key)) (kvs.map fun p => keyD p.1) []
  | _, _, .nil => .nil
  | _, _, .cons h1 _ h3 => by
    have := ReadsAll.cons (keyR h1 hp) (keysR' hp h3)
    exact this
mutual
theorem Rep.reads2 (I : Inv X pins σ H s) (hS : SysD X.base) (l : Le F H) : ∀ {v : V} {d : PyData} (u : Value), Rep X.K F v d → RelV v u → ∃ as, Reads s.heap u d as ∧ sysModules ∉ as
  | _, _, u, .non, r => by cases r; exact ⟨_, .none, by simp⟩
  | _, _, u, .bl b, r => by cases r; exact ⟨_, .bool b, by simp⟩
  | _, _, u, .int i, r => by obtain ⟨t, rfl⟩ := r; exact ⟨_, .int i t, by simp⟩
  | _, _, u, .str x, r => by obtain ⟨t, rfl⟩ := r; exact ⟨_, .str x t, by simp⟩
  | _, _, u, .lst h q, r => by
    cases r
    obtain ⟨its, rv, ⟨o, n, ho, hc, _, hd⟩, _⟩ := I.list (SqL.of (l _ _ h))
    obtain ⟨as, hr, hn⟩ := Reps.reads2 I hS l its q rv
    exact ⟨_, .list ho hc hd hr, fun z => (List.mem_cons.mp z).elim (fun e => no_sys I hS ho hd e.symm) hn⟩
  | _, _, u, .tup h q, r => by
    cases r
    obtain ⟨its, rv, ⟨o, ho, hc, n, hd⟩, _⟩ := I.tuple (l.sqT h)
    obtain ⟨as, hr, hn⟩ := Reps.reads2 I hS l its q rv
    exact ⟨_, .tuple ho hc hd hr, hn⟩
  | _, _, u, .dic (a := a) (kvs := kvs) (ds := ds) h q, r => by
    cases r
    obtain ⟨_, hsys, vs, rv, o, es, ep, ho, hx, hd, _, hp, _⟩ := I.hok a _ (l _ _ h)
    obtain ⟨r1, e1⟩ := kvV rv
    have hk := keysR' s.heap hp
    obtain ⟨bs, hr, hn⟩ := Reps.reads2 I hS l (vs.map (·.2)) q r1
    have el : (kvs.map fun p => keyD p.1) = vs.map fun p => keyD p.1 := by
      have := congrArg (List.map keyD) e1
      simpa [List.map_map, Function.comp_def] using this
    have n1 : (kvs.map fun p => keyD p.1).length = ds.length := by
      have := q.length
      simpa using this
    refine ⟨_, .dict ho hx.1 hd (as := []) (bs := bs) ?_ ?_, fun z => ?_⟩
    · rw [List.map_fst_zip (Nat.le_of_eq n1), el]; exact hk
    · rw [List.map_snd_zip (Nat.le_of_eq n1.symm), pairsV hp]; exact hr
    · rcases List.mem_cons.mp z with e | z
      · exact absurd e.symm (beq_eq_false_iff_ne.mp hsys)
      · exact hn z
theorem Reps.reads2 (I : Inv X pins σ H s) (hS : SysD X.base) (l : Le F H) : ∀ {vs : List V} {ds : List PyData} (us : List Value), Reps X.K F vs ds → Vals vs us → ∃ as, ReadsAll s.heap us ds as ∧ sysModules ∉ as
  | _, _, us, .nil, r => by cases r; exact ⟨_, .nil, by simp⟩
  | _, _, us, .cons h q, r => by
    cases r with
    | cons r1 r2 =>
      obtain ⟨as, q1, n1⟩ := Rep.reads2 I hS l _ h r1
      obtain ⟨bs, q2, n2⟩ := Reps.reads2 I hS l _ q r2
      exact ⟨_, .cons q1 q2, fun z => (List.mem_append.mp z).elim n1 n2⟩
end
theorem DR.reads2 (I : Inv X pins σ H s) (hS : SysD X.base) (l : Le F H) {v : V} {d : PyData} {u : Value} (h : DR X.K F H v d) (r : RelV v u) : ∃ as, Reads s.heap u d as ∧ sysModules ∉ as := by
  rcases h with (h | ⟨ds, a, vs, rfl, rfl, h, q⟩) | ⟨ds, a, vs, rfl, rfl, h, q⟩
  · exact Rep.reads2 I hS l u h r
  · cases r
    obtain ⟨its, rv, ⟨o, n, ho, hc, _, hd⟩, _⟩ := I.list (SqL.of h)
    obtain ⟨as, hr, hn⟩ := Reps.reads2 I hS l its q rv
    exact ⟨_, .list ho hc hd hr, fun z => (List.mem_cons.mp z).elim (fun e => no_sys I hS ho hd e.symm) hn⟩
  · cases r
    obtain ⟨its, rv, ⟨o, n, ho, hc, _, hd⟩, _⟩ := I.list h
    obtain ⟨as, hr, hn⟩ := Reps.reads2 I hS l its q rv
    exact ⟨_, .list ho hc hd hr, fun z => (List.mem_cons.mp z).elim (fun e => no_sys I hS ho hd e.symm) hn⟩
end
def showOk (d : PyData) : Bool := d.showable && decide (PyData.depth d ≤ 60) && decide (d.shown.length ≤ sizeLine)
def gShow : List PyData → Option PyData
  | [d] => if showOk d = true then some (.str d.shown) else none
  | _ => none
theorem c_repr {X : Cx} (gd : X.A.guards = some []) (hS : SysD X.base) (hu : X.A.units + 64 < cLine) : CallR X (.builtin "repr") (rF X.K gShow) := by
  intro pins s σ H xs us Q I r ⟨F, ds, d, l, hx, e, q⟩
  match ds, e with
  | [d0], e =>
    simp only [gShow] at e
    split at e
    rotate_left
    · cases e
    rename_i hc
    cases e
    obtain ⟨hc1, hz⟩ := Bool.and_eq_true_iff.mp hc
    obtain ⟨hsh, hd⟩ := Bool.and_eq_true_iff.mp hc1
    have hz := of_decide_eq_true hz
    have hd := of_decide_eq_true hd
    obtain ⟨v, rfl, h⟩ := hx.one
    obtain ⟨u, rfl, rv⟩ := Vals.one r
    obtain ⟨as, rd, hn⟩ := DR.reads2 I hS l h rv
    cases rd with
    | none => exact PySem.P.repr_of_none ⟨.str _, H, I.tok _, ⟨_, rfl⟩, q _ F H (.refl l) (.str _)⟩
    | bool b => exact PySem.P.repr_of_bool ⟨.str _, H, I.tok _, ⟨_, rfl⟩, q _ F H (.refl l) (by simp only [PyData.shown]; exact .str _)⟩
    | int i t => exact PySem.P.repr_of_int (by simpa [PyData.showable] using hsh) ⟨.str _, H, I.tok _, ⟨_, rfl⟩, q _ F H (.refl l) (by simp only [PyData.shown]; exact .str _)⟩
    | str x t => exact PySem.P.repr_of_str ⟨.str _, H, I.tok _, ⟨_, rfl⟩, q _ F H (.refl l) (by simp only [PyData.shown]; exact .str _)⟩ (by simpa only [PyData.shown] using hz)
    | list a b c d => exact repr_of_reads' (.list a b c d) hsh (fun _ => hn) gd (by omega) (fun _ _ e => e) (fun h' u tk hk => ⟨.str _, H, I.kept hk, ⟨_, rfl⟩, q _ F H (.refl l) (.str _)⟩) hz
    | tuple a b c d => exact repr_of_reads' (.tuple a b c d) hsh (fun _ => hn) gd (by omega) (fun _ _ e => e) (fun h' u tk hk => ⟨.str _, H, I.kept hk, ⟨_, rfl⟩, q _ F H (.refl l) (.str _)⟩) hz
    | dict a b c d e' => exact repr_of_reads' (.dict a b c d e') hsh (fun _ => hn) gd (by omega) (fun _ _ e => e) (fun h' u tk hk => ⟨.str _, H, I.kept hk, ⟨_, rfl⟩, q _ F H (.refl l) (.str _)⟩) hz
/-! ## sorting tuples of which one is empty -/
section
variable {prog : Program} {w : World} {A : Around} {s : Shared} {E : Value → Shared → Prop}
open PySem.SeqAt in
theorem call_tuple_lt {Q : Value → Shared → Prop} {l b : Addr} {items items2 : Array Value} {e r : Nat → Bool} (hl : s.heap.IsTuple l items) (hb : s.heap.IsTuple b items2)
    (he : ∀ j (h1 : j < items.size) (h2 : j < items2.size), EqAt A.in1 s items[j] items2[j] (e j)) (hr : ∀ j (h1 : j < items.size) (h2 : j < items2.size), e j = false → RcLt A.in1 s items[j] items2[j] (r j))
    (h : Q (.bool (firstLt e r (decide (items.size < items2.size)) (List.range (min items.size items2.size)))) s) : wpAny (model prog w) A (call (.builtin "tuple.__lt__") [.ref l, .ref b]) Q E s := by
  obtain ⟨⟨cls, dd, data, sl⟩, ho, hc, n, hd⟩ := id hl
  obtain ⟨⟨cls2, dd2, data2, sl2⟩, ho2, hc2, n2, hd2⟩ := id hb
  simp only at hc hd hc2 hd2
  subst hc hd hc2 hd2
  exact call_meets F.slot_tuple_lt ⟨_, ho, rfl⟩ F.entry_tuple_lt (F.args_tuple_lt_2 _ _) (tuple_ltAt l b items items2 n n2 dd dd2 sl sl2 e r) ⟨ho, ho2, he, hr, h⟩
open PySem.SeqAt PySem.W in
theorem oneLt_tups {xs ys : List PyData} {a b : Value} {as bs : List Addr} {Q : Bool → Shared → Prop} (ra : Reads s.heap a (.tuple xs) as) (rb : Reads s.heap b (.tuple ys) bs) (hal : alikeAll xs ys = true)
    (hu : A.units + min (PyData.tuple xs).depth (PyData.tuple ys).depth < cLine) (hq : Q (dataLt (.tuple xs) (.tuple ys)) s) : wpAny (model prog w) A (oneLt' true a b) Q E s := by
  cases ra with
  | @tuple l o vs n _ as₁ h1 h2 h3 h4 =>
    cases rb with
    | @tuple l' o' vs' n' _ bs₁ k1 k2 k3 k4 =>
      have n1 : vs.size = xs.length := by simpa using ReadsAll.length _ _ _ h4
      have n2 : vs'.size = ys.length := by simpa using ReadsAll.length _ _ _ k4
      rw [dataLt_tuple, ← firstLt_toks xs ys hal, ← n1, ← n2] at hq
      rw [oneLt'_eq]
      simp only [if_true]
      refine wpAny_bind (wpAny_cRoomFor (room_here hu) ?_)
      refine wpAny_bind (wpAny_callSpecialIfBound?_slot (T := "tuple") ⟨_, h1, h2⟩ F.slot_tuple_lt (call_tuple_lt (e := pairEq xs ys) (r := fun j => dataLt (xs.getD j .none) (ys.getD j .none)) ⟨_, h1, h2, _, h3⟩ ⟨_, k1, k2, _, k3⟩ (fun j j1 j2 => ?_) (fun j j1 j2 hj => ?_) ?_))
      · have := eqAt_alikeAll xs ys A.in1 s vs.toList vs'.toList _ _ h4 k4 hal (room_in hu) j (by simpa using j1) (by simpa using j2)
        simpa using this
      · have := rcLt_alikeAll xs ys A.in1 s vs.toList vs'.toList _ _ h4 k4 hal (room_in hu) j (by simpa using j1) (by simpa using j2) hj
        simpa using this
      · exact wpAny_truthy_bool hq
def notE : PyData → Bool
  | .tuple [] => false
  | _ => true
theorem keyLt_general (x y : Value) : keyLt' general' x y = oneLt' false x y := rfl
theorem firsts_any {M : Model} : ∀ {vs : List Value} {ds : List PyData}, EachIs (fun v d => ∃ as, Reads s.heap v d as) vs ds → (∀ d ∈ ds, ∃ xs, d = .tuple xs) →
    ∃ fs : List (Option Value), fs.map (·.isSome) = ds.map notE ∧ ∀ Q : List (Option Value) → Shared → Prop, Q fs s → wpAny M A (vs.mapM firstOfTuple') Q E s
  | _, _, .nil, _ => ⟨[], rfl, fun Q h => by rw [List.mapM_nil]; exact wpAny_pure h⟩
  | _, _, .cons (b := d) ⟨as, r⟩ t, ht => by
    obtain ⟨fs, e1, q1⟩ := firsts_any t fun d hd => ht d (List.mem_cons_of_mem _ hd)
    obtain ⟨xs, rfl⟩ := ht d (List.mem_cons_self ..)
    cases r with
    | @tuple a o vs n _ _ ho hc hd hr =>
      refine ⟨vs[0]? :: fs, ?_, fun Q h => ?_⟩
      · rw [List.map_cons, List.map_cons, e1]
        congr 1
        have hl : vs.size = xs.length := by simpa using PySem.SeqAt.ReadsAll.length _ _ _ hr
        cases xs with
        | nil => simp_all [notE]
        | cons x xs => simp_all [notE]
      · rw [List.mapM_cons]
        refine wpAny_bind ?_
        rw [PySem.W.kas_first_eq]
        refine wpAny_bind (PySem.W.Looks.here (show PySem.W.Looks M s.heap (typeOf (.ref a)) o.cls from (PySem.W.Looks.ld ho).andThen .now) ?_)
        rw [hc, if_neg (by first | decide | simp)]
        refine wpAny_bind (listItems_at ho hd (wpAny_pure ?_))
        exact wpAny_bind (q1 (fun bs s' => wpAny M A (pure (vs[0]? :: bs)) Q E s') (wpAny_pure h))
/-- tuples, one of them empty, can be sorted -/
theorem sorts_empty {vs : List Value} {ds : List PyData} (e : EachIs (fun v d => ∃ as, Reads s.heap v d as) vs ds) (hal : PySem.W.AllAlike ds) (ht : ∀ d ∈ ds, ∃ xs, d = .tuple xs) (hm : PyData.tuple [] ∈ ds) (hu : ∀ d, d ∈ ds → A.units + d.depth < cLine) : PySem.W.SortsAt prog w A s (PySem.W.dataKind s.heap ds) vs := by
  have room : ∀ {d d' : PyData}, d ∈ ds → A.units + min d.depth d'.depth < cLine := fun {d d'} hd => Nat.lt_of_le_of_lt (Nat.add_le_add_left (Nat.min_le_left _ _) _) (hu d hd)
  have lts : ∀ {xs ys : List PyData}, PyData.tuple xs ∈ ds → PyData.tuple ys ∈ ds → PySem.W.alikeAll xs ys = true := fun {xs ys} h1 h2 => by
    have := hal _ h1 _ h2
    simpa [PySem.W.alike] using this
  refine ⟨fun v hv => ?_, ?_⟩
  · obtain ⟨d, hd, as, r⟩ := e.left v hv
    exact ⟨_, PySem.W.dataKind_some hal hd r⟩
  · cases ds with
    | nil => simp at hm
    | cons d₀ ds₀ =>
      by_cases h0 : d₀ = .tuple []
      · refine ⟨oneType', ?_, fun h2 E Q hq => ?_⟩
        · intro E x y a b Q ha hb hq
          obtain ⟨d, as, hd, ra, rfl⟩ := PySem.W.dataKind_inv ha
          obtain ⟨d', as', hd', rb, rfl⟩ := PySem.W.dataKind_inv hb
          rw [keyLt'_oneType]
          obtain ⟨xs, rfl⟩ := ht d hd
          obtain ⟨ys, rfl⟩ := ht d' hd'
          exact oneLt_tups ra rb (lts hd hd') (room hd) hq
        · obtain ⟨fs, e1, q1⟩ := firsts_any (M := model prog w) (A := A) (E := E) e ht
          obtain ⟨v₀, vr, rfl⟩ : ∃ v₀ vr, vs = v₀ :: vr := by
            cases e with
            | cons _ _ => exact ⟨_, _, rfl⟩
          rw [kat_kind_eq, List.mapM_toArray, map_eq_pure_bind]
          refine wpAny_bind (wpAny_bind (q1 _ (wpAny_pure ?_)))
          match fs, e1 with
          | f :: fs, e1 =>
            have hf : f = none := by
              have := (List.cons.inj e1).1
              simp only [h0, notE] at this
              cases f with
              | none => rfl
              | some _ => cases this
            subst hf
            rw [if_neg (by simp), if_neg (by simp)]
            rw [oneTypeOnly'_eq, List.mapM_toArray, map_eq_pure_bind]
            refine wpAny_bind (wpAny_bind (wpAny_bind (PySem.W.kas_mapM (r := Value.type "tuple") _ (fun v hv Q' hq => ?_) (wpAny_pure ?_))))
            · obtain ⟨d, hd, as, r⟩ := e.left v hv
              obtain ⟨xs, rfl⟩ := ht d hd
              exact (PySem.W.looks_reads r).here hq
            · have hall : ((List.map (fun _ => Value.type "tuple") (v₀ :: vr)).toArray.all fun x => x == Value.type "tuple") = true := by
                simp only [List.all_toArray, List.all_map, List.all_eq_true]
                intro _ _
                exact beq_self_eq_true _
              have h00 : (List.map (fun _ => Value.type "tuple") (v₀ :: vr)).toArray[0]? = some (Value.type "tuple") := by simp
              rw [h00]
              simp only [hall, if_true]
              exact wpAny_pure (wpAny_pure hq)
      · refine ⟨general', ?_, fun h2 E Q hq => ?_⟩
        · intro E x y a b Q ha hb hq
          obtain ⟨d, as, hd, ra, rfl⟩ := PySem.W.dataKind_inv ha
          obtain ⟨d', as', hd', rb, rfl⟩ := PySem.W.dataKind_inv hb
          rw [keyLt_general]
          refine PySem.W.oneLt_alike (fun h => by cases h) ra rb (hal d hd d' hd') ?_ (room hd) hq
          obtain ⟨xs, rfl⟩ := ht d hd
          simp
        · obtain ⟨fs, e1, q1⟩ := firsts_any (M := model prog w) (A := A) (E := E) e ht
          rw [kat_kind_eq, List.mapM_toArray, map_eq_pure_bind]
          refine wpAny_bind (wpAny_bind (q1 _ (wpAny_pure ?_)))
          have hall : ¬ (fs.toArray.all fun x => x.isSome) = true := by
            intro z
            rw [List.all_toArray, List.all_eq_true] at z
            have : (notE (PyData.tuple [])) ∈ fs.map (·.isSome) := by
              rw [e1]
              exact List.mem_map.mpr ⟨_, hm, rfl⟩
            obtain ⟨f, hf, ef⟩ := List.mem_map.mp this
            rw [z f hf] at ef
            simp [notE] at ef
          rw [if_neg hall]
          match fs, e1 with
          | f :: fs, e1 =>
            have hf : f.isSome = true := by
              have := (List.cons.inj e1).1
              obtain ⟨zs, rfl⟩ := ht d₀ (List.mem_cons_self ..)
              refine this.trans ?_
              cases zs with
              | nil => exact absurd rfl h0
              | cons _ _ => rfl
            obtain ⟨g, rfl⟩ := Option.isSome_iff_exists.mp hf
            rw [if_pos (by simp)]
            exact wpAny_pure hq
end
/-! ## sorted -/
def alikes (xs : List PyData) : Bool := xs.all fun d => xs.all fun e => PySem.W.alike d e
def isTupC : PyData → Bool
  | .tuple (_ :: _) => true
  | _ => false
def noTup : PyData → Bool
  | .tuple _ => false
  | .none => false
  | _ => true
def isTupA : PyData → Bool
  | .tuple _ => true
  | _ => false
def sortOk (xs : List PyData) : Bool := alikes xs && (xs.all isTupA || xs.all noTup) && xs.all (fun d => decide (PyData.depth d ≤ 60)) && decide (xs.length ≤ sizeLine)
/-! mergeSort, such that the kernel can run it -/
section
variable {α : Type} (le : α → α → Bool)
def mergeK : Nat → List α → List α → List α
  | 0, xs, ys => xs ++ ys
  | _ + 1, [], ys => ys
  | _ + 1, x :: xs, [] => x :: xs
  | n + 1, x :: xs, y :: ys => if le x y = true then x :: mergeK n xs (y :: ys) else y :: mergeK n (x :: xs) ys
def msK : Nat → List α → List α
  | 0, xs => xs
  | _ + 1, [] => []
  | _ + 1, [a] => [a]
  | n + 1, a :: b :: xs => mergeK le (a :: b :: xs).length (msK n ((a :: b :: xs).take ((xs.length + 3) / 2))) (msK n ((a :: b :: xs).drop ((xs.length + 3) / 2)))
theorem mergeK_eq : ∀ (n : Nat) (xs ys : List α), xs.length + ys.length ≤ n → mergeK le n xs ys = List.merge xs ys le
  | 0, [], [], _ => by simp [mergeK]
  | 0, _ :: _, _, h => by simp at h
  | 0, [], _ :: _, h => by simp at h
  | n + 1, [], ys, _ => by simp [mergeK]
  | n + 1, x :: xs, [], _ => by simp [mergeK]
  | n + 1, x :: xs, y :: ys, h => by
    simp only [List.length_cons] at h
    rw [mergeK, List.cons_merge_cons, mergeK_eq n xs (y :: ys) (by rw [List.length_cons]; omega), mergeK_eq n (x :: xs) ys (by rw [List.length_cons]; omega)]
theorem msK_eq : ∀ (n : Nat) (xs : List α), xs.length ≤ n → msK le n xs = xs.mergeSort le
  | 0, [], _ => by simp [msK]
  | 0, _ :: _, h => by simp at h
  | n + 1, [], _ => by simp [msK]
  | n + 1, [a], _ => by simp [msK]
  | n + 1, a :: b :: xs, h => by
    simp only [List.length_cons] at h
    have h1 : ((a :: b :: xs).take ((xs.length + 3) / 2)).length ≤ n := by
      rw [List.length_take, List.length_cons, List.length_cons]
      omega
    have h2 : ((a :: b :: xs).drop ((xs.length + 3) / 2)).length ≤ n := by
      rw [List.length_drop, List.length_cons, List.length_cons]
      omega
    rw [msK, msK_eq n _ h1, msK_eq n _ h2, mergeK_eq]
    · conv => rhs; rw [List.mergeSort]
      simp [List.MergeSort.Internal.splitInTwo, List.splitAt_eq]
    · rw [List.length_mergeSort, List.length_mergeSort, List.length_take, List.length_drop]
      simp only [List.length_cons]
      omega
end
def sorts (xs : List PyData) : List PyData := msK (fun a b => !PySem.W.dataLt b a) xs.length xs
theorem sorts_eq (xs : List PyData) : sorts xs = xs.mergeSort fun a b => !PySem.W.dataLt b a := msK_eq _ _ _ (Nat.le_refl _)
def gSorted : List PyData → Option PyData
  | [.list xs] => if sortOk xs = true then some (.list (sorts xs)) else none
  | [.tuple xs] => if sortOk xs = true then some (.list (sorts xs)) else none
  | _ => none
theorem sort_prem {xs : List PyData} (h : sortOk xs = true) : PySem.W.AllAlike xs ∧ (PySem.W.Sortable xs ∨ (∀ d ∈ xs, ∃ ys, d = .tuple ys) ∧ PyData.tuple [] ∈ xs) ∧ (∀ d ∈ xs, PyData.depth d ≤ 60) ∧ xs.length ≤ sizeLine := by
  obtain ⟨h, h4⟩ := Bool.and_eq_true_iff.mp h
  obtain ⟨h, h3⟩ := Bool.and_eq_true_iff.mp h
  obtain ⟨h1, h2⟩ := Bool.and_eq_true_iff.mp h
  refine ⟨fun d hd d' hd' => List.all_eq_true.mp (List.all_eq_true.mp h1 d hd) d' hd', ?_, fun d hd => of_decide_eq_true (List.all_eq_true.mp h3 d hd), of_decide_eq_true h4⟩
  rcases (Bool.or_eq_true _ _).mp h2 with h | h
  · have ha : ∀ d ∈ xs, ∃ ys, d = .tuple ys := fun d hd => by
      have := List.all_eq_true.mp h d hd
      cases d with
      | tuple ys => exact ⟨ys, rfl⟩
      | _ => cases this
    by_cases hm : PyData.tuple [] ∈ xs
    · exact .inr ⟨ha, hm⟩
    · refine .inl (.inl fun d hd => ?_)
      obtain ⟨ys, rfl⟩ := ha d hd
      cases ys with
      | nil => exact absurd hd hm
      | cons x r => exact ⟨x, r, rfl⟩
  · refine .inl (.inr fun d hd => ?_)
    have := List.all_eq_true.mp h d hd
    refine ⟨fun e => ?_, fun ys e => ?_⟩ <;> (subst e; cases this)
/-! ## sorted(tuple) -/
section
variable {prog : Program} {w : World} {A : Around} {s : Shared} {E : Value → Shared → Prop}
theorem collect_tup {l : Addr} {vs : List Value} {Q : List Value → Shared → Prop} (hl : s.heap.IsTuple l vs.toArray)
    (h : Q vs { s with heap := (s.heap.push (seqObj "list" #[] 0)).update s.heap.objs.size (Obj.mapSeq (· ++ vs.toArray)) }) (hsz : vs.length ≤ sizeLine) :
    wpAny (model prog w) A (collect (.ref l)) Q E s := by
  obtain ⟨o, ho, hc, n, hd⟩ := id hl
  unfold collect
  refine wpAny_bind (wpAny_runValue (codeAny_builtin entry_proto_collect' ?_))
  show wpAny _ _ (do again (.builtin "list.__iadd__" ⟨[← newList [], .ref l], []⟩)) _ _ s
  refine wpAny_bind (wpAny_newList (wpAny_pure ⟨Code.quiet_builtin _ (by decide +kernel), codeAny_builtin entry_list_iadd' ?_⟩))
  show wpAny _ _ (Builtin.List.listExtendWith (.ref s.heap.objs.size) (.ref l) (.ref s.heap.objs.size)) _ _ { s with heap := s.heap.push (seqObj "list" #[] 0) }
  unfold Builtin.List.listExtendWith
  have ho' : (s.heap.push (seqObj "list" #[] 0)).get? l = some o := Heap.get?_push_of_some _ ho
  refine wpAny_bind (wpAny_typeOf (T := "tuple") ⟨o, ho', hc⟩ ?_)
  have ht : (Value.type "tuple" == Value.type "tuple") = true := by rfl
  rw [if_pos (by rw [ht]; simp)]
  refine wpAny_bind (listItems_at ho' hd ?_)
  refine wpAny_bind (listItems_at (xs := #[]) (n := 0) (Heap.get?_push_size _ rfl) rfl ?_)
  rw [if_neg (by simp)]
  refine wpAny_bind (listUpdate_at (xs := #[]) (n := 0) (Heap.get?_push_size _ rfl) rfl ?_ (Nat.zero_le _) (by show (#[] ++ vs.toArray).size ≤ sizeLine + 1; simp only [Array.size_append, List.size_toArray, List.length_nil]; omega))
  refine wpAny_pure ?_
  show wpAny (model prog w) A (do
      let o ← load s.heap.objs.size
      match o.data with
      | .seq xs _ => pure xs.toList
      | _ => unsupported "internal:collect") Q E { s with heap := (s.heap.push (seqObj "list" #[] 0)).update s.heap.objs.size (Obj.mapSeq (· ++ vs.toArray)) }
  refine wpAny_bind (wpAny_load (get?_update_seq (Heap.get?_push_size _ rfl) _) ?_)
  show wpAny _ _ (pure ((#[] : Array Value) ++ vs.toArray).toList) Q E _
  rw [show ((#[] : Array Value) ++ vs.toArray).toList = vs by simp]
  exact wpAny_pure h
theorem sorted_of_sortT {l : Addr} {vs : List Value} {Q : Value → Shared → Prop} (hl : s.heap.IsTuple l vs.toArray) (hL : vs.length ≤ sizeLine)
    (body : ∀ E' : Value → Shared → Prop, wpAny (model prog w) A.in1.in1 (Builtin.«list.sort» ⟨[.ref (s.heap.objs.size + 1)], []⟩) (fun f s' => f = .done (.ret .none) ∧ Q (.ref (s.heap.objs.size + 1)) s') E' { s with heap := PySem.W.copyHeap s.heap vs }) :
    wpAny (model prog w) A (call (.builtin "sorted") [.ref l]) Q E s := by
  refine Calls.call_function_entry kind_sorted plain_sorted entry_sorted (args_sorted1 _) ?_
  unfold Builtin.«sorted»
  refine wpAny_bind (m := checkCount "sorted" 1 1 _) (wpAny_pure ?_)
  refine wpAny_bind (collect_tup hl ?_ hL)
  refine wpAny_bind (wpAny_newList ?_ hL)
  have hsz : ((s.heap.push (seqObj "list" #[] 0)).update s.heap.objs.size (Obj.mapSeq (· ++ vs.toArray))).objs.size = s.heap.objs.size + 1 := by
    rw [Heap.size_update, size_push']
  show wpAny _ _ _ _ _ { s with heap := PySem.W.copyHeap s.heap vs }
  rw [hsz]
  refine wpAny_bind (wpAny_holding (PyProof.Rows.wpAny_call_entry_kw slot_list_sort ⟨_, PySem.W.copyHeap_at s.heap vs, rfl⟩ entry_list_sort ?body (args_list_sort _)))
  case body =>
    show wpAny (model prog w) A.in1.in1 (Builtin.«list.sort» ⟨[.ref (s.heap.objs.size + 1)], []⟩) _ _ _
    refine wpAny_mono (body _) (fun f s' hf => ?_) fun _ _ e => e
    obtain ⟨rfl, hq⟩ := hf
    exact ⟨_, rfl, wpAny_pure ⟨_, rfl, hq⟩⟩
end
/-- sorted, also of tuples of which one is empty -/
theorem sorted_all {prog : Program} {w : World} {A : Around} {E : Value → Shared → Prop} {s : Shared} {β : Type} {vs : List Value} {bs : List β} {enc : β → PyData} {R : Value → β → Prop} {l : Addr} {Q : Value → Shared → Prop} (hl : s.heap.IsList l vs.toArray ∨ s.heap.IsTuple l vs.toArray) (e : EachIs R vs bs) (er : EachIs (fun v b => ∃ as, Reads s.heap v (enc b) as) vs bs) (hal : PySem.W.AllAlike (bs.map enc))
    (hk : PySem.W.Sortable (bs.map enc) ∨ (∀ d ∈ bs.map enc, ∃ ys, d = .tuple ys) ∧ PyData.tuple [] ∈ bs.map enc) (hL : bs.length ≤ sizeLine)
    (hu : ∀ b, b ∈ bs → A.units + 2 + (enc b).depth < cLine) (h : ∀ out, out.length = bs.length → EachIs R out (bs.mergeSort (PySem.W.dataLe false enc)) → Q (.ref (s.heap.objs.size + 1)) { s with heap := sortedAll s.heap vs (List.toArray out) }) :
    wpAny (model prog w) A (call (.builtin "sorted") [.ref l]) Q E s := by
  have er' : EachIs (fun v b => ∃ as, Reads (PySem.W.sortingHeap (PySem.W.copyHeap s.heap vs) (s.heap.objs.size + 1) vs) v (enc b) as) vs bs := er.mono fun _ _ ⟨as, r⟩ => ⟨as, PyProof.Rows.Reads.keeps (fun _ _ => PySem.W.sorting_copy_old) r⟩
  have em := PySem.W.each_map (R := fun v d => ∃ as, Reads (PySem.W.sortingHeap (PySem.W.copyHeap s.heap vs) (s.heap.objs.size + 1) vs) v d as) enc er'
  have key : PySem.W.SortsAt prog w A.in1.in1 { s with heap := PySem.W.sortingHeap (PySem.W.copyHeap s.heap vs) (s.heap.objs.size + 1) vs } (PySem.W.dataKind (PySem.W.sortingHeap (PySem.W.copyHeap s.heap vs) (s.heap.objs.size + 1) vs) (bs.map enc)) vs := by
    rcases hk with hk | ⟨h1, h2⟩
    · exact PySem.W.SortsAt.data (s := { s with heap := PySem.W.sortingHeap (PySem.W.copyHeap s.heap vs) (s.heap.objs.size + 1) vs }) em hal hk (PySem.W.bound_map hu)
    · exact sorts_empty (s := { s with heap := PySem.W.sortingHeap (PySem.W.copyHeap s.heap vs) (s.heap.objs.size + 1) vs }) em hal h1 h2 (PySem.W.bound_map hu)
  have hQ := h _ (by rw [PySem.W.sortVals_length false rfl]; exact e.length) (PySem.W.sortVals_data false e er' hal)
  rcases hl with hl | hl
  · exact PySem.W.sorted_vals hl key (by rw [e.length]; exact hL) hQ
  · exact sorted_of_sortT hl (by rw [e.length]; exact hL) fun _ => PySem.W.list_sort_vals (s := { s with heap := PySem.W.copyHeap s.heap vs }) (PySem.W.copyHeap_at s.heap vs) key (by rw [e.length]; exact hL) ⟨rfl, hQ⟩
theorem each_zip {X : Cx} {F : Hp} : ∀ {vs : List V} {ds : List PyData} {us : List Value}, Reps X.K F vs ds → Vals vs us → EachIs (fun u (b : PyData × V) => RelV b.2 u ∧ Rep X.K F b.2 b.1) us (ds.zip vs)
  | _, _, _, .nil, r => by cases r; exact .nil
  | _, _, _, .cons h q, r => by
    cases r with
    | cons r1 r2 => exact .cons ⟨r1, h⟩ (each_zip q r2)
theorem each_out {X : Cx} {F : Hp} : ∀ {us : List Value} {bs : List (PyData × V)}, EachIs (fun u (b : PyData × V) => RelV b.2 u ∧ Rep X.K F b.2 b.1) us bs → Vals (bs.map (·.2)) us ∧ Reps X.K F (bs.map (·.2)) (bs.map (·.1))
  | _, _, .nil => ⟨.nil, .nil⟩
  | _, _, .cons h t => ⟨.cons h.1 (each_out t).1, .cons h.2 (each_out t).2⟩
/-- a call that makes a list -/
def rNew (K : Frag) (g : List PyData → Option (List PyData)) : List V → Hp → VK → Prop := fun xs H Q => ∃ F ds d, Le F H ∧ DRs K F H xs ds ∧ g ds = some d ∧ ∀ p vs, H p = none → Reps K F vs d → Q (.ref p) (L2.upd H p (.lst vs))
def gSortL : List PyData → Option (List PyData)
  | [.list xs] => if sortOk xs = true then some (sorts xs) else none
  | [.tuple xs] => if sortOk xs = true then some (sorts xs) else none
  | _ => none
theorem c_sortL {X : Cx} (hu : X.A.units + 64 < cLine) : CallR X (.builtin "sorted") (rNew X.K gSortL) := by
  intro pins s σ H xs us Q I r ⟨F, ds, d, l, hx, e, q⟩
  have main : ∀ (ys : List PyData) (a : Addr) (vs : List V) (its : List Value), sortOk ys = true → d = sorts ys → Reps X.K F vs ys → Vals vs its → (s.heap.IsList a its.toArray ∨ s.heap.IsTuple a its.toArray) → wpAny (model X.prog X.w) X.A (call (.builtin "sorted") [.ref a]) (EP X pins σ Q) X.xe s := by
    intro ys a vs its hc ed rr rv hl
    subst ed
    obtain ⟨h1, h2, h3, h4⟩ := sort_prem hc
    have ez := each_zip rr rv
    have hm : (ys.zip vs).map (·.1) = ys := List.map_fst_zip (Nat.le_of_eq rr.length.symm)
    have hlz : (ys.zip vs).length = ys.length := by
      have := congrArg List.length hm
      simpa using this
    refine sorted_all (enc := fun b : PyData × V => b.1) hl ez (ez.mono fun u b hb => Rep.reads I l u hb.2 hb.1) (by rw [hm]; exact h1) (by rw [hm]; exact h2) (by rw [hlz]; exact h4) (fun b hb => ?_) fun out ho eo => ?_
    · have := h3 b.1 (by rw [← hm]; exact List.mem_map_of_mem hb)
      omega
    · obtain ⟨e1, e2⟩ := each_out eo
      have es : ((ys.zip vs).mergeSort (PySem.W.dataLe false fun b : PyData × V => b.1)).map (·.1) = sorts ys := by
        rw [sorts_eq, List.map_mergeSort (s := fun a b => !PySem.W.dataLt b a), hm]
        intro a _ b _
        rw [PySem.W.dataLe_eq]
        rfl
      rw [es] at e2
      have hlen : (((ys.zip vs).mergeSort (PySem.W.dataLe false fun b : PyData × V => b.1)).map (·.2)).length ≤ sizeLine := by
        rw [List.length_map, List.length_mergeSort, hlz]
        exact h4
      obtain ⟨ep, he'⟩ := PyProof.Rows.sortedAll_at s.heap its out.toArray
      have n := I.hok.fresh (Nat.le_succ s.heap.objs.size)
      refine ⟨.ref _, L2.upd H (s.heap.objs.size + 1) (.lst (((ys.zip vs).mergeSort (PySem.W.dataLe false fun b : PyData × V => b.1)).map (·.2))), I.laid (t' := s.toks) (fun _ _ => PyProof.Rows.sortedAll_old) (Nat.le_succ _) ⟨hlen, out, ep, e1, he'⟩, rfl, ?_⟩
      exact q _ _ n e2
  match ds, e with
  | [.list ys], e =>
    simp only [gSortL] at e
    split at e
    rotate_left
    · cases e
    rename_i hc
    cases e
    obtain ⟨v, rfl, h⟩ := hx.one
    obtain ⟨a, vs, rfl, hs, rr⟩ := h.list l
    obtain ⟨u, rfl, rv⟩ := Vals.one r
    cases rv
    obtain ⟨its, rv, hl, hz⟩ := I.list hs
    exact main ys _ vs its hc rfl rr rv (.inl hl.isList)
  | [.tuple ys], e =>
    simp only [gSortL] at e
    split at e
    rotate_left
    · cases e
    rename_i hc
    cases e
    obtain ⟨v, rfl, h⟩ := hx.one
    obtain ⟨a, vs, rfl, hs, rr⟩ := h.tuple l
    obtain ⟨u, rfl, rv⟩ := Vals.one r
    cases rv
    obtain ⟨its, rv, hl, hz⟩ := I.tuple hs
    exact main ys _ vs its hc rfl rr rv (.inr hl)
theorem call_weak {X : Cx} {f : Value} {r r' : List V → Hp → VK → Prop} (h : CallR X f r) (w : ∀ xs H Q, r' xs H Q → r xs H Q) : CallR X f r' := fun pins s σ H xs us Q I rv q => h pins s σ H xs us Q I rv (w xs H Q q)
theorem c_sorted {X : Cx} (hu : X.A.units + 64 < cLine) : CallR X (.builtin "sorted") (rF X.K gSorted) := call_weak (c_sortL hu) fun xs H Q ⟨F, ds, d, l, hx, e, q⟩ => by
  match ds, e with
  | [.list ys], e =>
    simp only [gSorted] at e
    split at e
    rotate_left
    · cases e
    rename_i hc
    cases e
    refine ⟨F, [.list ys], sorts ys, l, hx, by simp [gSortL, hc], fun p vs n rr => ?_⟩
    have z := Ext.new (o := .lst vs) l n
    exact q _ _ _ z (.lst upd_same (rr.mono z.fle))
  | [.tuple ys], e =>
    simp only [gSorted] at e
    split at e
    rotate_left
    · cases e
    rename_i hc
    cases e
    refine ⟨F, [.tuple ys], sorts ys, l, hx, by simp [gSortL, hc], fun p vs n rr => ?_⟩
    have z := Ext.new (o := .lst vs) l n
    exact q _ _ _ z (.lst upd_same (rr.mono z.fle))
end Ev

set_option Elab.async false
set_option linter.all false
set_option maxRecDepth 100000
set_option maxHeartbeats 1000000
namespace Ev
open PySem PySem.Spec PyProof.Rows L2
/-! ## row[k] = e -/
def setAt (ρ : Ens) (i : Nat) (k : Int) (d : PyData) : Option Ens := (ownL ρ i).bind fun xs => (ixN xs.length k).map fun j => ρ.set i (.ow (.lst (xs.set j d)))
def sPut (i : Nat) (f fi : Den PyData) : DenS := fun ρ => (f ρ).out fun d ρ1 => match ownL ρ1 i with
  | none => .bad
  | some _ => (fi ρ1).out fun z ρ2 => match z with
    | .int k => match setAt ρ2 i k d with
      | some ρ3 => .nx ρ3
      | none => .bad
    | _ => .bad
/-- targets that change lists: the names stay -/
def tH (C : En) (f : DenG) : TG := fun v σ H Q => ∃ G F0 ρ F d ρ', R C G F0 ρ F σ H ∧ Rep C.K F v d ∧ f d ρ = some ρ' ∧ ∀ F' H', R C G F0 ρ' F' σ H' → Le F F' → Q σ H'
def tHs (C : En) (f : List PyData → Ens → Option Ens) : TGs := fun vs σ H Q => ∃ G F0 ρ F ds ρ', R C G F0 ρ F σ H ∧ Reps C.K F vs ds ∧ f ds ρ = some ρ' ∧ ∀ F' H', R C G F0 ρ' F' σ H' → Le F F' → Q σ H'
def hSub (i : Nat) (fi : Den PyData) : DenG := fun d ρ => match ownL ρ i with
  | none => none
  | some _ => match fi ρ with
    | .ok (.int k) ρ2 => setAt ρ2 i k d
    | _ => none
section
variable {X : Cx} {io : List Nat} {s0 : L2.St} {W : WX} {c : Bool} {e ei : Expr} {es : List Expr} {fe fi : Den PyData} {f : DenG} {fs : List PyData → Ens → Option Ens} {pos p tpos : Pos} {i k : Nat} {x : Str} {C : En} {G F0 F H : Hp} {ρ : Ens} {σ : L2.St}
theorem put_at (r : R C G F0 ρ F σ H) {z : Int} {d : PyData} {v : V} {a : Addr} {ρ' : Ens} (ea : σ[i]? = some (some (.ref a))) (p : Rep C.K F v d) (e : setAt ρ i z d = some ρ') : ∃ xs j, H a = some (.lst xs) ∧ ixN xs.length z = some j ∧ R C G F0 ρ' F σ (L2.upd H a (.lst (xs.set j v))) := by
  unfold setAt at e
  cases e1 : ownL ρ i with
  | none => rw [e1] at e; cases e
  | some xs =>
    rw [e1] at e
    obtain ⟨j, e2, e3⟩ := Option.map_eq_some_iff.mp (show (ixN xs.length z).map (fun j => ρ.set i (.ow (.lst (xs.set j d)))) = some ρ' from e)
    subst e3
    obtain ⟨b, us, e4, e5, q⟩ := r.lst (ownL_eq e1)
    rw [ea] at e4
    cases e4
    exact ⟨us, j, e5, by rw [q.length]; exact e2, r.write (ownL_eq e1) ea (q.set p j)⟩
theorem ms_put (hN : X.N[i]? = some x) (hv : Vis X.env.scope x) (hd : (x == ("__debug__" : Str)) = false) (hcd : (x == ("__classdict__" : Str)) = false) (he : PE X e (tE (en X io s0) W false fe)) (hi : PE X ei (tE (en X io s0) W false fi))
    (hs : swapsWithSole [.Subscript (.Name x p) ei tpos] e pos.line X.env = pure false) (hw : swappedStores [.Subscript (.Name x p) ei tpos] e X.env = pure none) (ha : ∀ v, assign (.Subscript (.Name x p) ei tpos) X.env v = (do
      let ov ← holding [v] (eval (.Name x p) X.env)
      let iv ← holding [v, ov] (eval ei X.env)
      standAt tpos
      holding [v, ov, iv] (setItem ov iv v)
      release [v, ov, iv] [])) : PS X (.Assign [.Subscript (.Name x p) ei tpos] e pos) (tS (en X io s0) W (sPut i fe fi)) :=
  ps_weak (ps_asg he (pg_sub (pe_var hN hv hd hcd) hi set_list ha) hs hw (by rw [asg_cons rfl]; rfl)) fun D σ H ⟨G, F0, ρ, F, r, q⟩ =>
  ⟨G, F0, ρ, F, r, (Post.out q).imp fun v F1 H1 d ρ1 r1 l1 k1 p1 q1 => by
    cases e1 : ownL ρ1 i with
    | none => rw [e1] at q1; exact q1.elim
    | some xs =>
      rw [e1] at q1
      obtain ⟨a, us, e2, e3, q3⟩ := r1.lst (ownL_eq e1)
      refine ⟨.ref a, e2, G, F0, ρ1, F1, r1, (Post.out q1).imp fun u F2 H2 z ρ2 r2 l2 k2 p2 q2 => ?_⟩
      cases z with
      | int m =>
        cases p2
        cases e4 : setAt ρ2 i m d with
        | none => simp only [e4] at q2; exact q2.elim
        | some ρ3 =>
          simp only [e4] at q2
          obtain ⟨ws, j, h1, h2, r3⟩ := put_at r2 e2 (Rep.mono l2 p1) e4
          exact ⟨a, ws, m, j, rfl, rfl, h1, h2, q2 σ F2 _ r3 (.refl _)⟩
      | _ => exact q2.elim⟩
theorem mh_sub (hN : X.N[i]? = some x) (hv : Vis X.env.scope x) (hd : (x == ("__debug__" : Str)) = false) (hcd : (x == ("__classdict__" : Str)) = false) (hi : PE X ei (tE (en X io s0) WF false fi)) (ha : ∀ v, assign (.Subscript (.Name x p) ei tpos) X.env v = (do
      let ov ← holding [v] (eval (.Name x p) X.env)
      let iv ← holding [v, ov] (eval ei X.env)
      standAt tpos
      holding [v, ov, iv] (setItem ov iv v)
      release [v, ov, iv] [])) : PG X (.Subscript (.Name x p) ei tpos) (tH (en X io s0) (hSub i fi)) := pg_weak (pg_sub (pe_var hN hv hd hcd) hi set_list ha) fun v σ H Q ⟨G, F0, ρ, F, d, ρ', r, p, e, q⟩ => by
  unfold hSub at e
  cases e1 : ownL ρ i with
  | none => rw [e1] at e; cases e
  | some xs =>
    rw [e1] at e
    obtain ⟨a, us, e2, e3, q3⟩ := r.lst (ownL_eq e1)
    refine ⟨.ref a, e2, G, F0, ρ, F, r, ?_⟩
    cases e4 : fi ρ with
    | ok z ρ2 =>
      rw [e4] at e
      intro u F1 H1 r1 l1 k1 p1
      cases z with
      | int m =>
        cases p1
        obtain ⟨ws, j, h1, h2, r3⟩ := put_at r1 e2 (Rep.mono l1 p) e
        exact ⟨a, ws, m, j, rfl, rfl, h1, h2, q F1 _ r3 l1⟩
      | _ => cases e
    | exc y ρ2 => rw [e4] at e; cases e
    | bad => rw [e4] at e; cases e
theorem mhs_nil : PGs X [] (tHs (en X io s0) gsNil) := pgs_weak pgs_nil fun v σ H Q ⟨G, F0, ρ, F, d, ρ', r, p, e, q⟩ => by
  cases d with
  | nil =>
    cases e
    cases p
    exact ⟨rfl, q F H r (.refl _)⟩
  | cons _ _ => cases e
theorem mhs_cons (hs : isStar e = false) (h1 : PG X e (tH (en X io s0) f)) (h2 : PGs X es (tHs (en X io s0) fs)) : PGs X (e :: es) (tHs (en X io s0) (gsCons f fs)) := pgs_weak (pgs_cons h1 h2 (by rw [asg_cons hs]; rfl)) fun v σ H Q ⟨G, F0, ρ, F, d, ρ', r, p, e, q⟩ => by
  cases d with
  | nil => cases e
  | cons d ds =>
    cases p with
    | cons p1 p2 =>
      unfold gsCons at e
      cases e1 : f d ρ with
      | none => simp [e1] at e
      | some ρ1 =>
        simp [e1] at e
        exact ⟨_, _, rfl, G, F0, ρ, F, d, ρ1, r, p1, e1, fun F1 H1 r1 l1 => ⟨G, F0, ρ1, F1, ds, ρ', r1, p2.mono l1, e, fun F2 H2 r2 l2 => q F2 H2 r2 (l1.trans l2)⟩⟩
theorem mh_tup (hc : X.calm = true) (hs : ∀ y ∈ es, isStar y = false) (h : PGs X es (tHs (en X io s0) fs)) : PG X (.Tuple es k pos) (tH (en X io s0) (gTp es.length fs)) := pg_weak (pg_tup hc h (asg_len hs).1 (asg_len hs).2) fun v σ H Q ⟨G, F0, ρ, F, d, ρ', r, p, e, q⟩ => by
  cases d with
  | tuple ds =>
    simp only [gTp] at e
    split at e
    · rename_i hl
      cases p with
      | tup h1 r1 => exact ⟨_, _, rfl, r.sub.sqT h1, by rw [r1.length]; exact hl, G, F0, ρ, F, ds, ρ', r, r1, e, q⟩
    · cases e
  | _ => cases e
theorem ms_asgH {tg : Expr} (hs : swapsWithSole [tg] e pos.line X.env = pure false) (hw : swappedStores [tg] e X.env = pure none) (hst : isStar tg = false) (he : PE X e (tE (en X io s0) W false fe)) (hg : PG X tg (tH (en X io s0) f)) : PS X (.Assign [tg] e pos) (tS (en X io s0) W (sAsg fe f)) := ps_weak (ps_asg he hg hs hw (by rw [asg_cons hst]; rfl)) fun D σ H ⟨G, F0, ρ, F, r, q⟩ =>
  ⟨G, F0, ρ, F, r, (Post.out q).imp fun v F1 H1 d ρ1 r1 l1 k1 p1 q1 => by
    cases e : f d ρ1 with
    | none => rw [e] at q1; exact q1.elim
    | some ρ2 =>
      rw [e] at q1
      exact ⟨G, F0, ρ1, F1, d, ρ2, r1, p1, e, fun F2 H2 r2 l2 => q1 σ F2 H2 r2 l2⟩⟩
end
/-! ## the law's end -/
theorem law_G {P : Program} {w : World} {K : Frag} {mg mb : Str → Option Value} {k : Nat} {fa l : Addr} {fd : FuncData} {x : Str} {sp : Sp} {s1 : Shared} {us : List Value} {ns : List Int} (KX : K.In s1.heap) (hns : s1.heap.Ns mainGlobals mg) (hb : s1.heap.Ns builtinsNs mb) (hbb : ∀ x : Str, x ≠ "__name__" → mb x = bootBuiltins x) (hlim : s1.heap.NoLimit)
    (hS : SysD s1.heap) (hg : s1.gens = #[]) (hl : s1.heap.get? l = some { cls := .type "list", data := .seq us.toArray }) (hi : IntsAre us ns) (hz : ns.length ≤ sizeLine) (hr : Room k callerA) (gd : callerA.guards = some [])
    (F : ∀ base : Heap, K.In base → base.Ns mainGlobals mg → SysD base → FnG P w K mg base k fa fd [x] sp) (hbind : ∀ (s : Shared) (u : Value), BindsTo s fd ⟨[u], []⟩ [(x, u)]) (hsp : ∀ H : Hp, SqL K H l (ns.map V.int) → sp [.ref l] H (fun v _ => v = .bl true) fun _ _ _ => False) :
    codeAny (model P w) callerA (.call (.ref fa) ⟨[.ref l], []⟩) (fun r s' => r = .ok (.ret (.bool true)) ∧ OldK s1.heap s'.heap ∧ s'.os = s1.os ∧ AllBare s'.gens) s1 := by
  have rv := vals_ints hi
  have rest : ∀ T : Hp, (∀ b, T b = none ∨ ∃ o xs, T b = some (.frz o (.lst xs))) → SqL K T l (ns.map V.int) → HOk P w T s1.heap → (∀ b, T b ≠ none → b = l) → (T l ≠ none → K.lookup l = none) →
      codeAny (model P w) callerA (.call (.ref fa) ⟨[.ref l], []⟩) (fun r s' => r = .ok (.ret (.bool true)) ∧ OldK s1.heap s'.heap ∧ s'.os = s1.os ∧ AllBare s'.gens) s1 := by
    intro T hO hQ ok hA hK
    have hid : ∀ {b : Addr} {o : Obj}, s1.heap.get? b = some o → T b = none → (hidT s1.heap T).get? b = some o := fun e n => hidT_get e n
    have free : ∀ {b : Addr} {o : Obj} {es : Array DictEntry} {ep : Nat}, s1.heap.get? b = some o → o.data = .dict es ep → T b = none := fun {b o es ep} e d => by
      cases q : T b with
      | none => rfl
      | some z =>
        obtain rfl : b = l := hA b (by rw [q]; simp)
        rw [hl] at e
        cases e
        cases (show Data.seq us.toArray _ = Data.dict es ep from d)
    have ns' : ∀ {b : Addr} {m : Str → Option Value}, s1.heap.Ns b m → (hidT s1.heap T).Ns b m := fun {b m} ⟨o, es, ep, e, d, r⟩ => ⟨o, es, ep, hid e (free e d), d, r⟩
    have kin : K.In (hidT s1.heap T) := fun b o e => hid (KX b o e) (by
      cases q : T b with
      | none => rfl
      | some z =>
        obtain rfl : b = l := hA b (by rw [q]; simp)
        rw [hK (by rw [q]; simp)] at e
        cases e)
    have md : Mod K mg (hidT s1.heap T) := ⟨kin, ns' hns, ⟨mb, ns' hb, hbb⟩, let ⟨mc, a1, a2⟩ := hlim; ⟨mc, ns' a1, a2⟩⟩
    have sys : SysD (hidT s1.heap T) := let ⟨mm, a1⟩ := hS; ⟨mm, ns' a1⟩
    have e0 : Env0 P w K mg (hidT s1.heap T) callerA [] s1 T := ⟨rfl, md, fun b o e => of_hidT e, Nat.le_of_eq (hidT_size _ _), trivial, fun b hb => absurd (show b ∈ ([] : List Addr) from hb) (by simp), ok, .of_eq hg⟩
    have run := (F _ kin (ns' hns) sys).run callerA [] s1 T ⟨[.ref l], []⟩ [.ref l] [.ref l] _ _ hr gd e0 (hbind s1 (.ref l)) (.cons rfl .nil) (hsp T hQ)
    refine codeAny_mono run fun res s' h => ?_
    cases res with
    | error er => exact (let ⟨_, _, _, _, _, _, _, _, _, _, _, _, z⟩ := h; (show False from z).elim)
    | ok fl =>
      cases fl with
      | next => exact h.elim
      | brk => exact h.elim
      | cont => exact h.elim
      | ret z =>
        obtain ⟨v, H', os, bare, un, hok', r', q⟩ := h
        obtain rfl : v = .bl true := q
        obtain rfl : z = Value.bool true := r'
        refine ⟨rfl, OldK.of_keep fun b o e => ?_, os, bare⟩
        cases q : T b with
        | none => exact un.keep b o e q (by intro y; exact absurd (show b ∈ ([] : List Addr) from y) (by simp)) (by simp)
        | some y =>
          rcases hO b with g | ⟨ob, xs, g⟩
          · rw [q] at g; cases g
          · obtain ⟨e1, _⟩ := ok b _ g
            obtain ⟨e2, _⟩ := hok' b _ (un.frzs b ob _ g)
            rw [e] at e1
            cases e1
            exact e2
  cases hk : K.lookup l with
  | some o =>
    have e := KX l o hk
    rw [hl] at e
    cases e
    refine rest (fun _ => none) (fun _ => .inl rfl) (.inr ⟨_, us.toArray, _, hk, rfl, rfl, rfl, ?_, ?_⟩) (fun b u z => ?_) (fun b z => absurd rfl z) fun z => absurd rfl z
    · rw [List.size_toArray, hi.length]
      exact hz
    · simpa using rv
    · cases (show (none : Option HO) = some u from z)
  | none =>
    let o0 : Obj := { cls := .type "list", data := .seq us.toArray }
    have at_ : ∀ b, (fun b => if b = l then some (HO.frz o0 (.lst (ns.map V.int))) else none : Hp) b = if b = l then some (HO.frz o0 (.lst (ns.map V.int))) else none := fun _ => rfl
    refine rest (fun b => if b = l then some (.frz o0 (.lst (ns.map V.int))) else none) (fun b => ?_) (.inl (.inr ⟨o0, if_pos rfl⟩)) (fun b u z => ?_) (fun b z => ?_) fun _ => hk
    · by_cases h : b = l
      · exact .inr ⟨_, _, if_pos h⟩
      · exact .inl (if_neg h)
    · by_cases h : b = l
      · cases (if_pos h).symm.trans z
        subst h
        exact ⟨hl, by rw [List.length_map]; exact hz, us, _, rv, hl⟩
      · cases (if_neg h).symm.trans z
    · by_cases h : b = l
      · exact h
      · exact absurd (if_neg h) z
/-- the law, from the promise of its def. F: what stands behind the head -/
theorem walk_G {l : PySem.W.OpenLaw} {n k : Nat} {q : Program} {loose : List Str} {XP : (Str → Option Value) → Heap → Prop} {YP : World → Heap → Prop} {d : DefRec} {x : Str} (hn : l.most = some n) (hn2 : n ≤ sizeLine) (hdf : d.params.defaults = []) (hr : Room k callerA) (hq : importsNone q = true)
    (F : ∀ (w : World) (mg : Str → Option Value) (fa : Addr) (h : Heap), YP w h → h.Ns mainGlobals mg → mg d.name = some (.ref fa) →
      ∃ (K : Frag) (fd : FuncData) (sp : Sp), K.In h ∧ (∀ (s : Shared) (u : Value), BindsTo s fd ⟨[u], []⟩ [(x, u)]) ∧
        (∀ (H : Hp) (a : Addr) (ns : List Int), ns.length ≤ n → SqL K H a (ns.map V.int) → sp [.ref a] H (fun v _ => v = .bl true) fun _ _ _ => False) ∧
        ∀ base : Heap, K.In base → base.Ns mainGlobals mg → SysD base → FnG l.prog w K mg base k fa fd [x] sp) : PySem.W.WalkO q loose XP YP l.row.toRowW d [] (fun f vs => PySem.call f vs) := by
  refine Att.attach_call hn hdf fun w s0 s1 mg mb fa o pm cd doc a vs ns G Y ho hd hcd hmg hobj hints hlen hg => ?_
  obtain ⟨K, fd, sp, KX, hb, hsp, hF⟩ := F w mg fa _ Y G.T.g hmg
  obtain ⟨mm, hm, _⟩ := (G.T.seer hq).mods
  exact law_G KX G.T.g G.T.b G.T.builtins G.T.nolimit ⟨mm, hm⟩ hg hobj hints (Nat.le_trans hlen hn2) hr rfl hF hb fun H hS => hsp H a ns hlen hS
/-- the promise of a def that is told true -/
theorem law_sp {K : Frag} {mg : Str → Option Value} {f : Fn} {H : Hp} {a : Addr} {ns : List Int} (hS : SqL K H a (ns.map V.int)) (h : ∃ as, f [.sc (ns.map .int)] = .ret (.bool true) as) : spOf K mg 1 f [.ref a] H (fun v _ => v = .bl true) fun _ _ _ => False := by
  obtain ⟨as, e⟩ := h
  refine ⟨rfl, [.sc (ns.map .int)], H, fun _ => none, ⟨rfl, fun i s e => ?_, fun i j o o' v e => ?_, fun a p e => (nomatch e), .refl _⟩, ?_⟩
  · cases i with
    | zero =>
      simp at e
      subst e
      refine ⟨_, rfl, a, _, rfl, hS, ?_⟩
      clear hS e
      induction ns with
      | nil => exact .nil
      | cons n r ih => exact .cons (.int n) ih
    | succ i => simp at e
  · cases i with
    | zero => simp at e
    | succ i => simp at e
  · rw [e]
    intro v F' H' w' _ p
    cases p
    rfl
end Ev

set_option Elab.async false
set_option linter.all false
set_option maxRecDepth 100000
set_option maxHeartbeats 1000000
namespace Ev
open PySem PySem.Spec PyProof.Rows L2
/-! ## a[::-1] -/
theorem filt_congr {α β : Type} {f g : α → Option β} : ∀ {l : List α}, (∀ m ∈ l, f m = g m) → l.filterMap f = l.filterMap g
  | [], _ => rfl
  | a :: l, h => by rw [List.filterMap_cons, List.filterMap_cons, h a List.mem_cons_self, filt_congr fun m hm => h m (List.mem_cons_of_mem _ hm)]
theorem rev_map {α : Type} (xs : List α) : ((List.range xs.length).filterMap fun (k : Nat) => xs[xs.length - 1 - k]?) = xs.reverse := by
  apply List.ext_getElem?
  intro i
  have e : ((List.range xs.length).filterMap fun (k : Nat) => xs[xs.length - 1 - k]?) = (List.range xs.length).attach.map fun (k : { x // x ∈ List.range xs.length }) => xs[xs.length - 1 - k.1]'(by have := List.mem_range.mp k.2; omega) := by
    have : ∀ l : List Nat, (h : ∀ k ∈ l, k < xs.length) → (l.filterMap fun (k : Nat) => xs[xs.length - 1 - k]?) = l.attach.map fun (k : { x // x ∈ l }) => xs[xs.length - 1 - k.1]'(by have := h k.1 k.2; omega) := by
      intro l
      induction l with
      | nil => intro _; rfl
      | cons a l ih =>
        intro h
        rw [List.filterMap_cons, List.getElem?_eq_getElem (by have := h a List.mem_cons_self; omega)]
        simp only [List.attach_cons, List.map_cons, List.map_map]
        rw [ih fun k hk => h k (List.mem_cons_of_mem _ hk)]
        rfl
    exact this _ fun k hk => List.mem_range.mp hk
  rw [e, List.getElem?_map]
  by_cases hi : i < xs.length
  · rw [List.getElem?_reverse hi, List.getElem?_eq_getElem (by simpa using hi), List.getElem?_eq_getElem (by omega)]
    simp
  · rw [List.getElem?_eq_none (by simpa using hi), List.getElem?_eq_none (by simpa using hi)]
    rfl
section
variable {prog : Program} {w : World} {A : Around} {E : Value → Shared → Prop} {s : Shared}
theorem part_back {sl : Addr} {n : Nat} {t : Tok} {Q : Int × Int × Nat → Shared → Prop} (hs : s.heap.IsSliceOf sl .none .none (.int (-1) t)) (h : Q ((n : Int) - 1, -1, n) s) : wpAny (model prog w) A (Builtin.Slice.sliceApplied (.ref sl) (pure (n : Int))) Q E s := by
  obtain ⟨os, hos, hcs, hds⟩ := id hs
  unfold Builtin.Slice.sliceApplied Builtin.Slice.sliceFields
  refine wpAny_bind (wpAny_bind (wpAny_field hos hds (x := .none) rfl (wpAny_bind (wpAny_field hos hds (x := .none) rfl (wpAny_bind (wpAny_field hos hds (x := .int (-1) t) rfl (wpAny_pure ?_)))))))
  refine wpAny_bind (HT.slicePart_ (.int (-1) t) ?_)
  show wpAny _ _ (if ((-1 : Int) == 0) = true then _ else _) _ _ s
  rw [if_neg (by decide)]
  refine wpAny_bind (HT.slicePart_ .none (wpAny_bind (HT.slicePart_ .none (wpAny_bind (wpAny_pure ?_)))))
  have e1 : Builtin.Slice.sliceAdjust none none (-1) (n : Int) = ((n : Int) - 1, -1) := by
    unfold Builtin.Slice.sliceAdjust
    rfl
  have e2 : Builtin.Slice.slicePlaces ((n : Int) - 1) (-1) (-1) = n := by
    unfold Builtin.Slice.slicePlaces
    have h1 : ¬ ((-1 : Int) > 0) := by omega
    simp only [h1, if_false]
    split
    · have : ((n : Int) - 1 - -1 - 1) / (- -1) + 1 = n := by
        simp
      omega
    · omega
  show wpAny _ _ (match Builtin.Slice.sliceAdjust none none (-1) (n : Int) with | (lo, hi) => pure (lo, (-1 : Int), Builtin.Slice.slicePlaces lo hi (-1))) _ _ s
  rw [e1]
  show wpAny _ _ (pure ((n : Int) - 1, (-1 : Int), Builtin.Slice.slicePlaces ((n : Int) - 1) (-1) (-1))) _ _ s
  rw [e2]
  exact wpAny_pure h
theorem tuple_back {t sl : Addr} {items : Array Value} {tk : Tok} {Q : Value → Shared → Prop} (ht : IsTup s.heap t items) (hs : s.heap.IsSliceOf sl .none .none (.int (-1) tk)) (h : Q (.ref s.heap.objs.size) { s with heap := s.heap.push { cls := .type "tuple", data := .seq items.toList.reverse.toArray } }) (hsz : items.size ≤ sizeLine) :
    wpAny (model prog w) A (getItem (.ref t) (.ref sl)) Q E s := by
  have hfit : sizeOk (.seq items.toList.reverse.toArray) := by
    show items.toList.reverse.toArray.size ≤ sizeLine
    rw [List.size_toArray, List.length_reverse, Array.length_toList]
    exact hsz
  obtain ⟨os, hos, hcs, hds⟩ := id hs
  have hTs : s.TypeIs (.ref sl) "slice" := ⟨os, hos, hcs⟩
  unfold getItem
  try with_reducible refine wpAny_holding ?_
  first | refine wpAny_bind (wpAny_pure ?_) | skip
  refine wpAny_bind (wpAny_sequenceKey ht.typeIs (by decide) ?_)
  refine wpAny_bind (wpAny_callSpecial?_slot (name := Str.ofString "__getitem__") ht.typeIs PyProof.Rows.slot_tuple_getitem
    (wpAny_call_entry PyProof.Rows.slot_tuple_getitem ht.typeIs entry_tuple_getitem ?_ (args_tuple_getitem _ _)))
  show wpAny _ _ (Builtin.Tuple.tupleItemsOf (.ref t) >>= _) _ _ s
  refine wpAny_bind (tupleItemsOf_ ht ?_)
  refine wpAny_bind (wpAny_typeOf hTs ?_)
  rw [if_pos (by decide)]
  refine wpAny_bind (part_back hs ?_)
  have no : ¬ ((((items.size : Int) - 1) == 0 && (-1 : Int) == 1 && items.size == items.size) = true) := by
    rw [show ((-1 : Int) == 1) = false from rfl, Bool.and_false, Bool.false_and]
    exact Bool.false_ne_true
  show wpAny _ _ (if (((items.size : Int) - 1) == 0 && (-1 : Int) == 1 && items.size == items.size) = true then _ else _) _ _ s
  have ep : ((List.range items.size).filterMap fun (m : Nat) => items[(((items.size : Int) - 1) + (m : Int) * -1).toNat]?).toArray = items.toList.reverse.toArray := by
    rw [← rev_map items.toList]
    congr 1
    have : ∀ m ∈ List.range items.size, items[(((items.size : Int) - 1) + (m : Int) * -1).toNat]? = items.toList[items.toList.length - 1 - m]? := by
      intro m hm
      have hm := List.mem_range.mp hm
      rw [show (((items.size : Int) - 1) + (m : Int) * -1).toNat = items.toList.length - 1 - m by rw [Array.length_toList]; omega]
      simp
    rw [Array.length_toList]
    exact filt_congr this
  rw [if_neg no, ep]
  first
    | exact wpAny_bind (m := Builtin.Tuple.tupleExact _) (wpAny_newObj_type (wpAny_pure ⟨_, rfl, wpAny_pure h⟩) hfit)
    | exact wpAny_bind (m := Builtin.Tuple.tupleExact _) (wpAny_newObj_type (wpAny_bind (wpAny_pure (wpAny_pure ⟨_, rfl, wpAny_pure h⟩))) hfit)
    | exact wpAny_bind (wpAny_bind (m := Builtin.Tuple.tupleExact _) (wpAny_newObj_type (wpAny_pure (wpAny_pure ⟨_, rfl, wpAny_pure h⟩)) hfit))
    | exact wpAny_bind (wpAny_bind (m := Builtin.Tuple.tupleExact _) (wpAny_newObj_type (wpAny_pure ⟨_, rfl, wpAny_pure h⟩) hfit))
end
theorem vals_rev : ∀ {vs : List V} {us : List Value}, Vals vs us → Vals vs.reverse us.reverse
  | _, _, .nil => .nil
  | _, _, .cons h r => by rw [List.reverse_cons, List.reverse_cons]; exact (vals_rev r).append (.cons h .nil)
def gBack : PyData → Option PyData
  | .list xs => some (.list xs.reverse)
  | .tuple xs => some (.tuple xs.reverse)
  | _ => none
theorem pick_back (its : List Value) : slicePick its.toArray none none (some (-1)) = its.reverse.toArray := by
  have hb : sliceBounds none none (some (-1)) its.toArray.size = ((its.length : Int) - 1, -1, -1) := by
    unfold sliceBounds
    simp
  unfold slicePick
  rw [hb, ← rev_map its]
  congr 1
  unfold sliceRange
  have h1 : ¬ ((-1 : Int) > 0) := by omega
  simp only [h1, if_false]
  have hc : (if ((its.length : Int) - 1) > -1 then (((its.length : Int) - 1) - -1 - -1 - 1) / (- -1) else 0) = (its.length : Int) := by
    split
    · simp
    · omega
  rw [hc, Int.toNat_natCast, List.filterMap_map]
  refine filt_congr fun m hm => ?_
  have hm := List.mem_range.mp hm
  show its.toArray[(((its.length : Int) - 1) + -1 * (m : Int)).toNat]? = _
  rw [show (((its.length : Int) - 1) + -1 * (m : Int)).toNat = its.length - 1 - m by omega]
  simp
section
variable {X : Cx} {io : List Nat} {s0 : L2.St} {W : WX} {c : Bool} {a : Expr} {fa : Den PyData} {pos p1 p2 p3 : Pos} {j : Nat}
theorem me_rev (ha : PE X a (tE (en X io s0) W c fa)) : PE X (.Subscript a (.Slice none none (some (.UnaryOp .USub (.Constant (.int 1) j p1) p2)) p3) pos) (tE (en X io s0) W c (una gBack fa)) := by
  refine ⟨fun pins s σ H Q I ⟨G, F0, ρ, F, r, q⟩ => ?_⟩
  refine Subscript_ (thn (ha.run pins s σ H (fun v H1 => ∃ F1 d ρ1, R (en X io s0) G F0 ρ1 F1 σ H1 ∧ Rep X.K F1 v d ∧ Post (fun F _ v d => Rep X.K F v d) (en X io s0) W c G F0 F1 σ H1 (fun v _ H' _ _ => Q v H') (lift (gBack d) ρ1)) I ⟨G, F0, ρ, F, r, (Post.bind q id).imp fun v F1 H1 d ρ1 r1 l1 k1 p1 q1 => ⟨F1, d, ρ1, r1, p1, q1⟩⟩) fun v s1 ⟨x, H1, I1, rx, F1, d, ρ1, r1, p1, q1⟩ => ?_)
  refine wpAny_Slice ?_
  rw [evalPart_none]
  refine wpAny_pure (wpAny_pure ?_)
  rw [evalPart_some]
  refine thn ((pe_un un_neg (pe_int (X := X))).run pins s1 σ H1 (fun v H2 => v = .int (-1) ∧ H2 = H1) I1 ⟨1, rfl, rfl, rfl⟩) fun u s2 ⟨y, H2, I2, ry, ey, eH⟩ => ?_
  subst ey eH
  obtain ⟨tk, rfl⟩ := ry
  have I4 : Inv X pins σ H2 { s2 with heap := s2.heap.push { cls := .type "slice", data := .fields #[.none, .none, .int (-1) tk] } } := I2.kept (t' := s2.toks) fun b ob q => Heap.get?_push_of_some _ q
  obtain ⟨d', e, q2⟩ := Post.lift q1
  show wpAny (model X.prog X.w) X.A (subscriptTail a (.Slice none none (some (.UnaryOp .USub (.Constant (.int 1) j _) _)) p3) v (.ref s2.heap.objs.size)) (EP X pins σ Q) X.xe { s2 with heap := s2.heap.push { cls := .type "slice", data := .fields #[.none, .none, .int (-1) tk] } }
  have hs : Heap.IsSliceOf (s2.heap.push { cls := .type "slice", data := .fields #[.none, .none, .int (-1) tk] }) s2.heap.objs.size .none .none (.int (-1) tk) := Heap.IsSliceOf.new ..
  cases p1 with
  | @lst b xs ds h1 rr =>
    cases e
    cases rx
    obtain ⟨its, rv, ht, hz⟩ := I4.list (SqL.of (r1.sub _ _ h1))
    refine tail_any (ops := [.ref b, .ref s2.heap.objs.size]) ht.isList.typeIs slot_list_getitem.lookup ?_ (by with_unfolding_all rfl)
    refine wpAny_getItem_list_slice ht.isList hs .none .none (.int (-1) tk) (by simp) ?_ (by rw [List.size_toArray, ← rv.length]; exact hz)
    rw [pick_back]
    have n := I4.hok.fresh (Nat.le_refl _)
    have z := Ext.new (o := .lst xs.reverse) r1.sub n
    refine ⟨.ref _, L2.upd H2 _ (.lst xs.reverse), I4.laid (t' := s2.toks) (o := .lst xs.reverse) (fun b ob q => Heap.get?_push_of_some _ q) (Nat.le_refl _) ?_, rfl, q2 _ _ _ (r1.ext z) z.fle (fun _ => z.hle) (.lst upd_same (rr.reverse.mono z.fle))⟩
    exact ⟨by rw [List.length_reverse]; exact hz, _, 0, vals_rev rv, Heap.get?_push_size _ rfl⟩
  | @tup b xs ds h1 rr =>
    cases e
    cases rx
    obtain ⟨its, rv, ht, hz⟩ := I4.tuple (r1.sub.sqT h1)
    have ht' : IsTup (s2.heap.push { cls := .type "slice", data := .fields #[.none, .none, .int (-1) tk] }) b its.toArray := ht
    refine tail_any (ops := [.ref b, .ref s2.heap.objs.size]) ht'.typeIs PyProof.Rows.slot_tuple_getitem.lookup ?_ (by with_unfolding_all rfl)
    refine tuple_back ht' hs ?_ (by rw [List.size_toArray, ← rv.length]; exact hz)
    have n := I4.hok.fresh (Nat.le_refl _)
    have z := Ext.new (o := .tup xs.reverse) r1.sub n
    refine ⟨.ref _, L2.upd H2 _ (.tup xs.reverse), I4.laid (t' := s2.toks) (o := .tup xs.reverse) (fun b ob q => Heap.get?_push_of_some _ q) (Nat.le_refl _) ?_, rfl, q2 _ _ _ (r1.ext z) z.fle (fun _ => z.hle) (.tup (.of upd_same) (rr.reverse.mono z.fle))⟩
    exact ⟨by rw [List.length_reverse]; exact hz, _, vals_rev rv, IsTup.new _ _⟩
  | _ => cases e
end
end Ev

set_option Elab.async false
set_option linter.all false
set_option maxRecDepth 100000
set_option maxHeartbeats 1000000
namespace Ev
open PySem PySem.Spec PyProof.Rows L2
/-! ## comprehensions as new lists -/
def nLc (s : Den (List PyData)) (g : DenG) (tt : Den Bool) (te : Den PyData) (vs : List Nat) : Den (List PyData) := fun ρ => (s ρ).bind fun ds ρ1 => (lcL g tt te vs ds (wipeE ρ1 vs)).bind fun out ρ2 => .ok out (restE ρ1 ρ2 vs)
section
variable {X : Cx} {io : List Nat} {s0 : L2.St} {W : WX} {c : Bool} {fs : Den (List PyData)} {dg : DenG} {sl vs : List Nat} {ft : Den Bool} {fe : Den PyData}
/-- what the turns still give, behind what is made: p the new list -/
theorem lcN_of {σ : L2.St} {H : Hp} {Q : VK} (nd : vs.Nodup) (hio : ∀ v ∈ vs, v ∉ io) (hsl : ∀ j ∈ sl, j ∈ vs) (h : tN (en X io s0) W c (nLc fs dg ft fe vs) σ H Q) :
    tLc (tI (en X io s0) W c fs) (tG (en X io s0) sl dg) (tT (en X io s0) WF c ft) (tE (en X io s0) WF c fe) vs σ H Q := by
  obtain ⟨G, F0, ρ, F, r, q⟩ := h
  refine ⟨G, F0, ρ, F, r, (Post.bindN q id).imp fun J F1 H1 ds ρ1 r1 l1 k1 wk q1 => ?_⟩
  intro p np
  have gp : G p = none := r1.gle.none np
  have fp : F1 p = none := r1.sub.none np
  have f1 := r1.frm
  -- behind the source: the result's wish
  have fin : ∀ out ρ2 F2 H2 vsD, R (en X io s0) (L2.upd G p (.lst vsD)) F1 ρ2 F2 (L2.wipe σ vs) H2 → Le F1 F2 → (c = true → Le H1 H2) → Reps X.K F2 vsD out → PostN (en X io s0) W c G F0 F1 σ H1 (fun p _ _ _ H' _ _ => Q (.ref p) H') (.ok out (restE ρ1 ρ2 vs)) → Q (.ref p) H2 := by
    intro out ρ2 F2 H2 vsD r2 l2 k2 p2 q2
    exact q2 p vsD F1 F2 H2 (R.rest r1 l2 nd hio r2) gp fp f1 l2 k2 p2
  refine ⟨fun i m H2 => ∃ ρ2 F2 accV accD, R (en X io s0) (L2.upd G p (.lst accV)) F1 ρ2 F2 (L2.wipe σ vs) H2 ∧ Le F1 F2 ∧ (c = true → Le H1 H2) ∧ Reps X.K F2 accV accD ∧ i + m = ds.length ∧ accD.length ≤ i ∧
    lcL dg ft fe vs ds (wipeE ρ1 vs) = (lcL dg ft fe vs (ds.drop i) ρ2).bind fun ys ρd => .ok (accD ++ ys) ρd, ⟨ds.length, wipeE ρ1 vs, F1, [], [], ?_, .refl _, fun _ => .new np, .nil, Nat.zero_add _, Nat.le_refl _, ?_⟩, ?_⟩
  · exact (R.guard (r1.wipe (vs := vs) hio) np)
  · rw [List.drop_zero]
    cases lcL dg ft fe vs ds (wipeE ρ1 vs) <;> rfl
  rintro i m H2 ⟨ρ2, F2, accV, accD, r2, l2, k2, p2, hm, hz, he⟩
  obtain ⟨w1, w2⟩ := wk.2 i H2 F2 l2 r2.sub
  by_cases hi : i < ds.length
  · obtain ⟨go, yl⟩ := w1 hi
    rw [List.drop_eq_getElem_cons hi, lcL] at he
    refine .inr ⟨go, fun H' => ∃ ρ2 F2 accV accD, R (en X io s0) (L2.upd G p (.lst accV)) F1 ρ2 F2 (L2.wipe σ vs) H' ∧ Le F1 F2 ∧ (c = true → Le H1 H') ∧ Reps X.K F2 accV accD ∧ accD.length ≤ i + 1 ∧
      lcL dg ft fe vs ds (wipeE ρ1 vs) = (lcL dg ft fe vs (ds.drop (i + 1)) ρ2).bind fun ys ρd => .ok (accD ++ ys) ρd, fun H' ⟨a1, a2, a3, a4, a5, a6, a7, a8, a9, a10⟩ => ⟨m - 1, by omega, a1, a2, a3, a4, a5, a6, a7, a8, by omega, a9, a10⟩, fun x H3 y => ?_⟩
    obtain ⟨F3, d, z, ed, px⟩ := yl x H3 y
    rw [List.getElem?_eq_getElem hi] at ed
    cases ed
    cases e : dg ds[i] ρ2 with
    | none =>
      rw [e] at he
      rw [he] at q1
      exact (show False from q1).elim
    | some ρa =>
      rw [e] at he
      dsimp only at he
      refine ⟨_, _, ρ2, F3, ds[i], ρa, r2.ext z, px, e, fun σ' ra hl hj => ?_⟩
      have hw : L2.wipe σ' vs = L2.wipe σ vs := (wipe_same hl fun j h => hj j fun h2 => h (hsl j h2)).trans (wipe_wipe vs)
      refine ⟨hw, _, _, ρa, F3, ra, ?_⟩
      cases eb : ft ρa with
      | exc x ρb =>
        rw [eb] at he
        rw [he] at q1
        exact (show False from q1).elim
      | bad =>
        rw [eb] at he
        rw [he] at q1
        exact (show False from q1).elim
      | ok b ρb =>
        rw [eb] at he
        rintro v F4 H4 r4 l4 k4 rfl
        cases v with
        | false =>
          rw [if_neg Bool.false_ne_true]
          refine ⟨wipeE ρb vs, F4, accV, accD, hw ▸ r4.wipe (vs := vs) hio, l2.trans (z.fle.trans l4), fun h => (k2 h).trans (z.hle.trans (k4 h)), p2.mono (z.fle.trans l4), by omega, ?_⟩
          rw [he]
          rfl
        | true =>
          rw [if_pos rfl]
          refine ⟨_, _, ρb, F4, r4, ?_⟩
          cases ey : fe ρb with
          | exc x ρc =>
            have he : _ = ((noex (fe ρb)).bind _).bind _ := he
            rw [ey] at he
            rw [he] at q1
            exact (show False from q1).elim
          | bad =>
            have he : _ = ((noex (fe ρb)).bind _).bind _ := he
            rw [ey] at he
            rw [he] at q1
            exact (show False from q1).elim
          | ok y ρc =>
            have he : _ = ((noex (fe ρb)).bind _).bind _ := he
            rw [ey] at he
            intro u F5 H5 r5 l5 k5 p5
            have la : accV.length < sizeLine := by
              rw [p2.length]
              exact Nat.lt_of_le_of_lt hz (Nat.lt_of_lt_of_le hi wk.1)
            refine ⟨accV, r5.gle p _ upd_same, la, wipeE ρc vs, F5, accV ++ [u], accD ++ [y], hw ▸ (R.guardW (o' := .lst (accV ++ [u])) r5 fp).wipe (vs := vs) hio, l2.trans (z.fle.trans (l4.trans l5)), fun h a o ea => ?_, (p2.mono (z.fle.trans (l4.trans l5))).append (.cons p5 .nil), by rw [List.length_append]; simp; omega, ?_⟩
            · rw [upd_ne (ne_of_none ea np)]
              exact ((k2 h).trans (z.hle.trans ((k4 h).trans (k5 h)))) a o ea
            · rw [he]
              show (((lcL dg ft fe vs (ds.drop (i + 1)) (wipeE ρc vs)).bind fun ys ρd => .ok (y :: ys) ρd).bind fun ys ρd => .ok (accD ++ ys) ρd) = _
              cases lcL dg ft fe vs (ds.drop (i + 1)) (wipeE ρc vs) with
              | ok ys ρd => simp
              | exc _ _ => rfl
              | bad => rfl
  · have hi : i = ds.length := by omega
    refine .inl ⟨w2 hi, ?_⟩
    rw [List.drop_eq_nil_of_le (by omega), lcL] at he
    have he : lcL dg ft fe vs ds (wipeE ρ1 vs) = .ok accD ρ2 := by
      rw [he]
      simp
    rw [he] at q1
    exact fin accD ρ2 F2 H2 accV r2 l2 k2 p2 q1
end
section
variable {X : Cx} {io : List Nat} {s0 : L2.St} {W : WX} {c : Bool} {elt tg iter a b : Expr} {ifs : List Expr} {scope : Scope} {own : List (Str × Nat)} {pos spos py p : Pos} {fs : Den (List PyData)} {dg : DenG} {sl : List Nat} {ft : Den Bool} {fe fa fb : Den PyData} {i : Nat} {y : Str}
theorem mn_lc (hc : X.calm = true) (hN : X.N.Nodup) (nd : (own.map (·.2)).Nodup) (hio : ∀ v ∈ own.map (·.2), v ∉ io) (hsl : ∀ j ∈ sl, j ∈ own.map (·.2)) (hset : ∀ x, foldedSetIterable iter X.env x = pure x) (hi : PI X tg iter (tI (en X io s0) W c fs)) (ok : BlkOk X.N X.env.scope scope own)
    (hg : ∀ (s : Shared) (H : Hp) (B : Addr) (cl : List (Str × Addr)) (fp : List Addr), PG (X.blk s H scope (compEnvC scope cl B X.env) fp) tg (tG (en X io s0) sl dg)) (ht : ∀ (s : Shared) (H : Hp) (B : Addr) (cl : List (Str × Addr)) (fp : List Addr), PTs (X.blk s H scope (compEnvC scope cl B X.env) fp) ifs (tT (en X io s0) WF c ft))
    (he : ∀ (s : Shared) (H : Hp) (B : Addr) (cl : List (Str × Addr)) (fp : List Addr), PE (X.blk s H scope (compEnvC scope cl B X.env) fp) elt (tE (en X io s0) WF c fe)) : PE X (.ListComp elt [⟨tg, iter, ifs, 0⟩] scope pos) (tN (en X io s0) W c (nLc fs dg ft fe (own.map (·.2)))) :=
  pe_weak (pe_lc hc hN hi ok hg ht he hset) fun _ _ _ h => lcN_of nd hio hsl h
/-- name = [..], the list is the name's own -/
theorem ms_lcN (hc : X.calm = true) (hN : X.N.Nodup) (nd : (own.map (·.2)).Nodup) (hio : ∀ v ∈ own.map (·.2), v ∉ io) (hsl : ∀ j ∈ sl, j ∈ own.map (·.2)) (hset : ∀ x, foldedSetIterable iter X.env x = pure x) (hy : X.N[i]? = some y) (hyl : X.env.scope.names.lookup y = some .local) (hyo : i ∉ io)
    (hsw : swapsWith (.ListComp elt [⟨tg, iter, ifs, 0⟩] scope pos) (some (.Name y py)) spos.line X.env = pure true) (hi : PI X tg iter (tI (en X io s0) W false fs)) (ok : BlkOk X.N X.env.scope scope own)
    (hg : ∀ (s : Shared) (H : Hp) (B : Addr) (cl : List (Str × Addr)) (fp : List Addr), PG (X.blk s H scope (compEnvC scope cl B X.env) fp) tg (tG (en X io s0) sl dg)) (ht : ∀ (s : Shared) (H : Hp) (B : Addr) (cl : List (Str × Addr)) (fp : List Addr), PTs (X.blk s H scope (compEnvC scope cl B X.env) fp) ifs (tT (en X io s0) WF false ft))
    (he : ∀ (s : Shared) (H : Hp) (B : Addr) (cl : List (Str × Addr)) (fp : List Addr), PE (X.blk s H scope (compEnvC scope cl B X.env) fp) elt (tE (en X io s0) WF false fe)) : PS X (.Assign [.Name y py] (.ListComp elt [⟨tg, iter, ifs, 0⟩] scope pos) spos) (tS (en X io s0) W (sNew i (nLc fs dg ft fe (own.map (·.2))))) :=
  ps_weak (ps_setLc hc hN hy hyl hsw hi ok hg ht he hset) fun D σ H h => lcN_of nd hio hsl (new_of hyo h)
/-! ## what is made anew otherwise -/
def nOp (g : PyData → PyData → Option (List PyData)) (fa fb : Den PyData) : Den (List PyData) := fun ρ => (fa ρ).bind fun d1 ρ1 => (fb ρ1).bind fun d2 ρ2 => lift (g d1 d2) ρ2
def gAddL : PyData → PyData → Option (List PyData)
  | .list xs, .list ys => if xs.length + ys.length ≤ sizeLine then some (xs ++ ys) else none
  | _, _ => none
def gMulL : PyData → PyData → Option (List PyData)
  | .list xs, .int k => if decide (0 ≤ k ∧ k < 2 ^ 62 ∧ xs.length * k.toNat ≤ sizeLine) = true then some (List.replicate k.toNat xs).flatten else none
  | _, _ => none
/-- behind a new list -/
theorem postN_lift {C : En} {G F0 F H : Hp} {σ : L2.St} {Q : Addr → List V → Hp → Hp → Hp → List PyData → Ens → Prop} {o : Option (List PyData)} {ρ : Ens} (q : PostN C W c G F0 F σ H Q (lift o ρ)) : ∃ xs, o = some xs ∧ PostN C W c G F0 F σ H Q (.ok xs ρ) := by
  cases o with
  | some xs => exact ⟨xs, rfl, q⟩
  | none => exact q.elim
theorem fresh_post {C : En} {G F0 F H : Hp} {ρ : Ens} {σ : L2.St} {Q : VK} {xs : List PyData} {vs : List V} {p : Addr} (r : R C G F0 ρ F σ H) (q : PostN C W c G F0 F σ H (fun p _ _ _ H' _ _ => Q (.ref p) H') (.ok xs ρ)) (n : H p = none) (rr : Reps C.K F vs xs) : Q (.ref p) (L2.upd H p (.lst vs)) := by
  obtain ⟨g, n1, n2, fr⟩ := fresh_N (vs := vs) r n
  exact q p vs F F _ g n1 n2 fr (.refl _) (fun _ => .new n) rr
theorem mn_add (ha : PE X a (tEW (en X io s0) W c fa)) (hb : PE X b (tEW (en X io s0) W true fb)) : PE X (.BinOp a .Add b pos) (tN (en X io s0) W c (nOp gAddL fa fb)) := pe_weak (pe_op o_add ha hb) fun σ H Q ⟨G, F0, ρ, F, r, q⟩ =>
  ⟨G, F0, ρ, F, r, (Post.bindN q id).imp fun x F1 H1 d1 ρ1 r1 l1 k1 p1 q1 => ⟨G, F0, ρ1, F1, r1, (Post.bindN q1 fun _ => rfl).imp fun y F2 H2 d2 ρ2 r2 l2 k2 p2 q2 => by
    obtain ⟨xs, e, q3⟩ := postN_lift q2
    cases d1 <;> cases d2 <;> try (cases e; done)
    simp only [gAddL] at e
    split at e
    · rename_i hz
      cases e
      have p1 := p1.mono l2 (k2 rfl)
      obtain ⟨u, vs, e1, h1, rr1⟩ := p1.list r2.sub
      obtain ⟨v, us, e2, h2, rr2⟩ := p2.list r2.sub
      exact .inl (.inr ⟨u, v, vs, us, e1, e2, h1, h2, by rw [rr1.length, rr2.length]; exact hz, fun p n => fresh_post r2 q3 n (rr1.append rr2)⟩)
    · cases e⟩⟩
theorem mn_mul (ha : PE X a (tEW (en X io s0) W c fa)) (hb : PE X b (tEW (en X io s0) W true fb)) : PE X (.BinOp a .Mult b pos) (tN (en X io s0) W c (nOp gMulL fa fb)) := pe_weak (pe_op o_mul ha hb) fun σ H Q ⟨G, F0, ρ, F, r, q⟩ =>
  ⟨G, F0, ρ, F, r, (Post.bindN q id).imp fun x F1 H1 d1 ρ1 r1 l1 k1 p1 q1 => ⟨G, F0, ρ1, F1, r1, (Post.bindN q1 fun _ => rfl).imp fun y F2 H2 d2 ρ2 r2 l2 k2 p2 q2 => by
    obtain ⟨xs, e, q3⟩ := postN_lift q2
    cases d1 <;> cases d2 <;> try (cases e; done)
    simp only [gMulL] at e
    split at e
    · rename_i hc
      cases e
      obtain ⟨h0, h1, h2⟩ := of_decide_eq_true hc
      have p1 := p1.mono l2 (k2 rfl)
      obtain ⟨u, vs, e1, g1, rr⟩ := p1.list r2.sub
      exact .inl (.inr ⟨u, _, vs, e1, p2.int, g1, by omega, by omega, by rw [rr.length]; exact h2, fun p n => fresh_post r2 q3 n (rr.rep _)⟩)
    · cases e⟩⟩
def nFn (g : List PyData → Option (List PyData)) (fa : Den (List PyData)) : Den (List PyData) := fun ρ => (fa ρ).bind fun d1 ρ1 => lift (g d1) ρ1
theorem mn_fn {f : String} {ex : Str} {es : List Expr} {fas : Den (List PyData)} {g : List PyData → Option (List PyData)} {e : Expr} (hr : CallR X (.builtin f) (rNew X.K g)) (hg : Gl X ex) (hm : X.mg ex = none) (hv : bootBuiltins ex = some (.builtin f)) (ha : PA X (e :: es) (tA (en X io s0) W c fas)) (hn : ex ≠ "__name__") (hdb : (ex == ("__debug__" : Str)) = false) (hst : ∀ y ∈ e :: es, isStar y = false) :
    PE X (.Call (.Name ex p) (e :: es) [] pos) (tN (en X io s0) W c (nFn g fas)) := pe_weak (pe_callB hr hg hm hv ha hn hdb (star_cons (hst e List.mem_cons_self) _ _) (star_none fun y hy => hst y (List.mem_cons_of_mem _ hy))) fun σ H Q ⟨G, F0, ρ, F, r, q⟩ =>
  ⟨G, F0, ρ, F, r, (Post.bindN q id).imp fun vs F1 H1 ds ρ1 r1 l1 k1 p1 q1 => by
    obtain ⟨xs, e, q3⟩ := postN_lift q1
    exact ⟨F1, ds, xs, r1.sub, p1, e, fun p us n rr => fresh_post r1 q3 n rr⟩⟩
/-- return a new list -/
def sRetN (f : Den (List PyData)) : DenS := fun ρ => (f ρ).out fun xs ρ1 => .ro (.lst xs) ρ1
theorem ms_retN {e : Expr} {f : Den (List PyData)} (he : PE X e (tN (en X io s0) W false f)) : PS X (.Return (some e) pos) (tS (en X io s0) W (sRetN f)) := ps_weak (ps_ret he) fun D σ H ⟨G, F0, ρ, F, r, q⟩ => by
  refine ⟨G, F0, ρ, F, r, ?_⟩
  unfold sRetN at q
  cases e : f ρ with
  | exc x ρ1 => rw [e] at q; exact fun cls dd F' H' r' l p => q cls dd σ F' H' r' l p
  | bad => rw [e] at q; exact q
  | ok xs ρ1 =>
    rw [e] at q
    intro p vs F1 F' H' r' n n1 fr l k rp
    obtain ⟨w, r'⟩ := r'
    have hp : H' p = some (.lst vs) := r'.gle p _ upd_same
    have wp : w p = none := (r'.frm p (by rw [upd_same]; simp)).2
    obtain ⟨r2, nt⟩ := r'.adopt (G := G) (F0 := F0) (T := fun a => if a = p then some (p, 0) else none) (fun a z h => by
      have h : (if a = p then some (p, 0) else none) = some z := h
      split at h
      · rename_i e
        subst e
        exact ⟨by rw [upd_same]; simp, n1⟩
      · cases h) (fun a o h => by rw [upd_ne (ne_of_none h n)]; exact h) (fun a h => by
      have ne : a ≠ p := fun y => h (y ▸ n)
      exact ⟨if_neg ne, fr a h⟩)
    refine q p σ F' H' ⟨_, r2, ⟨vs, hp, rp, ?_⟩, fun i o' z1 z2 => ?_⟩ l
    · show Ev.adopt w _ p = some (p, 0)
      unfold Ev.adopt
      dsimp only
      rw [if_pos rfl]
    · obtain ⟨v, z3, a, rfl, z4⟩ := r'.slot i _ z1
      rw [z2] at z3
      cases z3
      have := z4.top
      rw [wp] at this
      cases this
end
end Ev

set_option Elab.async false
set_option linter.all false
set_option maxRecDepth 100000
set_option maxHeartbeats 1000000
namespace Ev
open PySem PySem.Spec PyProof.Rows L2
/-! ## the words of the printed walks -/
structure Cz (X : Cx) (k : Nat) : Prop where
  nd : X.N.Nodup
  calm : X.calm = true
  gd : X.A.guards = some []
  room : Room k X.A
  sys : SysD X.base
theorem Cz.un {X : Cx} {k : Nat} (h : Cz X k) : X.A.units + 200 < cLine := by have := h.room.un; omega
theorem Cz.u1 {X : Cx} {k : Nat} (h : Cz X k) : X.A.units + 1 < cLine := by have := h.un; omega
theorem Cz.u64 {X : Cx} {k : Nat} (h : Cz X k) : X.A.units + 64 < cLine := by have := h.un; omega
theorem Cz.u65 {X : Cx} {k : Nat} (h : Cz X k) : X.A.units + 65 < cLine := by have := h.un; omega
theorem Cz.blk {X : Cx} {k : Nat} (h : Cz X k) {s : Shared} {H : Hp} {scope : Scope} {env : PySem.Env} {fp : List Addr} : Cz (X.blk s H scope env fp) k := ⟨h.nd, h.calm, h.gd, h.room, h.sys⟩
theorem takes_F {X : Cx} : Takes X WF := fun u s' ⟨_, _, _, _, _, _, _, _, _, _, _, _, _, _, _, z⟩ => (show False from z.2).elim
section
variable {X : Cx} {io : List Nat} {s0 : L2.St} {W : WX} {c : Bool} {i k : Nat} {x : Str} {pos : Pos}
theorem q_var (n : Nm X i x) : PE X (.Name x pos) (tE (en X io s0) W c (dVar i)) := me_var n.at_ n.vis n.db n.cd
theorem q_own (n : Nm X i x) : PE X (.Name x pos) (tEW (en X io s0) W c (dOwn i)) := me_own n.at_ n.vis n.db n.cd
theorem q_rd (n : Nm X i x) : PE X (.Name x pos) (tED (en X io s0) W c (dRd i)) := me_rd n.at_ n.vis n.db n.cd
theorem q_frz (n : Nm X i x) : PE X (.Name x pos) (tE (en X io s0) W c (dFrz i)) := me_frz n.at_ n.vis n.db n.cd
theorem q_sc (n : Nm X i x) : PE X (.Name x pos) (tEF (en X io s0) W c (dSc i)) := me_sc n.at_ n.vis n.db n.cd
/-- lengths of written rows -/
def LenIs (fs : Den (List PyData)) (n : Nat) : Prop := ∀ ρ ds ρ', fs ρ = .ok ds ρ' → ds.length = n
theorem len0 : LenIs aNil 0 := fun ρ ds ρ' h => by
  cases h
  rfl
theorem len1 {f : Den PyData} {fs : Den (List PyData)} {n : Nat} (h : LenIs fs n) : LenIs (aCons f fs) (n + 1) := fun ρ ds ρ' e => by
  unfold aCons at e
  cases e1 : f ρ with
  | ok d ρ1 =>
    rw [e1] at e
    cases e2 : fs ρ1 with
    | ok es ρ2 =>
      simp [e2] at e
      obtain ⟨rfl, rfl⟩ := e
      rw [List.length_cons, h _ _ _ e2]
    | exc x ρ2 => simp [e2] at e
    | bad => simp [e2] at e
  | exc x ρ1 => rw [e1] at e; cases e
  | bad => rw [e1] at e; cases e
theorem LenIs.le {fs : Den (List PyData)} {n : Nat} (h : LenIs fs n) (hn : n ≤ sizeLine) : ∀ ρ ds ρ', fs ρ = .ok ds ρ' → ds.length ≤ sizeLine := fun ρ ds ρ' e => by rw [h ρ ds ρ' e]; exact hn
end
theorem st0 : ∀ y ∈ ([] : List Expr), isStar y = false := fun _ h => (nomatch h)
theorem st1 {e : Expr} {es : List Expr} (h : isStar e = false) (hs : ∀ y ∈ es, isStar y = false) : ∀ y ∈ e :: es, isStar y = false := fun y hy => (List.mem_cons.mp hy).elim (fun z => z ▸ h) (hs y)
section
variable {X : Cx} {io : List Nat} {s0 : L2.St} {W : WX} {c : Bool} {i k : Nat} {x : Str} {pos p : Pos} {a : Expr} {es : List Expr} {fs : Den (List PyData)}
/-- a built-in name that the module leaves as it is -/
structure Bt (X : Cx) (x : Str) : Prop where
  gl : Gl X x
  mg : X.mg x = none
theorem b_len : bootBuiltins "len" = some (.builtin "len") := by decide +kernel
theorem b_abs : bootBuiltins "abs" = some (.builtin "abs") := by decide +kernel
theorem b_min : bootBuiltins "min" = some (.builtin "min") := by decide +kernel
theorem b_max : bootBuiltins "max" = some (.builtin "max") := by decide +kernel
theorem b_any : bootBuiltins "any" = some (.builtin "any") := by decide +kernel
theorem b_all : bootBuiltins "all" = some (.builtin "all") := by decide +kernel
theorem b_sum : bootBuiltins "sum" = some (.builtin "sum") := by decide +kernel
theorem b_repr : bootBuiltins "repr" = some (.builtin "repr") := by decide +kernel
theorem b_sorted : bootBuiltins "sorted" = some (.builtin "sorted") := by decide +kernel
theorem b_tuple : bootBuiltins "tuple" = some (.type "tuple") := by decide +kernel
theorem b_list : bootBuiltins "list" = some (.type "list") := by decide +kernel
theorem b_int : bootBuiltins "int" = some (.type "int") := by decide +kernel
variable {hst : ∀ y ∈ a :: es, isStar y = false}
theorem q_len (b : Bt X "len") (h : ∀ y ∈ a :: es, isStar y = false) (ha : PA X (a :: es) (tA (en X io s0) W c fs)) : PE X (.Call (.Name "len" p) (a :: es) [] pos) (tE (en X io s0) W c (fnc gLen fs)) := me_callB c_len vf_F b.gl b.mg b_len (by decide) rfl h ha
theorem q_abs (b : Bt X "abs") (h : ∀ y ∈ a :: es, isStar y = false) (ha : PA X (a :: es) (tA (en X io s0) W c fs)) : PE X (.Call (.Name "abs" p) (a :: es) [] pos) (tE (en X io s0) W c (fnc gAbs fs)) := me_callB c_abs vf_F b.gl b.mg b_abs (by decide) rfl h ha
theorem q_min (z : Cz X k) (b : Bt X "min") (h : ∀ y ∈ a :: es, isStar y = false) (ha : PA X (a :: es) (tA (en X io s0) W c fs)) : PE X (.Call (.Name "min" p) (a :: es) [] pos) (tE (en X io s0) W c (fnc gMin2 fs)) := me_callB (c_min z.calm) vf_F b.gl b.mg b_min (by decide) rfl h ha
theorem q_max (z : Cz X k) (b : Bt X "max") (h : ∀ y ∈ a :: es, isStar y = false) (ha : PA X (a :: es) (tA (en X io s0) W c fs)) : PE X (.Call (.Name "max" p) (a :: es) [] pos) (tE (en X io s0) W c (fnc gMax2 fs)) := me_callB (c_max z.calm) vf_F b.gl b.mg b_max (by decide) rfl h ha
theorem q_any (z : Cz X k) (b : Bt X "any") (h : ∀ y ∈ a :: es, isStar y = false) (ha : PA X (a :: es) (tA (en X io s0) W c fs)) : PE X (.Call (.Name "any" p) (a :: es) [] pos) (tE (en X io s0) W c (fnc gAny fs)) := me_callB (c_any z.calm) vf_F b.gl b.mg b_any (by decide) rfl h ha
theorem q_all (z : Cz X k) (b : Bt X "all") (h : ∀ y ∈ a :: es, isStar y = false) (ha : PA X (a :: es) (tA (en X io s0) W c fs)) : PE X (.Call (.Name "all" p) (a :: es) [] pos) (tE (en X io s0) W c (fnc gAll fs)) := me_callB (c_all z.calm) vf_F b.gl b.mg b_all (by decide) rfl h ha
theorem q_sum (z : Cz X k) (b : Bt X "sum") (h : ∀ y ∈ a :: es, isStar y = false) (ha : PA X (a :: es) (tA (en X io s0) W c fs)) : PE X (.Call (.Name "sum" p) (a :: es) [] pos) (tE (en X io s0) W c (fnc gSum fs)) := me_callB (c_sum z.calm) vf_F b.gl b.mg b_sum (by decide) rfl h ha
theorem q_repr (z : Cz X k) (b : Bt X "repr") (h : ∀ y ∈ a :: es, isStar y = false) (ha : PA X (a :: es) (tA (en X io s0) W c fs)) : PE X (.Call (.Name "repr" p) (a :: es) [] pos) (tE (en X io s0) W c (fnc gShow fs)) := me_callB (c_repr z.gd z.sys z.u64) vf_F b.gl b.mg b_repr (by decide) rfl h ha
theorem q_sorted (z : Cz X k) (b : Bt X "sorted") (h : ∀ y ∈ a :: es, isStar y = false) (ha : PA X (a :: es) (tA (en X io s0) W c fs)) : PE X (.Call (.Name "sorted" p) (a :: es) [] pos) (tE (en X io s0) W c (fnc gSorted fs)) := me_callB (c_sorted z.u64) vf_F b.gl b.mg b_sorted (by decide) rfl h ha
theorem q_sortL (z : Cz X k) (b : Bt X "sorted") (h : ∀ y ∈ a :: es, isStar y = false) (ha : PA X (a :: es) (tA (en X io s0) W c fs)) : PE X (.Call (.Name "sorted" p) (a :: es) [] pos) (tN (en X io s0) W c (nFn gSortL fs)) := mn_fn (c_sortL z.u64) b.gl b.mg b_sorted ha (by decide) rfl h
theorem q_tuple (b : Bt X "tuple") (h : ∀ y ∈ a :: es, isStar y = false) (ha : PA X (a :: es) (tA (en X io s0) W c fs)) : PE X (.Call (.Name "tuple" p) (a :: es) [] pos) (tE (en X io s0) W c (fnc gTuple fs)) := me_callTy c_tuple vf_F b.gl b.mg b_tuple (by decide) rfl h ha
theorem q_list (b : Bt X "list") (h : ∀ y ∈ a :: es, isStar y = false) (ha : PA X (a :: es) (tA (en X io s0) W c fs)) : PE X (.Call (.Name "list" p) (a :: es) [] pos) (tE (en X io s0) W c (fnc gList fs)) := me_callTy c_list vf_F b.gl b.mg b_list (by decide) rfl h ha
theorem q_int (b : Bt X "int") (h : ∀ y ∈ a :: es, isStar y = false) (ha : PA X (a :: es) (tA (en X io s0) W c fs)) : PE X (.Call (.Name "int" p) (a :: es) [] pos) (tE (en X io s0) W c (fnc gInt fs)) := me_callTy c_int vf_F b.gl b.mg b_int (by decide) rfl h ha
end
end Ev

set_option Elab.async false
set_option linter.all false
set_option maxRecDepth 100000
set_option maxHeartbeats 1000000
namespace Ev
open PySem PySem.Spec PyProof.Rows L2
/-! ## tuple(range(..)), list(range(..)) -/
theorem bind_bind {α β γ : Type} (r : Rs α) (f : α → Ens → Rs β) (g : β → Ens → Rs γ) : (r.bind f).bind g = r.bind fun a e => (f a e).bind g := by cases r <;> rfl
theorem rng2_of {i j : Int} {ds : List PyData} (h : rng2 i j = some ds) : RgOk i j ∧ ∀ {K : Frag} {F : Hp}, Reps K F (rgV i j) ds := by
  unfold rng2 at h
  split at h
  · rename_i hc
    have hc := of_decide_eq_true hc
    cases h
    refine ⟨⟨hc.1, hc.2.1, hc.2.2.1, hc.2.2.2.1, ?_⟩, ?_⟩
    · have := hc.2.2.2.2
      rw [sizeLine_eq] at this
      omega
    · intro K F
      unfold rgV
      generalize (j - i).toNat = n
      have : ∀ l : List Nat, Reps K F (l.map fun k => V.int (i + (k : Nat))) (l.map fun k : Nat => .int (i + k)) := by
        intro l
        induction l with
        | nil => exact .nil
        | cons x r ih => exact .cons (.int _) ih
      exact this _
  · cases h
def dTupOf (s : Den (List PyData)) : Den PyData := fun ρ => (s ρ).bind fun ds ρ1 => .ok (.tuple ds) ρ1
section
variable {X : Cx} {io : List Nat} {s0 : L2.St} {W : WX} {c : Bool} {a b e : Expr} {fa fb fe : Den PyData} {pos p p2 pos2 cpos apos : Pos} {i k : Nat} {x : Str}
theorem q_tupRg1 (z : Cz X k) (bt : Bt X "tuple") (bg : Bt X "range") (hs : isStar a = false) (ha : PE X a (tE (en X io s0) W c fa)) : PE X (.Call (.Name "tuple" p) [.Call (.Name "range" p2) [a] [] pos2] [] pos) (tE (en X io s0) W c (dTupOf (dRng1 fa))) :=
  pe_weak (pe_tupRg z.calm bt.gl bt.mg (prg_1 bg.gl bg.mg ha (star_cons hs _ _)) rfl) fun σ H Q ⟨G, F0, ρ, F, r, q⟩ => ⟨G, F0, ρ, F, r, by
    have q : Post _ _ W c G F0 F σ H _ (((fa ρ).bind fun d ρ1 => lift _ ρ1).bind _) := q
    rw [bind_bind] at q
    refine (Post.bind q id).imp fun v F1 H1 d ρ1 r1 l1 k1 p1 q1 => ?_
    cases d with
    | int j =>
      cases p1
      cases e : rng2 0 j with
      | none => simp [lift, e] at q1; exact q1.elim
      | some ds =>
        simp [lift, e] at q1
        obtain ⟨ok, rr⟩ := rng2_of e
        refine ⟨j, rfl, ok, fun u n => ?_⟩
        have zz := Ext.new (o := .tup (rgV 0 j)) r1.sub n
        exact q1 _ _ _ (r1.ext zz) zz.fle (fun _ => zz.hle) (.tup (.of upd_same) rr)
    | _ => exact (show False from q1).elim⟩
theorem q_tupRg2 (z : Cz X k) (bt : Bt X "tuple") (bg : Bt X "range") (hs : isStar a = false) (hs2 : isStar b = false) (ha : PE X a (tE (en X io s0) W c fa)) (hb : PE X b (tE (en X io s0) W c fb)) : PE X (.Call (.Name "tuple" p) [.Call (.Name "range" p2) [a, b] [] pos2] [] pos) (tE (en X io s0) W c (dTupOf (dRng2 fa fb))) :=
  pe_weak (pe_tupRg z.calm bt.gl bt.mg (prg_2 bg.gl bg.mg ha hb (star_cons hs _ _) (star_cons hs2 _ _) (star_none (st1 hs2 st0))) rfl) fun σ H Q ⟨G, F0, ρ, F, r, q⟩ => ⟨G, F0, ρ, F, r, by
    have q : Post _ _ W c G F0 F σ H _ (((fa ρ).bind fun d ρ1 => (fb ρ1).bind fun e ρ2 => lift _ ρ2).bind _) := q
    rw [bind_bind] at q
    refine (Post.bind q id).imp fun v F1 H1 d ρ1 r1 l1 k1 p1 q1 => ?_
    rw [bind_bind] at q1
    refine ⟨G, F0, ρ1, F1, r1, (Post.bind q1 id).imp fun u F2 H2 d2 ρ2 r2 l2 k2 p2 q2 => ?_⟩
    cases d with
    | int m =>
      cases d2 with
      | int j =>
        cases p1
        cases p2
        cases e : rng2 m j with
        | none => simp [lift, e] at q2; exact q2.elim
        | some ds =>
          simp [lift, e] at q2
          obtain ⟨ok, rr⟩ := rng2_of e
          refine ⟨m, j, rfl, rfl, ok, fun u n => ?_⟩
          have zz := Ext.new (o := .tup (rgV m j)) r2.sub n
          exact q2 _ _ _ (r2.ext zz) zz.fle (fun _ => zz.hle) (.tup (.of upd_same) rr)
      | _ => exact (show False from q2).elim
    | _ => exact (show False from q2).elim⟩
theorem q_listRg1 (z : Cz X k) (bt : Bt X "list") (bg : Bt X "range") (hs : isStar a = false) (ha : PE X a (tE (en X io s0) W c fa)) : PE X (.Call (.Name "list" p) [.Call (.Name "range" p2) [a] [] pos2] [] pos) (tN (en X io s0) W c (dRng1 fa)) :=
  pe_weak (pe_listRg z.calm bt.gl bt.mg (prg_1 bg.gl bg.mg ha (star_cons hs _ _)) rfl) fun σ H Q ⟨G, F0, ρ, F, r, q⟩ => ⟨G, F0, ρ, F, r, (Post.bindN q id).imp fun v F1 H1 d ρ1 r1 l1 k1 p1 q1 => by
    obtain ⟨xs, e, q3⟩ := postN_lift q1
    cases d with
    | int j =>
      cases p1
      obtain ⟨ok, rr⟩ := rng2_of e
      exact ⟨j, rfl, ok, fun u n => fresh_post r1 q3 n rr⟩
    | _ => cases e⟩
theorem ms_fins {q kpos spos z1 : Pos} {j n : Nat} {kk : Str} (hN : X.N[i]? = some x) (hv : Vis X.env.scope x) (hd : (x == ("__debug__" : Str)) = false) (hcd : (x == ("__classdict__" : Str)) = false) (hu : X.A.units + 1 < cLine) (hst : isStar e = false) (hline : (apos.endLine == cpos.line) = true) (he : PE X e (tE (en X io s0) W true fe)) :
    PS X (.Expr (.Call (.Attribute (.Subscript (.Name x p) (.Constant (.str kk) j q) kpos) "insert" apos) [.Constant (.int 0) n z1, e] [] cpos) pos) (tS (en X io s0) W (sFIns0 i kk fe)) :=
  ps_weak (ps_expr (pe_bm PySem.F.plainAttrs_list PySem.F.slot_list_insert PySem.F.type_list_insert mt_insert (get_fld hN hv hd hcd hu) (pa_cons pe_int (pa_cons he pa_nil (star_cons hst _ _)) (star_cons rfl _ _)) rfl (by rw [star_cons rfl, star_cons hst]; rfl) hline (star_cons rfl _ _) (by rw [star_cons hst]; rfl))) fun D σ H ⟨G, F0, ρ, F, r, q⟩ => by
    unfold sFIns0 at q
    cases e0 : fldL ρ i kk with
    | none => rw [e0] at q; exact q.elim
    | some xs =>
      rw [e0] at q
      obtain ⟨kvs, e1, e2, e3⟩ := fldL_eq e0
      obtain ⟨a, hs, v, h1, h2, h3, b, vs, rfl, h5, h6⟩ := r.fld e3
      refine ⟨.ref a, h1, a, .ref b, rfl, by have g := DGet.k (k := Sum.inr kk) h2; rw [h3] at g; exact g, .inl ⟨rfl, _, SqL.of h5⟩, G, F0, ρ, F, r, (Post.out q).imp fun v F1 H1 d ρ1 r1 l1 k1 p1 q1 => ?_⟩
      cases g0 : fldL ρ1 i kk with
      | none => rw [g0] at q1; exact q1.elim
      | some ys =>
        rw [g0] at q1
        dsimp only at q1
        split at q1
        rotate_left
        · exact q1.elim
        rename_i hz
        obtain ⟨kvs', g1, g2, g3⟩ := fldL_eq g0
        obtain ⟨a', hs', v', y1, y2, y3, b', vs', rfl, y5, y6⟩ := r1.fld g3
        rw [h1] at y1
        cases y1
        have := k1 rfl _ _ h2
        rw [y2] at this
        cases this
        rw [h3] at y3
        cases y3
        refine ⟨b, vs', 0, v, rfl, rfl, y5, by rw [y6.length]; exact hz, by decide, by decide, ?_⟩
        rw [putL_eq g1] at q1
        exact q1 σ F1 _ (r1.wrF g1 g2 h1 y2 h3 (by simpa using Reps.cons p1 y6)) (.refl _)
end
/-! ## a, b = x, y by a tuple (a name of a cell among them) -/
section
variable {X : Cx} {io : List Nat} {s0 : L2.St} {W : WX} {ea eb : Expr} {ra rb : RH} {i j : Nat} {x y : Str} {px py pt pos : Pos} {kt k2 : Nat} {pt2 : Pos}
theorem ms_parC (hc : X.calm = true) (hN : X.N.Nodup) (hi : X.N[i]? = some x) (hj : X.N[j]? = some y) (hij : i ≠ j) (hio : i ∉ io) (hjo : j ∉ io) (hx : Loc X.env.scope x) (hy : Loc X.env.scope y) (fx : X.fn x = true ∨ X.env.scope.names.lookup x = some .local) (fy : X.fn y = true ∨ X.env.scope.names.lookup y = some .local) (sa : isStar ea = false) (sb : isStar eb = false)
    (hs : swapsWithSole [.Tuple [.Name x px, .Name y py] kt pt] (.Tuple [ea, eb] k2 pt2) pos.line X.env = pure false) (hw : swappedStores [.Tuple [.Name x px, .Name y py] kt pt] (.Tuple [ea, eb] k2 pt2) X.env = pure none) (ha : PE X ea (ra.tE (en X io s0) W)) (hb : PE X eb (rb.tE (en X io s0) W)) :
    PS X (.Assign [.Tuple [.Name x px, .Name y py] kt pt] (.Tuple [ea, eb] k2 pt2) pos) (tS (en X io s0) W (sPar i j ra rb)) :=
  ps_weak (ps_asg (pe_tup (pa_cons ha (pa_cons hb pa_nil (star_cons sb _ _)) (star_cons sa _ _))) (pg_tup hc (pgs_cons (pg_name hN hi hx fx) (pgs_cons (pg_name hN hj hy fy) pgs_nil (by rw [asg_cons rfl]; rfl)) (by rw [asg_cons rfl]; rfl)) (asg_len (st1 rfl (st1 rfl st0))).1 (asg_len (st1 rfl (st1 rfl st0))).2) hs hw (by rw [asg_cons rfl]; rfl)) fun D σ H ⟨G, F0, ρ, F, r, q⟩ => by
    unfold sPar at q
    refine rh_one r id q fun v s ρ1 F1 H1 G2 F02 r1 l1 q1 st1 cv1 => ?_
    refine rh_one r1 cv1 q1 fun u t ρ2 F2 H2 G3 F03 r2 l2 q2 st2 cv2 => ?_
    refine ⟨by rw [sizeLine_eq]; show 2 ≤ 16777216; omega, fun p n => ?_⟩
    have e2 : R (en X io s0) G3 F03 ρ2 F2 σ (L2.upd H2 p (.tup [v, u])) := r2.ext (Ext.newH r2.sub n)
    have r3 := st1 _ _ _ _ i (st2 ρ2 F2 σ _ j e2 (.refl _) hjo) l2 hio
    rw [List.set_comm _ _ (Ne.symm hij), List.set_comm _ _ (Ne.symm hij)] at r3
    refine ⟨p, [v, u], rfl, .of upd_same, rfl, v, [u], rfl, u, [], rfl, rfl, ?_⟩
    exact q2 _ _ _ r3 (.refl _)
end
/-! ## {} -/
theorem me_dict0 {X : Cx} {io : List Nat} {s0 : L2.St} {W : WX} {c : Bool} {pos : Pos} : PE X (.Dict [] [] pos) (tE (en X io s0) W c (dDict [])) := pe_weak pe_dnewK fun σ H Q ⟨G, F0, ρ, F, r, q⟩ => by
  intro p n
  have z := Ext.new (o := .dK []) r.sub n
  exact q _ _ _ (r.ext z) z.fle (fun _ => z.hle) (Rep.dic (kvs := []) upd_same .nil)
end Ev

set_option Elab.async false
set_option linter.all false
set_option maxRecDepth 100000
set_option maxHeartbeats 1000000
namespace Ev
open PySem PySem.Spec PyProof.Rows L2
/-! ## the printed texts' facts -/
def blkB (N : List Str) (sc scope : Scope) (own : List (Str × Nat)) : Bool := scope.kind == .function && scope.names.all (fun y => scope.names.lookup y.1 == some y.2) && own.all (fun p => N[p.2]? == some p.1) &&
  scope.names.all (fun y => y.2 != .free || (sc.names.lookup y.1 == some .cell || sc.names.lookup y.1 == some .free)) && scope.names.all (fun y => !(y.2 == .local || y.2 == .cell) || ((own.map (·.1)).contains y.1 || !N.contains y.1))
theorem blk_of {N : List Str} {sc scope : Scope} {own : List (Str × Nat)} (h : blkB N sc scope own = true) : BlkOk N sc scope own := by
  simp only [blkB, Bool.and_eq_true, List.all_eq_true] at h
  obtain ⟨⟨⟨⟨h1, h2⟩, h3⟩, h4⟩, h5⟩ := h
  refine ⟨by simpa using h1, fun y hy => by simpa using h2 y hy, fun p hp => by simpa using h3 p hp, fun y hy e => ?_, fun y hy e => ?_⟩
  · have := h4 y hy
    rw [e] at this
    simpa using this
  · have := h5 y hy
    rcases e with e | e <;> (rw [e] at this; simpa using this)
theorem kw_binds {K : Frag} {x qual : Str} {params : Arguments} {body : List Stmt} {scope : Scope} {f : Addr} {fd : FuncData} {ps ks : List Str} {n m : Nat} {perm : List Nat} (F : FunD K x qual params body scope [] [] f fd)
    (h : ∀ (kV doc pm : Value) (an : Option Addr) (cdv ct : Value) (us ws : List Value), us.length = n → ws.length = m → bindArgs (PySem.W.fnOf x qual params body scope .none kV doc pm an cdv ct) ⟨us, ks.zip ws⟩ = pure (ps.zip (pick perm (us ++ ws)))) : ∀ (s : Shared) (us ws : List Value), K.In s.heap → us.length = n → ws.length = m → BindsTo s fd ⟨us, ks.zip ws⟩ (ps.zip (pick perm (us ++ ws))) := by
  intro s us ws _ l1 l2
  obtain ⟨oc, od, dV, kV, doc, pm, an, cdv, ct, osl, rfl, lk, hcd, hD, hK⟩ := F.ex
  rcases hD with ⟨_, rfl⟩ | ⟨e, _⟩
  · exact .of_eq (h kV doc pm an cdv ct us ws l1 l2)
  · exact absurd rfl e
end Ev

set_option Elab.async false
set_option linter.all false
set_option maxRecDepth 100000
set_option maxHeartbeats 1000000
namespace Ev
open PySem PySem.Spec PyProof.Rows L2
/-! ## slots forgotten behind a statement -/
def Out.wipe (o : Out) (js : List Nat) : Out := match o with
  | .nx ρ => .nx (wipeE ρ js)
  | .ct ρ => .ct (wipeE ρ js)
  | .bk ρ => .bk (wipeE ρ js)
  | o => o
@[simp] theorem nx_wipe (e : Ens) (js : List Nat) : (Out.nx e).wipe js = .nx (wipeE e js) := rfl
@[simp] theorem bk_wipe (e : Ens) (js : List Nat) : (Out.bk e).wipe js = .bk (wipeE e js) := rfl
@[simp] theorem ct_wipe (e : Ens) (js : List Nat) : (Out.ct e).wipe js = .ct (wipeE e js) := rfl
@[simp] theorem rt_wipe (d : PyData) (e : Ens) (js : List Nat) : (Out.rt d e).wipe js = .rt d e := rfl
@[simp] theorem ro_wipe (d : Own) (e : Ens) (js : List Nat) : (Out.ro d e).wipe js = .ro d e := rfl
@[simp] theorem exc_wipe (x : Ex) (e : Ens) (js : List Nat) : (Out.exc x e).wipe js = .exc x e := rfl
@[simp] theorem bad_wipe (js : List Nat) : Out.bad.wipe js = .bad := rfl
def sEnd (js : List Nat) (f : DenS) : DenS := fun ρ => (f ρ).wipe js
section
variable {X : Cx} {io : List Nat} {s0 : L2.St} {W : WX} {f : DenS} {st : Stmt} {sts : List Stmt} {js : List Nat}
theorem R.unsets {C : En} {G F0 F H : Hp} {ρ : Ens} {σ : L2.St} (r : R C G F0 ρ F σ H) : ∀ js : List Nat, R C G F0 (wipeE ρ js) F σ H
  | [] => r
  | j :: js => (R.unsets r js).unset
theorem postS_wipe {C : En} {G F0 F : Hp} {D : Ends} {o : Out} (q : PostS C W G F0 F D (o.wipe js)) : PostS C W G F0 F D o := by
  cases o with
  | nx ρ => exact fun σ' F' H' r l => q σ' F' H' (r.unsets js) l
  | bk ρ => exact fun σ' F' H' r l => q σ' F' H' (r.unsets js) l
  | ct ρ => exact fun σ' F' H' r l => q σ' F' H' (r.unsets js) l
  | rt d ρ => exact q
  | ro d ρ => exact q
  | exc x ρ => exact q
  | bad => exact q
theorem ms_end (h : PS X st (tS (en X io s0) W f)) : PS X st (tS (en X io s0) W (sEnd js f)) := ps_weak h fun D σ H ⟨G, F0, ρ, F, r, q⟩ => ⟨G, F0, ρ, F, r, postS_wipe q⟩
theorem ms_ends (h : PSs X sts (tS (en X io s0) W f)) : PSs X sts (tS (en X io s0) W (sEnd js f)) := pss_weak h fun D σ H ⟨G, F0, ρ, F, r, q⟩ => ⟨G, F0, ρ, F, r, postS_wipe q⟩
end
/-- .. ahead of a loop and behind it -/
def sLp (js : List Nat) (f : DenS) : DenS := fun ρ => (f (wipeE ρ js)).wipe js
section
variable {X : Cx} {io : List Nat} {s0 : L2.St} {W : WX} {f : DenS} {st : Stmt} {js : List Nat}
theorem ms_lp (h : PS X st (tS (en X io s0) W f)) : PS X st (tS (en X io s0) W (sLp js f)) := ps_weak h fun D σ H ⟨G, F0, ρ, F, r, q⟩ => ⟨G, F0, _, F, r.unsets js, postS_wipe q⟩
end
/-! ## two clauses -/
def lcL2 (g : DenG) (tt : Den Bool) (s1 : Den (List PyData)) (g1 : DenG) (tt1 : Den Bool) (te : Den PyData) (vs vs1 : List Nat) : List PyData → Den (List PyData)
  | [], ρ => .ok [] ρ
  | d :: ds, ρ => match g d ρ with
    | none => .bad
    | some ρa => (noex (tt ρa)).bind fun b ρb => if b = true then (noex (s1 ρb)).bind fun es ρc => (lcL g1 tt1 te vs1 es (wipeE ρc vs1)).bind fun xs ρd => (lcL2 g tt s1 g1 tt1 te vs vs1 ds (wipeE ρd vs)).bind fun ys ρe => .ok (xs ++ ys) ρe else lcL2 g tt s1 g1 tt1 te vs vs1 ds (wipeE ρb vs)
def nLc2 (s : Den (List PyData)) (g : DenG) (tt : Den Bool) (s1 : Den (List PyData)) (g1 : DenG) (tt1 : Den Bool) (te : Den PyData) (vs vs1 : List Nat) : Den (List PyData) := fun ρ => (s ρ).bind fun ds ρ1 => (lcL2 g tt s1 g1 tt1 te vs vs1 ds (wipeE ρ1 vs)).bind fun out ρ2 => if decide (out.length ≤ sizeLine) = true then .ok out (restE ρ1 ρ2 vs) else .bad
theorem wipe_get {σ : L2.St} {j : Nat} : ∀ (vs : List Nat), j ∉ vs → (L2.wipe σ vs)[j]? = σ[j]?
  | [], _ => rfl
  | v :: vs, h => by
    unfold L2.wipe
    rw [List.getElem?_set_ne (fun z => h (by simp [z]))]
    exact wipe_get vs fun z => h (List.mem_cons_of_mem _ z)
section
variable {X : Cx} {io : List Nat} {s0 : L2.St} {W : WX} {c : Bool} {fs fs1 : Den (List PyData)} {dg dg1 : DenG} {sl sl1 vs vs1 : List Nat} {ft ft1 : Den Bool} {fe : Den PyData}
theorem lc2_of {σ : L2.St} {H : Hp} {Q : VK} (nd : vs.Nodup) (hio : ∀ v ∈ vs, v ∉ io) (hsl : ∀ j ∈ sl, j ∈ vs) (hv1 : ∀ j ∈ vs1, j ∈ vs) (hsl1 : ∀ j ∈ sl1, j ∈ vs1) (h : tN (en X io s0) W c (nLc2 fs dg ft fs1 dg1 ft1 fe vs vs1) σ H Q) :
    tLc2 (tI (en X io s0) W c fs) (tG (en X io s0) sl dg) (tT (en X io s0) WF c ft) (tI (en X io s0) WF c fs1) (tG (en X io s0) sl1 dg1) (tT (en X io s0) WF c ft1) (tE (en X io s0) WF c fe) vs vs1 σ H Q := by
  obtain ⟨G, F0, ρ, F, r, q⟩ := h
  refine ⟨G, F0, ρ, F, r, (Post.bindN q id).imp fun J F1 H1 ds ρ1 r1 l1 k1 wk q1 => ?_⟩
  intro p np
  have gp : G p = none := r1.gle.none np
  have fp : F1 p = none := r1.sub.none np
  have f1 := r1.frm
  have hio1 : ∀ v ∈ vs1, v ∉ io := fun v h => hio v (hv1 v h)
  generalize et : lcL2 dg ft fs1 dg1 ft1 fe vs vs1 ds (wipeE ρ1 vs) = total at q1
  -- what is known of the whole
  have tot : ∃ out ρ2, total = .ok out ρ2 ∧ out.length ≤ sizeLine ∧ PostN (en X io s0) W c G F0 F1 σ H1 (fun p _ _ _ H' _ _ => Q (.ref p) H') (.ok out (restE ρ1 ρ2 vs)) := by
    cases total with
    | ok out ρ2 =>
      have q1 : PostN (en X io s0) W c G F0 F1 σ H1 (fun p _ _ _ H' _ _ => Q (.ref p) H') (if decide (out.length ≤ sizeLine) = true then .ok out (restE ρ1 ρ2 vs) else .bad) := q1
      by_cases hz : out.length ≤ sizeLine
      · rw [if_pos (decide_eq_true hz)] at q1
        exact ⟨out, ρ2, rfl, hz, q1⟩
      · rw [if_neg (by simpa using hz)] at q1
        exact q1.elim
    | exc x ρ2 => exact (show False from by
        clear q1
        revert et
        generalize wipeE ρ1 vs = ρ0
        have inner : ∀ (es : List PyData) ρ x ρ', lcL dg1 ft1 fe vs1 es ρ ≠ .exc x ρ' := by
          intro es
          induction es with
          | nil => intro ρ x ρ' h; cases h
          | cons e es ih =>
            intro ρ x ρ' h
            rw [lcL] at h
            split at h
            · cases h
            · cases e1 : ft1 _ with
              | exc _ _ => rw [e1] at h; cases h
              | bad => rw [e1] at h; cases h
              | ok b ρb =>
                rw [e1] at h
                simp only [noex, Rs.bind] at h
                split at h
                · cases e2 : fe ρb with
                  | exc _ _ => rw [e2] at h; cases h
                  | bad => rw [e2] at h; cases h
                  | ok y ρc =>
                    rw [e2] at h
                    simp only at h
                    cases e3 : lcL dg1 ft1 fe vs1 es (wipeE ρc vs1) with
                    | exc a b => exact ih _ _ _ e3
                    | bad => rw [e3] at h; cases h
                    | ok _ _ => rw [e3] at h; cases h
                · exact ih _ _ _ h
        have outer : ∀ (ds : List PyData) ρ x ρ', lcL2 dg ft fs1 dg1 ft1 fe vs vs1 ds ρ ≠ .exc x ρ' := by
          intro ds
          induction ds with
          | nil => intro ρ x ρ' h; cases h
          | cons d ds ih =>
            intro ρ x ρ' h
            rw [lcL2] at h
            split at h
            · cases h
            · cases e1 : ft _ with
              | exc _ _ => rw [e1] at h; cases h
              | bad => rw [e1] at h; cases h
              | ok b ρb =>
                rw [e1] at h
                simp only [noex, Rs.bind] at h
                split at h
                · cases e2 : fs1 ρb with
                  | exc _ _ => rw [e2] at h; cases h
                  | bad => rw [e2] at h; cases h
                  | ok es ρc =>
                    rw [e2] at h
                    simp only at h
                    cases e3 : lcL dg1 ft1 fe vs1 es (wipeE ρc vs1) with
                    | exc a b => exact inner _ _ _ _ e3
                    | bad => rw [e3] at h; cases h
                    | ok xs ρd =>
                      rw [e3] at h
                      simp only at h
                      cases e4 : lcL2 dg ft fs1 dg1 ft1 fe vs vs1 ds (wipeE ρd vs) with
                      | exc a b => exact ih _ _ _ e4
                      | bad => rw [e4] at h; cases h
                      | ok _ _ => rw [e4] at h; cases h
                · exact ih _ _ _ h
        intro et
        exact absurd et (outer _ _ _ _)).elim
    | bad => exact q1.elim
  clear q1
  obtain ⟨out, ρE, rfl, hz, q1⟩ := tot
  refine ⟨fun i m H2 => ∃ ρ2 F2 accV accD, R (en X io s0) (L2.upd G p (.lst accV)) F1 ρ2 F2 (L2.wipe σ vs) H2 ∧ Le F1 F2 ∧ (c = true → Le H1 H2) ∧ Reps X.K F2 accV accD ∧ i + m = ds.length ∧
    .ok out ρE = (lcL2 dg ft fs1 dg1 ft1 fe vs vs1 (ds.drop i) ρ2).bind fun ys ρd => .ok (accD ++ ys) ρd, ⟨ds.length, wipeE ρ1 vs, F1, [], [], ?_, .refl _, fun _ => .new np, .nil, Nat.zero_add _, ?_⟩, ?_⟩
  · exact (R.guard (r1.wipe (vs := vs) hio) np)
  · rw [List.drop_zero, et]
    rfl
  rintro i m H2 ⟨ρ2, F2, accV, accD, r2, l2, k2, p2, hm, he⟩
  obtain ⟨w1, w2⟩ := wk.2 i H2 F2 l2 r2.sub
  by_cases hi : i < ds.length
  · obtain ⟨go, yl⟩ := w1 hi
    rw [List.drop_eq_getElem_cons hi, lcL2] at he
    refine .inr ⟨go, fun H' => ∃ ρ2 F2 accV accD, R (en X io s0) (L2.upd G p (.lst accV)) F1 ρ2 F2 (L2.wipe σ vs) H' ∧ Le F1 F2 ∧ (c = true → Le H1 H') ∧ Reps X.K F2 accV accD ∧
      .ok out ρE = (lcL2 dg ft fs1 dg1 ft1 fe vs vs1 (ds.drop (i + 1)) ρ2).bind fun ys ρd => .ok (accD ++ ys) ρd, fun H' ⟨a1, a2, a3, a4, a5, a6, a7, a8, a9⟩ => ⟨m - 1, by omega, a1, a2, a3, a4, a5, a6, a7, a8, by omega, a9⟩, fun x H3 y => ?_⟩
    obtain ⟨F3, d, z, ed, px⟩ := yl x H3 y
    rw [List.getElem?_eq_getElem hi] at ed
    cases ed
    cases e : dg ds[i] ρ2 with
    | none => rw [e] at he; cases he
    | some ρa =>
      rw [e] at he
      dsimp only at he
      refine ⟨_, _, ρ2, F3, ds[i], ρa, r2.ext z, px, e, fun σ' ra hl hj => ?_⟩
      have hw : L2.wipe σ' vs = L2.wipe σ vs := (wipe_same hl fun j h => hj j fun h2 => h (hsl j h2)).trans (wipe_wipe vs)
      refine ⟨hw, _, _, ρa, F3, ra, ?_⟩
      cases eb : ft ρa with
      | exc x ρb => rw [eb] at he; cases he
      | bad => rw [eb] at he; cases he
      | ok b ρb =>
        rw [eb] at he
        rintro v F4 H4 r4 l4 k4 rfl
        cases v with
        | false =>
          rw [if_neg Bool.false_ne_true]
          refine ⟨wipeE ρb vs, F4, accV, accD, hw ▸ r4.wipe (vs := vs) hio, l2.trans (z.fle.trans l4), fun h => (k2 h).trans (z.hle.trans (k4 h)), p2.mono (z.fle.trans l4), ?_⟩
          rw [he]
          rfl
        | true =>
          rw [if_pos rfl]
          have he : _ = ((noex (fs1 ρb)).bind _).bind _ := he
          refine ⟨_, _, ρb, F4, r4, ?_⟩
          cases e0 : fs1 ρb with
          | exc x ρc => rw [e0] at he; cases he
          | bad => rw [e0] at he; cases he
          | ok es ρc =>
            rw [e0] at he
            intro J1 F5 H5 r5 l5 k5 wk1
            have he : Rs.ok out ρE = ((lcL dg1 ft1 fe vs1 es (wipeE ρc vs1)).bind fun xs ρd => (lcL2 dg ft fs1 dg1 ft1 fe vs vs1 (ds.drop (i + 1)) (wipeE ρd vs)).bind fun ys ρe => .ok (xs ++ ys) ρe).bind fun ys ρd => .ok (accD ++ ys) ρd := he
            have lA : Le F1 F5 := l2.trans (z.fle.trans (l4.trans l5))
            have kA : c = true → Le H1 H5 := fun h => (k2 h).trans (z.hle.trans ((k4 h).trans (k5 h)))
            refine ⟨fun j k H6 => ∃ ρ3 F6 acV acD, R (en X io s0) (L2.upd G p (.lst acV)) F1 ρ3 F6 (L2.wipe σ' vs1) H6 ∧ Le F5 F6 ∧ (c = true → Le H1 H6) ∧ Reps X.K F6 acV acD ∧ j + k = es.length ∧
              Rs.ok out ρE = ((lcL dg1 ft1 fe vs1 (es.drop j) ρ3).bind fun xs ρd => (lcL2 dg ft fs1 dg1 ft1 fe vs vs1 (ds.drop (i + 1)) (wipeE ρd vs)).bind fun ys ρe => .ok (xs ++ ys) ρe).bind fun ys ρd => .ok (acD ++ ys) ρd, ⟨es.length, wipeE ρc vs1, F5, accV, accD, r5.wipe (vs := vs1) hio1, .refl _, kA, p2.mono (z.fle.trans (l4.trans l5)), Nat.zero_add _, ?_⟩, ?_⟩
            · rw [List.drop_zero]; exact he
            rintro j k H6 ⟨ρ3, F6, acV, acD, r6, l6, k6, p6, hk, he⟩
            obtain ⟨u1, u2⟩ := wk1.2 j H6 F6 l6 r6.sub
            by_cases hj1 : j < es.length
            · obtain ⟨go1, yl1⟩ := u1 hj1
              rw [List.drop_eq_getElem_cons hj1, lcL] at he
              refine .inr ⟨go1, fun H' => ∃ ρ3 F6 acV acD, R (en X io s0) (L2.upd G p (.lst acV)) F1 ρ3 F6 (L2.wipe σ' vs1) H' ∧ Le F5 F6 ∧ (c = true → Le H1 H') ∧ Reps X.K F6 acV acD ∧
                Rs.ok out ρE = ((lcL dg1 ft1 fe vs1 (es.drop (j + 1)) ρ3).bind fun xs ρd => (lcL2 dg ft fs1 dg1 ft1 fe vs vs1 (ds.drop (i + 1)) (wipeE ρd vs)).bind fun ys ρe => .ok (xs ++ ys) ρe).bind fun ys ρd => .ok (acD ++ ys) ρd, fun H' ⟨a1, a2, a3, a4, a5, a6, a7, a8, a9⟩ => ⟨k - 1, by omega, a1, a2, a3, a4, a5, a6, a7, a8, by omega, a9⟩, fun x1 H7 y1 => ?_⟩
              obtain ⟨F7, d1, z1, ed1, px1⟩ := yl1 x1 H7 y1
              rw [List.getElem?_eq_getElem hj1] at ed1
              cases ed1
              cases e1 : dg1 es[j] ρ3 with
              | none => rw [e1] at he; cases he
              | some ρa1 =>
                rw [e1] at he
                dsimp only at he
                refine ⟨_, _, ρ3, F7, es[j], ρa1, r6.ext z1, px1, e1, fun σ3 ra1 hl1 hj2 => ?_⟩
                have hw1 : L2.wipe σ3 vs1 = L2.wipe σ' vs1 := (wipe_same hl1 fun j h => hj2 j fun h2 => h (hsl1 j h2)).trans (wipe_wipe vs1)
                refine ⟨hw1, _, _, ρa1, F7, ra1, ?_⟩
                cases eb1 : ft1 ρa1 with
                | exc x ρb1 => rw [eb1] at he; cases he
                | bad => rw [eb1] at he; cases he
                | ok b1 ρb1 =>
                  rw [eb1] at he
                  rintro v1 F8 H8 r8 l8 k8 rfl
                  cases v1 with
                  | false =>
                    rw [if_neg Bool.false_ne_true]
                    refine ⟨wipeE ρb1 vs1, F8, acV, acD, hw1 ▸ r8.wipe (vs := vs1) hio1, l6.trans (z1.fle.trans l8), fun h => (k6 h).trans (z1.hle.trans (k8 h)), p6.mono (z1.fle.trans l8), ?_⟩
                    rw [he]
                    rfl
                  | true =>
                    rw [if_pos rfl]
                    have he : _ = (((noex (fe ρb1)).bind _).bind _).bind _ := he
                    refine ⟨_, _, ρb1, F8, r8, ?_⟩
                    cases ey : fe ρb1 with
                    | exc x ρc1 => rw [ey] at he; cases he
                    | bad => rw [ey] at he; cases he
                    | ok y ρc1 =>
                      rw [ey] at he
                      intro u F9 H9 r9 l9 k9 p9
                      have he2 : Rs.ok out ρE = ((lcL dg1 ft1 fe vs1 (es.drop (j + 1)) (wipeE ρc1 vs1)).bind fun xs ρd => (lcL2 dg ft fs1 dg1 ft1 fe vs vs1 (ds.drop (i + 1)) (wipeE ρd vs)).bind fun ys ρe => .ok (xs ++ ys) ρe).bind fun ys ρd => .ok ((acD ++ [y]) ++ ys) ρd := by
                        rw [he]
                        show ((((lcL dg1 ft1 fe vs1 (es.drop (j + 1)) (wipeE ρc1 vs1)).bind fun ys ρd => .ok (y :: ys) ρd).bind fun xs ρd => (lcL2 dg ft fs1 dg1 ft1 fe vs vs1 (ds.drop (i + 1)) (wipeE ρd vs)).bind fun ys ρe => .ok (xs ++ ys) ρe).bind fun ys ρd => .ok (acD ++ ys) ρd) = _
                        cases lcL dg1 ft1 fe vs1 (es.drop (j + 1)) (wipeE ρc1 vs1) with
                        | ok xs ρd =>
                          show (((lcL2 dg ft fs1 dg1 ft1 fe vs vs1 (ds.drop (i + 1)) (wipeE ρd vs)).bind fun ys ρe => .ok ((y :: xs) ++ ys) ρe).bind fun ys ρd => .ok (acD ++ ys) ρd) = ((lcL2 dg ft fs1 dg1 ft1 fe vs vs1 (ds.drop (i + 1)) (wipeE ρd vs)).bind fun ys ρe => .ok (xs ++ ys) ρe).bind fun ys ρd => .ok ((acD ++ [y]) ++ ys) ρd
                          cases lcL2 dg ft fs1 dg1 ft1 fe vs vs1 (ds.drop (i + 1)) (wipeE ρd vs) with
                          | ok ys ρe => simp
                          | exc _ _ => rfl
                          | bad => rfl
                        | exc _ _ => rfl
                        | bad => rfl
                      have la : acV.length < sizeLine := by
                        rw [p6.length]
                        refine Nat.lt_of_lt_of_le ?_ hz
                        revert he2
                        generalize (lcL dg1 ft1 fe vs1 (es.drop (j + 1)) (wipeE ρc1 vs1)).bind (fun xs ρd => (lcL2 dg ft fs1 dg1 ft1 fe vs vs1 (ds.drop (i + 1)) (wipeE ρd vs)).bind fun ys ρe => .ok (xs ++ ys) ρe) = RR
                        intro he2
                        cases RR with
                        | ok zs ρz =>
                          have he2 : Rs.ok out ρE = .ok ((acD ++ [y]) ++ zs) ρz := he2
                          cases he2
                          simp
                        | exc _ _ => cases he2
                        | bad => cases he2
                      refine ⟨acV, r9.gle p _ upd_same, la, wipeE ρc1 vs1, F9, acV ++ [u], acD ++ [y], hw1 ▸ (R.guardW (o' := .lst (acV ++ [u])) r9 fp).wipe (vs := vs1) hio1, l6.trans (z1.fle.trans (l8.trans l9)), fun h a o ea => ?_, (p6.mono (z1.fle.trans (l8.trans l9))).append (.cons p9 .nil), he2⟩
                      rw [upd_ne (ne_of_none ea np)]
                      exact ((k6 h).trans (z1.hle.trans ((k8 h).trans (k9 h)))) a o ea
            · have hj1 : j = es.length := by omega
              rw [List.drop_eq_nil_of_le (by omega), lcL] at he
              have hw2 : L2.wipe (L2.wipe σ' vs1) vs = L2.wipe σ vs := (wipe_same (wipe_length _ _) fun j hj => wipe_get vs1 fun z => hj (hv1 j z)).trans hw
              refine .inl ⟨u2 hj1, wipeE ρ3 vs, F6, acV, acD, hw2 ▸ r6.wipe (vs := vs) hio, lA.trans l6, k6, p6, ?_⟩
              rw [he]
              show ((lcL2 dg ft fs1 dg1 ft1 fe vs vs1 (ds.drop (i + 1)) (wipeE ρ3 vs)).bind fun ys ρe => .ok ([] ++ ys) ρe).bind _ = _
              cases lcL2 dg ft fs1 dg1 ft1 fe vs vs1 (ds.drop (i + 1)) (wipeE ρ3 vs) <;> rfl
  · have hi : i = ds.length := by omega
    refine .inl ⟨w2 hi, ?_⟩
    rw [List.drop_eq_nil_of_le (by omega), lcL2] at he
    have he : Rs.ok out ρE = .ok (accD ++ []) ρ2 := he
    rw [List.append_nil] at he
    cases he
    exact q1 p accV F1 F2 H2 (R.rest r1 l2 nd hio r2) gp fp f1 l2 k2 p2
end
section
variable {X : Cx} {io : List Nat} {s0 : L2.St} {W : WX} {c : Bool} {elt tg iter tg1 iter1 : Expr} {ifs ifs1 : List Expr} {scope : Scope} {own : List (Str × Nat)} {pos : Pos} {fs fs1 : Den (List PyData)} {dg dg1 : DenG} {sl sl1 vs1 : List Nat} {ft ft1 : Den Bool} {fe : Den PyData}
theorem mn_lc2 (hc : X.calm = true) (hN : X.N.Nodup) (nd : (own.map (·.2)).Nodup) (hio : ∀ v ∈ own.map (·.2), v ∉ io) (hsl : ∀ j ∈ sl, j ∈ own.map (·.2)) (hv1 : ∀ j ∈ vs1, j ∈ own.map (·.2)) (hsl1 : ∀ j ∈ sl1, j ∈ vs1) (hset : ∀ x, foldedSetIterable iter X.env x = pure x) (hset1 : ∀ env x, foldedSetIterable iter1 env x = pure x) (hi : PI X tg iter (tI (en X io s0) W c fs)) (ok : BlkOk X.N X.env.scope scope own)
    (hg : ∀ (s : Shared) (H : Hp) (B : Addr) (cl : List (Str × Addr)) (fp : List Addr), PG (X.blk s H scope (compEnvC scope cl B X.env) fp) tg (tG (en X io s0) sl dg)) (ht : ∀ (s : Shared) (H : Hp) (B : Addr) (cl : List (Str × Addr)) (fp : List Addr), PTs (X.blk s H scope (compEnvC scope cl B X.env) fp) ifs (tT (en X io s0) WF c ft))
    (hi1 : ∀ (s : Shared) (H : Hp) (B : Addr) (cl : List (Str × Addr)) (fp : List Addr), PI (X.blk s H scope (compEnvC scope cl B X.env) fp) tg1 iter1 (tI (en X io s0) WF c fs1))
    (hg1 : ∀ (s : Shared) (H : Hp) (B : Addr) (cl : List (Str × Addr)) (fp : List Addr), PG (X.blk s H scope (compEnvC scope cl B X.env) fp) tg1 (tG (en X io s0) sl1 dg1)) (ht1 : ∀ (s : Shared) (H : Hp) (B : Addr) (cl : List (Str × Addr)) (fp : List Addr), PTs (X.blk s H scope (compEnvC scope cl B X.env) fp) ifs1 (tT (en X io s0) WF c ft1))
    (he : ∀ (s : Shared) (H : Hp) (B : Addr) (cl : List (Str × Addr)) (fp : List Addr), PE (X.blk s H scope (compEnvC scope cl B X.env) fp) elt (tE (en X io s0) WF c fe)) : PE X (.ListComp elt [⟨tg, iter, ifs, 0⟩, ⟨tg1, iter1, ifs1, 0⟩] scope pos) (tN (en X io s0) W c (nLc2 fs dg ft fs1 dg1 ft1 fe (own.map (·.2)) vs1)) :=
  pe_weak (pe_lc2 hc hN hi ok hv1 hg ht hi1 hg1 ht1 he hset hset1) fun _ _ _ h => lc2_of nd hio hsl hv1 hsl1 h
end
end Ev

set_option Elab.async false
set_option linter.all false
set_option maxRecDepth 100000
set_option maxHeartbeats 1000000
namespace Ev
open PySem PySem.Spec PyProof.Rows L2
/-! ## a, b, c = x, y, z -/
def sPar3 (i j l : Nat) (a b c : RH) : DenS := fun ρ => (a.run ρ).out fun s ρ1 => (b.run ρ1).out fun u ρ2 => (c.run ρ2).out fun t ρ3 => .nx (((ρ3.set i s).set j u).set l t)
theorem set3 {α : Type} {i j l : Nat} (hij : i ≠ j) (hil : i ≠ l) (hjl : j ≠ l) (xs : List α) (s u t : α) : ((xs.set l t).set j u).set i s = ((xs.set i s).set j u).set l t := by
  rw [List.set_comm t u (Ne.symm hjl), List.set_comm t s (Ne.symm hil), List.set_comm u s (Ne.symm hij)]
section
variable {X : Cx} {io : List Nat} {s0 : L2.St} {W : WX} {ea eb ec : Expr} {ra rb rc : RH} {i j l : Nat} {x y z : Str} {px py pz pt pos : Pos} {kt k2 : Nat} {pt2 : Pos}
theorem ms_par3 (hc : X.calm = true) (hN : X.N.Nodup) (hi : X.N[i]? = some x) (hj : X.N[j]? = some y) (hl : X.N[l]? = some z) (hij : i ≠ j) (hil : i ≠ l) (hjl : j ≠ l) (hio : i ∉ io) (hjo : j ∉ io) (hlo : l ∉ io) (hx : X.env.scope.names.lookup x = some .local) (hy : X.env.scope.names.lookup y = some .local) (hz : X.env.scope.names.lookup z = some .local)
    (sa : isStar ea = false) (sb : isStar eb = false) (sc : isStar ec = false)
    (hw : swappedStores [.Tuple [.Name x px, .Name y py, .Name z pz] kt pt] (.Tuple [ea, eb, ec] k2 pt2) X.env = pure (some [x, y, z])) (ha : PE X ea (ra.tE (en X io s0) W)) (hb : PE X eb (rb.tE (en X io s0) W)) (hcc : PE X ec (rc.tE (en X io s0) W)) :
    PS X (.Assign [.Tuple [.Name x px, .Name y py, .Name z pz] kt pt] (.Tuple [ea, eb, ec] k2 pt2) pos) (tS (en X io s0) W (sPar3 i j l ra rb rc)) :=
  ps_weak (ps_par3 hc hN hi hj hl hij hil hjl hx hy hz (pa_cons ha (pa_cons hb (pa_cons hcc pa_nil (star_cons sc _ _)) (star_cons sb _ _)) (star_cons sa _ _)) hw) fun D σ H ⟨G, F0, ρ, F, r, q⟩ => by
    unfold sPar3 at q
    refine rh_one r id q fun v s ρ1 F1 H1 G2 F02 r1 l1 q1 st1 cv1 => ?_
    refine rh_one r1 cv1 q1 fun u t ρ2 F2 H2 G3 F03 r2 l2 q2 st2 cv2 => ?_
    refine rh_one r2 cv2 q2 fun m n ρ3 F3 H3 G4 F04 r3 l3 q3 st3 cv3 => ?_
    refine ⟨v, u, m, rfl, ?_⟩
    have r4 := st1 _ _ _ _ i (st2 _ _ _ _ j (st3 ρ3 F3 σ H3 l r3 (.refl _) hlo) l3 hjo) (l2.trans l3) hio
    rw [set3 hij hil hjl, set3 hij hil hjl] at r4
    exact q3 _ _ _ r4 (.refl _)
end
section
variable {X : Cx} {io : List Nat} {s0 : L2.St} {W : WX} {c : Bool} {a b : Expr} {pos : Pos} {fa fb : Den PyData}
theorem mn_add' (ha : PE X a (tE (en X io s0) W c fa)) (hb : PE X b (tEW (en X io s0) W c fb)) : PE X (.BinOp a .Add b pos) (tN (en X io s0) W c (nOp gAddL fa fb)) := pe_weak (pe_op o_add ha hb) fun σ H Q ⟨G, F0, ρ, F, r, q⟩ =>
  ⟨G, F0, ρ, F, r, (Post.bindN q id).imp fun x F1 H1 d1 ρ1 r1 l1 k1 p1 q1 => ⟨G, F0, ρ1, F1, r1, (Post.bindN q1 id).imp fun y F2 H2 d2 ρ2 r2 l2 k2 p2 q2 => by
    obtain ⟨xs, e, q3⟩ := postN_lift q2
    cases d1 <;> cases d2 <;> try (cases e; done)
    simp only [gAddL] at e
    split at e
    · rename_i hz
      cases e
      have p1 : WR X.K F2 H2 x _ := .inl (Rep.mono l2 p1)
      obtain ⟨u, vs, e1, h1, rr1⟩ := p1.list r2.sub
      obtain ⟨v, us, e2, h2, rr2⟩ := p2.list r2.sub
      exact .inl (.inr ⟨u, v, vs, us, e1, e2, h1, h2, by rw [rr1.length, rr2.length]; exact hz, fun p n => fresh_post r2 q3 n (rr1.append rr2)⟩)
    · cases e⟩⟩
end
end Ev

set_option Elab.async false
set_option linter.all false
set_option maxRecDepth 100000
set_option maxHeartbeats 1000000
namespace Ev
open PySem PySem.Spec PyProof.Rows L2
/-! ## an own list, walked: it is lent meanwhile -/
section
variable {C : En} {G F0 F H : Hp} {ρ : Ens} {σ : L2.St}
theorem R.lend (r : R C G F0 ρ F σ H) {i : Nat} {xs : List PyData} (e : ρ[i]? = some (.ow (.lst xs))) : ∃ a vs, σ[i]? = some (some (.ref a)) ∧ H a = some (.lst vs) ∧ Reps C.K F vs xs ∧ G a = none ∧ F a = none ∧ R C (L2.upd G a (.lst vs)) F (ρ.set i .un) F σ H := by
  obtain ⟨w, r⟩ := r
  obtain ⟨v, e2, a, rfl, vs, e3, q0, e4⟩ := r.slot i _ e
  have hl : i < ρ.length := (List.getElem?_eq_some_iff.mp e).1
  have fa := (r.own a _ e4).1
  have ga : G a = none := by
    cases z : G a with
    | none => rfl
    | some o => have := (r.frm a (by rw [z]; simp)).2; rw [e4] at this; cases this
  refine ⟨a, vs, e2, e3, q0, ga, fa, fun b => if b = a then none else w b, by rw [List.length_set]; exact r.len, fun j s z => ?_, fun j k o o' u e1 e2 e3 e4 => ?_, fun b p z => ?_, r.sub, fun b o z => ?_, fun b h => ⟨rfl, ?_⟩, r.pin⟩
  · by_cases h : i = j
    · subst h
      rw [List.getElem?_set_self hl] at z
      cases z
      exact ⟨_, e2, trivial⟩
    · rw [List.getElem?_set_ne h] at z
      obtain ⟨v, e5, q5⟩ := r.slot j s z
      refine ⟨v, e5, ?_⟩
      cases s with
      | un => trivial
      | fz d => exact q5
      | sc ws => exact q5
      | ow o =>
        obtain ⟨b, rfl, q6⟩ := q5
        have nb : b ≠ a := fun y => h (r.sep i j _ _ _ e z e2 (by rw [e5, y]))
        refine ⟨b, rfl, ?_⟩
        cases o with
        | lst zs =>
          obtain ⟨vs', h1, h2, h3⟩ := q6
          exact ⟨vs', h1, h2, (if_neg nb).trans h3⟩
        | dic kvs =>
          obtain ⟨hs, h1, h2, h3⟩ := q6
          refine ⟨hs, h1, ?_, (if_neg nb).trans h3⟩
          have go : ∀ {j : Nat} {f : List (Key × Fld)} {v : List (Key × V)}, FldsR C.K F H w b j f v → FldsR C.K F H (fun b => if b = a then none else w b) b j f v := by
            intro j f
            induction f generalizing j with
            | nil => intro v hq; cases v with
              | nil => trivial
              | cons _ _ => exact hq.elim
            | cons x r ih =>
              intro v hq
              obtain ⟨k, f⟩ := x
              cases v with
              | nil => exact hq.elim
              | cons y r' =>
                obtain ⟨k', v⟩ := y
                obtain ⟨h1, h2, h3⟩ := hq
                refine ⟨h1, ?_, ih h3⟩
                cases f with
                | dat d => exact h2
                | lst ys =>
                  obtain ⟨a', vs', y1, y2, y3, y4⟩ := h2
                  refine ⟨a', vs', y1, y2, y3, ?_⟩
                  have na : a' ≠ a := fun y => by
                    subst y
                    rw [e4] at y4
                    cases y4
                  exact (if_neg na).trans y4
          exact go h2
  · have key : ∀ {k : Nat} {o : Own}, (ρ.set i .un)[k]? = some (.ow o) → ρ[k]? = some (.ow o) := fun {k o} e => by
      by_cases h : i = k
      · subst h
        rw [List.getElem?_set_self hl] at e
        cases e
      · rw [List.getElem?_set_ne h] at e
        exact e
    exact r.sep j k o o' u (key e1) (key e2) e3 e4
  · by_cases h : b = a
    · rw [if_pos h] at z; cases z
    · rw [if_neg h] at z
      exact r.own b p z
  · by_cases h : b = a
    · subst h
      rw [upd_same] at z
      cases z
      exact e3
    · rw [upd_ne h] at z
      exact r.gle b o z
  · by_cases hb : b = a
    · exact if_pos hb
    · rw [upd_ne hb] at h
      exact (if_neg hb).trans (r.frm b h).2
/-- .. and is given back -/
theorem R.regain {F1 : Hp} {a : Addr} {vs : List V} {i : Nat} {xs : List PyData} (r : R C (L2.upd G a (.lst vs)) F1 ρ F σ H) (n : G a = none) (n1 : F1 a = none) (f : ∀ b, G b ≠ none → F1 b = F0 b) (hi : i ∉ C.io) (q : Reps C.K F vs xs) (e : σ[i]? = some (some (.ref a))) : R C G F0 (ρ.set i (.ow (.lst xs))) F σ H := by
  have := R.own (i := i) r n n1 f hi q
  have es : σ.set i (some (.ref a)) = σ := by
    apply List.ext_getElem?
    intro j
    by_cases h : i = j
    · subst h
      rw [List.getElem?_set_self (List.getElem?_eq_some_iff.mp e).1, e]
    · rw [List.getElem?_set_ne h]
  rw [es] at this
  exact this
end
def nLcO (i : Nat) (g : DenG) (tt : Den Bool) (te : Den PyData) (vs : List Nat) : Den (List PyData) := fun ρ => match ρ[i]? with
  | some (.ow (.lst xs)) => if decide (xs.length ≤ sizeLine) = true then (lcL g tt te vs xs (wipeE (ρ.set i .un) vs)).bind fun out ρ2 => .ok out ((restE (ρ.set i .un) ρ2 vs).set i (.ow (.lst xs))) else .bad
  | some (.fz d) => nLc (dIt (dVar i)) g tt te vs ρ
  | _ => .bad
section
variable {X : Cx} {io : List Nat} {s0 : L2.St} {W : WX} {c : Bool} {dg : DenG} {sl vs : List Nat} {ft : Den Bool} {fe : Den PyData} {i0 : Nat}
/-- the slot is lent -/
theorem lcO_of {G F0 F : Hp} {ρ : Ens} {σ : L2.St} {H : Hp} {Q : VK} {xs : List PyData} (hi0 : i0 ∉ io) (nd : vs.Nodup) (hio : ∀ v ∈ vs, v ∉ io) (hsl : ∀ j ∈ sl, j ∈ vs) (r : R (en X io s0) G F0 ρ F σ H) (es : ρ[i0]? = some (.ow (.lst xs)))
    (q : PostN (en X io s0) W c G F0 F σ H (fun p _ _ _ H' _ _ => Q (.ref p) H') (if decide (xs.length ≤ sizeLine) = true then (lcL dg ft fe vs xs (wipeE (ρ.set i0 .un) vs)).bind fun out ρ2 => .ok out ((restE (ρ.set i0 .un) ρ2 vs).set i0 (.ow (.lst xs))) else .bad)) :
    tLc (iAny X.K (tVar i0)) (tG (en X io s0) sl dg) (tT (en X io s0) WF c ft) (tE (en X io s0) WF c fe) vs σ H Q := by
  by_cases hz : xs.length ≤ sizeLine
  rotate_left
  · rw [if_neg (by simpa using hz)] at q
    exact q.elim
  rw [if_pos (decide_eq_true hz)] at q
  obtain ⟨a, us, ea, ha, ru, ga, fa, r1⟩ := r.lend es
  have fm := r.frm
  refine ⟨.ref a, ea, .inl ⟨a, rfl, .inl ⟨us, SqL.of ha, fun _ => ?_⟩⟩⟩
  intro p np
  have npa : p ≠ a := fun y => by subst y; rw [ha] at np; cases np
  have gp : (L2.upd G a (.lst us)) p = none := r1.gle.none np
  have fp : F p = none := r1.sub.none np
  have f1 := r1.frm
  refine ⟨fun i m H2 => ∃ ρ2 F2 accV accD, R (en X io s0) (L2.upd (L2.upd G a (.lst us)) p (.lst accV)) F ρ2 F2 (L2.wipe σ vs) H2 ∧ Le F F2 ∧ (c = true → Le H H2) ∧ Reps X.K F2 accV accD ∧ i + m = xs.length ∧ accD.length ≤ i ∧
    lcL dg ft fe vs xs (wipeE (ρ.set i0 .un) vs) = (lcL dg ft fe vs (xs.drop i) ρ2).bind fun ys ρd => .ok (accD ++ ys) ρd, ⟨xs.length, wipeE (ρ.set i0 .un) vs, F, [], [], ?_, .refl _, fun _ => .new np, .nil, Nat.zero_add _, Nat.le_refl _, ?_⟩, ?_⟩
  · exact (R.guard (r1.wipe (vs := vs) hio) np)
  · rw [List.drop_zero]
    cases lcL dg ft fe vs xs (wipeE (ρ.set i0 .un) vs) <;> rfl
  rintro i m H2 ⟨ρ2, F2, accV, accD, r2, l2, k2, p2, hm, hy, he⟩
  have h2a : H2 a = some (.lst us) := r2.gle a _ (by rw [upd_ne (Ne.symm npa), upd_same])
  by_cases hi : i < xs.length
  · have hiu : i < us.length := by rw [ru.length]; exact hi
    rw [List.drop_eq_getElem_cons hi, lcL] at he
    refine .inr ⟨⟨us, us[i], SqL.of h2a, List.getElem?_eq_getElem hiu⟩, fun H' => ∃ ρ2 F2 accV accD, R (en X io s0) (L2.upd (L2.upd G a (.lst us)) p (.lst accV)) F ρ2 F2 (L2.wipe σ vs) H' ∧ Le F F2 ∧ (c = true → Le H H') ∧ Reps X.K F2 accV accD ∧ accD.length ≤ i + 1 ∧
      lcL dg ft fe vs xs (wipeE (ρ.set i0 .un) vs) = (lcL dg ft fe vs (xs.drop (i + 1)) ρ2).bind fun ys ρd => .ok (accD ++ ys) ρd, fun H' ⟨a1, a2, a3, a4, a5, a6, a7, a8, a9, a10⟩ => ⟨m - 1, by omega, a1, a2, a3, a4, a5, a6, a7, a8, by omega, a9, a10⟩, fun x H3 y => ?_⟩
    obtain ⟨rfl, yx⟩ := y
    have ex := yx us (SqL.of h2a)
    obtain ⟨d, ed, px⟩ := ru.getV ex
    rw [List.getElem?_eq_getElem hi] at ed
    cases ed
    cases e : dg xs[i] ρ2 with
    | none =>
      rw [e] at he
      rw [he] at q
      exact (show False from q).elim
    | some ρa =>
      rw [e] at he
      dsimp only at he
      refine ⟨_, _, ρ2, F2, xs[i], ρa, r2, Rep.mono l2 px, e, fun σ' rra hl hj => ?_⟩
      have hw : L2.wipe σ' vs = L2.wipe σ vs := (wipe_same hl fun j h => hj j fun h2 => h (hsl j h2)).trans (wipe_wipe vs)
      refine ⟨hw, _, _, ρa, F2, rra, ?_⟩
      cases eb : ft ρa with
      | exc x ρb =>
        rw [eb] at he
        rw [he] at q
        exact (show False from q).elim
      | bad =>
        rw [eb] at he
        rw [he] at q
        exact (show False from q).elim
      | ok b ρb =>
        rw [eb] at he
        rintro v F4 H4 r4 l4 k4 rfl
        cases v with
        | false =>
          rw [if_neg Bool.false_ne_true]
          refine ⟨wipeE ρb vs, F4, accV, accD, hw ▸ r4.wipe (vs := vs) hio, l2.trans l4, fun h => (k2 h).trans (k4 h), p2.mono l4, by omega, ?_⟩
          rw [he]
          rfl
        | true =>
          rw [if_pos rfl]
          refine ⟨_, _, ρb, F4, r4, ?_⟩
          cases ey : fe ρb with
          | exc x ρc =>
            have he : _ = ((noex (fe ρb)).bind _).bind _ := he
            rw [ey] at he
            rw [he] at q
            exact (show False from q).elim
          | bad =>
            have he : _ = ((noex (fe ρb)).bind _).bind _ := he
            rw [ey] at he
            rw [he] at q
            exact (show False from q).elim
          | ok y ρc =>
            have he : _ = ((noex (fe ρb)).bind _).bind _ := he
            rw [ey] at he
            intro u F5 H5 r5 l5 k5 p5
            have la : accV.length < sizeLine := by
              rw [p2.length]
              exact Nat.lt_of_le_of_lt hy (Nat.lt_of_lt_of_le hi hz)
            refine ⟨accV, r5.gle p _ upd_same, la, wipeE ρc vs, F5, accV ++ [u], accD ++ [y], hw ▸ (R.guardW (o' := .lst (accV ++ [u])) r5 fp).wipe (vs := vs) hio, l2.trans (l4.trans l5), fun h b o eb => ?_, (p2.mono (l4.trans l5)).append (.cons p5 .nil), by rw [List.length_append]; simp; omega, ?_⟩
            · rw [upd_ne (ne_of_none eb np)]
              exact ((k2 h).trans ((k4 h).trans (k5 h))) b o eb
            · rw [he]
              show (((lcL dg ft fe vs (xs.drop (i + 1)) (wipeE ρc vs)).bind fun ys ρd => .ok (y :: ys) ρd).bind fun ys ρd => .ok (accD ++ ys) ρd) = _
              cases lcL dg ft fe vs (xs.drop (i + 1)) (wipeE ρc vs) with
              | ok ys ρd => simp
              | exc _ _ => rfl
              | bad => rfl
  · have hi : i = xs.length := by omega
    refine .inl ⟨⟨us, SqL.of h2a, by rw [ru.length]; exact Nat.le_of_eq hi.symm⟩, ?_⟩
    rw [List.drop_eq_nil_of_le (by omega), lcL] at he
    have he : lcL dg ft fe vs xs (wipeE (ρ.set i0 .un) vs) = .ok accD ρ2 := by
      rw [he]
      simp
    rw [he] at q
    have r3 := R.rest r1 l2 nd hio r2
    -- the lent list is taken back: the new list stays apart
    have r4 : R (en X io s0) (L2.upd (L2.upd G p (.lst accV)) a (.lst us)) F (restE (ρ.set i0 .un) ρ2 vs) F2 σ H2 := by
      rw [show L2.upd (L2.upd G p (.lst accV)) a (.lst us) = L2.upd (L2.upd G a (.lst us)) p (.lst accV) from by
        funext b
        by_cases h1 : b = a
        · subst h1; rw [upd_same, upd_ne (Ne.symm npa), upd_same]
        · rw [upd_ne h1]
          by_cases h2 : b = p
          · subst h2; rw [upd_same, upd_same]
          · rw [upd_ne h2, upd_ne h2, upd_ne h1]]
      exact r3
    have ga' : (L2.upd G p (.lst accV)) a = none := by rw [upd_ne (Ne.symm npa)]; exact ga
    have gp' : G p = none := by rw [upd_ne npa] at gp; exact gp
    have r5 : R (en X io s0) (L2.upd G p (.lst accV)) F ((restE (ρ.set i0 .un) ρ2 vs).set i0 (.ow (.lst xs))) F2 σ H2 := R.regain r4 ga' fa (fun _ _ => rfl) hi0 (ru.mono l2) ea
    exact q p accV F F2 H2 r5 gp' fp fm l2 k2 p2
end
section
variable {X : Cx} {io : List Nat} {s0 : L2.St} {W : WX} {c : Bool} {elt tg : Expr} {ifs : List Expr} {scope : Scope} {own : List (Str × Nat)} {pos p : Pos} {dg : DenG} {sl : List Nat} {ft : Den Bool} {fe : Den PyData} {i0 : Nat} {x : Str}
theorem mn_lcO (hx : X.N[i0]? = some x) (hv : Vis X.env.scope x) (hd : (x == ("__debug__" : Str)) = false) (hcd : (x == ("__classdict__" : Str)) = false) (hi0 : i0 ∉ io) (hc : X.calm = true) (hN : X.N.Nodup) (nd : (own.map (·.2)).Nodup) (hio : ∀ v ∈ own.map (·.2), v ∉ io) (hsl : ∀ j ∈ sl, j ∈ own.map (·.2)) (hset : ∀ y, foldedSetIterable (.Name x p) X.env y = pure y) (ok : BlkOk X.N X.env.scope scope own)
    (hg : ∀ (s : Shared) (H : Hp) (B : Addr) (cl : List (Str × Addr)) (fp : List Addr), PG (X.blk s H scope (compEnvC scope cl B X.env) fp) tg (tG (en X io s0) sl dg)) (ht : ∀ (s : Shared) (H : Hp) (B : Addr) (cl : List (Str × Addr)) (fp : List Addr), PTs (X.blk s H scope (compEnvC scope cl B X.env) fp) ifs (tT (en X io s0) WF c ft))
    (he : ∀ (s : Shared) (H : Hp) (B : Addr) (cl : List (Str × Addr)) (fp : List Addr), PE (X.blk s H scope (compEnvC scope cl B X.env) fp) elt (tE (en X io s0) WF c fe)) : PE X (.ListComp elt [⟨tg, .Name x p, ifs, 0⟩] scope pos) (tN (en X io s0) W c (nLcO i0 dg ft fe (own.map (·.2)))) :=
  ⟨fun pins s σ H Q I h => by
    obtain ⟨G, F0, ρ, F, r, q⟩ := h
    unfold nLcO at q
    cases es : ρ[i0]? with
    | none => rw [es] at q; exact q.elim
    | some sl0 =>
      rw [es] at q
      cases sl0 with
      | un => exact q.elim
      | sc _ => exact q.elim
      | fz d => exact (mn_lc hc hN nd hio hsl hset (mi_any (me_toF (q_var ⟨hx, hv, hd, hcd⟩))) ok hg ht he).run pins s σ H Q I ⟨G, F0, ρ, F, r, q⟩
      | ow o =>
        cases o with
        | dic _ => exact q.elim
        | lst xs => exact (pe_lc hc hN (pi_any (pe_var hx hv hd hcd)) ok hg ht he hset).run pins s σ H Q I (lcO_of hi0 nd hio hsl r es q)⟩
end
end Ev

set_option Elab.async false
set_option linter.all false
set_option maxRecDepth 100000
set_option maxHeartbeats 1000000
namespace Ev
open PySem PySem.Spec PyProof.Rows L2
section
variable {X : Cx} {io : List Nat} {s0 : L2.St} {W : WX} {c : Bool} {elt tg iter tg1 iter1 : Expr} {ifs ifs1 : List Expr} {scope : Scope} {own : List (Str × Nat)} {pos spos py p : Pos} {fs1 : Den (List PyData)} {dg dg1 : DenG} {sl sl1 vs1 : List Nat} {ft ft1 : Den Bool} {fe : Den PyData} {fs : Den (List PyData)} {i0 i : Nat} {x y : Str}
theorem fix_of {σ : L2.St} {H : Hp} {Q : VK} {f : Den (List PyData)} (h : tE (en X io s0) W c (dFix f) σ H Q) : tN (en X io s0) W c f σ H Q := by
  obtain ⟨G, F0, ρ, F, r, q⟩ := h
  refine ⟨G, F0, ρ, F, r, ?_⟩
  unfold dFix at q
  cases e : f ρ with
  | exc x ρ1 => rw [e] at q; exact q
  | bad => rw [e] at q; exact q
  | ok xs ρ1 =>
    rw [e] at q
    intro p vs F1 F' H' r' n n1 fr l k rp
    obtain ⟨r3, l3⟩ := r'.done n n1 fr
    exact q _ _ H' r3 (l.trans l3) k (.lst upd_same (rp.mono l3))
/-- name = datum, as a wish of the datum -/
theorem asg_of {D : Ends} {σ : L2.St} {H : Hp} {f : Den PyData} (hio : i ∉ io) (h : tS (en X io s0) W (sAsg f (gNm i)) D σ H) : tE (en X io s0) W false f σ H (fun x H1 => D.nx (σ.set i (some x)) H1) := by
  obtain ⟨G, F0, ρ, F, r, q⟩ := h
  exact ⟨G, F0, ρ, F, r, (Post.out q).imp fun v F1 H1 d ρ1 r1 l1 k1 p1 q1 => q1 _ F1 H1 (r1.set hio p1) (.refl _)⟩
theorem ms_lcON (hx : X.N[i0]? = some x) (hv : Vis X.env.scope x) (hd : (x == ("__debug__" : Str)) = false) (hcd : (x == ("__classdict__" : Str)) = false) (hi0 : i0 ∉ io) (hc : X.calm = true) (hN : X.N.Nodup) (nd : (own.map (·.2)).Nodup) (hio : ∀ v ∈ own.map (·.2), v ∉ io) (hsl : ∀ j ∈ sl, j ∈ own.map (·.2)) (hset : ∀ y, foldedSetIterable (.Name x p) X.env y = pure y) (hy : X.N[i]? = some y) (hyl : X.env.scope.names.lookup y = some .local) (hyo : i ∉ io)
    (hsw : swapsWith (.ListComp elt [⟨tg, .Name x p, ifs, 0⟩] scope pos) (some (.Name y py)) spos.line X.env = pure true) (ok : BlkOk X.N X.env.scope scope own)
    (hg : ∀ (s : Shared) (H : Hp) (B : Addr) (cl : List (Str × Addr)) (fp : List Addr), PG (X.blk s H scope (compEnvC scope cl B X.env) fp) tg (tG (en X io s0) sl dg)) (ht : ∀ (s : Shared) (H : Hp) (B : Addr) (cl : List (Str × Addr)) (fp : List Addr), PTs (X.blk s H scope (compEnvC scope cl B X.env) fp) ifs (tT (en X io s0) WF false ft))
    (he : ∀ (s : Shared) (H : Hp) (B : Addr) (cl : List (Str × Addr)) (fp : List Addr), PE (X.blk s H scope (compEnvC scope cl B X.env) fp) elt (tE (en X io s0) WF false fe)) : PS X (.Assign [.Name y py] (.ListComp elt [⟨tg, .Name x p, ifs, 0⟩] scope pos) spos) (tS (en X io s0) W (sNew i (nLcO i0 dg ft fe (own.map (·.2))))) :=
  ⟨fun pins s σ H D I h => by
    obtain ⟨G, F0, ρ, F, r, q⟩ := new_of hyo h
    unfold nLcO at q
    cases es : ρ[i0]? with
    | none => rw [es] at q; exact q.elim
    | some sl0 =>
      rw [es] at q
      cases sl0 with
      | un => exact q.elim
      | sc _ => exact q.elim
      | fz d => exact (ps_setLc hc hN hy hyl hsw (mi_any (me_toF (q_var ⟨hx, hv, hd, hcd⟩))) ok hg ht he hset).run pins s σ H D I (lcN_of nd hio hsl ⟨G, F0, ρ, F, r, q⟩)
      | ow o =>
        cases o with
        | dic _ => exact q.elim
        | lst xs => exact (ps_setLc hc hN hy hyl hsw (pi_any (pe_var hx hv hd hcd)) ok hg ht he hset).run pins s σ H D I (lcO_of hi0 nd hio hsl r es q)⟩
theorem ms_lcO (hx : X.N[i0]? = some x) (hv : Vis X.env.scope x) (hd : (x == ("__debug__" : Str)) = false) (hcd : (x == ("__classdict__" : Str)) = false) (hi0 : i0 ∉ io) (hc : X.calm = true) (hN : X.N.Nodup) (nd : (own.map (·.2)).Nodup) (hio : ∀ v ∈ own.map (·.2), v ∉ io) (hsl : ∀ j ∈ sl, j ∈ own.map (·.2)) (hset : ∀ y, foldedSetIterable (.Name x p) X.env y = pure y) (hy : X.N[i]? = some y) (hyl : X.env.scope.names.lookup y = some .local) (hyo : i ∉ io)
    (hsw : swapsWith (.ListComp elt [⟨tg, .Name x p, ifs, 0⟩] scope pos) (some (.Name y py)) spos.line X.env = pure true) (ok : BlkOk X.N X.env.scope scope own)
    (hg : ∀ (s : Shared) (H : Hp) (B : Addr) (cl : List (Str × Addr)) (fp : List Addr), PG (X.blk s H scope (compEnvC scope cl B X.env) fp) tg (tG (en X io s0) sl dg)) (ht : ∀ (s : Shared) (H : Hp) (B : Addr) (cl : List (Str × Addr)) (fp : List Addr), PTs (X.blk s H scope (compEnvC scope cl B X.env) fp) ifs (tT (en X io s0) WF false ft))
    (he : ∀ (s : Shared) (H : Hp) (B : Addr) (cl : List (Str × Addr)) (fp : List Addr), PE (X.blk s H scope (compEnvC scope cl B X.env) fp) elt (tE (en X io s0) WF false fe)) : PS X (.Assign [.Name y py] (.ListComp elt [⟨tg, .Name x p, ifs, 0⟩] scope pos) spos) (tS (en X io s0) W (sAsg (dFix (nLcO i0 dg ft fe (own.map (·.2)))) (gNm i))) :=
  ⟨fun pins s σ H D I h => by
    obtain ⟨G, F0, ρ, F, r, q⟩ := fix_of (asg_of hyo h)
    unfold nLcO at q
    cases es : ρ[i0]? with
    | none => rw [es] at q; exact q.elim
    | some sl0 =>
      rw [es] at q
      cases sl0 with
      | un => exact q.elim
      | sc _ => exact q.elim
      | fz d => exact (ps_setLc hc hN hy hyl hsw (mi_any (me_toF (q_var ⟨hx, hv, hd, hcd⟩))) ok hg ht he hset).run pins s σ H D I (lcN_of nd hio hsl ⟨G, F0, ρ, F, r, q⟩)
      | ow o =>
        cases o with
        | dic _ => exact q.elim
        | lst xs => exact (ps_setLc hc hN hy hyl hsw (pi_any (pe_var hx hv hd hcd)) ok hg ht he hset).run pins s σ H D I (lcO_of hi0 nd hio hsl r es q)⟩
/-- name = [.. for .. for ..] -/
theorem ms_lc2N (hc : X.calm = true) (hN : X.N.Nodup) (nd : (own.map (·.2)).Nodup) (hio : ∀ v ∈ own.map (·.2), v ∉ io) (hsl : ∀ j ∈ sl, j ∈ own.map (·.2)) (hv1 : ∀ j ∈ vs1, j ∈ own.map (·.2)) (hsl1 : ∀ j ∈ sl1, j ∈ vs1) (hset : ∀ x, foldedSetIterable iter X.env x = pure x) (hset1 : ∀ env x, foldedSetIterable iter1 env x = pure x) (hy : X.N[i]? = some y) (hyl : X.env.scope.names.lookup y = some .local) (hyo : i ∉ io)
    (hsw : swapsWith (.ListComp elt [⟨tg, iter, ifs, 0⟩, ⟨tg1, iter1, ifs1, 0⟩] scope pos) (some (.Name y py)) spos.line X.env = pure true) (hi : PI X tg iter (tI (en X io s0) W false fs)) (ok : BlkOk X.N X.env.scope scope own)
    (hg : ∀ (s : Shared) (H : Hp) (B : Addr) (cl : List (Str × Addr)) (fp : List Addr), PG (X.blk s H scope (compEnvC scope cl B X.env) fp) tg (tG (en X io s0) sl dg)) (ht : ∀ (s : Shared) (H : Hp) (B : Addr) (cl : List (Str × Addr)) (fp : List Addr), PTs (X.blk s H scope (compEnvC scope cl B X.env) fp) ifs (tT (en X io s0) WF false ft))
    (hi1 : ∀ (s : Shared) (H : Hp) (B : Addr) (cl : List (Str × Addr)) (fp : List Addr), PI (X.blk s H scope (compEnvC scope cl B X.env) fp) tg1 iter1 (tI (en X io s0) WF false fs1))
    (hg1 : ∀ (s : Shared) (H : Hp) (B : Addr) (cl : List (Str × Addr)) (fp : List Addr), PG (X.blk s H scope (compEnvC scope cl B X.env) fp) tg1 (tG (en X io s0) sl1 dg1)) (ht1 : ∀ (s : Shared) (H : Hp) (B : Addr) (cl : List (Str × Addr)) (fp : List Addr), PTs (X.blk s H scope (compEnvC scope cl B X.env) fp) ifs1 (tT (en X io s0) WF false ft1))
    (he : ∀ (s : Shared) (H : Hp) (B : Addr) (cl : List (Str × Addr)) (fp : List Addr), PE (X.blk s H scope (compEnvC scope cl B X.env) fp) elt (tE (en X io s0) WF false fe)) : PS X (.Assign [.Name y py] (.ListComp elt [⟨tg, iter, ifs, 0⟩, ⟨tg1, iter1, ifs1, 0⟩] scope pos) spos) (tS (en X io s0) W (sNew i (nLc2 fs dg ft fs1 dg1 ft1 fe (own.map (·.2)) vs1))) :=
  ps_weak (ps_setLc2 hc hN hy hyl hsw hi ok hv1 hg ht hi1 hg1 ht1 he hset hset1) fun D σ H h => lc2_of nd hio hsl hv1 hsl1 (new_of hyo h)
theorem ms_lc2 (hc : X.calm = true) (hN : X.N.Nodup) (nd : (own.map (·.2)).Nodup) (hio : ∀ v ∈ own.map (·.2), v ∉ io) (hsl : ∀ j ∈ sl, j ∈ own.map (·.2)) (hv1 : ∀ j ∈ vs1, j ∈ own.map (·.2)) (hsl1 : ∀ j ∈ sl1, j ∈ vs1) (hset : ∀ x, foldedSetIterable iter X.env x = pure x) (hset1 : ∀ env x, foldedSetIterable iter1 env x = pure x) (hy : X.N[i]? = some y) (hyl : X.env.scope.names.lookup y = some .local) (hyo : i ∉ io)
    (hsw : swapsWith (.ListComp elt [⟨tg, iter, ifs, 0⟩, ⟨tg1, iter1, ifs1, 0⟩] scope pos) (some (.Name y py)) spos.line X.env = pure true) (hi : PI X tg iter (tI (en X io s0) W false fs)) (ok : BlkOk X.N X.env.scope scope own)
    (hg : ∀ (s : Shared) (H : Hp) (B : Addr) (cl : List (Str × Addr)) (fp : List Addr), PG (X.blk s H scope (compEnvC scope cl B X.env) fp) tg (tG (en X io s0) sl dg)) (ht : ∀ (s : Shared) (H : Hp) (B : Addr) (cl : List (Str × Addr)) (fp : List Addr), PTs (X.blk s H scope (compEnvC scope cl B X.env) fp) ifs (tT (en X io s0) WF false ft))
    (hi1 : ∀ (s : Shared) (H : Hp) (B : Addr) (cl : List (Str × Addr)) (fp : List Addr), PI (X.blk s H scope (compEnvC scope cl B X.env) fp) tg1 iter1 (tI (en X io s0) WF false fs1))
    (hg1 : ∀ (s : Shared) (H : Hp) (B : Addr) (cl : List (Str × Addr)) (fp : List Addr), PG (X.blk s H scope (compEnvC scope cl B X.env) fp) tg1 (tG (en X io s0) sl1 dg1)) (ht1 : ∀ (s : Shared) (H : Hp) (B : Addr) (cl : List (Str × Addr)) (fp : List Addr), PTs (X.blk s H scope (compEnvC scope cl B X.env) fp) ifs1 (tT (en X io s0) WF false ft1))
    (he : ∀ (s : Shared) (H : Hp) (B : Addr) (cl : List (Str × Addr)) (fp : List Addr), PE (X.blk s H scope (compEnvC scope cl B X.env) fp) elt (tE (en X io s0) WF false fe)) : PS X (.Assign [.Name y py] (.ListComp elt [⟨tg, iter, ifs, 0⟩, ⟨tg1, iter1, ifs1, 0⟩] scope pos) spos) (tS (en X io s0) W (sAsg (dFix (nLc2 fs dg ft fs1 dg1 ft1 fe (own.map (·.2)) vs1)) (gNm i))) :=
  ps_weak (ps_setLc2 hc hN hy hyl hsw hi ok hv1 hg ht hi1 hg1 ht1 he hset hset1) fun D σ H h => lc2_of nd hio hsl hv1 hsl1 (fix_of (asg_of hyo h))
end
end Ev

set_option Elab.async false
set_option linter.all false
set_option maxRecDepth 100000
set_option maxHeartbeats 1000000
namespace Ev
open PySem PySem.Spec PyProof.Rows L2
/-! ## raise -/
def sRaise (cn : Str) : DenS := fun ρ => .exc ⟨cn, none⟩ ρ
/-- what is known of an exception class without a maker of its own -/
structure Xc (K : Frag) (mg : Str → Option Value) (cn : Str) (C : Addr) : Prop where
  at_ : mg cn = some (.ref C)
  exc : PySem.W.excIn K C He.veBase "ValueError.__new__" = true
  keep : PySem.W.keepIn K (.ref C) = true
  sub : PySem.W.subIn K (.ref C) (.type "BaseException") = some true
  typ : PySem.W.typeIn K (.ref C) = some (.type "type")
section
variable {X : Cx} {io : List Nat} {s0 : L2.St} {W : WX}
theorem pmk_own0 {C : Addr} {bmB : List Value} {B newId initId : String} {x : Str} {p pos : Pos} (F : ExcBaseFacts B newId initId bmB) (q : PySem.W.excIn X.K C bmB newId = true) (gC : X.mg x = some (.ref C))
    (kC : PySem.W.keepIn X.K (.ref C) = true) (r : Raises X (.ref C)) (hg : Gl X x) (hdb : (x == ("__debug__" : Str)) = false) :
    PMk X (.Call (.Name x p) [] [] pos) (fun _ H Q => Q (.ref C) none H) := by
  intro pins s σ H Q I h
  refine wpAny_Call_Name_kw (ld_glob I hg gC ?_ hdb)
  refine PySem.W.callWith_K0 I.kIn kC ?_
  show wpAny _ _ (call (.ref C) []) _ _ _
  obtain ⟨bm, N, nm, qn, bs, hdct, sn, sub, ab, col, dd, k0, k1, k2, k3, k5, mN, hC, hN, hni, T⟩ := exc_obj I.kIn q
  refine wpAny_call_exc_subT F T hC hN hni (fun h' e hm => ?_) (Nat.zero_le _)
  exact mk_of I hm r h (I.hok.gone hm.new)
theorem ms_raise0 {cn : Str} {C : Addr} {p pos pos' : Pos} (hc : X.calm = true) (tk : Takes X W) (T : Xc X.K X.mg cn C) (hg : Gl X cn) (hdb : (cn == ("__debug__" : Str)) = false) : PS X (.Raise (some (.Call (.Name cn p) [] [] pos)) none pos') (tS (en X io s0) W (sRaise cn)) :=
  ps_weak (ps_raise hc tk (pmk_own0 PySem.F.excBase_ValueError T.exc T.at_ T.keep (raises_own T.sub T.typ) hg hdb)) fun D σ H ⟨G, F0, ρ, F, r, q⟩ => q (.ref C) none σ F H r (.refl _) ⟨T.at_, rfl⟩
end
/-! ## try -/
/-- the classes that are known, each with those that it is one of -/
abbrev Tb : Type := List (Str × List Str)
def subX (T : Tb) (a b : Str) : Bool := match T.lookup a with
  | some l => l.contains b
  | none => false
def knownX (T : Tb) (a : Str) : Bool := (T.lookup a).isSome
/-- a suite's end: nothing flies, the name goes -/
def Out.suit (o : Out) (i : Nat) : Out := match o with
  | .nx ρ => .nx (ρ.set i .un)
  | .bk ρ => .bk (ρ.set i .un)
  | .ct ρ => .ct (ρ.set i .un)
  | .rt d ρ => .rt d (ρ.set i .un)
  | .ro o ρ => .ro o (ρ.set i .un)
  | .exc _ _ => .bad
  | .bad => .bad
def sTry (T : Tb) (cn : Str) (i : Nat) (body : DenS) (suite : Str → DenS) : DenS := fun ρ => match body ρ with
  | .exc x ρ1 => if (knownX T x.cls && x.arg.isNone && decide (i < ρ1.length)) = true then (if subX T x.cls cn = true then (suite x.cls (ρ1.set i .un)).suit i else .exc x ρ1) else .bad
  | o => o
/-- .. without a name -/
def sTry0 (T : Tb) (cn : Str) (body : DenS) (suite : Str → DenS) : DenS := fun ρ => match body ρ with
  | .exc x ρ1 => if (knownX T x.cls && x.arg.isNone) = true then (if subX T x.cls cn = true then (match suite x.cls ρ1 with
    | .exc _ _ => .bad
    | o => o) else .exc x ρ1) else .bad
  | o => o
/-- the classes are what the table says -/
def TbOk (K : Frag) (mg : Str → Option Value) (T : Tb) (cn : Str) (c : Value) : Prop := ∀ a cls, knownX T a = true → mg a = some cls → PySem.W.exmOne K cls c = some (subX T a cn)
abbrev enS (X : Cx) (io : List Nat) (s0 : L2.St) (i : Nat) (a : Addr) : En := en X (i :: io) (s0.set i (some (.ref a)))
section
variable {C : En} {G F0 F H : Hp} {ρ : Ens} {σ : L2.St} {i : Nat} {a : Addr}
theorem R.suitIn (r : R C G F0 ρ F σ H) (hi : i < ρ.length) (hs : i < C.s0.length) (hio : i ∉ C.io) : R ⟨C.K, C.mg, i :: C.io, C.s0.set i (some (.ref a))⟩ G F0 (ρ.set i .un) F (σ.set i (some (.ref a))) H := by
  obtain ⟨w, r⟩ := r
  refine ⟨w, by rw [List.length_set, List.length_set]; exact r.len, fun j s e => ?_, fun j k o o' u e1 e2 e3 e4 => ?_, r.own, r.sub, r.gle, r.frm, fun j hj => ?_⟩
  · by_cases h : i = j
    · subst h
      rw [List.getElem?_set_self hi] at e
      cases e
      exact ⟨_, List.getElem?_set_self (by rw [← r.len]; exact hi), trivial⟩
    · rw [List.getElem?_set_ne h] at e ⊢
      exact r.slot j s e
  · have h1 : i ≠ j := fun h => by
      subst h
      rw [List.getElem?_set_self hi] at e1
      cases e1
    have h2 : i ≠ k := fun h => by
      subst h
      rw [List.getElem?_set_self hi] at e2
      cases e2
    rw [List.getElem?_set_ne h1] at e1 e3
    rw [List.getElem?_set_ne h2] at e2 e4
    exact r.sep j k o o' u e1 e2 e3 e4
  · show (σ.set i (some (.ref a)))[j]? = (C.s0.set i (some (.ref a)))[j]?
    by_cases h : i = j
    · subst h
      rw [List.getElem?_set_self (by rw [← r.len]; exact hi), List.getElem?_set_self hs]
    · rw [List.getElem?_set_ne h, List.getElem?_set_ne h]
      have hj : j ∈ i :: C.io := hj
      rcases List.mem_cons.mp hj with q | q
      · exact absurd q.symm h
      · exact r.pin j q
theorem RW.suitOut {w : Ownr} (r : RW ⟨C.K, C.mg, i :: C.io, C.s0.set i (some (.ref a))⟩ G F0 ρ F σ H w) (hio : i ∉ C.io) : RW C G F0 (ρ.set i .un) F (σ.set i none) H w := by
  have get : ∀ {j : Nat} {s : Sl}, (ρ.set i .un)[j]? = some s → (i = j ∧ s = .un ∧ i < ρ.length) ∨ (i ≠ j ∧ ρ[j]? = some s) := fun {j s} e => by
    by_cases h : i = j
    · subst h
      have hl := (List.getElem?_eq_some_iff.mp e).1
      rw [List.length_set] at hl
      rw [List.getElem?_set_self hl] at e
      cases e
      exact .inl ⟨rfl, rfl, hl⟩
    · rw [List.getElem?_set_ne h] at e
      exact .inr ⟨h, e⟩
  refine ⟨by rw [List.length_set, List.length_set]; exact r.len, fun j s e => ?_, fun j k o o' u e1 e2 e3 e4 => ?_, r.own, r.sub, r.gle, r.frm, fun j hj => ?_⟩
  · rcases get e with ⟨rfl, rfl, hl⟩ | ⟨h, e⟩
    · exact ⟨_, List.getElem?_set_self (by rw [← r.len]; exact hl), trivial⟩
    · rw [List.getElem?_set_ne h]
      exact r.slot j s e
  · rcases get e1 with ⟨_, z, _⟩ | ⟨h1, e1⟩
    · cases z
    rcases get e2 with ⟨_, z, _⟩ | ⟨h2, e2⟩
    · cases z
    rw [List.getElem?_set_ne h1] at e3
    rw [List.getElem?_set_ne h2] at e4
    exact r.sep j k o o' u e1 e2 e3 e4
  · have h : i ≠ j := fun z => hio (z ▸ hj)
    rw [List.getElem?_set_ne h]
    have := r.pin j (List.mem_cons_of_mem _ hj)
    rw [this]
    exact List.getElem?_set_ne h
theorem R.suitOut (r : R ⟨C.K, C.mg, i :: C.io, C.s0.set i (some (.ref a))⟩ G F0 ρ F σ H) (hio : i ∉ C.io) : R C G F0 (ρ.set i .un) F (σ.set i none) H := by
  obtain ⟨w, r⟩ := r
  exact ⟨w, r.suitOut hio⟩
end
theorem pss_ex {X : Cx} {st : List Stmt} {α : Type} {P : α → Prop} {t : α → TS} (h : ∀ a, P a → PSs X st (t a)) : PSs X st (fun D σ H => ∃ a, P a ∧ t a D σ H) := ⟨fun pins s σ H D I ⟨a, p, q⟩ => (h a p).run pins s σ H D I q⟩
section
variable {X : Cx} {io : List Nat} {s0 : L2.St} {W : WX} {T : Tb} {cn : Str} {c : Value} {i : Nat} {n : Str} {body suite : List Stmt} {b₀ : Stmt} {np pos pos' : Pos} {b : DenS} {su : Str → DenS}
/-- how a body's outcome is asked of, when the clause takes it -/
theorem postS_try {G F0 F : Hp} {D : Ends} {W' : WX} {o : Out} {C : En} {k : Ex → Ens → Out}
    (q : PostS C W G F0 F D (match o with | .exc x ρ1 => k x ρ1 | o => o)) (h : ∀ x ρ1 cls dd σ' F' H', R C G F0 ρ1 F' σ' H' → Le F F' → ExR C.K C.mg F' H' cls dd x → PostS C W G F0 F D (k x ρ1) → W' cls dd σ' H') : PostS C W' G F0 F D o := by
  cases o with
  | exc x ρ1 => exact fun cls dd σ' F' H' r l p => h x ρ1 cls dd σ' F' H' r l p q
  | nx ρ => exact q
  | bk ρ => exact q
  | ct ρ => exact q
  | rt d ρ => exact q
  | ro o ρ => exact q
  | bad => exact q
theorem postS_suit {C : En} {G F0 F F' : Hp} {D : Ends} {o : Out} {a : Addr} (hio : i ∉ C.io) (q : PostS C W G F0 F D (o.suit i)) (l : Le F F') :
    PostS ⟨C.K, C.mg, i :: C.io, C.s0.set i (some (.ref a))⟩ WF G F0 F' { nx := fun σ' H' => D.nx (σ'.set i none) H', rt := D.rt, bk := fun σ' H' => D.bk (σ'.set i none) H', ct := fun σ' H' => D.ct (σ'.set i none) H' } o := by
  cases o with
  | nx ρ => exact fun σ' F2 H' r l2 => q _ F2 H' (r.suitOut hio) (l.trans l2)
  | bk ρ => exact fun σ' F2 H' r l2 => q _ F2 H' (r.suitOut hio) (l.trans l2)
  | ct ρ => exact fun σ' F2 H' r l2 => q _ F2 H' (r.suitOut hio) (l.trans l2)
  | rt d ρ => exact fun v σ' F2 H' r l2 p => q v _ F2 H' (r.suitOut hio) (l.trans l2) p
  | ro o ρ =>
    rintro a2 σ' F2 H' ⟨w, r, ow, sep⟩ l2
    refine q a2 (σ'.set i none) F2 H' ⟨w, r.suitOut hio, ow, fun j o' e z => ?_⟩ (l.trans l2)
    by_cases h : i = j
    · subst h
      have hl := (List.getElem?_eq_some_iff.mp e).1
      rw [List.length_set] at hl
      rw [List.getElem?_set_self hl] at e
      cases e
    · rw [List.getElem?_set_ne h] at e z
      exact sep j o' e z
  | exc x ρ => exact q.elim
  | bad => exact q.elim
theorem ms_try (hs : X.stack = X.env :: X.outer) (hf : X.env.frame = some X.env.locals) (hN : X.N.Nodup) (hi : X.N[i]? = some n) (hln : X.env.kindOf n = some .local) (hio : i ∉ io) (hi0 : i < s0.length) (hc : Names X cn c) (tk : Takes X W) (ht : TbOk X.K X.mg T cn c)
    (hb : ∀ (W' : WX) (pn : List (Addr × Obj)) (xe : Value → Shared → Prop), Takes (X.tr pn xe) W' → PassesOwn (model X.prog X.w) X.A X.env xe → PSs (X.tr pn xe) body (tS (en X io s0) W' b))
    (hsu : ∀ (a : Addr) (oe : Obj) (cl : Str) (cls : Value) (pn : List (Addr × Obj)), knownX T cl = true → X.mg cl = some cls → Zc cls none oe → (∃ vs, oe.data = .fields vs) → PSs (X.suite a ((a, oe) :: pn)) (b₀ :: suite) (tS (enS X io s0 i a) WF (su cl))) :
    PS X (.Try body [.ExceptHandler (some (.Name cn np)) (some n) (b₀ :: suite) pos'] [] [] pos) (tS (en X io s0) W (sTry T cn i b su)) := by
  refine ps_weak (ps_try_as (ts := fun a cls d => fun D σ H => ∃ cl : Str, (knownX T cl = true ∧ X.mg cl = some cls ∧ d = none) ∧ tS (enS X io s0 i a) WF (su cl) D σ H) hs hf hN hi hln hc tk hb fun a oe cls d pn hz hd => ?_) fun D σ H ⟨G, F0, ρ, F, r, q⟩ => ⟨G, F0, ρ, F, r, ?_⟩
  · refine pss_ex fun cl hcl => ?_
    obtain ⟨h1, h2, rfl⟩ := hcl
    exact hsu a oe cl cls pn h1 h2 hz hd
  · refine postS_try (W := W) q fun x ρ1 cls dd σ' F' H' r' l' p q' => ?_
    split at q'
    rotate_left
    · exact q'.elim
    rename_i hk
    obtain ⟨hk, hl⟩ := Bool.and_eq_true_iff.mp hk
    obtain ⟨hk, ha⟩ := Bool.and_eq_true_iff.mp hk
    have hl := of_decide_eq_true hl
    obtain ⟨p1, p2⟩ := p
    have hdn : dd = none := by
      cases hx : x.arg with
      | none => rw [hx] at p2; exact p2
      | some z => rw [hx] at ha; cases ha
    refine ⟨subX T x.cls cn, ht x.cls cls hk p1, fun hsub a hna => ?_, fun hsub => ?_⟩
    · rw [if_pos hsub] at q'
      refine ⟨x.cls, ⟨hk, p1, hdn⟩, G, F0, ρ1.set i .un, F', r'.suitIn hl hi0 hio, ?_⟩
      exact postS_suit (C := en X io s0) hio q' l'
    · rw [hsub] at q'
      exact q' cls dd σ' F' H' r' l' ⟨p1, p2⟩
theorem ms_try0 (hs : X.stack = X.env :: X.outer) (hf : X.env.frame = some X.env.locals) (hc : Names X cn c) (tk : Takes X W) (ht : TbOk X.K X.mg T cn c)
    (hb : ∀ (W' : WX) (pn : List (Addr × Obj)) (xe : Value → Shared → Prop), Takes (X.tr pn xe) W' → PassesOwn (model X.prog X.w) X.A X.env xe → PSs (X.tr pn xe) body (tS (en X io s0) W' b))
    (hsu : ∀ (a : Addr) (oe : Obj) (cl : Str) (cls : Value) (pn : List (Addr × Obj)), knownX T cl = true → X.mg cl = some cls → Zc cls none oe → (∃ vs, oe.data = .fields vs) → PSs (X.suite a ((a, oe) :: pn)) (b₀ :: suite) (tS (en X io s0) WF (su cl))) :
    PS X (.Try body [.ExceptHandler (some (.Name cn np)) none (b₀ :: suite) pos'] [] [] pos) (tS (en X io s0) W (sTry0 T cn b su)) := by
  refine ps_weak (ps_try_only (ts := fun a cls d => fun D σ H => ∃ cl : Str, (knownX T cl = true ∧ X.mg cl = some cls ∧ d = none) ∧ tS (en X io s0) WF (su cl) D σ H) hs hf hc tk hb fun a oe cls d pn hz hd => ?_) fun D σ H ⟨G, F0, ρ, F, r, q⟩ => ⟨G, F0, ρ, F, r, ?_⟩
  · refine pss_ex fun cl hcl => ?_
    obtain ⟨h1, h2, rfl⟩ := hcl
    exact hsu a oe cl cls pn h1 h2 hz hd
  · refine postS_try (W := W) q fun x ρ1 cls dd σ' F' H' r' l' p q' => ?_
    split at q'
    rotate_left
    · exact q'.elim
    rename_i hk
    obtain ⟨hk, ha⟩ := Bool.and_eq_true_iff.mp hk
    obtain ⟨p1, p2⟩ := p
    have hdn : dd = none := by
      cases hx : x.arg with
      | none => rw [hx] at p2; exact p2
      | some z => rw [hx] at ha; cases ha
    refine ⟨subX T x.cls cn, ht x.cls cls hk p1, fun hsub a hna => ?_, fun hsub => ?_⟩
    · rw [if_pos hsub] at q'
      refine ⟨x.cls, ⟨hk, p1, hdn⟩, G, F0, ρ1, F', r', ?_⟩
      cases e : su x.cls ρ1 with
      | exc x2 ρ2 => rw [e] at q'; exact q'.elim
      | bad => rw [e] at q'; exact q'.elim
      | nx ρ => rw [e] at q'; exact fun σ2 F2 H2 r2 l2 => q' σ2 F2 H2 r2 (l'.trans l2)
      | bk ρ => rw [e] at q'; exact fun σ2 F2 H2 r2 l2 => q' σ2 F2 H2 r2 (l'.trans l2)
      | ct ρ => rw [e] at q'; exact fun σ2 F2 H2 r2 l2 => q' σ2 F2 H2 r2 (l'.trans l2)
      | rt d ρ => rw [e] at q'; exact fun v σ2 F2 H2 r2 l2 p => q' v σ2 F2 H2 r2 (l'.trans l2) p
      | ro o ρ => rw [e] at q'; exact fun v σ2 F2 H2 r2 l2 => q' v σ2 F2 H2 r2 (l'.trans l2)
    · rw [hsub] at q'
      exact q' cls dd σ' F' H' r' l' ⟨p1, p2⟩
end
theorem start_lt {N : List Str} {vs : List V} {i : Nat} (h : i < N.length) : i < (L2.start N vs).length := by
  unfold L2.start
  rw [List.length_append, List.length_map, List.length_replicate]
  omega
/-! ## of what class -/
section
variable {X : Cx} {io : List Nat} {s0 : L2.St} {W : WX} {c : Bool} {i : Nat} {n y : Str} {a D E : Addr} {oe : Obj} {pn : List (Addr × Obj)} {pos p p1 p2 : Pos} {b : Bool}
theorem pe_err (hN : X.N[i]? = some n) (hv : Vis X.env.scope n) (hd : (n == ("__debug__" : Str)) = false) (hcd : (n == ("__classdict__" : Str)) = false) (hi : i < s0.length) :
    PE (X.suite a ((a, oe) :: pn)) (.Name n p1) (fun σ H Q => ∃ G F0 ρ F, R (enS X io s0 i a) G F0 ρ F σ H ∧ Q (.ref a) H) := pe_weak (pe_var (X := X.suite a ((a, oe) :: pn)) hN hv hd hcd) fun σ H Q ⟨G, F0, ρ, F, ⟨w, r⟩, q⟩ => by
  have := r.pin i List.mem_cons_self
  have e : (s0.set i (some (V.ref a)))[i]? = some (some (.ref a)) := List.getElem?_set_self hi
  exact ⟨.ref a, this.trans e, q⟩
/-- isinstance(error, Y) -/
theorem me_isE (XD : ExcC X.K D) (hz : Zc (.ref D) none oe) (hf : ∃ vs, oe.data = .fields vs) (hN : X.N[i]? = some n) (hv : Vis X.env.scope n) (hd : (n == ("__debug__" : Str)) = false) (hcd : (n == ("__classdict__" : Str)) = false) (hi : i < s0.length)
    (hG : Gl X "isinstance") (hm : X.mg "isinstance" = none) (hGy : Gl X y) (hy : X.mg y = some (.ref E)) (hyd : (y == ("__debug__" : Str)) = false) (hk : PySem.W.kitOne X.K (.ref D) (.ref E) = some b) :
    PE (X.suite a ((a, oe) :: pn)) (.Call (.Name "isinstance" p) [.Name n p1, .Name y p2] [] pos) (tE (enS X io s0 i a) W c (dCon (.bool b))) := by
  have h1 : isStar (.Name n p1) = false := rfl
  have h2 : isStar (.Name y p2) = false := rfl
  refine pe_weak (pe_callB (X := X.suite a ((a, oe) :: pn)) (call_isE XD hz hf) hG hm (by decide +kernel) (pa_cons (pe_err (p1 := p1) hN hv hd hcd hi) (pa_cons (pe_glob (X := X.suite a ((a, oe) :: pn)) (v := .ref E) hGy hy rfl hyd) pa_nil (star_cons h2 _ _)) (star_cons h1 _ _)) (by decide) (by decide) (star_cons h1 _ _) (star_none fun z hz => by
    have : z = .Name y p2 := by simpa using hz
    rw [this]
    rfl)) fun σ H Q ⟨G, F0, ρ, F, r, q⟩ => ⟨G, F0, ρ, F, r, .ref E, .ref E, b, rfl, fun u r => by cases r; rfl, hk, q _ F H r (.refl _) (fun _ => .refl _) (.bl _)⟩
end
end Ev

set_option Elab.async false
set_option linter.all false
set_option maxRecDepth 100000
set_option maxHeartbeats 1000000
namespace Ev
open PySem PySem.Spec PyProof.Rows L2
/-! ## what the head says of the classes -/
theorem Cz.tr {X : Cx} {k : Nat} (h : Cz X k) {pn : List (Addr × Obj)} {xe : Value → Shared → Prop} : Cz (X.tr pn xe) k := ⟨h.nd, h.calm, h.gd, h.room, h.sys⟩
def eqVV (a b : Option (Option Value)) : Bool := decide (a = b)
/-- what isinstance asks of an exception's class -/
def excCB (K : Frag) (D : Addr) : Bool :=
  decide (PySem.W.findIn K (.ref D) "__getattribute__" = some (some (.builtin "BaseException.__getattribute__"))) && (decide (PySem.W.findIn K (.ref D) "__getattr__" = some none) && (decide (PySem.W.subIn K (.ref D) (.type "BaseException") = some true) && (PySem.W.hasDictIn K D && (decide (PySem.W.findIn K (.ref D) "__class__" = some (some (.builtin "object.__class__"))) &&
    (decide (PySem.W.specialIn K (.builtin "object.__class__") "__get__" = some (some (.builtin "getset_descriptor.__get__"))) && (decide (PySem.W.takesIn K (.builtin "object.__class__") = some true) && decide (PySem.W.mroIn K D (.type "object") = some true)))))))
theorem excCB_ok {K : Frag} {D : Addr} (h : excCB K D = true) : ExcC K D := by
  obtain ⟨h1, h⟩ := He.ba h
  obtain ⟨h2, h⟩ := He.ba h
  obtain ⟨h3, h⟩ := He.ba h
  obtain ⟨h4, h⟩ := He.ba h
  obtain ⟨h5, h⟩ := He.ba h
  obtain ⟨h6, h⟩ := He.ba h
  obtain ⟨h7, h8⟩ := He.ba h
  exact ⟨of_decide_eq_true h1, of_decide_eq_true h2, of_decide_eq_true h3, h4, of_decide_eq_true h5, of_decide_eq_true h6, of_decide_eq_true h7, of_decide_eq_true h8⟩
def isB (K : Frag) (x y : Str) (b : Bool) : Bool := decide (PySem.W.kitOne K (.ref (He.ga K x)) (.ref (He.ga K y)) = some b)
theorem isB_ok {K : Frag} {x y : Str} {b : Bool} (h : isB K x y b = true) : PySem.W.kitOne K (.ref (He.ga K x)) (.ref (He.ga K y)) = some b := of_decide_eq_true h
def isTB (K : Frag) (x : Str) (y : String) (b : Bool) : Bool := decide (PySem.W.kitOne K (.ref (He.ga K x)) (.type y) = some b)
theorem isTB_ok {K : Frag} {x : Str} {y : String} {b : Bool} (h : isTB K x y b = true) : PySem.W.kitOne K (.ref (He.ga K x)) (.type y) = some b := of_decide_eq_true h
theorem known_nil {a : Str} (h : knownX [] a = true) : False := by simp [knownX, List.lookup] at h
theorem known_cons {x : Str} {l : List Str} {T : Tb} {a : Str} (h : knownX ((x, l) :: T) a = true) : a = x ∨ knownX T a = true := by
  unfold knownX at h ⊢
  by_cases e : a = x
  · exact .inl e
  · have e' : (a == x) = false := by simpa using e
    rw [List.lookup_cons, e'] at h
    exact .inr h
theorem tbOk_of {K : Frag} {mg : Str → Option Value} {T : Tb} {cn : Str} {c : Value} (h : ∀ p ∈ T, ∃ C, mg p.1 = some (.ref C) ∧ PySem.W.exmOne K (.ref C) c = some (subX T p.1 cn)) : TbOk K mg T cn c := fun a cls hk hm => by
  have key : ∀ T' : Tb, (∀ p ∈ T', ∃ C, mg p.1 = some (.ref C) ∧ PySem.W.exmOne K (.ref C) c = some (subX T p.1 cn)) → knownX T' a = true → PySem.W.exmOne K cls c = some (subX T a cn) := by
    intro T'
    induction T' with
    | nil => intro _ h; exact (known_nil h).elim
    | cons p T' ih =>
      intro h hk
      obtain ⟨x, l⟩ := p
      rcases known_cons hk with e | hk
      · obtain ⟨C, h1, h2⟩ := h (x, l) List.mem_cons_self
        subst e
        have h1 : mg a = some (.ref C) := h1
        rw [h1] at hm
        cases hm
        exact h2
      · exact ih (fun p hp => h p (List.mem_cons_of_mem _ hp)) hk
  exact key T h hk
/-- isinstance asked of a known class -/
def IsE (K : Frag) (mg : Str → Option Value) (T : Tb) (y : Str) (c : Value) : Prop := ∀ cl cls, knownX T cl = true → mg cl = some cls → ∃ D, cls = .ref D ∧ ExcC K D ∧ PySem.W.kitOne K (.ref D) c = some (subX T cl y)
theorem isE_of {K : Frag} {mg : Str → Option Value} {T : Tb} {y : Str} {c : Value} (h : ∀ p ∈ T, ∃ D, mg p.1 = some (.ref D) ∧ ExcC K D ∧ PySem.W.kitOne K (.ref D) c = some (subX T p.1 y)) : IsE K mg T y c := fun a cls hk hm => by
  have key : ∀ T' : Tb, (∀ p ∈ T', ∃ D, mg p.1 = some (.ref D) ∧ ExcC K D ∧ PySem.W.kitOne K (.ref D) c = some (subX T p.1 y)) → knownX T' a = true → ∃ D, cls = .ref D ∧ ExcC K D ∧ PySem.W.kitOne K (.ref D) c = some (subX T a y) := by
    intro T'
    induction T' with
    | nil => intro _ h; exact (known_nil h).elim
    | cons p T' ih =>
      intro h hk
      obtain ⟨x, l⟩ := p
      rcases known_cons hk with e | hk
      · obtain ⟨C, h1, h2⟩ := h (x, l) List.mem_cons_self
        subst e
        have h1 : mg a = some (.ref C) := h1
        rw [h1] at hm
        cases hm
        exact ⟨C, rfl, h2⟩
      · exact ih (fun p hp => h p (List.mem_cons_of_mem _ hp)) hk
  exact key T h hk
section
variable {X : Cx} {io : List Nat} {s0 : L2.St} {W : WX} {c : Bool} {i : Nat} {n y y2 : Str} {a E E2 : Addr} {oe : Obj} {pn : List (Addr × Obj)} {pos p p1 p2 p3 pos2 : Pos} {T : Tb} {cl : Str} {cls : Value}
theorem ms_isE (h : IsE X.K X.mg T y (.ref E)) (hk : knownX T cl = true) (hc : X.mg cl = some cls) (hz : Zc cls none oe) (hf : ∃ vs, oe.data = .fields vs) (nm : X.N[i]? = some n ∧ Vis X.env.scope n ∧ (n == ("__debug__" : Str)) = false ∧ (n == ("__classdict__" : Str)) = false) (hi : i < s0.length)
    (hG : Gl X "isinstance") (hm : X.mg "isinstance" = none) (hGy : Gl X y) (hy : X.mg y = some (.ref E)) (hyd : (y == ("__debug__" : Str)) = false) :
    PE (X.suite a ((a, oe) :: pn)) (.Call (.Name "isinstance" p) [.Name n p1, .Name y p2] [] pos) (tE (enS X io s0 i a) W c (dCon (.bool (subX T cl y)))) := by
  obtain ⟨D, rfl, XD, hb⟩ := h cl cls hk hc
  exact me_isE XD hz hf nm.1 nm.2.1 nm.2.2.1 nm.2.2.2 hi hG hm hGy hy hyd hb
/-- a built-in class -/
theorem ms_isEB {yt : String} (h : IsE X.K X.mg T y (.type yt)) (hk : knownX T cl = true) (hc : X.mg cl = some cls) (hz : Zc cls none oe) (hf : ∃ vs, oe.data = .fields vs) (nm : X.N[i]? = some n ∧ Vis X.env.scope n ∧ (n == ("__debug__" : Str)) = false ∧ (n == ("__classdict__" : Str)) = false) (hi : i < s0.length)
    (hG : Gl X "isinstance") (hm : X.mg "isinstance" = none) (hGy : Gl X y) (hy : X.mg y = none) (hyb : bootBuiltins y = some (.type yt)) (hyn : y ≠ "__name__") (hyd : (y == ("__debug__" : Str)) = false) :
    PE (X.suite a ((a, oe) :: pn)) (.Call (.Name "isinstance" p) [.Name n p1, .Name y p2] [] pos) (tE (enS X io s0 i a) W c (dCon (.bool (subX T cl y)))) := by
  obtain ⟨D, rfl, XD, hb⟩ := h cl cls hk hc
  have h1 : isStar (.Name n p1) = false := rfl
  have h2 : isStar (.Name y p2) = false := rfl
  refine pe_weak (pe_callB (X := X.suite a ((a, oe) :: pn)) (call_isE XD hz hf) hG hm (by decide +kernel) (pa_cons (pe_err (p1 := p1) nm.1 nm.2.1 nm.2.2.1 nm.2.2.2 hi) (pa_cons (pe_bltn (X := X.suite a ((a, oe) :: pn)) (v := .ty yt) hGy hy hyb rfl hyn hyd) pa_nil (star_cons h2 _ _)) (star_cons h1 _ _)) (by decide) (by decide) (star_cons h1 _ _) (star_none fun z hz => by
    have : z = .Name y p2 := by simpa using hz
    rw [this]
    rfl)) fun σ H Q ⟨G, F0, ρ, F, r, q⟩ => ⟨G, F0, ρ, F, r, .ty yt, .type yt, _, rfl, fun u r => by cases r; rfl, hb, q _ F H r (.refl _) (fun _ => .refl _) (.bl _)⟩
def rIsET (K : PySem.W.Frag) (D a : Addr) : List V → Hp → VK → Prop := fun xs H Q => ∃ (p C1 C2 : Addr) (b1 b2 : Bool), xs = [.ref a, .ref p] ∧ H p = some (.tup [.ref C1, .ref C2]) ∧ PySem.W.kitOne K (.ref D) (.ref C1) = some b1 ∧ PySem.W.kitOne K (.ref D) (.ref C2) = some b2 ∧ Q (.bl (b1 || b2)) H
theorem kit_two {K : Frag} {t c1 c2 : Value} {b1 b2 : Bool} (h1 : PySem.W.kitOne K t c1 = some b1) (h2 : PySem.W.kitOne K t c2 = some b2) : PySem.W.kitAny K t [c1, c2] = some (b1 || b2) := by
  unfold PySem.W.kitAny
  rw [h1]
  cases b1 with
  | true => rfl
  | false =>
    show PySem.W.kitAny K t [c2] = _
    unfold PySem.W.kitAny
    rw [h2]
    cases b2 with
    | true => rfl
    | false => rfl
theorem call_isET {D : Addr} (C : ExcC X.K D) (hz : Zc (.ref D) none oe) (hf : ∃ vs, oe.data = .fields vs) : CallR (X.suite a ((a, oe) :: pn)) (.builtin "isinstance") (rIsET X.K D a) := by
  intro pins s σ H xs us Q I r h
  obtain ⟨p, C1, C2, b1, b2, rfl, ht, e1, e2, q⟩ := h
  cases r with
  | cons rx rr =>
    cases rr with
    | cons rt rr =>
      cases rr
      cases rx
      cases rt
      obtain ⟨its, rv, ⟨o, ho, hoc, k, hd⟩, _⟩ := I.tuple (SqT.of ht)
      obtain ⟨u1, rest, rfl⟩ : ∃ u1 rest, its = u1 :: rest := by
        cases rv with
        | cons _ _ => exact ⟨_, _, rfl⟩
      cases rv with
      | cons rv1 rv2 =>
        obtain ⟨u2, rfl, rv3⟩ := Vals.one rv2
        cases rv1
        have e3 : u2 = .ref C2 := rv3
        subst e3
        obtain ⟨oc, od, odt, osl⟩ := o
        dsimp only at hoc hd
        subst hoc hd
        obtain ⟨hget, _⟩ := I.pin (a, oe) (List.mem_append.mpr (.inl List.mem_cons_self))
        obtain ⟨vs, hv⟩ := hf
        have J : PySem.W.InstAt s.heap a oe D none := by
          obtain ⟨oc, od, oda, osl⟩ := oe
          obtain ⟨h1, h2⟩ := hz
          dsimp only at h1 h2 hv
          subst h1 h2 hv
          exact ⟨hget, rfl, rfl, trivial⟩
        exact PySem.W.kia_tup (PySem.W.handS_kitx_exc C.hg C.hk C.hs C.hd C.ha C.hn C.ht C.hm) I.kIn J ho (kit_two e1 e2) (fun z => nomatch z) fun tk => ⟨.bl (b1 || b2), H, I.kept (t' := tk) fun _ _ z => z, rfl, q⟩
theorem ms_isET {j : Nat} (h : IsE X.K X.mg T y (.ref E)) (h' : IsE X.K X.mg T y2 (.ref E2)) (hk : knownX T cl = true) (hc : X.mg cl = some cls) (hz : Zc cls none oe) (hf : ∃ vs, oe.data = .fields vs) (nm : X.N[i]? = some n ∧ Vis X.env.scope n ∧ (n == ("__debug__" : Str)) = false ∧ (n == ("__classdict__" : Str)) = false) (hi : i < s0.length)
    (hG : Gl X "isinstance") (hm : X.mg "isinstance" = none) (hGy : Gl X y) (hy : X.mg y = some (.ref E)) (hyd : (y == ("__debug__" : Str)) = false) (hGy2 : Gl X y2) (hy2 : X.mg y2 = some (.ref E2)) (hyd2 : (y2 == ("__debug__" : Str)) = false) :
    PE (X.suite a ((a, oe) :: pn)) (.Call (.Name "isinstance" p) [.Name n p1, .Tuple [.Name y p2, .Name y2 p3] j pos2] [] pos) (tE (enS X io s0 i a) W c (dCon (.bool (subX T cl y || subX T cl y2)))) := by
  obtain ⟨D, rfl, XD, hb⟩ := h cl cls hk hc
  obtain ⟨D', e, _, hb2⟩ := h' cl (.ref D) hk hc
  cases e
  have h1 : isStar (.Name n p1) = false := rfl
  have h2 : isStar (.Tuple [.Name y p2, .Name y2 p3] j pos2) = false := rfl
  have h3 : isStar (.Name y p2) = false := rfl
  have h4 : isStar (.Name y2 p3) = false := rfl
  refine pe_weak (pe_callB (X := X.suite a ((a, oe) :: pn)) (call_isET XD hz hf) hG hm (by decide +kernel) (pa_cons (pe_err (p1 := p1) nm.1 nm.2.1 nm.2.2.1 nm.2.2.2 hi)
    (pa_cons (pe_tup (pa_cons (pe_glob (X := X.suite a ((a, oe) :: pn)) (v := .ref E) hGy hy rfl hyd) (pa_cons (pe_glob (X := X.suite a ((a, oe) :: pn)) (v := .ref E2) hGy2 hy2 rfl hyd2) pa_nil (star_cons h4 _ _)) (star_cons h3 _ _))) pa_nil (star_cons h2 _ _)) (star_cons h1 _ _)) (by decide) (by decide) (star_cons h1 _ _) (star_none fun z hz => by
    have : z = .Tuple [.Name y p2, .Name y2 p3] j pos2 := by simpa using hz
    rw [this]
    rfl)) fun σ H Q ⟨G, F0, ρ, F, r, q⟩ => ⟨G, F0, ρ, F, r, ?_⟩
  refine ⟨by show 2 ≤ sizeLine; rw [sizeLine_eq]; omega, fun pt hn => ?_⟩
  have z := Ext.new (o := .tup [V.ref E, .ref E2]) r.sub hn
  exact ⟨pt, E, E2, _, _, rfl, upd_same, hb, hb2, q _ _ _ (r.ext z) z.fle (fun _ => z.hle) (.bl _)⟩
end
end Ev

set_option Elab.async false
set_option linter.all false
set_option maxRecDepth 100000
set_option maxHeartbeats 1000000
namespace Ev
open PySem PySem.Spec PyProof.Rows L2
/-! ## unlike data of whole numbers have unlike texts -/
mutual
inductive IT : PyData → Prop
  | int (i : Int) : IT (.int i)
  | tup {xs : List PyData} : ITs xs → IT (.tuple xs)
inductive ITs : List PyData → Prop
  | nil : ITs []
  | cons {x : PyData} {xs : List PyData} : IT x → ITs xs → ITs (x :: xs)
end
def sh (d : PyData) : List Nat := TL.tl d.shown
def stopS (s : List Nat) : Prop := ∀ c ∈ s.head?, c ≠ 45 ∧ (c < 48 ∨ 57 < c)
def numS (c : Nat) : Prop := c = 45 ∨ (48 ≤ c ∧ c ≤ 57)
theorem sh_pos (n : Nat) : sh (.int (n : Int)) = TL.numL n := by
  unfold sh
  rw [PyData.shown_int]
  exact TL.tl_num n
theorem sh_neg (n : Nat) : sh (.int (Int.negSucc n)) = 45 :: TL.numL (n + 1) := by
  unfold sh
  rw [PyData.shown_int]
  have e : (toString (Int.negSucc n) : String) = "-" ++ toString ((n + 1 : Nat) : Int) := rfl
  show TL.tl (Str.ofString (toString (Int.negSucc n))) = _
  rw [e, TL.tl_ofString, String.toList_append, List.map_append, ← TL.tl_ofString, ← TL.tl_ofString, TL.tl_num]
  rfl
theorem sh_int (i : Int) : sh (.int i) ≠ [] ∧ ∀ c ∈ sh (.int i), numS c := by
  cases i with
  | ofNat n =>
    show sh (.int (n : Int)) ≠ [] ∧ _
    rw [show Int.ofNat n = (n : Int) from rfl, sh_pos]
    exact ⟨TL.numL_ne n, fun c hc => .inr (TL.numL_digits n c hc)⟩
  | negSucc n =>
    rw [sh_neg]
    refine ⟨by simp, fun c hc => ?_⟩
    rcases List.mem_cons.mp hc with q | q
    · exact .inl q
    · exact .inr (TL.numL_digits _ c q)
theorem sh_int_inj {i j : Int} (h : sh (.int i) = sh (.int j)) : i = j := by
  cases i with
  | ofNat n =>
    cases j with
    | ofNat m =>
      rw [show Int.ofNat n = (n : Int) from rfl, show Int.ofNat m = (m : Int) from rfl, sh_pos, sh_pos] at h
      rw [TL.numL_inj h]
    | negSucc m =>
      rw [show Int.ofNat n = (n : Int) from rfl, sh_pos, sh_neg] at h
      have := TL.numL_digits n 45 (by rw [h]; exact List.mem_cons_self)
      omega
  | negSucc n =>
    cases j with
    | ofNat m =>
      rw [show Int.ofNat m = (m : Int) from rfl, sh_pos, sh_neg] at h
      have := TL.numL_digits m 45 (by rw [← h]; exact List.mem_cons_self)
      omega
    | negSucc m =>
      rw [sh_neg, sh_neg] at h
      injection h with _ h
      have := TL.numL_inj h
      rw [show n = m by omega]
theorem span_num {a b s t : List Nat} (ha : ∀ c ∈ a, numS c) (hb : ∀ c ∈ b, numS c) (hs : stopS s) (ht : stopS t) (h : a ++ s = b ++ t) : a = b ∧ s = t := by
  induction a generalizing b with
  | nil =>
    cases b with
    | nil => exact ⟨rfl, h⟩
    | cons c b =>
      rw [List.nil_append, List.cons_append] at h
      have := hs c (by rw [h]; rfl)
      rcases hb c List.mem_cons_self with q | q <;> omega
  | cons c a ih =>
    cases b with
    | nil =>
      rw [List.nil_append, List.cons_append] at h
      have := ht c (by rw [← h]; rfl)
      rcases ha c List.mem_cons_self with q | q <;> omega
    | cons d b =>
      rw [List.cons_append, List.cons_append] at h
      injection h with h1 h2
      obtain ⟨e1, e2⟩ := ih (fun c hc => ha c (List.mem_cons_of_mem _ hc)) (fun c hc => hb c (List.mem_cons_of_mem _ hc)) h2
      exact ⟨by rw [h1, e1], e2⟩
theorem fold_head {α : Type} (f : α → Array Nat) : ∀ (l : List α) (acc : Array Nat), ∃ r, (l.foldl (fun out c => out ++ f c) acc).toList = acc.toList ++ r
  | [], acc => ⟨[], by simp⟩
  | x :: l, acc => by
    obtain ⟨r, e⟩ := fold_head f l (acc ++ f x)
    exact ⟨(f x).toList ++ r, by rw [List.foldl_cons, e]; simp⟩
/-- how a text begins -/
theorem sh_list (xs : List PyData) : ∃ r, sh (.list xs) = 91 :: r := by
  unfold sh
  rw [PyData.shown_list, TL.tl_append, TL.tl_append]
  exact ⟨_, rfl⟩
theorem sh_dict (xs : List (PyData × PyData)) : ∃ r, sh (.dict xs) = 123 :: r := by
  unfold sh
  rw [PyData.shown_dict, TL.tl_append, TL.tl_append]
  exact ⟨_, rfl⟩
theorem sh_str (x : Str) : ∃ c r, sh (.str x) = c :: r ∧ (c = 34 ∨ c = 39) := by
  unfold sh
  rw [PyData.shown_str]
  have : ∃ r, TL.tl (reprText x) = reprQuote x :: r := by
    unfold reprText TL.tl
    rw [Array.toList_push, ← Array.foldl_toList]
    obtain ⟨r, e⟩ := fold_head (fun c => (Builtin.Str.reprChar (reprQuote x) c).toArray) x.cps.toList #[reprQuote x]
    rw [e]
    exact ⟨_, rfl⟩
  obtain ⟨r, e⟩ := this
  refine ⟨_, r, e, ?_⟩
  unfold reprQuote
  split
  · exact .inl rfl
  · exact .inr rfl
def restJ (xs : List PyData) : List Nat := xs.flatMap fun x => 44 :: 32 :: sh x
def bodyT : List PyData → List Nat
  | [] => [41]
  | [x] => sh x ++ [44, 41]
  | x :: y :: r => sh x ++ (restJ (y :: r) ++ [41])
theorem joinL_rest : ∀ (xs : List PyData) (x : PyData), TL.joinL [44, 32] ((PyData.shownAll (x :: xs)).map TL.tl) = sh x ++ restJ xs
  | [], x => by
    simp [PyData.shownAll, TL.joinL, restJ, sh]
  | y :: xs, x => by
    have ih := joinL_rest xs y
    rw [PyData.shownAll, List.map_cons]
    rw [PyData.shownAll, List.map_cons] at ih ⊢
    rw [TL.joinL, ih]
    simp [restJ, sh]
theorem sh_tuple (xs : List PyData) : sh (.tuple xs) = 40 :: bodyT xs := by
  unfold sh
  rw [PyData.shown_tuple, TL.tl_append, TL.tl_append, TL.tl_join]
  have e0 : TL.tl (", " : Str) = [44, 32] := rfl
  rw [e0]
  match xs with
  | [] => rfl
  | [x] =>
    rw [joinL_rest]
    show [40] ++ (sh x ++ restJ []) ++ [44, 41] = _
    simp [restJ, bodyT]
  | x :: y :: r =>
    rw [joinL_rest]
    have : ((x :: y :: r).length == 1) = false := by simp
    rw [this]
    show [40] ++ (sh x ++ restJ (y :: r)) ++ [41] = _
    simp [bodyT]
theorem stop44 (r : List Nat) : stopS (44 :: r) := fun c hc => by cases hc; omega
theorem stop41 (r : List Nat) : stopS (41 :: r) := fun c hc => by cases hc; omega
theorem stopR (xs : List PyData) (s : List Nat) : stopS (restJ xs ++ 41 :: s) := by
  cases xs with
  | nil => exact stop41 s
  | cons x xs => exact stop44 _
/-- of what is no tuple and no number: how it begins -/
theorem sh_head (d : PyData) : ∃ c r, sh d = c :: r ∧ c ≠ 41 ∧ c ≠ 44 ∧ c ≠ 32 ∧ (c = 40 → ∃ xs, d = .tuple xs) ∧ (numS c → ∃ i, d = .int i) := by
  cases d with
  | none => exact ⟨78, _, rfl, by decide, by decide, by decide, fun z => absurd z (by decide), fun z => by rcases z with q | q <;> omega⟩
  | bool b =>
    cases b
    · exact ⟨70, _, rfl, by decide, by decide, by decide, fun z => absurd z (by decide), fun z => by rcases z with q | q <;> omega⟩
    · exact ⟨84, _, rfl, by decide, by decide, by decide, fun z => absurd z (by decide), fun z => by rcases z with q | q <;> omega⟩
  | int i =>
    obtain ⟨h1, h2⟩ := sh_int i
    match h : sh (.int i), h1 with
    | c :: r, _ =>
      have := h2 c (by rw [h]; exact List.mem_cons_self)
      refine ⟨c, r, rfl, ?_, ?_, ?_, ?_, fun _ => ⟨i, rfl⟩⟩
      · rcases this with q | q <;> omega
      · rcases this with q | q <;> omega
      · rcases this with q | q <;> omega
      · intro z; rcases this with q | q <;> omega
  | str x =>
    obtain ⟨c, r, e, hc⟩ := sh_str x
    refine ⟨c, r, e, ?_, ?_, ?_, fun z => ?_, fun z => ?_⟩
    · rcases hc with q | q <;> omega
    · rcases hc with q | q <;> omega
    · rcases hc with q | q <;> omega
    · rcases hc with q | q <;> omega
    · rcases z with z | z <;> rcases hc with q | q <;> omega
  | list xs =>
    obtain ⟨r, e⟩ := sh_list xs
    exact ⟨91, r, e, by decide, by decide, by decide, fun z => absurd z (by decide), fun z => by rcases z with q | q <;> omega⟩
  | tuple xs => exact ⟨40, _, sh_tuple xs, by decide, by decide, by decide, fun _ => ⟨xs, rfl⟩, fun z => by rcases z with q | q <;> omega⟩
  | dict xs =>
    obtain ⟨r, e⟩ := sh_dict xs
    exact ⟨123, r, e, by decide, by decide, by decide, fun z => absurd z (by decide), fun z => by rcases z with q | q <;> omega⟩
theorem int_step (i : Int) {d : PyData} {s t : List Nat} (hs : stopS s) (ht : stopS t) (h : sh d ++ s = sh (.int i) ++ t) : d = .int i ∧ s = t := by
  obtain ⟨h1, h2⟩ := sh_int i
  obtain ⟨c, r, e, _, _, _, _, hn⟩ := sh_head d
  have hc : numS c := by
    match h3 : sh (.int i), h1 with
    | c' :: r', _ =>
      rw [e, h3, List.cons_append, List.cons_append] at h
      injection h with q _
      rw [q]
      exact h2 c' (by rw [h3]; exact List.mem_cons_self)
  obtain ⟨j, rfl⟩ := hn hc
  obtain ⟨q1, q2⟩ := span_num (sh_int j).2 h2 hs ht h
  rw [sh_int_inj q1]
  exact ⟨rfl, q2⟩
mutual
theorem sh_inj : ∀ {e : PyData}, IT e → ∀ {d : PyData} {s t : List Nat}, stopS s → stopS t → sh d ++ s = sh e ++ t → d = e ∧ s = t
  | _, .int i, d, s, t, hs, ht, h => int_step i hs ht h
  | _, .tup (xs := es) he, d, s, t, hs, ht, h => by
    obtain ⟨c, r, e, _, _, _, h40, _⟩ := sh_head d
    rw [sh_tuple, List.cons_append] at h
    have hc : c = 40 := by
      rw [e, List.cons_append] at h
      injection h
    obtain ⟨ds, rfl⟩ := h40 hc
    rw [sh_tuple, List.cons_append] at h
    injection h with _ h
    obtain ⟨q1, q2⟩ := sh_body he hs ht h
    rw [q1]
    exact ⟨rfl, q2⟩
theorem sh_body : ∀ {es : List PyData}, ITs es → ∀ {ds : List PyData} {s t : List Nat}, stopS s → stopS t → bodyT ds ++ s = bodyT es ++ t → ds = es ∧ s = t
  | _, .nil, ds, s, t, hs, ht, h => by
    match ds with
    | [] =>
      rw [bodyT] at h
      injection h with _ h
      exact ⟨rfl, h⟩
    | [x] =>
      obtain ⟨c, r, e, hc, _⟩ := sh_head x
      rw [bodyT, bodyT, e, List.cons_append, List.cons_append] at h
      injection h with h _
      exact absurd h hc
    | x :: y :: r' =>
      obtain ⟨c, r, e, hc, _⟩ := sh_head x
      rw [bodyT, bodyT, e, List.cons_append, List.cons_append] at h
      injection h with h _
      exact absurd h hc
  | _, .cons (x := x) (xs := xs) hx hxs, ds, s, t, hs, ht, h => by
    have nz : ∀ {u : List Nat}, bodyT (x :: xs) ++ t ≠ 41 :: u := fun {u} z => by
      obtain ⟨c, r, e, hc, _⟩ := sh_head x
      cases xs with
      | nil =>
        rw [bodyT, e, List.cons_append, List.cons_append] at z
        injection z with z _
        exact hc z
      | cons y xs =>
        rw [bodyT, e, List.cons_append, List.cons_append] at z
        injection z with z _
        exact hc z
    match ds, xs, hxs with
    | [], xs, _ => exact absurd h.symm nz
    | [d], [], _ =>
      rw [bodyT, bodyT, List.append_assoc, List.append_assoc] at h
      obtain ⟨q1, q2⟩ := sh_inj hx (stop44 _) (stop44 _) h
      rw [q1]
      exact ⟨rfl, by simpa using q2⟩
    | [d], y :: xs, _ =>
      rw [bodyT, bodyT, List.append_assoc, List.append_assoc] at h
      obtain ⟨_, q2⟩ := sh_inj hx (stop44 _) (stop44 _) h
      have q2 : (44 :: 41 :: s : List Nat) = 44 :: 32 :: _ := q2
      injection q2 with _ q2
      injection q2 with q2 _
      exact absurd q2 (by decide)
    | d :: d' :: ds, [], _ =>
      simp only [bodyT, List.append_assoc] at h
      obtain ⟨_, q2⟩ := sh_inj hx (stop44 _) (stop44 _) h
      have q2 : (44 :: 32 :: _ : List Nat) = 44 :: 41 :: t := q2
      injection q2 with _ q2
      injection q2 with q2 _
      exact absurd q2 (by decide)
    | d :: d' :: ds, y :: xs, hxs =>
      rw [bodyT, bodyT, List.append_assoc, List.append_assoc, List.append_assoc, List.append_assoc] at h
      obtain ⟨q1, q2⟩ := sh_inj hx (stopR (d' :: ds) s) (stopR (y :: xs) t) h
      obtain ⟨q3, q4⟩ := sh_rest hxs q2
      rw [q1, q3]
      exact ⟨rfl, q4⟩
theorem sh_rest : ∀ {es : List PyData}, ITs es → ∀ {ds : List PyData} {s t : List Nat}, restJ ds ++ 41 :: s = restJ es ++ 41 :: t → ds = es ∧ s = t
  | _, .nil, ds, s, t, h => by
    match ds with
    | [] =>
      have h : (41 :: s : List Nat) = 41 :: t := h
      injection h with _ h
      exact ⟨rfl, h⟩
    | d :: ds =>
      have h : (44 :: _ : List Nat) = 41 :: t := h
      injection h with h _
      exact absurd h (by decide)
  | _, .cons (x := x) (xs := xs) hx hxs, ds, s, t, h => by
    match ds with
    | [] =>
      have h : (41 :: s : List Nat) = 44 :: _ := h
      injection h with h _
      exact absurd h (by decide)
    | d :: ds =>
      have h : (44 :: 32 :: (sh d ++ restJ ds ++ 41 :: s) : List Nat) = 44 :: 32 :: (sh x ++ restJ xs ++ 41 :: t) := by
        simpa [restJ] using h
      injection h with _ h
      injection h with _ h
      rw [List.append_assoc, List.append_assoc] at h
      obtain ⟨q1, q2⟩ := sh_inj hx (stopR ds s) (stopR xs t) h
      obtain ⟨q3, q4⟩ := sh_rest hxs q2
      rw [q1, q3]
      exact ⟨rfl, q4⟩
end
/-- what has the text of a datum of whole numbers is that datum -/
theorem shown_inj {d e : PyData} (he : IT e) (h : d.shown = e.shown) : d = e := by
  have h : sh d ++ [] = sh e ++ [] := by
    unfold sh
    rw [h]
  exact (sh_inj he (fun c hc => by cases hc) (fun c hc => by cases hc) h).1
theorem it_ints : ∀ l : List Int, ITs (l.map .int)
  | [] => .nil
  | i :: l => .cons (.int i) (it_ints l)
end Ev

set_option maxHeartbeats 2000000
namespace Lw
open PySem PySem.Spec PyProof.Rows L2 Ev
def top (i : Nat) : Stmt := PySem.Challenge.pw_lastsigns_k02_whole_worlds_by_unions.main.body.getD i (.Pass ⟨0, 0, 0, 0⟩)
abbrev FUELW : Nat := 100000
abbrev FnP (K : Frag) (x : Str) (st : Stmt) (f : Addr) (fd : FuncData) : Prop := FunD K x x (defArgs st) (defBody st) (defScope st) [] [] f fd
abbrev st_is_integer : Stmt := top 5
abbrev st_lies_within : Stmt := top 6
abbrev st_at_most : Stmt := top 7
abbrev st_least_rights : Stmt := top 8
abbrev st_is_joined : Stmt := top 9
abbrev st__law_deck : Stmt := top 11
abbrev st__law_draw : Stmt := top 12
abbrev st__law_pick : Stmt := top 13
abbrev st__law_some : Stmt := top 14
abbrev st__law_whole : Stmt := top 15
abbrev st__law_same : Stmt := top 16
abbrev st__law_sets : Stmt := top 17
abbrev st__law_lies : Stmt := top 18
abbrev st__law_union : Stmt := top 19
abbrev st__law_with_all : Stmt := top 20
abbrev st__law_world : Stmt := top 21
abbrev st__law_any : Stmt := top 22
abbrev st__law_other : Stmt := top 23
abbrev st__law_least : Stmt := top 24
abbrev st__law_unions : Stmt := top 25
abbrev st__law_told_most : Stmt := top 26
abbrev st_law : Stmt := top 27
def TBL : Tb := [("Unfit", ["Unfit", "SignError", "ValueError", "Exception", "BaseException", "object"])]
/-- what stands behind the head -/
structure Facts (K : Frag) (mg : Str → Option Value) where
  f_is_integer : Addr
  d_is_integer : FuncData
  F_is_integer : FnP K "is_integer" st_is_integer f_is_integer d_is_integer
  m_is_integer : mg "is_integer" = some (.ref f_is_integer)
  f_lies_within : Addr
  d_lies_within : FuncData
  F_lies_within : FnP K "lies_within" st_lies_within f_lies_within d_lies_within
  m_lies_within : mg "lies_within" = some (.ref f_lies_within)
  f_at_most : Addr
  d_at_most : FuncData
  F_at_most : FnP K "at_most" st_at_most f_at_most d_at_most
  m_at_most : mg "at_most" = some (.ref f_at_most)
  f_least_rights : Addr
  d_least_rights : FuncData
  F_least_rights : FnP K "least_rights" st_least_rights f_least_rights d_least_rights
  m_least_rights : mg "least_rights" = some (.ref f_least_rights)
  f_is_joined : Addr
  d_is_joined : FuncData
  F_is_joined : FnP K "is_joined" st_is_joined f_is_joined d_is_joined
  m_is_joined : mg "is_joined" = some (.ref f_is_joined)
  f__law_deck : Addr
  d__law_deck : FuncData
  F__law_deck : FnP K "_law_deck" st__law_deck f__law_deck d__law_deck
  m__law_deck : mg "_law_deck" = some (.ref f__law_deck)
  f__law_draw : Addr
  d__law_draw : FuncData
  F__law_draw : FnP K "_law_draw" st__law_draw f__law_draw d__law_draw
  m__law_draw : mg "_law_draw" = some (.ref f__law_draw)
  f__law_pick : Addr
  d__law_pick : FuncData
  F__law_pick : FnP K "_law_pick" st__law_pick f__law_pick d__law_pick
  m__law_pick : mg "_law_pick" = some (.ref f__law_pick)
  f__law_some : Addr
  d__law_some : FuncData
  F__law_some : FnP K "_law_some" st__law_some f__law_some d__law_some
  m__law_some : mg "_law_some" = some (.ref f__law_some)
  f__law_whole : Addr
  d__law_whole : FuncData
  F__law_whole : FnP K "_law_whole" st__law_whole f__law_whole d__law_whole
  m__law_whole : mg "_law_whole" = some (.ref f__law_whole)
  f__law_same : Addr
  d__law_same : FuncData
  F__law_same : FnP K "_law_same" st__law_same f__law_same d__law_same
  m__law_same : mg "_law_same" = some (.ref f__law_same)
  f__law_sets : Addr
  d__law_sets : FuncData
  F__law_sets : FnP K "_law_sets" st__law_sets f__law_sets d__law_sets
  m__law_sets : mg "_law_sets" = some (.ref f__law_sets)
  f__law_lies : Addr
  d__law_lies : FuncData
  F__law_lies : FnP K "_law_lies" st__law_lies f__law_lies d__law_lies
  m__law_lies : mg "_law_lies" = some (.ref f__law_lies)
  f__law_union : Addr
  d__law_union : FuncData
  F__law_union : FnP K "_law_union" st__law_union f__law_union d__law_union
  m__law_union : mg "_law_union" = some (.ref f__law_union)
  f__law_with_all : Addr
  d__law_with_all : FuncData
  F__law_with_all : FnP K "_law_with_all" st__law_with_all f__law_with_all d__law_with_all
  m__law_with_all : mg "_law_with_all" = some (.ref f__law_with_all)
  f__law_world : Addr
  d__law_world : FuncData
  F__law_world : FnP K "_law_world" st__law_world f__law_world d__law_world
  m__law_world : mg "_law_world" = some (.ref f__law_world)
  f__law_any : Addr
  d__law_any : FuncData
  F__law_any : FnP K "_law_any" st__law_any f__law_any d__law_any
  m__law_any : mg "_law_any" = some (.ref f__law_any)
  f__law_other : Addr
  d__law_other : FuncData
  F__law_other : FnP K "_law_other" st__law_other f__law_other d__law_other
  m__law_other : mg "_law_other" = some (.ref f__law_other)
  f__law_least : Addr
  d__law_least : FuncData
  F__law_least : FnP K "_law_least" st__law_least f__law_least d__law_least
  m__law_least : mg "_law_least" = some (.ref f__law_least)
  f__law_unions : Addr
  d__law_unions : FuncData
  F__law_unions : FnP K "_law_unions" st__law_unions f__law_unions d__law_unions
  m__law_unions : mg "_law_unions" = some (.ref f__law_unions)
  f__law_told_most : Addr
  d__law_told_most : FuncData
  F__law_told_most : FnP K "_law_told_most" st__law_told_most f__law_told_most d__law_told_most
  m__law_told_most : mg "_law_told_most" = some (.ref f__law_told_most)
  f_law : Addr
  d_law : FuncData
  F_law : FnP K "law" st_law f_law d_law
  m_law : mg "law" = some (.ref f_law)
  t_MAX_NODES : Tok
  g_MAX_NODES : mg "MAX_NODES" = some (.int 4 t_MAX_NODES)
  n_abs : mg "abs" = none
  n_all : mg "all" = none
  n_any : mg "any" = none
  n_bool : mg "bool" = none
  n_enumerate : mg "enumerate" = none
  n_int : mg "int" = none
  n_isinstance : mg "isinstance" = none
  n_len : mg "len" = none
  n_list : mg "list" = none
  n_min : mg "min" = none
  n_range : mg "range" = none
  n_repr : mg "repr" = none
  n_sorted : mg "sorted" = none
  n_str : mg "str" = none
  n_tuple : mg "tuple" = none
  n_zip : mg "zip" = none
  C_SignError : Addr
  m_SignError : mg "SignError" = some (.ref C_SignError)
  C_Unfit : Addr
  m_Unfit : mg "Unfit" = some (.ref C_Unfit)
  X_Unfit : Xc K mg "Unfit" C_Unfit
  T_Unfit : TbOk K mg TBL "Unfit" (.ref C_Unfit)
  E_SignError : IsE K mg TBL "SignError" (.ref C_SignError)
theorem Facts.B_is_integer {K : Frag} {mg : Str → Option Value} (c : Facts K mg) : Binds K c.d_is_integer ["value"] [] := FunD.bindsN (ps := ["value"]) c.F_is_integer fun _ _ _ _ _ _ us hl => match us, hl with | [_], _ => rfl
theorem Facts.B_lies_within {K : Frag} {mg : Str → Option Value} (c : Facts K mg) : Binds K c.d_lies_within ["small", "great"] [] := FunD.bindsN (ps := ["small", "great"]) c.F_lies_within fun _ _ _ _ _ _ us hl => match us, hl with | [_, _], _ => rfl
theorem Facts.B_at_most {K : Frag} {mg : Str → Option Value} (c : Facts K mg) : Binds K c.d_at_most ["nodes", "stopped"] [] := FunD.bindsN (ps := ["nodes", "stopped"]) c.F_at_most fun _ _ _ _ _ _ us hl => match us, hl with | [_, _], _ => rfl
theorem Facts.B_least_rights {K : Frag} {mg : Str → Option Value} (c : Facts K mg) : Binds K c.d_least_rights ["world"] [] := FunD.bindsN (ps := ["world"]) c.F_least_rights fun _ _ _ _ _ _ us hl => match us, hl with | [_], _ => rfl
theorem Facts.B_is_joined {K : Frag} {mg : Str → Option Value} (c : Facts K mg) : Binds K c.d_is_joined ["world"] [] := FunD.bindsN (ps := ["world"]) c.F_is_joined fun _ _ _ _ _ _ us hl => match us, hl with | [_], _ => rfl
theorem Facts.B__law_deck {K : Frag} {mg : Str → Option Value} (c : Facts K mg) : Binds K c.d__law_deck ["script"] [] := FunD.bindsN (ps := ["script"]) c.F__law_deck fun _ _ _ _ _ _ us hl => match us, hl with | [_], _ => rfl
theorem Facts.B__law_draw {K : Frag} {mg : Str → Option Value} (c : Facts K mg) : Binds K c.d__law_draw ["deck", "many"] [] := FunD.bindsN (ps := ["deck", "many"]) c.F__law_draw fun _ _ _ _ _ _ us hl => match us, hl with | [_, _], _ => rfl
theorem Facts.B__law_pick {K : Frag} {mg : Str → Option Value} (c : Facts K mg) : Binds K c.d__law_pick ["deck", "items"] [] := FunD.bindsN (ps := ["deck", "items"]) c.F__law_pick fun _ _ _ _ _ _ us hl => match us, hl with | [_, _], _ => rfl
theorem Facts.B__law_some {K : Frag} {mg : Str → Option Value} (c : Facts K mg) : Binds K c.d__law_some ["deck", "items", "many"] [] := FunD.bindsN (ps := ["deck", "items", "many"]) c.F__law_some fun _ _ _ _ _ _ us hl => match us, hl with | [_, _, _], _ => rfl
theorem Facts.B__law_whole {K : Frag} {mg : Str → Option Value} (c : Facts K mg) : Binds K c.d__law_whole ["value", "low", "high"] [] := FunD.bindsN (ps := ["value", "low", "high"]) c.F__law_whole fun _ _ _ _ _ _ us hl => match us, hl with | [_, _, _], _ => rfl
theorem Facts.B__law_same {K : Frag} {mg : Str → Option Value} (c : Facts K mg) : Binds K c.d__law_same ["found", "due"] [] := FunD.bindsN (ps := ["found", "due"]) c.F__law_same fun _ _ _ _ _ _ us hl => match us, hl with | [_, _], _ => rfl
theorem Facts.B__law_sets {K : Frag} {mg : Str → Option Value} (c : Facts K mg) : Binds K c.d__law_sets ["many"] [] := FunD.bindsN (ps := ["many"]) c.F__law_sets fun _ _ _ _ _ _ us hl => match us, hl with | [_], _ => rfl
theorem Facts.B__law_lies {K : Frag} {mg : Str → Option Value} (c : Facts K mg) : Binds K c.d__law_lies ["one", "other"] [] := FunD.bindsN (ps := ["one", "other"]) c.F__law_lies fun _ _ _ _ _ _ us hl => match us, hl with | [_, _], _ => rfl
theorem Facts.B__law_union {K : Frag} {mg : Str → Option Value} (c : Facts K mg) : Binds K c.d__law_union ["sets"] [] := FunD.bindsN (ps := ["sets"]) c.F__law_union fun _ _ _ _ _ _ us hl => match us, hl with | [_], _ => rfl
theorem Facts.B__law_with_all {K : Frag} {mg : Str → Option Value} (c : Facts K mg) : Binds K c.d__law_with_all ["nodes", "rights"] [] := FunD.bindsN (ps := ["nodes", "rights"]) c.F__law_with_all fun _ _ _ _ _ _ us hl => match us, hl with | [_, _], _ => rfl
theorem Facts.B__law_world {K : Frag} {mg : Str → Option Value} (c : Facts K mg) : Binds K c.d__law_world ["deck"] [] := FunD.bindsN (ps := ["deck"]) c.F__law_world fun _ _ _ _ _ _ us hl => match us, hl with | [_], _ => rfl
theorem Facts.B__law_any {K : Frag} {mg : Str → Option Value} (c : Facts K mg) : Binds K c.d__law_any ["deck", "deep"] [] := FunD.bindsN (ps := ["deck", "deep"]) c.F__law_any fun _ _ _ _ _ _ us hl => match us, hl with | [_, _], _ => rfl
theorem Facts.B__law_other {K : Frag} {mg : Str → Option Value} (c : Facts K mg) : Binds K c.d__law_other ["deck", "item"] [] := FunD.bindsN (ps := ["deck", "item"]) c.F__law_other fun _ _ _ _ _ _ us hl => match us, hl with | [_, _], _ => rfl
theorem Facts.B__law_least {K : Frag} {mg : Str → Option Value} (c : Facts K mg) : Binds K c.d__law_least ["world"] [] := FunD.bindsN (ps := ["world"]) c.F__law_least fun _ _ _ _ _ _ us hl => match us, hl with | [_], _ => rfl
theorem Facts.B__law_unions {K : Frag} {mg : Str → Option Value} (c : Facts K mg) : Binds K c.d__law_unions ["sets"] [] := FunD.bindsN (ps := ["sets"]) c.F__law_unions fun _ _ _ _ _ _ us hl => match us, hl with | [_], _ => rfl
theorem Facts.B__law_told_most {K : Frag} {mg : Str → Option Value} (c : Facts K mg) : Binds K c.d__law_told_most ["nodes", "stopped", "is_named"] [] := FunD.bindsN (ps := ["nodes", "stopped", "is_named"]) c.F__law_told_most fun _ _ _ _ _ _ us hl => match us, hl with | [_, _, _], _ => rfl
theorem Facts.B_law {K : Frag} {mg : Str → Option Value} (c : Facts K mg) : Binds K c.d_law ["script"] [] := FunD.bindsN (ps := ["script"]) c.F_law fun _ _ _ _ _ _ us hl => match us, hl with | [_], _ => rfl
theorem kwb_at_most_0_stopped_nodes {K : Frag} {mg : Str → Option Value} (c : Facts K mg) : ∀ (s : Shared) (us ws : List Value), K.In s.heap → us.length = 0 → ws.length = 2 → BindsTo s c.d_at_most ⟨us, (["stopped", "nodes"] : List Str).zip ws⟩ ((["nodes", "stopped"] : List Str).zip (pick [1, 0] (us ++ ws))) := kw_binds c.F_at_most fun kV doc pm an cdv ct us ws h1 h2 => match us, ws, h1, h2 with | [], [_, _], _, _ => rfl
theorem kwb_is_joined_0_world {K : Frag} {mg : Str → Option Value} (c : Facts K mg) : ∀ (s : Shared) (us ws : List Value), K.In s.heap → us.length = 0 → ws.length = 1 → BindsTo s c.d_is_joined ⟨us, (["world"] : List Str).zip ws⟩ ((["world"] : List Str).zip (pick [0] (us ++ ws))) := kw_binds c.F_is_joined fun kV doc pm an cdv ct us ws h1 h2 => match us, ws, h1, h2 with | [], [_], _, _ => rfl
theorem kwb_least_rights_0_world {K : Frag} {mg : Str → Option Value} (c : Facts K mg) : ∀ (s : Shared) (us ws : List Value), K.In s.heap → us.length = 0 → ws.length = 1 → BindsTo s c.d_least_rights ⟨us, (["world"] : List Str).zip ws⟩ ((["world"] : List Str).zip (pick [0] (us ++ ws))) := kw_binds c.F_least_rights fun kV doc pm an cdv ct us ws h1 h2 => match us, ws, h1, h2 with | [], [_], _, _ => rfl
section
variable {w : PySem.World} {K : Frag} {mg : Str → Option Value} {base : Heap}
/-! is_integer -/
abbrev N_is_integer : List Str := ["value"]
def b_is_integer : DenS := (sCons (sRet (dAnd (una (fun d => some (.bool (isTy .int d))) (dVar 0)) (dNot (una (fun d => some (.bool (isTy .bool d))) (dVar 0)))))
  sNil)
def fn_is_integer : Fn := fnOf 1 [0] b_is_integer
theorem sc_is_integer : FnScope N_is_integer ["value"] (defScope st_is_integer) := ⟨rfl, rfl, rfl, by decide +kernel, rfl, by decide +kernel, by decide +kernel⟩
theorem pf_is_integer (c : Facts K mg) (hS : SysD base) {cdv : Value} {A : Around} {outer : List PySem.Env} {s : Shared} {H : Hp} {vs : List V} {E : XK} (hr : Room 0 (A.deeper (envOfC "is_integer" (defScope st_is_integer) s.heap.objs.size c.f_is_integer cdv))) (gd : A.guards = some []) :
    PSs (cxG PySem.Challenge.pw_lastsigns_k02_whole_worlds_by_unions w K mg base N_is_integer "is_integer" (defScope st_is_integer) c.f_is_integer cdv A outer s H E) (defBody st_is_integer) (tS (en (cxG PySem.Challenge.pw_lastsigns_k02_whole_worlds_by_unions w K mg base N_is_integer "is_integer" (defScope st_is_integer) c.f_is_integer cdv A outer s H E) [0] (L2.start N_is_integer vs)) (WE E) (b_is_integer)) := by
  have Z : Cz (cxG PySem.Challenge.pw_lastsigns_k02_whole_worlds_by_unions w K mg base N_is_integer "is_integer" (defScope st_is_integer) c.f_is_integer cdv A outer s H E) 0 := ⟨sc_is_integer.nd, rfl, gd, hr, hS⟩
  have hT : Takes (cxG PySem.Challenge.pw_lastsigns_k02_whole_worlds_by_unions w K mg base N_is_integer "is_integer" (defScope st_is_integer) c.f_is_integer cdv A outer s H E) (WE E) := takes_of rfl rfl rfl rfl
  refine ms_cons ?_ ?_
  · refine ms_ret ?_
    · refine me_and ?_ ?_
      · refine me_isi .int ?_ ?_ ?_ ?_ ?_ ?_ ?_
        · exact rfl
        · exact rfl
        · exact c.n_isinstance
        · exact rfl
        · exact c.n_int
        · exact rfl
        · refine me_toD ?_
          · refine me_toW ?_
            · refine q_var ?_
              · exact ⟨rfl, Or.inl rfl, rfl, rfl⟩
      · refine me_one ?_
        · refine me_not ?_
          · refine me_isi .bool ?_ ?_ ?_ ?_ ?_ ?_ ?_
            · exact rfl
            · exact rfl
            · exact c.n_isinstance
            · exact rfl
            · exact c.n_bool
            · exact rfl
            · refine me_toD ?_
              · refine me_toW ?_
                · refine q_var ?_
                  · exact ⟨rfl, Or.inl rfl, rfl, rfl⟩
  · refine ms_nil
theorem ok_is_integer (c : Facts K mg) (hS : SysD base) : FnG PySem.Challenge.pw_lastsigns_k02_whole_worlds_by_unions w K mg base 1 c.f_is_integer c.d_is_integer ["value"] (spOf K mg 1 fn_is_integer) := fnG_den c.F_is_integer sc_is_integer fun cdv A outer s H vs E hr gd => pf_is_integer c hS hr gd
/-! lies_within -/
abbrev N_lies_within : List Str := ["small", "great", ".0", "item"]
def b_lies_within : DenS := (sCons (sRet (fnc gAll (aCons (dLc (dIt (dVar 0)) (gNm 3) tYesD (bin gInB (dVar 3) (dVar 1)) [2, 3]) aNil)))
  sNil)
def fn_lies_within : Fn := fnOf 4 [0, 1] b_lies_within
theorem sc_lies_within : FnScope N_lies_within ["small", "great"] (defScope st_lies_within) := ⟨rfl, rfl, rfl, by decide +kernel, rfl, by decide +kernel, by decide +kernel⟩
theorem pf_lies_within (c : Facts K mg) (hS : SysD base) {cdv : Value} {A : Around} {outer : List PySem.Env} {s : Shared} {H : Hp} {vs : List V} {E : XK} (hr : Room 0 (A.deeper (envOfC "lies_within" (defScope st_lies_within) s.heap.objs.size c.f_lies_within cdv))) (gd : A.guards = some []) :
    PSs (cxG PySem.Challenge.pw_lastsigns_k02_whole_worlds_by_unions w K mg base N_lies_within "lies_within" (defScope st_lies_within) c.f_lies_within cdv A outer s H E) (defBody st_lies_within) (tS (en (cxG PySem.Challenge.pw_lastsigns_k02_whole_worlds_by_unions w K mg base N_lies_within "lies_within" (defScope st_lies_within) c.f_lies_within cdv A outer s H E) [0, 1] (L2.start N_lies_within vs)) (WE E) (b_lies_within)) := by
  have Z : Cz (cxG PySem.Challenge.pw_lastsigns_k02_whole_worlds_by_unions w K mg base N_lies_within "lies_within" (defScope st_lies_within) c.f_lies_within cdv A outer s H E) 0 := ⟨sc_lies_within.nd, rfl, gd, hr, hS⟩
  have hT : Takes (cxG PySem.Challenge.pw_lastsigns_k02_whole_worlds_by_unions w K mg base N_lies_within "lies_within" (defScope st_lies_within) c.f_lies_within cdv A outer s H E) (WE E) := takes_of rfl rfl rfl rfl
  refine ms_cons ?_ ?_
  · refine ms_ret ?_
    · refine q_all (k := 0) ?_ ?_ ?_ ?_
      · exact Z
      · exact ⟨rfl, c.n_all⟩
      · exact st1 rfl st0
      · refine maW_of ?_
        · refine ma_cons ?_ ?_ ?_
          · exact rfl
          · refine me_lc (own := [(".0", 2), ("item", 3)]) (sl := [3]) ?_ ?_ ?_ ?_ ?_ ?_ ?_ ?_ ?_ ?_ ?_
            · exact Z.calm
            · exact Z.nd
            · exact by decide
            · exact by decide
            · exact by decide
            · exact fun _ => rfl
            · refine mi_any ?_
              · refine me_toF ?_
                · refine q_var ?_
                  · exact ⟨rfl, Or.inl rfl, rfl, rfl⟩
            · exact blk_of rfl
            · intro _ _ _ _ _
              refine mg_nm ?_ ?_ ?_ ?_ ?_
              · exact (Cz.blk Z).nd
              · exact rfl
              · exact Or.inl rfl
              · exact Or.inr rfl
              · exact by decide
            · intro _ _ _ _ _
              refine mts_nil
            · intro _ _ _ _ _
              refine me_cmp' (o_in (Cz.blk Z).u65) v_G ?_ ?_ ?_
              · exact rfl
              · refine q_var ?_
                · exact ⟨rfl, Or.inl rfl, rfl, rfl⟩
              · refine me_toW ?_
                · refine q_var ?_
                  · exact ⟨rfl, Or.inr (Or.inl rfl), rfl, rfl⟩
          · refine ma_nil
  · refine ms_nil
theorem ok_lies_within (c : Facts K mg) (hS : SysD base) : FnG PySem.Challenge.pw_lastsigns_k02_whole_worlds_by_unions w K mg base 1 c.f_lies_within c.d_lies_within ["small", "great"] (spOf K mg 2 fn_lies_within) := fnG_den c.F_lies_within sc_lies_within fun cdv A outer s H vs E hr gd => pf_lies_within c hS hr gd
/-! at_most -/
abbrev N_at_most : List Str := ["nodes", "stopped", "found", "node", ".0", "some"]
def b_at_most : DenS := (sCons (sIf (tst (dOr (dNot (dCall 1 false fn_is_integer (aVal (dVar 0) agNil))) (dNot (dChain gLe gLe (dCon (.int 2)) (dVar 0) (dCon (.int 4))))))
 (sCons (sRaise "Unfit")
  sNil)
 sNil)
  (sCons (sIf (tst (dOr (dNot (dCall 1 false fn_is_integer (aVal (dVar 1) agNil))) (dNot (dChain gLe gLt (dCon (.int 0)) (dVar 1) (dVar 0)))))
 (sCons (sRaise "Unfit")
  sNil)
 sNil)
  (sCons (sAsg (dLst (aCons (dTup aNil) aNil)) (gNm 2))
  (sCons (sLp [3] (sFor (dRng1 (dVar 0)) (gNm 3)
 (sEnd [3]
 (sCons (sAsg (bin gAdd (dVar 2) (dLc (dIt (dVar 2)) (gNm 5) tYesD (bin gAdd (dVar 5) (dTup (aCons (dVar 3) aNil))) [4, 5])) (gNm 2))
  sNil))))
  (sCons (sRet (dTup (aCons (dVar 0) (aCons (fnc gTuple (aCons (fnc gSorted (aCons (dLc (dIt (dVar 2)) (gNm 5) (tst (bin gGe (fnc gLen (aCons (dVar 5) aNil)) (bin gSub (dVar 0) (dVar 1)))) (dVar 5) [4, 5]) aNil)) aNil)) aNil))))
  sNil)))))
def fn_at_most : Fn := fnOf 6 [0, 1] b_at_most
theorem sc_at_most : FnScope N_at_most ["nodes", "stopped"] (defScope st_at_most) := ⟨rfl, rfl, rfl, by decide +kernel, rfl, by decide +kernel, by decide +kernel⟩
theorem pf_at_most (c : Facts K mg) (hS : SysD base) {cdv : Value} {A : Around} {outer : List PySem.Env} {s : Shared} {H : Hp} {vs : List V} {E : XK} (hr : Room 1 (A.deeper (envOfC "at_most" (defScope st_at_most) s.heap.objs.size c.f_at_most cdv))) (gd : A.guards = some []) :
    PSs (cxG PySem.Challenge.pw_lastsigns_k02_whole_worlds_by_unions w K mg base N_at_most "at_most" (defScope st_at_most) c.f_at_most cdv A outer s H E) (defBody st_at_most) (tS (en (cxG PySem.Challenge.pw_lastsigns_k02_whole_worlds_by_unions w K mg base N_at_most "at_most" (defScope st_at_most) c.f_at_most cdv A outer s H E) [0, 1] (L2.start N_at_most vs)) (WE E) (b_at_most)) := by
  have Z : Cz (cxG PySem.Challenge.pw_lastsigns_k02_whole_worlds_by_unions w K mg base N_at_most "at_most" (defScope st_at_most) c.f_at_most cdv A outer s H E) 1 := ⟨sc_at_most.nd, rfl, gd, hr, hS⟩
  have hT : Takes (cxG PySem.Challenge.pw_lastsigns_k02_whole_worlds_by_unions w K mg base N_at_most "at_most" (defScope st_at_most) c.f_at_most cdv A outer s H E) (WE E) := takes_of rfl rfl rfl rfl
  refine ms_cons ?_ ?_
  · refine ms_if ?_ ?_ ?_
    · refine L2.PW.pt ?_
      refine mw_or ?_ ?_
      · refine mt_not ?_
        · refine mt_val ?_ ?_
          · refine me_call (ps := ["value"]) (fa := c.f_is_integer) (fd := c.d_is_integer) (k := 1) ?_ ?_ ?_ ?_ ?_ ?_ ?_
            · exact ⟨rfl, c.m_is_integer, c.F_is_integer.kp, c.B_is_integer, rfl⟩
            · exact (ok_is_integer c hS).mono (by decide)
            · exact Z.room
            · exact Z.gd
            · exact hT
            · refine mv_val ?_ ?_ ?_
              · exact rfl
              · refine q_var ?_
                · exact ⟨rfl, Or.inr (Or.inl rfl), rfl, rfl⟩
              · refine mv_nil
            · exact st1 rfl st0
          · exact fun _ => rfl
      · refine mw_one_or ?_
        · refine mt_not ?_
          · refine mt_chain (o_le Z.u64) (o_le Z.u64) v_G v_G ?_ ?_ ?_ ?_
            · exact rfl
            · refine me_toW ?_
              · refine me_int
            · refine q_var ?_
              · exact ⟨rfl, Or.inr (Or.inl rfl), rfl, rfl⟩
            · refine me_toW ?_
              · refine me_gint (t := c.t_MAX_NODES) ?_ ?_ ?_
                · exact rfl
                · exact c.g_MAX_NODES
                · exact rfl
    · refine ms_cons ?_ ?_
      · refine ms_raise0 (C := c.C_Unfit) ?_ ?_ ?_ ?_ ?_
        · exact Z.calm
        · exact hT
        · exact c.X_Unfit
        · exact rfl
        · exact rfl
      · refine ms_nil
    · refine ms_nil
  · refine ms_cons ?_ ?_
    · refine ms_if ?_ ?_ ?_
      · refine L2.PW.pt ?_
        refine mw_or ?_ ?_
        · refine mt_not ?_
          · refine mt_val ?_ ?_
            · refine me_call (ps := ["value"]) (fa := c.f_is_integer) (fd := c.d_is_integer) (k := 1) ?_ ?_ ?_ ?_ ?_ ?_ ?_
              · exact ⟨rfl, c.m_is_integer, c.F_is_integer.kp, c.B_is_integer, rfl⟩
              · exact (ok_is_integer c hS).mono (by decide)
              · exact Z.room
              · exact Z.gd
              · exact hT
              · refine mv_val ?_ ?_ ?_
                · exact rfl
                · refine q_var ?_
                  · exact ⟨rfl, Or.inr (Or.inl rfl), rfl, rfl⟩
                · refine mv_nil
              · exact st1 rfl st0
            · exact fun _ => rfl
        · refine mw_one_or ?_
          · refine mt_not ?_
            · refine mt_chain (o_le Z.u64) (o_lt Z.u64) v_G v_G ?_ ?_ ?_ ?_
              · exact rfl
              · refine me_toW ?_
                · refine me_int
              · refine q_var ?_
                · exact ⟨rfl, Or.inr (Or.inl rfl), rfl, rfl⟩
              · refine me_toW ?_
                · refine q_var ?_
                  · exact ⟨rfl, Or.inr (Or.inl rfl), rfl, rfl⟩
      · refine ms_cons ?_ ?_
        · refine ms_raise0 (C := c.C_Unfit) ?_ ?_ ?_ ?_ ?_
          · exact Z.calm
          · exact hT
          · exact c.X_Unfit
          · exact rfl
          · exact rfl
        · refine ms_nil
      · refine ms_nil
    · refine ms_cons ?_ ?_
      · refine ms_asg (sl := [2]) ?_ ?_ ?_ ?_ ?_
        · exact rfl
        · exact rfl
        · exact rfl
        · refine me_lst ?_ ?_
          · exact LenIs.le (len1 len0) (by decide)
          · refine ma_cons ?_ ?_ ?_
            · exact rfl
            · refine me_tup ?_ ?_
              · exact LenIs.le len0 (by decide)
              · refine ma_nil
            · refine ma_nil
        · refine mg_nm ?_ ?_ ?_ ?_ ?_
          · exact Z.nd
          · exact rfl
          · exact Or.inl rfl
          · exact Or.inr rfl
          · exact by decide
      · refine ms_cons ?_ ?_
        · refine ms_lp ?_
          · refine ms_for (sl := [3]) ?_ ?_ ?_ ?_ ?_ ?_
            · exact L2.passes_of rfl
            · exact Z.calm
            · exact fun _ => rfl
            · refine mi_range1 ?_ ?_ ?_ ?_
              · exact rfl
              · exact c.n_range
              · exact rfl
              · refine q_var ?_
                · exact ⟨rfl, Or.inr (Or.inl rfl), rfl, rfl⟩
            · refine mg_nm ?_ ?_ ?_ ?_ ?_
              · exact Z.nd
              · exact rfl
              · exact Or.inr rfl
              · exact Or.inl rfl
              · exact by decide
            · refine ms_ends ?_
              · refine ms_cons ?_ ?_
                · refine ms_asg (sl := [2]) ?_ ?_ ?_ ?_ ?_
                  · exact rfl
                  · exact rfl
                  · exact rfl
                  · refine me_bin' o_add v_add ?_ ?_
                    · refine q_var ?_
                      · exact ⟨rfl, Or.inl rfl, rfl, rfl⟩
                    · refine me_toW ?_
                      · refine me_lc (own := [(".0", 4), ("some", 5)]) (sl := [5]) ?_ ?_ ?_ ?_ ?_ ?_ ?_ ?_ ?_ ?_ ?_
                        · exact Z.calm
                        · exact Z.nd
                        · exact by decide
                        · exact by decide
                        · exact by decide
                        · exact fun _ => rfl
                        · refine mi_any ?_
                          · refine me_toF ?_
                            · refine q_var ?_
                              · exact ⟨rfl, Or.inl rfl, rfl, rfl⟩
                        · exact blk_of rfl
                        · intro _ _ _ _ _
                          refine mg_nm ?_ ?_ ?_ ?_ ?_
                          · exact (Cz.blk Z).nd
                          · exact rfl
                          · exact Or.inl rfl
                          · exact Or.inr rfl
                          · exact by decide
                        · intro _ _ _ _ _
                          refine mts_nil
                        · intro _ _ _ _ _
                          refine me_bin' o_add v_add ?_ ?_
                          · refine q_var ?_
                            · exact ⟨rfl, Or.inl rfl, rfl, rfl⟩
                          · refine me_toW ?_
                            · refine me_tup ?_ ?_
                              · exact LenIs.le (len1 len0) (by decide)
                              · refine ma_cons ?_ ?_ ?_
                                · exact rfl
                                · refine q_var ?_
                                  · exact ⟨rfl, Or.inr (Or.inl rfl), rfl, rfl⟩
                                · refine ma_nil
                  · refine mg_nm ?_ ?_ ?_ ?_ ?_
                    · exact Z.nd
                    · exact rfl
                    · exact Or.inl rfl
                    · exact Or.inr rfl
                    · exact by decide
                · refine ms_nil
        · refine ms_cons ?_ ?_
          · refine ms_ret ?_
            · refine me_tup ?_ ?_
              · exact LenIs.le (len1 (len1 len0)) (by decide)
              · refine ma_cons ?_ ?_ ?_
                · exact rfl
                · refine q_var ?_
                  · exact ⟨rfl, Or.inr (Or.inl rfl), rfl, rfl⟩
                · refine ma_cons ?_ ?_ ?_
                  · exact rfl
                  · refine q_tuple ?_ ?_ ?_
                    · exact ⟨rfl, c.n_tuple⟩
                    · exact st1 rfl st0
                    · refine maW_of ?_
                      · refine ma_cons ?_ ?_ ?_
                        · exact rfl
                        · refine q_sorted (k := 1) ?_ ?_ ?_ ?_
                          · exact Z
                          · exact ⟨rfl, c.n_sorted⟩
                          · exact st1 rfl st0
                          · refine maW_of ?_
                            · refine ma_cons ?_ ?_ ?_
                              · exact rfl
                              · refine me_lc (own := [(".0", 4), ("some", 5)]) (sl := [5]) ?_ ?_ ?_ ?_ ?_ ?_ ?_ ?_ ?_ ?_ ?_
                                · exact Z.calm
                                · exact Z.nd
                                · exact by decide
                                · exact by decide
                                · exact by decide
                                · exact fun _ => rfl
                                · refine mi_any ?_
                                  · refine me_toF ?_
                                    · refine q_var ?_
                                      · exact ⟨rfl, Or.inl rfl, rfl, rfl⟩
                                · exact blk_of rfl
                                · intro _ _ _ _ _
                                  refine mg_nm ?_ ?_ ?_ ?_ ?_
                                  · exact (Cz.blk Z).nd
                                  · exact rfl
                                  · exact Or.inl rfl
                                  · exact Or.inr rfl
                                  · exact by decide
                                · intro _ _ _ _ _
                                  refine mts_one ?_
                                  · refine mt_cmp' o_ge v_G ?_ ?_ ?_
                                    · exact rfl
                                    · refine q_len ?_ ?_ ?_
                                      · exact ⟨rfl, c.n_len⟩
                                      · exact st1 rfl st0
                                      · refine maW_of ?_
                                        · refine ma_cons ?_ ?_ ?_
                                          · exact rfl
                                          · refine q_var ?_
                                            · exact ⟨rfl, Or.inl rfl, rfl, rfl⟩
                                          · refine ma_nil
                                    · refine me_toW ?_
                                      · refine me_bin' o_sub v_sub ?_ ?_
                                        · refine q_var ?_
                                          · exact ⟨rfl, Or.inr (Or.inl rfl), rfl, rfl⟩
                                        · refine me_toW ?_
                                          · refine q_var ?_
                                            · exact ⟨rfl, Or.inr (Or.inl rfl), rfl, rfl⟩
                                · intro _ _ _ _ _
                                  refine q_var ?_
                                  · exact ⟨rfl, Or.inl rfl, rfl, rfl⟩
                              · refine ma_nil
                        · refine ma_nil
                  · refine ma_nil
          · refine ms_nil
theorem ok_at_most (c : Facts K mg) (hS : SysD base) : FnG PySem.Challenge.pw_lastsigns_k02_whole_worlds_by_unions w K mg base 2 c.f_at_most c.d_at_most ["nodes", "stopped"] (spOf K mg 2 fn_at_most) := fnG_den c.F_at_most sc_at_most fun cdv A outer s H vs E hr gd => pf_at_most c hS hr gd
/-! least_rights -/
abbrev N_least_rights : List Str := ["world", "rights", "found", "right", ".0", "other"]
def b_least_rights : DenS := (sCons (sAsg (bin gIx (dVar 0) (dCon (.int 1))) (gNm 1))
  (sCons (sNew 2 aNil)
  (sCons (sLp [3] (sFor (dIt (dVar 1)) (gNm 3)
 (sEnd [3]
 (sCons (sIf (tst (dNot (fnc gAny (aCons (dLc (dIt (dVar 1)) (gNm 5) tYesD (dAnd (bin gNeB (dVar 5) (dVar 3)) (dCall 2 false fn_lies_within (aVal (dVar 5) (aVal (dVar 3) agNil)))) [4, 5]) aNil))))
 (sCons (sApp 2 (dVar 3))
  sNil)
 sNil)
  sNil))))
  (sCons (sRet (fnc gTuple (aCons (dOwn 2) aNil)))
  sNil))))
def fn_least_rights : Fn := fnOf 6 [0] b_least_rights
theorem sc_least_rights : FnScope N_least_rights ["world"] (defScope st_least_rights) := ⟨rfl, rfl, rfl, by decide +kernel, rfl, by decide +kernel, by decide +kernel⟩
theorem pf_least_rights (c : Facts K mg) (hS : SysD base) {cdv : Value} {A : Around} {outer : List PySem.Env} {s : Shared} {H : Hp} {vs : List V} {E : XK} (hr : Room 1 (A.deeper (envOfC "least_rights" (defScope st_least_rights) s.heap.objs.size c.f_least_rights cdv))) (gd : A.guards = some []) :
    PSs (cxG PySem.Challenge.pw_lastsigns_k02_whole_worlds_by_unions w K mg base N_least_rights "least_rights" (defScope st_least_rights) c.f_least_rights cdv A outer s H E) (defBody st_least_rights) (tS (en (cxG PySem.Challenge.pw_lastsigns_k02_whole_worlds_by_unions w K mg base N_least_rights "least_rights" (defScope st_least_rights) c.f_least_rights cdv A outer s H E) [0] (L2.start N_least_rights vs)) (WE E) (b_least_rights)) := by
  have Z : Cz (cxG PySem.Challenge.pw_lastsigns_k02_whole_worlds_by_unions w K mg base N_least_rights "least_rights" (defScope st_least_rights) c.f_least_rights cdv A outer s H E) 1 := ⟨sc_least_rights.nd, rfl, gd, hr, hS⟩
  have hT : Takes (cxG PySem.Challenge.pw_lastsigns_k02_whole_worlds_by_unions w K mg base N_least_rights "least_rights" (defScope st_least_rights) c.f_least_rights cdv A outer s H E) (WE E) := takes_of rfl rfl rfl rfl
  refine ms_cons ?_ ?_
  · refine ms_asg (sl := [1]) ?_ ?_ ?_ ?_ ?_
    · exact rfl
    · exact rfl
    · exact rfl
    · refine me_ix' ?_ ?_ ?_
      · exact rfl
      · refine q_var ?_
        · exact ⟨rfl, Or.inl rfl, rfl, rfl⟩
      · refine me_toD ?_
        · refine me_toW ?_
          · refine me_int
    · refine mg_nm ?_ ?_ ?_ ?_ ?_
      · exact Z.nd
      · exact rfl
      · exact Or.inl rfl
      · exact Or.inr rfl
      · exact by decide
  · refine ms_cons ?_ ?_
    · refine ms_new ?_ ?_ ?_ ?_ ?_ ?_ ?_
      · exact rfl
      · exact Z.nd
      · exact rfl
      · exact Or.inl rfl
      · exact Or.inl rfl
      · exact by decide
      · refine mn_lst ?_ ?_
        · exact LenIs.le len0 (by decide)
        · refine ma_nil
    · refine ms_cons ?_ ?_
      · refine ms_lp ?_
        · refine ms_for (sl := [3]) ?_ ?_ ?_ ?_ ?_ ?_
          · exact L2.passes_of rfl
          · exact Z.calm
          · exact fun _ => rfl
          · refine mi_any ?_
            · refine me_toF ?_
              · refine q_var ?_
                · exact ⟨rfl, Or.inl rfl, rfl, rfl⟩
          · refine mg_nm ?_ ?_ ?_ ?_ ?_
            · exact Z.nd
            · exact rfl
            · exact Or.inr rfl
            · exact Or.inl rfl
            · exact by decide
          · refine ms_ends ?_
            · refine ms_cons ?_ ?_
              · refine ms_if ?_ ?_ ?_
                · refine mt_not ?_
                  · refine mt_val ?_ ?_
                    · refine q_any (k := 1) ?_ ?_ ?_ ?_
                      · exact Z
                      · exact ⟨rfl, c.n_any⟩
                      · exact st1 rfl st0
                      · refine maW_of ?_
                        · refine ma_cons ?_ ?_ ?_
                          · exact rfl
                          · refine me_lc (own := [(".0", 4), ("other", 5)]) (sl := [5]) ?_ ?_ ?_ ?_ ?_ ?_ ?_ ?_ ?_ ?_ ?_
                            · exact Z.calm
                            · exact Z.nd
                            · exact by decide
                            · exact by decide
                            · exact by decide
                            · exact fun _ => rfl
                            · refine mi_any ?_
                              · refine me_toF ?_
                                · refine q_var ?_
                                  · exact ⟨rfl, Or.inl rfl, rfl, rfl⟩
                            · exact blk_of rfl
                            · intro _ _ _ _ _
                              refine mg_nm ?_ ?_ ?_ ?_ ?_
                              · exact (Cz.blk Z).nd
                              · exact rfl
                              · exact Or.inl rfl
                              · exact Or.inr rfl
                              · exact by decide
                            · intro _ _ _ _ _
                              refine mts_nil
                            · intro _ _ _ _ _
                              refine me_and ?_ ?_
                              · refine me_cmp' (o_ne (Cz.blk Z).u64) v_G ?_ ?_ ?_
                                · exact rfl
                                · refine q_var ?_
                                  · exact ⟨rfl, Or.inl rfl, rfl, rfl⟩
                                · refine me_toW ?_
                                  · refine q_var ?_
                                    · exact ⟨rfl, Or.inr (Or.inl rfl), rfl, rfl⟩
                              · refine me_one ?_
                                · refine me_call (ps := ["small", "great"]) (fa := c.f_lies_within) (fd := c.d_lies_within) (k := 1) ?_ ?_ ?_ ?_ ?_ ?_ ?_
                                  · exact ⟨rfl, c.m_lies_within, c.F_lies_within.kp, c.B_lies_within, rfl⟩
                                  · exact (ok_lies_within c hS).mono (by decide)
                                  · exact (Cz.blk Z).room
                                  · exact (Cz.blk Z).gd
                                  · exact takes_F
                                  · refine mv_val ?_ ?_ ?_
                                    · exact rfl
                                    · refine q_var ?_
                                      · exact ⟨rfl, Or.inl rfl, rfl, rfl⟩
                                    · refine mv_val ?_ ?_ ?_
                                      · exact rfl
                                      · refine q_var ?_
                                        · exact ⟨rfl, Or.inr (Or.inl rfl), rfl, rfl⟩
                                      · refine mv_nil
                                  · exact st1 rfl (st1 rfl st0)
                          · refine ma_nil
                    · exact fun _ => rfl
                · refine ms_cons ?_ ?_
                  · refine ms_app ?_ ?_ ?_ ?_ ?_ ?_ ?_
                    · exact rfl
                    · exact Or.inl rfl
                    · exact rfl
                    · exact rfl
                    · exact rfl
                    · exact rfl
                    · refine q_var ?_
                      · exact ⟨rfl, Or.inr (Or.inl rfl), rfl, rfl⟩
                  · refine ms_nil
                · refine ms_nil
              · refine ms_nil
      · refine ms_cons ?_ ?_
        · refine ms_ret ?_
          · refine q_tuple ?_ ?_ ?_
            · exact ⟨rfl, c.n_tuple⟩
            · exact st1 rfl st0
            · refine maW_cons ?_ ?_ ?_
              · exact rfl
              · refine me_toD ?_
                · refine q_own ?_
                  · exact ⟨rfl, Or.inl rfl, rfl, rfl⟩
              · refine maW_nil
        · refine ms_nil
theorem ok_least_rights (c : Facts K mg) (hS : SysD base) : FnG PySem.Challenge.pw_lastsigns_k02_whole_worlds_by_unions w K mg base 2 c.f_least_rights c.d_least_rights ["world"] (spOf K mg 1 fn_least_rights) := fnG_den c.F_least_rights sc_least_rights fun cdv A outer s H vs E hr gd => pf_least_rights c hS hr gd
/-! is_joined -/
abbrev N_is_joined : List Str := ["world", "nodes", "rights", "unions", "least", "some", "joined", ".0", "node"]
def b_is_joined : DenS := (sCons (sAsg (dVar 0) (gTp 2 (gsCons (gNm 1) (gsCons (gNm 2) gsNil))))
  (sCons (sNew 3 (aCons (dTup aNil) aNil))
  (sCons (sLp [4, 5, 6] (sFor (dIt (dCall 1 false fn_least_rights (aVal (dVar 0) agNil))) (gNm 4)
 (sEnd [4, 5, 6]
 (sCons (sLp [5, 6] (sFor (dIt (fnc gList (aCons (dOwn 3) aNil))) (gNm 5)
 (sEnd [5, 6]
 (sCons (sAsg (fnc gTuple (aCons (dLc (dRng1 (dVar 1)) (gNm 8) (tst (dOr (bin gInB (dVar 8) (dVar 5)) (bin gInB (dVar 8) (dVar 4)))) (dVar 8) [7, 8]) aNil)) (gNm 6))
  (sCons (sIf (tst (bin gNotInB (dVar 6) (dOwn 3)))
 (sCons (sApp 3 (dVar 6))
  sNil)
 sNil)
  sNil)))))
  sNil))))
  (sCons (sRet (bin gEqB (fnc gSorted (aCons (dSl (dOwn 3) (some (dCon (.int 1))) none) aNil)) (fnc gList (aCons (dVar 2) aNil))))
  sNil))))
def fn_is_joined : Fn := fnOf 9 [0] b_is_joined
theorem sc_is_joined : FnScope N_is_joined ["world"] (defScope st_is_joined) := ⟨rfl, rfl, rfl, by decide +kernel, rfl, by decide +kernel, by decide +kernel⟩
theorem pf_is_joined (c : Facts K mg) (hS : SysD base) {cdv : Value} {A : Around} {outer : List PySem.Env} {s : Shared} {H : Hp} {vs : List V} {E : XK} (hr : Room 2 (A.deeper (envOfC "is_joined" (defScope st_is_joined) s.heap.objs.size c.f_is_joined cdv))) (gd : A.guards = some []) :
    PSs (cxG PySem.Challenge.pw_lastsigns_k02_whole_worlds_by_unions w K mg base N_is_joined "is_joined" (defScope st_is_joined) c.f_is_joined cdv A outer s H E) (defBody st_is_joined) (tS (en (cxG PySem.Challenge.pw_lastsigns_k02_whole_worlds_by_unions w K mg base N_is_joined "is_joined" (defScope st_is_joined) c.f_is_joined cdv A outer s H E) [0] (L2.start N_is_joined vs)) (WE E) (b_is_joined)) := by
  have Z : Cz (cxG PySem.Challenge.pw_lastsigns_k02_whole_worlds_by_unions w K mg base N_is_joined "is_joined" (defScope st_is_joined) c.f_is_joined cdv A outer s H E) 2 := ⟨sc_is_joined.nd, rfl, gd, hr, hS⟩
  have hT : Takes (cxG PySem.Challenge.pw_lastsigns_k02_whole_worlds_by_unions w K mg base N_is_joined "is_joined" (defScope st_is_joined) c.f_is_joined cdv A outer s H E) (WE E) := takes_of rfl rfl rfl rfl
  refine ms_cons ?_ ?_
  · refine ms_asg (sl := [1, 2]) ?_ ?_ ?_ ?_ ?_
    · exact rfl
    · exact rfl
    · exact rfl
    · refine q_var ?_
      · exact ⟨rfl, Or.inl rfl, rfl, rfl⟩
    · refine mg_tup ?_ ?_ ?_
      · exact Z.calm
      · exact st1 rfl (st1 rfl st0)
      · refine mgs_cons (sl := [1]) (sl' := [2]) ?_ ?_ ?_
        · exact rfl
        · refine mg_nm ?_ ?_ ?_ ?_ ?_
          · exact Z.nd
          · exact rfl
          · exact Or.inl rfl
          · exact Or.inr rfl
          · exact by decide
        · refine mgs_cons (sl := [2]) (sl' := []) ?_ ?_ ?_
          · exact rfl
          · refine mg_nm ?_ ?_ ?_ ?_ ?_
            · exact Z.nd
            · exact rfl
            · exact Or.inl rfl
            · exact Or.inr rfl
            · exact by decide
          · refine mgs_nil
  · refine ms_cons ?_ ?_
    · refine ms_new ?_ ?_ ?_ ?_ ?_ ?_ ?_
      · exact rfl
      · exact Z.nd
      · exact rfl
      · exact Or.inl rfl
      · exact Or.inl rfl
      · exact by decide
      · refine mn_lst ?_ ?_
        · exact LenIs.le (len1 len0) (by decide)
        · refine ma_cons ?_ ?_ ?_
          · exact rfl
          · refine me_tup ?_ ?_
            · exact LenIs.le len0 (by decide)
            · refine ma_nil
          · refine ma_nil
    · refine ms_cons ?_ ?_
      · refine ms_lp ?_
        · refine ms_for (sl := [4]) ?_ ?_ ?_ ?_ ?_ ?_
          · exact L2.passes_of rfl
          · exact Z.calm
          · exact fun _ => rfl
          · refine mi_any ?_
            · refine me_toF ?_
              · refine me_call (ps := ["world"]) (fa := c.f_least_rights) (fd := c.d_least_rights) (k := 2) ?_ ?_ ?_ ?_ ?_ ?_ ?_
                · exact ⟨rfl, c.m_least_rights, c.F_least_rights.kp, c.B_least_rights, rfl⟩
                · exact (ok_least_rights c hS).mono (by decide)
                · exact Z.room
                · exact Z.gd
                · exact hT
                · refine mv_val ?_ ?_ ?_
                  · exact rfl
                  · refine q_var ?_
                    · exact ⟨rfl, Or.inl rfl, rfl, rfl⟩
                  · refine mv_nil
                · exact st1 rfl st0
          · refine mg_nm ?_ ?_ ?_ ?_ ?_
            · exact Z.nd
            · exact rfl
            · exact Or.inr rfl
            · exact Or.inl rfl
            · exact by decide
          · refine ms_ends ?_
            · refine ms_cons ?_ ?_
              · refine ms_lp ?_
                · refine ms_for (sl := [5]) ?_ ?_ ?_ ?_ ?_ ?_
                  · exact L2.passes_of rfl
                  · exact Z.calm
                  · exact fun _ => rfl
                  · refine mi_any ?_
                    · refine me_toF ?_
                      · refine q_list ?_ ?_ ?_
                        · exact ⟨rfl, c.n_list⟩
                        · exact st1 rfl st0
                        · refine maW_cons ?_ ?_ ?_
                          · exact rfl
                          · refine me_toD ?_
                            · refine q_own ?_
                              · exact ⟨rfl, Or.inl rfl, rfl, rfl⟩
                          · refine maW_nil
                  · refine mg_nm ?_ ?_ ?_ ?_ ?_
                    · exact Z.nd
                    · exact rfl
                    · exact Or.inr rfl
                    · exact Or.inl rfl
                    · exact by decide
                  · refine ms_ends ?_
                    · refine ms_cons ?_ ?_
                      · refine ms_asg (sl := [6]) ?_ ?_ ?_ ?_ ?_
                        · exact rfl
                        · exact rfl
                        · exact rfl
                        · refine q_tuple ?_ ?_ ?_
                          · exact ⟨rfl, c.n_tuple⟩
                          · exact st1 rfl st0
                          · refine maW_of ?_
                            · refine ma_cons ?_ ?_ ?_
                              · exact rfl
                              · refine me_lc (own := [(".0", 7), ("node", 8)]) (sl := [8]) ?_ ?_ ?_ ?_ ?_ ?_ ?_ ?_ ?_ ?_ ?_
                                · exact Z.calm
                                · exact Z.nd
                                · exact by decide
                                · exact by decide
                                · exact by decide
                                · exact fun _ => rfl
                                · refine mi_range1 ?_ ?_ ?_ ?_
                                  · exact rfl
                                  · exact c.n_range
                                  · exact rfl
                                  · refine q_var ?_
                                    · exact ⟨rfl, Or.inl rfl, rfl, rfl⟩
                                · exact blk_of rfl
                                · intro _ _ _ _ _
                                  refine mg_nm ?_ ?_ ?_ ?_ ?_
                                  · exact (Cz.blk Z).nd
                                  · exact rfl
                                  · exact Or.inl rfl
                                  · exact Or.inr rfl
                                  · exact by decide
                                · intro _ _ _ _ _
                                  refine mts_one ?_
                                  · refine L2.PW.pt ?_
                                    refine mw_or ?_ ?_
                                    · refine mt_cmp' (o_in (Cz.blk Z).u65) v_G ?_ ?_ ?_
                                      · exact rfl
                                      · refine q_var ?_
                                        · exact ⟨rfl, Or.inl rfl, rfl, rfl⟩
                                      · refine me_toW ?_
                                        · refine q_var ?_
                                          · exact ⟨rfl, Or.inr (Or.inl rfl), rfl, rfl⟩
                                    · refine mw_one_or ?_
                                      · refine mt_cmp' (o_in (Cz.blk Z).u65) v_G ?_ ?_ ?_
                                        · exact rfl
                                        · refine q_var ?_
                                          · exact ⟨rfl, Or.inl rfl, rfl, rfl⟩
                                        · refine me_toW ?_
                                          · refine q_var ?_
                                            · exact ⟨rfl, Or.inr (Or.inl rfl), rfl, rfl⟩
                                · intro _ _ _ _ _
                                  refine q_var ?_
                                  · exact ⟨rfl, Or.inl rfl, rfl, rfl⟩
                              · refine ma_nil
                        · refine mg_nm ?_ ?_ ?_ ?_ ?_
                          · exact Z.nd
                          · exact rfl
                          · exact Or.inl rfl
                          · exact Or.inr rfl
                          · exact by decide
                      · refine ms_cons ?_ ?_
                        · refine ms_if ?_ ?_ ?_
                          · refine mt_cmp' (o_notIn Z.u65) v_G ?_ ?_ ?_
                            · exact rfl
                            · refine q_var ?_
                              · exact ⟨rfl, Or.inl rfl, rfl, rfl⟩
                            · refine q_own ?_
                              · exact ⟨rfl, Or.inl rfl, rfl, rfl⟩
                          · refine ms_cons ?_ ?_
                            · refine ms_app ?_ ?_ ?_ ?_ ?_ ?_ ?_
                              · exact rfl
                              · exact Or.inl rfl
                              · exact rfl
                              · exact rfl
                              · exact rfl
                              · exact rfl
                              · refine q_var ?_
                                · exact ⟨rfl, Or.inl rfl, rfl, rfl⟩
                            · refine ms_nil
                          · refine ms_nil
                        · refine ms_nil
              · refine ms_nil
      · refine ms_cons ?_ ?_
        · refine ms_ret ?_
          · refine me_cmp' (o_eq Z.u64) v_G ?_ ?_ ?_
            · exact rfl
            · refine q_sorted (k := 2) ?_ ?_ ?_ ?_
              · exact Z
              · exact ⟨rfl, c.n_sorted⟩
              · exact st1 rfl st0
              · refine maW_of ?_
                · refine ma_cons ?_ ?_ ?_
                  · exact rfl
                  · refine me_sl ?_ ?_ ?_
                    · refine me_toD ?_
                      · refine q_own ?_
                        · exact ⟨rfl, Or.inl rfl, rfl, rfl⟩
                    · refine mp_some ?_
                      · refine me_int
                    · refine mp_none
                  · refine ma_nil
            · refine me_toW ?_
              · refine q_list ?_ ?_ ?_
                · exact ⟨rfl, c.n_list⟩
                · exact st1 rfl st0
                · refine maW_of ?_
                  · refine ma_cons ?_ ?_ ?_
                    · exact rfl
                    · refine q_var ?_
                      · exact ⟨rfl, Or.inl rfl, rfl, rfl⟩
                    · refine ma_nil
        · refine ms_nil
theorem ok_is_joined (c : Facts K mg) (hS : SysD base) : FnG PySem.Challenge.pw_lastsigns_k02_whole_worlds_by_unions w K mg base 3 c.f_is_joined c.d_is_joined ["world"] (spOf K mg 1 fn_is_joined) := fnG_den c.F_is_joined sc_is_joined fun cdv A outer s H vs E hr gd => pf_is_joined c hS hr gd
/-! _law_deck -/
abbrev N__law_deck : List Str := ["script", "cells", "seal", "cell", ".0", "own"]
def b__law_deck : DenS := (sCons (sPar 1 2 (.val (dLc (dIt (dSl (dRd 0) none (some (dCon (.int 63))))) (gNm 5) tYesD (bin gAdd (bin gMul (dCon (.int 2)) (fnc gAbs (aCons (dVar 5) aNil))) (fnc gInt (aCons (bin gLt (dVar 5) (dCon (.int 0))) aNil))) [4, 5])) (.val (bin gAdd (dCon (.int 15784)) (fnc gLen (aCons (dRd 0) aNil)))))
  (sCons (sLp [3] (sFor (dIt (dVar 1)) (gNm 3)
 (sEnd [3]
 (sCons (sAsg (bin gMod (fnc gInt (aCons (bin gAdd (bin gMul (dVar 2) (dCon (.int 48271))) (dVar 3)) aNil)) (dCon (.int 4294967291))) (gNm 2))
  sNil))))
  (sCons (sRetD "great" (nLc (dIt (dVar 1)) (gNm 3) (tst (bin gGe (dVar 3) (bin gPow (dCon (.int 10)) (dCon (.int 18))))) (dVar 3) [4, 3]) [("seal", (dVar 2)), ("turn", (dCon (.int 0)))])
  sNil)))
def fn__law_deck : Fn := fnOf 6 [0] b__law_deck
theorem sc__law_deck : FnScope N__law_deck ["script"] (defScope st__law_deck) := ⟨rfl, rfl, rfl, by decide +kernel, rfl, by decide +kernel, by decide +kernel⟩
theorem pf__law_deck (c : Facts K mg) (hS : SysD base) {cdv : Value} {A : Around} {outer : List PySem.Env} {s : Shared} {H : Hp} {vs : List V} {E : XK} (hr : Room 0 (A.deeper (envOfC "_law_deck" (defScope st__law_deck) s.heap.objs.size c.f__law_deck cdv))) (gd : A.guards = some []) :
    PSs (cxG PySem.Challenge.pw_lastsigns_k02_whole_worlds_by_unions w K mg base N__law_deck "_law_deck" (defScope st__law_deck) c.f__law_deck cdv A outer s H E) (defBody st__law_deck) (tS (en (cxG PySem.Challenge.pw_lastsigns_k02_whole_worlds_by_unions w K mg base N__law_deck "_law_deck" (defScope st__law_deck) c.f__law_deck cdv A outer s H E) [0] (L2.start N__law_deck vs)) (WE E) (b__law_deck)) := by
  have Z : Cz (cxG PySem.Challenge.pw_lastsigns_k02_whole_worlds_by_unions w K mg base N__law_deck "_law_deck" (defScope st__law_deck) c.f__law_deck cdv A outer s H E) 0 := ⟨sc__law_deck.nd, rfl, gd, hr, hS⟩
  have hT : Takes (cxG PySem.Challenge.pw_lastsigns_k02_whole_worlds_by_unions w K mg base N__law_deck "_law_deck" (defScope st__law_deck) c.f__law_deck cdv A outer s H E) (WE E) := takes_of rfl rfl rfl rfl
  refine ms_cons ?_ ?_
  · refine ms_par (ra := (.val (dLc (dIt (dSl (dRd 0) none (some (dCon (.int 63))))) (gNm 5) tYesD (bin gAdd (bin gMul (dCon (.int 2)) (fnc gAbs (aCons (dVar 5) aNil))) (fnc gInt (aCons (bin gLt (dVar 5) (dCon (.int 0))) aNil))) [4, 5]))) (rb := (.val (bin gAdd (dCon (.int 15784)) (fnc gLen (aCons (dRd 0) aNil))))) ?_ ?_ ?_ ?_ ?_ ?_ ?_ ?_ ?_ ?_ ?_ ?_ ?_ ?_
    · exact Z.calm
    · exact Z.nd
    · exact rfl
    · exact rfl
    · exact by decide
    · exact by decide
    · exact by decide
    · exact rfl
    · exact rfl
    · exact rfl
    · exact rfl
    · exact rfl
    · refine me_lc (own := [(".0", 4), ("own", 5)]) (sl := [5]) ?_ ?_ ?_ ?_ ?_ ?_ ?_ ?_ ?_ ?_ ?_
      · exact Z.calm
      · exact Z.nd
      · exact by decide
      · exact by decide
      · exact by decide
      · exact fun _ => rfl
      · refine mi_any ?_
        · refine me_toF ?_
          · refine me_sl ?_ ?_ ?_
            · refine q_rd ?_
              · exact ⟨rfl, Or.inl rfl, rfl, rfl⟩
            · refine mp_none
            · refine mp_some ?_
              · refine me_int
      · exact blk_of rfl
      · intro _ _ _ _ _
        refine mg_nm ?_ ?_ ?_ ?_ ?_
        · exact (Cz.blk Z).nd
        · exact rfl
        · exact Or.inl rfl
        · exact Or.inr rfl
        · exact by decide
      · intro _ _ _ _ _
        refine mts_nil
      · intro _ _ _ _ _
        refine me_bin' o_add v_add ?_ ?_
        · refine me_bin' o_mul v_mul ?_ ?_
          · refine me_int
          · refine me_toW ?_
            · refine q_abs ?_ ?_ ?_
              · exact ⟨rfl, c.n_abs⟩
              · exact st1 rfl st0
              · refine maW_of ?_
                · refine ma_cons ?_ ?_ ?_
                  · exact rfl
                  · refine q_var ?_
                    · exact ⟨rfl, Or.inl rfl, rfl, rfl⟩
                  · refine ma_nil
        · refine me_toW ?_
          · refine q_int ?_ ?_ ?_
            · exact ⟨rfl, c.n_int⟩
            · exact st1 rfl st0
            · refine maW_of ?_
              · refine ma_cons ?_ ?_ ?_
                · exact rfl
                · refine me_cmp' (o_lt (Cz.blk Z).u64) v_G ?_ ?_ ?_
                  · exact rfl
                  · refine q_var ?_
                    · exact ⟨rfl, Or.inl rfl, rfl, rfl⟩
                  · refine me_toW ?_
                    · refine me_int
                · refine ma_nil
    · refine me_bin' o_add v_add ?_ ?_
      · refine me_int
      · refine me_toW ?_
        · refine q_len ?_ ?_ ?_
          · exact ⟨rfl, c.n_len⟩
          · exact st1 rfl st0
          · refine maW_cons ?_ ?_ ?_
            · exact rfl
            · refine q_rd ?_
              · exact ⟨rfl, Or.inl rfl, rfl, rfl⟩
            · refine maW_nil
  · refine ms_cons ?_ ?_
    · refine ms_lp ?_
      · refine ms_for (sl := [3]) ?_ ?_ ?_ ?_ ?_ ?_
        · exact L2.passes_of rfl
        · exact Z.calm
        · exact fun _ => rfl
        · refine mi_any ?_
          · refine me_toF ?_
            · refine q_var ?_
              · exact ⟨rfl, Or.inl rfl, rfl, rfl⟩
        · refine mg_nm ?_ ?_ ?_ ?_ ?_
          · exact Z.nd
          · exact rfl
          · exact Or.inl rfl
          · exact Or.inr rfl
          · exact by decide
        · refine ms_ends ?_
          · refine ms_cons ?_ ?_
            · refine ms_asg (sl := [2]) ?_ ?_ ?_ ?_ ?_
              · exact rfl
              · exact rfl
              · exact rfl
              · refine me_bin' op_mod v_mod ?_ ?_
                · refine q_int ?_ ?_ ?_
                  · exact ⟨rfl, c.n_int⟩
                  · exact st1 rfl st0
                  · refine maW_of ?_
                    · refine ma_cons ?_ ?_ ?_
                      · exact rfl
                      · refine me_bin' o_add v_add ?_ ?_
                        · refine me_bin' o_mul v_mul ?_ ?_
                          · refine q_var ?_
                            · exact ⟨rfl, Or.inl rfl, rfl, rfl⟩
                          · refine me_toW ?_
                            · refine me_int
                        · refine me_toW ?_
                          · refine q_var ?_
                            · exact ⟨rfl, Or.inl rfl, rfl, rfl⟩
                      · refine ma_nil
                · refine me_toW ?_
                  · refine me_int
              · refine mg_nm ?_ ?_ ?_ ?_ ?_
                · exact Z.nd
                · exact rfl
                · exact Or.inl rfl
                · exact Or.inr rfl
                · exact by decide
            · refine ms_nil
    · refine ms_cons ?_ ?_
      · refine ms_retD ?_ ?_ ?_ ?_ ?_ ?_ ?_
        · exact rfl
        · exact rfl
        · exact by decide
        · exact rfl
        · exact by decide
        · refine mn_lc (own := [(".0", 4), ("cell", 3)]) (sl := [3]) ?_ ?_ ?_ ?_ ?_ ?_ ?_ ?_ ?_ ?_ ?_
          · exact Z.calm
          · exact Z.nd
          · exact by decide
          · exact by decide
          · exact by decide
          · exact fun _ => rfl
          · refine mi_any ?_
            · refine me_toF ?_
              · refine q_var ?_
                · exact ⟨rfl, Or.inl rfl, rfl, rfl⟩
          · exact blk_of rfl
          · intro _ _ _ _ _
            refine mg_nm ?_ ?_ ?_ ?_ ?_
            · exact (Cz.blk Z).nd
            · exact rfl
            · exact Or.inl rfl
            · exact Or.inr rfl
            · exact by decide
          · intro _ _ _ _ _
            refine mts_one ?_
            · refine mt_cmp' o_ge v_G ?_ ?_ ?_
              · exact rfl
              · refine q_var ?_
                · exact ⟨rfl, Or.inl rfl, rfl, rfl⟩
              · refine me_toW ?_
                · refine me_bin' op_pow v_pow ?_ ?_
                  · refine me_int
                  · refine me_toW ?_
                    · refine me_int
          · intro _ _ _ _ _
            refine q_var ?_
            · exact ⟨rfl, Or.inl rfl, rfl, rfl⟩
        · refine md_cons ?_ ?_
          · refine q_var ?_
            · exact ⟨rfl, Or.inl rfl, rfl, rfl⟩
          · refine md_cons ?_ ?_
            · refine me_int
            · refine md_nil
      · refine ms_nil
theorem ok__law_deck (c : Facts K mg) (hS : SysD base) : FnG PySem.Challenge.pw_lastsigns_k02_whole_worlds_by_unions w K mg base 1 c.f__law_deck c.d__law_deck ["script"] (spOf K mg 1 fn__law_deck) := fnG_den c.F__law_deck sc__law_deck fun cdv A outer s H vs E hr gd => pf__law_deck c hS hr gd
/-! _law_draw -/
abbrev N__law_draw : List Str := ["deck", "many", "row", "cell", "blend"]
def b__law_draw : DenS := (sCons (sIf (tst (bin gNeB (dFldW 0 "great") (dLst aNil)))
 (sGreat 0 "great" 1 2 3)
 sNil)
  (sCons (sFld 0 "turn" (bin gAdd (dFld 0 "turn") (dCon (.int 1))))
  (sCons (sAsg (bin gMod (fnc gInt (aCons (bin gAdd (dFld 0 "seal") (bin gMul (dCon (.int 2654435761)) (dFldW 0 "turn"))) aNil)) (dCon (.int 4294967291))) (gNm 4))
  (sCons (sAsg (bin gMod (fnc gInt (aCons (bin gAdd (bin gAdd (bin gMul (dVar 4) (dVar 4)) (bin gMul (dCon (.int 40503)) (dFldW 0 "turn"))) (dCon (.int 11))) aNil)) (dCon (.int 4294967279))) (gNm 4))
  (sCons (sAsg (bin gMod (fnc gInt (aCons (bin gAdd (bin gMul (dVar 4) (dVar 4)) (dFldW 0 "seal")) aNil)) (dCon (.int 4294967231))) (gNm 4))
  (sCons (sRet (bin gMod (fnc gInt (aCons (bin gDiv (dVar 4) (dCon (.int 64))) aNil)) (dVar 1)))
  sNil))))))
def fn__law_draw : Fn := fnOf 5 [0, 1] b__law_draw
theorem sc__law_draw : FnScope N__law_draw ["deck", "many"] (defScope st__law_draw) := ⟨rfl, rfl, rfl, by decide +kernel, rfl, by decide +kernel, by decide +kernel⟩
theorem pf__law_draw (c : Facts K mg) (hS : SysD base) {cdv : Value} {A : Around} {outer : List PySem.Env} {s : Shared} {H : Hp} {vs : List V} {E : XK} (hr : Room 0 (A.deeper (envOfC "_law_draw" (defScope st__law_draw) s.heap.objs.size c.f__law_draw cdv))) (gd : A.guards = some []) :
    PSs (cxG PySem.Challenge.pw_lastsigns_k02_whole_worlds_by_unions w K mg base N__law_draw "_law_draw" (defScope st__law_draw) c.f__law_draw cdv A outer s H E) (defBody st__law_draw) (tS (en (cxG PySem.Challenge.pw_lastsigns_k02_whole_worlds_by_unions w K mg base N__law_draw "_law_draw" (defScope st__law_draw) c.f__law_draw cdv A outer s H E) [0, 1] (L2.start N__law_draw vs)) (WE E) (b__law_draw)) := by
  have Z : Cz (cxG PySem.Challenge.pw_lastsigns_k02_whole_worlds_by_unions w K mg base N__law_draw "_law_draw" (defScope st__law_draw) c.f__law_draw cdv A outer s H E) 0 := ⟨sc__law_draw.nd, rfl, gd, hr, hS⟩
  have hT : Takes (cxG PySem.Challenge.pw_lastsigns_k02_whole_worlds_by_unions w K mg base N__law_draw "_law_draw" (defScope st__law_draw) c.f__law_draw cdv A outer s H E) (WE E) := takes_of rfl rfl rfl rfl
  refine ms_cons ?_ ?_
  · refine ms_if ?_ ?_ ?_
    · refine mt_cmp (o_ne Z.u64) v_G ?_ ?_ ?_
      · exact rfl
      · refine me_fldW ?_ ?_ ?_ ?_ ?_
        · exact rfl
        · exact Or.inl rfl
        · exact rfl
        · exact rfl
        · exact Z.u1
      · refine me_toW ?_
        · refine me_lst ?_ ?_
          · exact LenIs.le len0 (by decide)
          · refine ma_nil
    · refine ms_great ?_ ?_ ?_ ?_ ?_ ?_ ?_ ?_ ?_ ?_ ?_ ?_ ?_ ?_ ?_ ?_ ?_ ?_ ?_ ?_
      · exact Z.nd
      · exact Z.u1
      · exact ⟨rfl, Or.inl rfl, rfl, rfl⟩
      · exact ⟨rfl, Or.inl rfl, rfl, rfl⟩
      · exact ⟨rfl, Or.inl rfl, rfl, rfl⟩
      · exact ⟨rfl, Or.inl rfl, rfl, rfl⟩
      · exact ⟨Or.inl rfl, Or.inl rfl, by decide⟩
      · exact ⟨Or.inl rfl, Or.inl rfl, by decide⟩
      · exact rfl
      · exact c.n_int
      · exact by decide
      · exact by decide
      · exact by decide
      · exact by decide
      · exact by decide
      · exact rfl
      · exact rfl
      · exact rfl
      · exact rfl
      · exact rfl
    · refine ms_nil
  · refine ms_cons ?_ ?_
    · refine ms_fld ?_ ?_ ?_ ?_ ?_ ?_ ?_
      · exact rfl
      · exact Or.inl rfl
      · exact rfl
      · exact rfl
      · exact Z.u1
      · refine me_bin' o_add v_add ?_ ?_
        · refine me_fld ?_ ?_ ?_ ?_ ?_
          · exact rfl
          · exact Or.inl rfl
          · exact rfl
          · exact rfl
          · exact Z.u1
        · refine me_toW ?_
          · refine me_int
      · exact rfl
    · refine ms_cons ?_ ?_
      · refine ms_asg (sl := [4]) ?_ ?_ ?_ ?_ ?_
        · exact rfl
        · exact rfl
        · exact rfl
        · refine me_bin' op_mod v_mod ?_ ?_
          · refine q_int ?_ ?_ ?_
            · exact ⟨rfl, c.n_int⟩
            · exact st1 rfl st0
            · refine maW_of ?_
              · refine ma_cons ?_ ?_ ?_
                · exact rfl
                · refine me_bin' o_add v_add ?_ ?_
                  · refine me_fld ?_ ?_ ?_ ?_ ?_
                    · exact rfl
                    · exact Or.inl rfl
                    · exact rfl
                    · exact rfl
                    · exact Z.u1
                  · refine me_toW ?_
                    · refine me_bin' o_mul v_mul ?_ ?_
                      · refine me_int
                      · refine me_fldW ?_ ?_ ?_ ?_ ?_
                        · exact rfl
                        · exact Or.inl rfl
                        · exact rfl
                        · exact rfl
                        · exact Z.u1
                · refine ma_nil
          · refine me_toW ?_
            · refine me_int
        · refine mg_nm ?_ ?_ ?_ ?_ ?_
          · exact Z.nd
          · exact rfl
          · exact Or.inl rfl
          · exact Or.inr rfl
          · exact by decide
      · refine ms_cons ?_ ?_
        · refine ms_asg (sl := [4]) ?_ ?_ ?_ ?_ ?_
          · exact rfl
          · exact rfl
          · exact rfl
          · refine me_bin' op_mod v_mod ?_ ?_
            · refine q_int ?_ ?_ ?_
              · exact ⟨rfl, c.n_int⟩
              · exact st1 rfl st0
              · refine maW_of ?_
                · refine ma_cons ?_ ?_ ?_
                  · exact rfl
                  · refine me_bin' o_add v_add ?_ ?_
                    · refine me_bin' o_add v_add ?_ ?_
                      · refine me_bin' o_mul v_mul ?_ ?_
                        · refine q_var ?_
                          · exact ⟨rfl, Or.inl rfl, rfl, rfl⟩
                        · refine me_toW ?_
                          · refine q_var ?_
                            · exact ⟨rfl, Or.inl rfl, rfl, rfl⟩
                      · refine me_toW ?_
                        · refine me_bin' o_mul v_mul ?_ ?_
                          · refine me_int
                          · refine me_fldW ?_ ?_ ?_ ?_ ?_
                            · exact rfl
                            · exact Or.inl rfl
                            · exact rfl
                            · exact rfl
                            · exact Z.u1
                    · refine me_toW ?_
                      · refine me_int
                  · refine ma_nil
            · refine me_toW ?_
              · refine me_int
          · refine mg_nm ?_ ?_ ?_ ?_ ?_
            · exact Z.nd
            · exact rfl
            · exact Or.inl rfl
            · exact Or.inr rfl
            · exact by decide
        · refine ms_cons ?_ ?_
          · refine ms_asg (sl := [4]) ?_ ?_ ?_ ?_ ?_
            · exact rfl
            · exact rfl
            · exact rfl
            · refine me_bin' op_mod v_mod ?_ ?_
              · refine q_int ?_ ?_ ?_
                · exact ⟨rfl, c.n_int⟩
                · exact st1 rfl st0
                · refine maW_of ?_
                  · refine ma_cons ?_ ?_ ?_
                    · exact rfl
                    · refine me_bin' o_add v_add ?_ ?_
                      · refine me_bin' o_mul v_mul ?_ ?_
                        · refine q_var ?_
                          · exact ⟨rfl, Or.inl rfl, rfl, rfl⟩
                        · refine me_toW ?_
                          · refine q_var ?_
                            · exact ⟨rfl, Or.inl rfl, rfl, rfl⟩
                      · refine me_fldW ?_ ?_ ?_ ?_ ?_
                        · exact rfl
                        · exact Or.inl rfl
                        · exact rfl
                        · exact rfl
                        · exact Z.u1
                    · refine ma_nil
              · refine me_toW ?_
                · refine me_int
            · refine mg_nm ?_ ?_ ?_ ?_ ?_
              · exact Z.nd
              · exact rfl
              · exact Or.inl rfl
              · exact Or.inr rfl
              · exact by decide
          · refine ms_cons ?_ ?_
            · refine ms_ret ?_
              · refine me_bin' op_mod v_mod ?_ ?_
                · refine q_int ?_ ?_ ?_
                  · exact ⟨rfl, c.n_int⟩
                  · exact st1 rfl st0
                  · refine maW_of ?_
                    · refine ma_cons ?_ ?_ ?_
                      · exact rfl
                      · refine me_bin' op_fdiv v_div ?_ ?_
                        · refine q_var ?_
                          · exact ⟨rfl, Or.inl rfl, rfl, rfl⟩
                        · refine me_toW ?_
                          · refine me_int
                      · refine ma_nil
                · refine me_toW ?_
                  · refine q_var ?_
                    · exact ⟨rfl, Or.inl rfl, rfl, rfl⟩
            · refine ms_nil
theorem ok__law_draw (c : Facts K mg) (hS : SysD base) : FnG PySem.Challenge.pw_lastsigns_k02_whole_worlds_by_unions w K mg base 1 c.f__law_draw c.d__law_draw ["deck", "many"] (spOf K mg 2 fn__law_draw) := fnG_den c.F__law_draw sc__law_draw fun cdv A outer s H vs E hr gd => pf__law_draw c hS hr gd
/-! _law_pick -/
abbrev N__law_pick : List Str := ["deck", "items"]
def b__law_pick : DenS := (sCons (sRet (bin gIx (dVar 1) (dCall 2 false fn__law_draw (aIo 0 (aVal (fnc gLen (aCons (dVar 1) aNil)) agNil)))))
  sNil)
def fn__law_pick : Fn := fnOf 2 [0, 1] b__law_pick
theorem sc__law_pick : FnScope N__law_pick ["deck", "items"] (defScope st__law_pick) := ⟨rfl, rfl, rfl, by decide +kernel, rfl, by decide +kernel, by decide +kernel⟩
theorem pf__law_pick (c : Facts K mg) (hS : SysD base) {cdv : Value} {A : Around} {outer : List PySem.Env} {s : Shared} {H : Hp} {vs : List V} {E : XK} (hr : Room 1 (A.deeper (envOfC "_law_pick" (defScope st__law_pick) s.heap.objs.size c.f__law_pick cdv))) (gd : A.guards = some []) :
    PSs (cxG PySem.Challenge.pw_lastsigns_k02_whole_worlds_by_unions w K mg base N__law_pick "_law_pick" (defScope st__law_pick) c.f__law_pick cdv A outer s H E) (defBody st__law_pick) (tS (en (cxG PySem.Challenge.pw_lastsigns_k02_whole_worlds_by_unions w K mg base N__law_pick "_law_pick" (defScope st__law_pick) c.f__law_pick cdv A outer s H E) [0, 1] (L2.start N__law_pick vs)) (WE E) (b__law_pick)) := by
  have Z : Cz (cxG PySem.Challenge.pw_lastsigns_k02_whole_worlds_by_unions w K mg base N__law_pick "_law_pick" (defScope st__law_pick) c.f__law_pick cdv A outer s H E) 1 := ⟨sc__law_pick.nd, rfl, gd, hr, hS⟩
  have hT : Takes (cxG PySem.Challenge.pw_lastsigns_k02_whole_worlds_by_unions w K mg base N__law_pick "_law_pick" (defScope st__law_pick) c.f__law_pick cdv A outer s H E) (WE E) := takes_of rfl rfl rfl rfl
  refine ms_cons ?_ ?_
  · refine ms_ret ?_
    · refine me_ix' ?_ ?_ ?_
      · exact rfl
      · refine q_var ?_
        · exact ⟨rfl, Or.inl rfl, rfl, rfl⟩
      · refine me_toD ?_
        · refine me_toW ?_
          · refine me_call (ps := ["deck", "many"]) (fa := c.f__law_draw) (fd := c.d__law_draw) (k := 1) ?_ ?_ ?_ ?_ ?_ ?_ ?_
            · exact ⟨rfl, c.m__law_draw, c.F__law_draw.kp, c.B__law_draw, rfl⟩
            · exact (ok__law_draw c hS).mono (by decide)
            · exact Z.room
            · exact Z.gd
            · exact hT
            · refine mv_io ?_ ?_ ?_ ?_ ?_
              · exact rfl
              · exact Or.inl rfl
              · exact rfl
              · exact rfl
              · refine mv_val ?_ ?_ ?_
                · exact rfl
                · refine q_len ?_ ?_ ?_
                  · exact ⟨rfl, c.n_len⟩
                  · exact st1 rfl st0
                  · refine maW_of ?_
                    · refine ma_cons ?_ ?_ ?_
                      · exact rfl
                      · refine q_var ?_
                        · exact ⟨rfl, Or.inl rfl, rfl, rfl⟩
                      · refine ma_nil
                · refine mv_nil
            · exact st1 rfl (st1 rfl st0)
  · refine ms_nil
theorem ok__law_pick (c : Facts K mg) (hS : SysD base) : FnG PySem.Challenge.pw_lastsigns_k02_whole_worlds_by_unions w K mg base 2 c.f__law_pick c.d__law_pick ["deck", "items"] (spOf K mg 2 fn__law_pick) := fnG_den c.F__law_pick sc__law_pick fun cdv A outer s H vs E hr gd => pf__law_pick c hS hr gd
/-! _law_some -/
abbrev N__law_some : List Str := ["deck", "items", "many", "left", "found", "turn", ".0", "item"]
def b__law_some : DenS := (sCons (sPar 3 4 (.new (nList (dVar 1))) (.new aNil))
  (sCons (sLp [5] (sFor (dRng1 (fnc gMin2 (aCons (dVar 2) (aCons (fnc gLen (aCons (dOwn 3) aNil)) aNil)))) (gNm 5)
 (sEnd [5]
 (sCons (sApp 4 (dPopAt 3 (dCall 2 false fn__law_draw (aIo 0 (aVal (fnc gLen (aCons (dOwn 3) aNil)) agNil)))))
  sNil))))
  (sCons (sRet (dLc (dIt (dVar 1)) (gNm 7) (tst (bin gInB (dVar 7) (dOwn 4))) (dVar 7) [6, 7]))
  sNil)))
def fn__law_some : Fn := fnOf 8 [0, 1, 2] b__law_some
theorem sc__law_some : FnScope N__law_some ["deck", "items", "many"] (defScope st__law_some) := ⟨rfl, rfl, rfl, by decide +kernel, rfl, by decide +kernel, by decide +kernel⟩
theorem pf__law_some (c : Facts K mg) (hS : SysD base) {cdv : Value} {A : Around} {outer : List PySem.Env} {s : Shared} {H : Hp} {vs : List V} {E : XK} (hr : Room 1 (A.deeper (envOfC "_law_some" (defScope st__law_some) s.heap.objs.size c.f__law_some cdv))) (gd : A.guards = some []) :
    PSs (cxG PySem.Challenge.pw_lastsigns_k02_whole_worlds_by_unions w K mg base N__law_some "_law_some" (defScope st__law_some) c.f__law_some cdv A outer s H E) (defBody st__law_some) (tS (en (cxG PySem.Challenge.pw_lastsigns_k02_whole_worlds_by_unions w K mg base N__law_some "_law_some" (defScope st__law_some) c.f__law_some cdv A outer s H E) [0, 1, 2] (L2.start N__law_some vs)) (WE E) (b__law_some)) := by
  have Z : Cz (cxG PySem.Challenge.pw_lastsigns_k02_whole_worlds_by_unions w K mg base N__law_some "_law_some" (defScope st__law_some) c.f__law_some cdv A outer s H E) 1 := ⟨sc__law_some.nd, rfl, gd, hr, hS⟩
  have hT : Takes (cxG PySem.Challenge.pw_lastsigns_k02_whole_worlds_by_unions w K mg base N__law_some "_law_some" (defScope st__law_some) c.f__law_some cdv A outer s H E) (WE E) := takes_of rfl rfl rfl rfl
  refine ms_cons ?_ ?_
  · refine ms_parC (ra := (.new (nList (dVar 1)))) (rb := (.new aNil)) ?_ ?_ ?_ ?_ ?_ ?_ ?_ ?_ ?_ ?_ ?_ ?_ ?_ ?_ ?_ ?_ ?_
    · exact Z.calm
    · exact Z.nd
    · exact rfl
    · exact rfl
    · exact by decide
    · exact by decide
    · exact by decide
    · exact Or.inl rfl
    · exact Or.inr rfl
    · exact Or.inl rfl
    · exact Or.inl rfl
    · exact rfl
    · exact rfl
    · exact rfl
    · exact rfl
    · refine mn_list ?_ ?_ ?_ ?_
      · exact rfl
      · exact c.n_list
      · exact rfl
      · refine me_toD ?_
        · refine me_toW ?_
          · refine q_var ?_
            · exact ⟨rfl, Or.inl rfl, rfl, rfl⟩
    · refine mn_lst ?_ ?_
      · exact LenIs.le len0 (by decide)
      · refine ma_nil
  · refine ms_cons ?_ ?_
    · refine ms_lp ?_
      · refine ms_for (sl := [5]) ?_ ?_ ?_ ?_ ?_ ?_
        · exact L2.passes_of rfl
        · exact Z.calm
        · exact fun _ => rfl
        · refine mi_range1 ?_ ?_ ?_ ?_
          · exact rfl
          · exact c.n_range
          · exact rfl
          · refine q_min (k := 1) ?_ ?_ ?_ ?_
            · exact Z
            · exact ⟨rfl, c.n_min⟩
            · exact st1 rfl (st1 rfl st0)
            · refine maW_of ?_
              · refine ma_cons ?_ ?_ ?_
                · exact rfl
                · refine q_var ?_
                  · exact ⟨rfl, Or.inl rfl, rfl, rfl⟩
                · refine ma_cons ?_ ?_ ?_
                  · exact rfl
                  · refine q_len ?_ ?_ ?_
                    · exact ⟨rfl, c.n_len⟩
                    · exact st1 rfl st0
                    · refine maW_cons ?_ ?_ ?_
                      · exact rfl
                      · refine me_toD ?_
                        · refine q_own ?_
                          · exact ⟨rfl, Or.inl rfl, rfl, rfl⟩
                      · refine maW_nil
                  · refine ma_nil
        · refine mg_nm ?_ ?_ ?_ ?_ ?_
          · exact Z.nd
          · exact rfl
          · exact Or.inl rfl
          · exact Or.inr rfl
          · exact by decide
        · refine ms_ends ?_
          · refine ms_cons ?_ ?_
            · refine ms_app ?_ ?_ ?_ ?_ ?_ ?_ ?_
              · exact rfl
              · exact Or.inr (Or.inl rfl)
              · exact rfl
              · exact rfl
              · exact rfl
              · exact rfl
              · refine me_popAt ?_ ?_ ?_ ?_ ?_ ?_ ?_
                · exact rfl
                · exact Or.inl rfl
                · exact rfl
                · exact rfl
                · exact rfl
                · exact rfl
                · refine me_call (ps := ["deck", "many"]) (fa := c.f__law_draw) (fd := c.d__law_draw) (k := 1) ?_ ?_ ?_ ?_ ?_ ?_ ?_
                  · exact ⟨rfl, c.m__law_draw, c.F__law_draw.kp, c.B__law_draw, rfl⟩
                  · exact (ok__law_draw c hS).mono (by decide)
                  · exact Z.room
                  · exact Z.gd
                  · exact hT
                  · refine mv_io ?_ ?_ ?_ ?_ ?_
                    · exact rfl
                    · exact Or.inl rfl
                    · exact rfl
                    · exact rfl
                    · refine mv_val ?_ ?_ ?_
                      · exact rfl
                      · refine q_len ?_ ?_ ?_
                        · exact ⟨rfl, c.n_len⟩
                        · exact st1 rfl st0
                        · refine maW_cons ?_ ?_ ?_
                          · exact rfl
                          · refine me_toD ?_
                            · refine q_own ?_
                              · exact ⟨rfl, Or.inl rfl, rfl, rfl⟩
                          · refine maW_nil
                      · refine mv_nil
                  · exact st1 rfl (st1 rfl st0)
            · refine ms_nil
    · refine ms_cons ?_ ?_
      · refine ms_ret ?_
        · refine me_lc (own := [(".0", 6), ("item", 7)]) (sl := [7]) ?_ ?_ ?_ ?_ ?_ ?_ ?_ ?_ ?_ ?_ ?_
          · exact Z.calm
          · exact Z.nd
          · exact by decide
          · exact by decide
          · exact by decide
          · exact fun _ => rfl
          · refine mi_any ?_
            · refine me_toF ?_
              · refine q_var ?_
                · exact ⟨rfl, Or.inl rfl, rfl, rfl⟩
          · exact blk_of rfl
          · intro _ _ _ _ _
            refine mg_nm ?_ ?_ ?_ ?_ ?_
            · exact (Cz.blk Z).nd
            · exact rfl
            · exact Or.inl rfl
            · exact Or.inr rfl
            · exact by decide
          · intro _ _ _ _ _
            refine mts_one ?_
            · refine mt_cmp' (o_in (Cz.blk Z).u65) v_G ?_ ?_ ?_
              · exact rfl
              · refine q_var ?_
                · exact ⟨rfl, Or.inl rfl, rfl, rfl⟩
              · refine q_own ?_
                · exact ⟨rfl, Or.inr (Or.inl rfl), rfl, rfl⟩
          · intro _ _ _ _ _
            refine q_var ?_
            · exact ⟨rfl, Or.inl rfl, rfl, rfl⟩
      · refine ms_nil
theorem ok__law_some (c : Facts K mg) (hS : SysD base) : FnG PySem.Challenge.pw_lastsigns_k02_whole_worlds_by_unions w K mg base 2 c.f__law_some c.d__law_some ["deck", "items", "many"] (spOf K mg 3 fn__law_some) := fnG_den c.F__law_some sc__law_some fun cdv A outer s H vs E hr gd => pf__law_some c hS hr gd
/-! _law_whole -/
abbrev N__law_whole : List Str := ["value", "low", "high"]
def b__law_whole : DenS := (sCons (sRet (dAnd (una (fun d => some (.bool (isTy .int d))) (dVar 0)) (dAnd (dNot (una (fun d => some (.bool (isTy .bool d))) (dVar 0))) (dChain gLe gLe (dVar 1) (dVar 0) (dVar 2)))))
  sNil)
def fn__law_whole : Fn := fnOf 3 [0, 1, 2] b__law_whole
theorem sc__law_whole : FnScope N__law_whole ["value", "low", "high"] (defScope st__law_whole) := ⟨rfl, rfl, rfl, by decide +kernel, rfl, by decide +kernel, by decide +kernel⟩
theorem pf__law_whole (c : Facts K mg) (hS : SysD base) {cdv : Value} {A : Around} {outer : List PySem.Env} {s : Shared} {H : Hp} {vs : List V} {E : XK} (hr : Room 0 (A.deeper (envOfC "_law_whole" (defScope st__law_whole) s.heap.objs.size c.f__law_whole cdv))) (gd : A.guards = some []) :
    PSs (cxG PySem.Challenge.pw_lastsigns_k02_whole_worlds_by_unions w K mg base N__law_whole "_law_whole" (defScope st__law_whole) c.f__law_whole cdv A outer s H E) (defBody st__law_whole) (tS (en (cxG PySem.Challenge.pw_lastsigns_k02_whole_worlds_by_unions w K mg base N__law_whole "_law_whole" (defScope st__law_whole) c.f__law_whole cdv A outer s H E) [0, 1, 2] (L2.start N__law_whole vs)) (WE E) (b__law_whole)) := by
  have Z : Cz (cxG PySem.Challenge.pw_lastsigns_k02_whole_worlds_by_unions w K mg base N__law_whole "_law_whole" (defScope st__law_whole) c.f__law_whole cdv A outer s H E) 0 := ⟨sc__law_whole.nd, rfl, gd, hr, hS⟩
  have hT : Takes (cxG PySem.Challenge.pw_lastsigns_k02_whole_worlds_by_unions w K mg base N__law_whole "_law_whole" (defScope st__law_whole) c.f__law_whole cdv A outer s H E) (WE E) := takes_of rfl rfl rfl rfl
  refine ms_cons ?_ ?_
  · refine ms_ret ?_
    · refine me_and ?_ ?_
      · refine me_isi .int ?_ ?_ ?_ ?_ ?_ ?_ ?_
        · exact rfl
        · exact rfl
        · exact c.n_isinstance
        · exact rfl
        · exact c.n_int
        · exact rfl
        · refine me_toD ?_
          · refine me_toW ?_
            · refine q_var ?_
              · exact ⟨rfl, Or.inl rfl, rfl, rfl⟩
      · refine me_and ?_ ?_
        · refine me_not ?_
          · refine me_isi .bool ?_ ?_ ?_ ?_ ?_ ?_ ?_
            · exact rfl
            · exact rfl
            · exact c.n_isinstance
            · exact rfl
            · exact c.n_bool
            · exact rfl
            · refine me_toD ?_
              · refine me_toW ?_
                · refine q_var ?_
                  · exact ⟨rfl, Or.inl rfl, rfl, rfl⟩
        · refine me_one ?_
          · refine me_chain (o_le Z.u64) (o_le Z.u64) v_G v_G ?_ ?_ ?_ ?_
            · exact rfl
            · refine me_toW ?_
              · refine q_var ?_
                · exact ⟨rfl, Or.inl rfl, rfl, rfl⟩
            · refine q_var ?_
              · exact ⟨rfl, Or.inl rfl, rfl, rfl⟩
            · refine me_toW ?_
              · refine q_var ?_
                · exact ⟨rfl, Or.inl rfl, rfl, rfl⟩
  · refine ms_nil
theorem ok__law_whole (c : Facts K mg) (hS : SysD base) : FnG PySem.Challenge.pw_lastsigns_k02_whole_worlds_by_unions w K mg base 1 c.f__law_whole c.d__law_whole ["value", "low", "high"] (spOf K mg 3 fn__law_whole) := fnG_den c.F__law_whole sc__law_whole fun cdv A outer s H vs E hr gd => pf__law_whole c hS hr gd
/-! _law_same -/
abbrev N__law_same : List Str := ["found", "due", ".0", "one", "other"]
def b__law_same (self : Fn) : DenS := (sCons (sIf (tst (una (fun d => some (.bool (isTy .tuple d))) (dVar 1)))
 (sCons (sIf (tst (dOr (dNot (una (fun d => some (.bool (isTy .tuple d))) (dVar 0))) (bin gNeB (fnc gLen (aCons (dVar 0) aNil)) (fnc gLen (aCons (dVar 1) aNil)))))
 (sCons (sRet (dCon (.bool false)))
  sNil)
 sNil)
  (sCons (sRet (fnc gAll (aCons (dLc (dZip (dVar 0) (dVar 1)) (gTp 2 (gsCons (gNm 3) (gsCons (gNm 4) gsNil))) tYesD (dCall 2 false (self) (aVal (dVar 3) (aVal (dVar 4) agNil))) [2, 3, 4]) aNil)))
  sNil))
 sNil)
  (sCons (sIf (tst (bin gIsB (dVar 1) (dCon .none)))
 (sCons (sRet (bin gIsB (dVar 0) (dCon .none)))
  sNil)
 sNil)
  (sCons (sIf (tst (una (fun d => some (.bool (isTy .bool d))) (dVar 1)))
 (sCons (sRet (dIte (dVar 1) (bin gIsB (dVar 0) (dCon (.bool true))) (bin gIsB (dVar 0) (dCon (.bool false)))))
  sNil)
 sNil)
  (sCons (sIf (tst (una (fun d => some (.bool (isTy .str d))) (dVar 1)))
 (sCons (sRet (dAnd (una (fun d => some (.bool (isTy .str d))) (dVar 0)) (dAnd (bin gEqB (fnc gShow (aCons (dVar 0) aNil)) (fnc gShow (aCons (dVar 1) aNil))) (bin gEqB (dVar 0) (dVar 1)))))
  sNil)
 sNil)
  (sCons (sRet (dAnd (una (fun d => some (.bool (isTy .int d))) (dVar 0)) (dAnd (dNot (una (fun d => some (.bool (isTy .bool d))) (dVar 0))) (bin gEqB (dVar 0) (dVar 1)))))
  sNil)))))
def fn__law_same : Nat → Fn
  | 0 => fun _ => .bad
  | n + 1 => fnOf 5 [0, 1] (b__law_same (fn__law_same n))
theorem sc__law_same : FnScope N__law_same ["found", "due"] (defScope st__law_same) := ⟨rfl, rfl, rfl, by decide +kernel, rfl, by decide +kernel, by decide +kernel⟩
theorem pf__law_same (c : Facts K mg) (hS : SysD base) {self : Fn} {n : Nat} (hself : FnG PySem.Challenge.pw_lastsigns_k02_whole_worlds_by_unions w K mg base (0 + n) c.f__law_same c.d__law_same ["found", "due"] (spOf K mg 2 self)) {cdv : Value} {A : Around} {outer : List PySem.Env} {s : Shared} {H : Hp} {vs : List V} {E : XK} (hr : Room (0 + n) (A.deeper (envOfC "_law_same" (defScope st__law_same) s.heap.objs.size c.f__law_same cdv))) (gd : A.guards = some []) :
    PSs (cxG PySem.Challenge.pw_lastsigns_k02_whole_worlds_by_unions w K mg base N__law_same "_law_same" (defScope st__law_same) c.f__law_same cdv A outer s H E) (defBody st__law_same) (tS (en (cxG PySem.Challenge.pw_lastsigns_k02_whole_worlds_by_unions w K mg base N__law_same "_law_same" (defScope st__law_same) c.f__law_same cdv A outer s H E) [0, 1] (L2.start N__law_same vs)) (WE E) (b__law_same self)) := by
  have Z : Cz (cxG PySem.Challenge.pw_lastsigns_k02_whole_worlds_by_unions w K mg base N__law_same "_law_same" (defScope st__law_same) c.f__law_same cdv A outer s H E) (0 + n) := ⟨sc__law_same.nd, rfl, gd, hr, hS⟩
  have hT : Takes (cxG PySem.Challenge.pw_lastsigns_k02_whole_worlds_by_unions w K mg base N__law_same "_law_same" (defScope st__law_same) c.f__law_same cdv A outer s H E) (WE E) := takes_of rfl rfl rfl rfl
  refine ms_cons ?_ ?_
  · refine ms_if ?_ ?_ ?_
    · refine mt_val ?_ ?_
      · refine me_isi .tuple ?_ ?_ ?_ ?_ ?_ ?_ ?_
        · exact rfl
        · exact rfl
        · exact c.n_isinstance
        · exact rfl
        · exact c.n_tuple
        · exact rfl
        · refine me_toD ?_
          · refine me_toW ?_
            · refine q_var ?_
              · exact ⟨rfl, Or.inl rfl, rfl, rfl⟩
      · exact fun _ => rfl
    · refine ms_cons ?_ ?_
      · refine ms_if ?_ ?_ ?_
        · refine L2.PW.pt ?_
          refine mw_or ?_ ?_
          · refine mt_not ?_
            · refine mt_val ?_ ?_
              · refine me_isi .tuple ?_ ?_ ?_ ?_ ?_ ?_ ?_
                · exact rfl
                · exact rfl
                · exact c.n_isinstance
                · exact rfl
                · exact c.n_tuple
                · exact rfl
                · refine me_toD ?_
                  · refine me_toW ?_
                    · refine q_var ?_
                      · exact ⟨rfl, Or.inl rfl, rfl, rfl⟩
              · exact fun _ => rfl
          · refine mw_one_or ?_
            · refine mt_cmp' (o_ne Z.u64) v_G ?_ ?_ ?_
              · exact rfl
              · refine q_len ?_ ?_ ?_
                · exact ⟨rfl, c.n_len⟩
                · exact st1 rfl st0
                · refine maW_of ?_
                  · refine ma_cons ?_ ?_ ?_
                    · exact rfl
                    · refine q_var ?_
                      · exact ⟨rfl, Or.inl rfl, rfl, rfl⟩
                    · refine ma_nil
              · refine me_toW ?_
                · refine q_len ?_ ?_ ?_
                  · exact ⟨rfl, c.n_len⟩
                  · exact st1 rfl st0
                  · refine maW_of ?_
                    · refine ma_cons ?_ ?_ ?_
                      · exact rfl
                      · refine q_var ?_
                        · exact ⟨rfl, Or.inl rfl, rfl, rfl⟩
                      · refine ma_nil
        · refine ms_cons ?_ ?_
          · refine ms_ret ?_
            · refine me_bl
          · refine ms_nil
        · refine ms_nil
      · refine ms_cons ?_ ?_
        · refine ms_ret ?_
          · refine q_all (k := (0 + n)) ?_ ?_ ?_ ?_
            · exact Z
            · exact ⟨rfl, c.n_all⟩
            · exact st1 rfl st0
            · refine maW_of ?_
              · refine ma_cons ?_ ?_ ?_
                · exact rfl
                · refine me_lc (own := [(".0", 2), ("one", 3), ("other", 4)]) (sl := [3, 4]) ?_ ?_ ?_ ?_ ?_ ?_ ?_ ?_ ?_ ?_ ?_
                  · exact Z.calm
                  · exact Z.nd
                  · exact by decide
                  · exact by decide
                  · exact by decide
                  · exact fun _ => rfl
                  · refine mi_zip ?_ ?_ ?_ ?_ ?_ ?_
                    · exact rfl
                    · exact c.n_zip
                    · exact rfl
                    · exact rfl
                    · refine me_toF ?_
                      · refine q_var ?_
                        · exact ⟨rfl, Or.inl rfl, rfl, rfl⟩
                    · refine me_toF ?_
                      · refine q_var ?_
                        · exact ⟨rfl, Or.inl rfl, rfl, rfl⟩
                  · exact blk_of rfl
                  · intro _ _ _ _ _
                    refine mg_tup ?_ ?_ ?_
                    · exact (Cz.blk Z).calm
                    · exact st1 rfl (st1 rfl st0)
                    · refine mgs_cons (sl := [3]) (sl' := [4]) ?_ ?_ ?_
                      · exact rfl
                      · refine mg_nm ?_ ?_ ?_ ?_ ?_
                        · exact (Cz.blk Z).nd
                        · exact rfl
                        · exact Or.inl rfl
                        · exact Or.inr rfl
                        · exact by decide
                      · refine mgs_cons (sl := [4]) (sl' := []) ?_ ?_ ?_
                        · exact rfl
                        · refine mg_nm ?_ ?_ ?_ ?_ ?_
                          · exact (Cz.blk Z).nd
                          · exact rfl
                          · exact Or.inl rfl
                          · exact Or.inr rfl
                          · exact by decide
                        · refine mgs_nil
                  · intro _ _ _ _ _
                    refine mts_nil
                  · intro _ _ _ _ _
                    refine me_call (ps := ["found", "due"]) (fa := c.f__law_same) (fd := c.d__law_same) (k := (0 + n)) ?_ ?_ ?_ ?_ ?_ ?_ ?_
                    · exact ⟨rfl, c.m__law_same, c.F__law_same.kp, c.B__law_same, rfl⟩
                    · exact hself
                    · exact (Cz.blk Z).room
                    · exact (Cz.blk Z).gd
                    · exact takes_F
                    · refine mv_val ?_ ?_ ?_
                      · exact rfl
                      · refine q_var ?_
                        · exact ⟨rfl, Or.inl rfl, rfl, rfl⟩
                      · refine mv_val ?_ ?_ ?_
                        · exact rfl
                        · refine q_var ?_
                          · exact ⟨rfl, Or.inl rfl, rfl, rfl⟩
                        · refine mv_nil
                    · exact st1 rfl (st1 rfl st0)
                · refine ma_nil
        · refine ms_nil
    · refine ms_nil
  · refine ms_cons ?_ ?_
    · refine ms_if ?_ ?_ ?_
      · refine mt_cmp' o_is v_G ?_ ?_ ?_
        · exact rfl
        · refine q_var ?_
          · exact ⟨rfl, Or.inl rfl, rfl, rfl⟩
        · refine me_toW ?_
          · refine me_non
      · refine ms_cons ?_ ?_
        · refine ms_ret ?_
          · refine me_cmp' o_is v_G ?_ ?_ ?_
            · exact rfl
            · refine q_var ?_
              · exact ⟨rfl, Or.inl rfl, rfl, rfl⟩
            · refine me_toW ?_
              · refine me_non
        · refine ms_nil
      · refine ms_nil
    · refine ms_cons ?_ ?_
      · refine ms_if ?_ ?_ ?_
        · refine mt_val ?_ ?_
          · refine me_isi .bool ?_ ?_ ?_ ?_ ?_ ?_ ?_
            · exact rfl
            · exact rfl
            · exact c.n_isinstance
            · exact rfl
            · exact c.n_bool
            · exact rfl
            · refine me_toD ?_
              · refine me_toW ?_
                · refine q_var ?_
                  · exact ⟨rfl, Or.inl rfl, rfl, rfl⟩
          · exact fun _ => rfl
        · refine ms_cons ?_ ?_
          · refine ms_ret ?_
            · refine me_ite ?_ ?_ ?_
              · refine mt_val ?_ ?_
                · refine q_var ?_
                  · exact ⟨rfl, Or.inl rfl, rfl, rfl⟩
                · exact fun _ => rfl
              · refine me_cmp' o_is v_G ?_ ?_ ?_
                · exact rfl
                · refine q_var ?_
                  · exact ⟨rfl, Or.inl rfl, rfl, rfl⟩
                · refine me_toW ?_
                  · refine me_bl
              · refine me_cmp' o_is v_G ?_ ?_ ?_
                · exact rfl
                · refine q_var ?_
                  · exact ⟨rfl, Or.inl rfl, rfl, rfl⟩
                · refine me_toW ?_
                  · refine me_bl
          · refine ms_nil
        · refine ms_nil
      · refine ms_cons ?_ ?_
        · refine ms_if ?_ ?_ ?_
          · refine mt_val ?_ ?_
            · refine me_isi .str ?_ ?_ ?_ ?_ ?_ ?_ ?_
              · exact rfl
              · exact rfl
              · exact c.n_isinstance
              · exact rfl
              · exact c.n_str
              · exact rfl
              · refine me_toD ?_
                · refine me_toW ?_
                  · refine q_var ?_
                    · exact ⟨rfl, Or.inl rfl, rfl, rfl⟩
            · exact fun _ => rfl
          · refine ms_cons ?_ ?_
            · refine ms_ret ?_
              · refine me_and ?_ ?_
                · refine me_isi .str ?_ ?_ ?_ ?_ ?_ ?_ ?_
                  · exact rfl
                  · exact rfl
                  · exact c.n_isinstance
                  · exact rfl
                  · exact c.n_str
                  · exact rfl
                  · refine me_toD ?_
                    · refine me_toW ?_
                      · refine q_var ?_
                        · exact ⟨rfl, Or.inl rfl, rfl, rfl⟩
                · refine me_and ?_ ?_
                  · refine me_cmp' (o_eq Z.u64) v_G ?_ ?_ ?_
                    · exact rfl
                    · refine q_repr (k := (0 + n)) ?_ ?_ ?_ ?_
                      · exact Z
                      · exact ⟨rfl, c.n_repr⟩
                      · exact st1 rfl st0
                      · refine maW_of ?_
                        · refine ma_cons ?_ ?_ ?_
                          · exact rfl
                          · refine q_var ?_
                            · exact ⟨rfl, Or.inl rfl, rfl, rfl⟩
                          · refine ma_nil
                    · refine me_toW ?_
                      · refine q_repr (k := (0 + n)) ?_ ?_ ?_ ?_
                        · exact Z
                        · exact ⟨rfl, c.n_repr⟩
                        · exact st1 rfl st0
                        · refine maW_of ?_
                          · refine ma_cons ?_ ?_ ?_
                            · exact rfl
                            · refine q_var ?_
                              · exact ⟨rfl, Or.inl rfl, rfl, rfl⟩
                            · refine ma_nil
                  · refine me_one ?_
                    · refine me_cmp' (o_eq Z.u64) v_G ?_ ?_ ?_
                      · exact rfl
                      · refine q_var ?_
                        · exact ⟨rfl, Or.inl rfl, rfl, rfl⟩
                      · refine me_toW ?_
                        · refine q_var ?_
                          · exact ⟨rfl, Or.inl rfl, rfl, rfl⟩
            · refine ms_nil
          · refine ms_nil
        · refine ms_cons ?_ ?_
          · refine ms_ret ?_
            · refine me_and ?_ ?_
              · refine me_isi .int ?_ ?_ ?_ ?_ ?_ ?_ ?_
                · exact rfl
                · exact rfl
                · exact c.n_isinstance
                · exact rfl
                · exact c.n_int
                · exact rfl
                · refine me_toD ?_
                  · refine me_toW ?_
                    · refine q_var ?_
                      · exact ⟨rfl, Or.inl rfl, rfl, rfl⟩
              · refine me_and ?_ ?_
                · refine me_not ?_
                  · refine me_isi .bool ?_ ?_ ?_ ?_ ?_ ?_ ?_
                    · exact rfl
                    · exact rfl
                    · exact c.n_isinstance
                    · exact rfl
                    · exact c.n_bool
                    · exact rfl
                    · refine me_toD ?_
                      · refine me_toW ?_
                        · refine q_var ?_
                          · exact ⟨rfl, Or.inl rfl, rfl, rfl⟩
                · refine me_one ?_
                  · refine me_cmp' (o_eq Z.u64) v_G ?_ ?_ ?_
                    · exact rfl
                    · refine q_var ?_
                      · exact ⟨rfl, Or.inl rfl, rfl, rfl⟩
                    · refine me_toW ?_
                      · refine q_var ?_
                        · exact ⟨rfl, Or.inl rfl, rfl, rfl⟩
          · refine ms_nil
theorem ok__law_same (c : Facts K mg) (hS : SysD base) : ∀ n : Nat, FnG PySem.Challenge.pw_lastsigns_k02_whole_worlds_by_unions w K mg base (0 + n) c.f__law_same c.d__law_same ["found", "due"] (spOf K mg 2 (fn__law_same n))
  | 0 => FnG.bad
  | n + 1 => fnG_den c.F__law_same sc__law_same fun cdv A outer s H vs E hr gd => pf__law_same c hS (ok__law_same c hS n) hr gd
/-! _law_sets -/
abbrev N__law_sets : List Str := ["many", "found", "item", ".0", "own"]
def b__law_sets : DenS := (sCons (sAsg (dLst (aCons (dTup aNil) aNil)) (gNm 1))
  (sCons (sLp [2] (sFor (dRng1 (dVar 0)) (gNm 2)
 (sEnd [2]
 (sCons (sAsg (bin gAdd (dVar 1) (dLc (dIt (dVar 1)) (gNm 4) tYesD (bin gAdd (dVar 4) (dTup (aCons (dVar 2) aNil))) [3, 4])) (gNm 1))
  sNil))))
  (sCons (sRet (fnc gSorted (aCons (dSl (dVar 1) (some (dCon (.int 1))) none) aNil)))
  sNil)))
def fn__law_sets : Fn := fnOf 5 [0] b__law_sets
theorem sc__law_sets : FnScope N__law_sets ["many"] (defScope st__law_sets) := ⟨rfl, rfl, rfl, by decide +kernel, rfl, by decide +kernel, by decide +kernel⟩
theorem pf__law_sets (c : Facts K mg) (hS : SysD base) {cdv : Value} {A : Around} {outer : List PySem.Env} {s : Shared} {H : Hp} {vs : List V} {E : XK} (hr : Room 0 (A.deeper (envOfC "_law_sets" (defScope st__law_sets) s.heap.objs.size c.f__law_sets cdv))) (gd : A.guards = some []) :
    PSs (cxG PySem.Challenge.pw_lastsigns_k02_whole_worlds_by_unions w K mg base N__law_sets "_law_sets" (defScope st__law_sets) c.f__law_sets cdv A outer s H E) (defBody st__law_sets) (tS (en (cxG PySem.Challenge.pw_lastsigns_k02_whole_worlds_by_unions w K mg base N__law_sets "_law_sets" (defScope st__law_sets) c.f__law_sets cdv A outer s H E) [0] (L2.start N__law_sets vs)) (WE E) (b__law_sets)) := by
  have Z : Cz (cxG PySem.Challenge.pw_lastsigns_k02_whole_worlds_by_unions w K mg base N__law_sets "_law_sets" (defScope st__law_sets) c.f__law_sets cdv A outer s H E) 0 := ⟨sc__law_sets.nd, rfl, gd, hr, hS⟩
  have hT : Takes (cxG PySem.Challenge.pw_lastsigns_k02_whole_worlds_by_unions w K mg base N__law_sets "_law_sets" (defScope st__law_sets) c.f__law_sets cdv A outer s H E) (WE E) := takes_of rfl rfl rfl rfl
  refine ms_cons ?_ ?_
  · refine ms_asg (sl := [1]) ?_ ?_ ?_ ?_ ?_
    · exact rfl
    · exact rfl
    · exact rfl
    · refine me_lst ?_ ?_
      · exact LenIs.le (len1 len0) (by decide)
      · refine ma_cons ?_ ?_ ?_
        · exact rfl
        · refine me_tup ?_ ?_
          · exact LenIs.le len0 (by decide)
          · refine ma_nil
        · refine ma_nil
    · refine mg_nm ?_ ?_ ?_ ?_ ?_
      · exact Z.nd
      · exact rfl
      · exact Or.inl rfl
      · exact Or.inr rfl
      · exact by decide
  · refine ms_cons ?_ ?_
    · refine ms_lp ?_
      · refine ms_for (sl := [2]) ?_ ?_ ?_ ?_ ?_ ?_
        · exact L2.passes_of rfl
        · exact Z.calm
        · exact fun _ => rfl
        · refine mi_range1 ?_ ?_ ?_ ?_
          · exact rfl
          · exact c.n_range
          · exact rfl
          · refine q_var ?_
            · exact ⟨rfl, Or.inl rfl, rfl, rfl⟩
        · refine mg_nm ?_ ?_ ?_ ?_ ?_
          · exact Z.nd
          · exact rfl
          · exact Or.inr rfl
          · exact Or.inl rfl
          · exact by decide
        · refine ms_ends ?_
          · refine ms_cons ?_ ?_
            · refine ms_asg (sl := [1]) ?_ ?_ ?_ ?_ ?_
              · exact rfl
              · exact rfl
              · exact rfl
              · refine me_bin' o_add v_add ?_ ?_
                · refine q_var ?_
                  · exact ⟨rfl, Or.inl rfl, rfl, rfl⟩
                · refine me_toW ?_
                  · refine me_lc (own := [(".0", 3), ("own", 4)]) (sl := [4]) ?_ ?_ ?_ ?_ ?_ ?_ ?_ ?_ ?_ ?_ ?_
                    · exact Z.calm
                    · exact Z.nd
                    · exact by decide
                    · exact by decide
                    · exact by decide
                    · exact fun _ => rfl
                    · refine mi_any ?_
                      · refine me_toF ?_
                        · refine q_var ?_
                          · exact ⟨rfl, Or.inl rfl, rfl, rfl⟩
                    · exact blk_of rfl
                    · intro _ _ _ _ _
                      refine mg_nm ?_ ?_ ?_ ?_ ?_
                      · exact (Cz.blk Z).nd
                      · exact rfl
                      · exact Or.inl rfl
                      · exact Or.inr rfl
                      · exact by decide
                    · intro _ _ _ _ _
                      refine mts_nil
                    · intro _ _ _ _ _
                      refine me_bin' o_add v_add ?_ ?_
                      · refine q_var ?_
                        · exact ⟨rfl, Or.inl rfl, rfl, rfl⟩
                      · refine me_toW ?_
                        · refine me_tup ?_ ?_
                          · exact LenIs.le (len1 len0) (by decide)
                          · refine ma_cons ?_ ?_ ?_
                            · exact rfl
                            · refine q_var ?_
                              · exact ⟨rfl, Or.inr (Or.inl rfl), rfl, rfl⟩
                            · refine ma_nil
              · refine mg_nm ?_ ?_ ?_ ?_ ?_
                · exact Z.nd
                · exact rfl
                · exact Or.inl rfl
                · exact Or.inr rfl
                · exact by decide
            · refine ms_nil
    · refine ms_cons ?_ ?_
      · refine ms_ret ?_
        · refine q_sorted (k := 0) ?_ ?_ ?_ ?_
          · exact Z
          · exact ⟨rfl, c.n_sorted⟩
          · exact st1 rfl st0
          · refine maW_of ?_
            · refine ma_cons ?_ ?_ ?_
              · exact rfl
              · refine me_sl ?_ ?_ ?_
                · refine me_toD ?_
                  · refine me_toW ?_
                    · refine q_var ?_
                      · exact ⟨rfl, Or.inl rfl, rfl, rfl⟩
                · refine mp_some ?_
                  · refine me_int
                · refine mp_none
              · refine ma_nil
      · refine ms_nil
theorem ok__law_sets (c : Facts K mg) (hS : SysD base) : FnG PySem.Challenge.pw_lastsigns_k02_whole_worlds_by_unions w K mg base 1 c.f__law_sets c.d__law_sets ["many"] (spOf K mg 1 fn__law_sets) := fnG_den c.F__law_sets sc__law_sets fun cdv A outer s H vs E hr gd => pf__law_sets c hS hr gd
/-! _law_lies -/
abbrev N__law_lies : List Str := ["one", "other", ".0", "item"]
def b__law_lies : DenS := (sCons (sRet (bin gEqB (dLc (dIt (dVar 0)) (gNm 3) (tst (bin gNotInB (dVar 3) (dVar 1))) (dVar 3) [2, 3]) (dLst aNil)))
  sNil)
def fn__law_lies : Fn := fnOf 4 [0, 1] b__law_lies
theorem sc__law_lies : FnScope N__law_lies ["one", "other"] (defScope st__law_lies) := ⟨rfl, rfl, rfl, by decide +kernel, rfl, by decide +kernel, by decide +kernel⟩
theorem pf__law_lies (c : Facts K mg) (hS : SysD base) {cdv : Value} {A : Around} {outer : List PySem.Env} {s : Shared} {H : Hp} {vs : List V} {E : XK} (hr : Room 0 (A.deeper (envOfC "_law_lies" (defScope st__law_lies) s.heap.objs.size c.f__law_lies cdv))) (gd : A.guards = some []) :
    PSs (cxG PySem.Challenge.pw_lastsigns_k02_whole_worlds_by_unions w K mg base N__law_lies "_law_lies" (defScope st__law_lies) c.f__law_lies cdv A outer s H E) (defBody st__law_lies) (tS (en (cxG PySem.Challenge.pw_lastsigns_k02_whole_worlds_by_unions w K mg base N__law_lies "_law_lies" (defScope st__law_lies) c.f__law_lies cdv A outer s H E) [0, 1] (L2.start N__law_lies vs)) (WE E) (b__law_lies)) := by
  have Z : Cz (cxG PySem.Challenge.pw_lastsigns_k02_whole_worlds_by_unions w K mg base N__law_lies "_law_lies" (defScope st__law_lies) c.f__law_lies cdv A outer s H E) 0 := ⟨sc__law_lies.nd, rfl, gd, hr, hS⟩
  have hT : Takes (cxG PySem.Challenge.pw_lastsigns_k02_whole_worlds_by_unions w K mg base N__law_lies "_law_lies" (defScope st__law_lies) c.f__law_lies cdv A outer s H E) (WE E) := takes_of rfl rfl rfl rfl
  refine ms_cons ?_ ?_
  · refine ms_ret ?_
    · refine me_cmp' (o_eq Z.u64) v_G ?_ ?_ ?_
      · exact rfl
      · refine me_lc (own := [(".0", 2), ("item", 3)]) (sl := [3]) ?_ ?_ ?_ ?_ ?_ ?_ ?_ ?_ ?_ ?_ ?_
        · exact Z.calm
        · exact Z.nd
        · exact by decide
        · exact by decide
        · exact by decide
        · exact fun _ => rfl
        · refine mi_any ?_
          · refine me_toF ?_
            · refine q_var ?_
              · exact ⟨rfl, Or.inl rfl, rfl, rfl⟩
        · exact blk_of rfl
        · intro _ _ _ _ _
          refine mg_nm ?_ ?_ ?_ ?_ ?_
          · exact (Cz.blk Z).nd
          · exact rfl
          · exact Or.inl rfl
          · exact Or.inr rfl
          · exact by decide
        · intro _ _ _ _ _
          refine mts_one ?_
          · refine mt_cmp' (o_notIn (Cz.blk Z).u65) v_G ?_ ?_ ?_
            · exact rfl
            · refine q_var ?_
              · exact ⟨rfl, Or.inl rfl, rfl, rfl⟩
            · refine me_toW ?_
              · refine q_var ?_
                · exact ⟨rfl, Or.inr (Or.inl rfl), rfl, rfl⟩
        · intro _ _ _ _ _
          refine q_var ?_
          · exact ⟨rfl, Or.inl rfl, rfl, rfl⟩
      · refine me_toW ?_
        · refine me_lst ?_ ?_
          · exact LenIs.le len0 (by decide)
          · refine ma_nil
  · refine ms_nil
theorem ok__law_lies (c : Facts K mg) (hS : SysD base) : FnG PySem.Challenge.pw_lastsigns_k02_whole_worlds_by_unions w K mg base 1 c.f__law_lies c.d__law_lies ["one", "other"] (spOf K mg 2 fn__law_lies) := fnG_den c.F__law_lies sc__law_lies fun cdv A outer s H vs E hr gd => pf__law_lies c hS hr gd
/-! _law_union -/
abbrev N__law_union : List Str := ["sets", "found", "own", ".0", "item"]
def b__law_union : DenS := (sCons (sNew 1 aNil)
  (sCons (sLp [2] (sFor (dIt (dVar 0)) (gNm 2)
 (sEnd [2]
 (sCons (sExt 1 (dLc (dIt (dVar 2)) (gNm 4) (tst (bin gNotInB (dVar 4) (dOwn 1))) (dVar 4) [3, 4]))
  sNil))))
  (sCons (sRet (fnc gTuple (aCons (fnc gSorted (aCons (dOwn 1) aNil)) aNil)))
  sNil)))
def fn__law_union : Fn := fnOf 5 [0] b__law_union
theorem sc__law_union : FnScope N__law_union ["sets"] (defScope st__law_union) := ⟨rfl, rfl, rfl, by decide +kernel, rfl, by decide +kernel, by decide +kernel⟩
theorem pf__law_union (c : Facts K mg) (hS : SysD base) {cdv : Value} {A : Around} {outer : List PySem.Env} {s : Shared} {H : Hp} {vs : List V} {E : XK} (hr : Room 0 (A.deeper (envOfC "_law_union" (defScope st__law_union) s.heap.objs.size c.f__law_union cdv))) (gd : A.guards = some []) :
    PSs (cxG PySem.Challenge.pw_lastsigns_k02_whole_worlds_by_unions w K mg base N__law_union "_law_union" (defScope st__law_union) c.f__law_union cdv A outer s H E) (defBody st__law_union) (tS (en (cxG PySem.Challenge.pw_lastsigns_k02_whole_worlds_by_unions w K mg base N__law_union "_law_union" (defScope st__law_union) c.f__law_union cdv A outer s H E) [0] (L2.start N__law_union vs)) (WE E) (b__law_union)) := by
  have Z : Cz (cxG PySem.Challenge.pw_lastsigns_k02_whole_worlds_by_unions w K mg base N__law_union "_law_union" (defScope st__law_union) c.f__law_union cdv A outer s H E) 0 := ⟨sc__law_union.nd, rfl, gd, hr, hS⟩
  have hT : Takes (cxG PySem.Challenge.pw_lastsigns_k02_whole_worlds_by_unions w K mg base N__law_union "_law_union" (defScope st__law_union) c.f__law_union cdv A outer s H E) (WE E) := takes_of rfl rfl rfl rfl
  refine ms_cons ?_ ?_
  · refine ms_new ?_ ?_ ?_ ?_ ?_ ?_ ?_
    · exact rfl
    · exact Z.nd
    · exact rfl
    · exact Or.inr rfl
    · exact Or.inl rfl
    · exact by decide
    · refine mn_lst ?_ ?_
      · exact LenIs.le len0 (by decide)
      · refine ma_nil
  · refine ms_cons ?_ ?_
    · refine ms_lp ?_
      · refine ms_for (sl := [2]) ?_ ?_ ?_ ?_ ?_ ?_
        · exact L2.passes_of rfl
        · exact Z.calm
        · exact fun _ => rfl
        · refine mi_any ?_
          · refine me_toF ?_
            · refine q_var ?_
              · exact ⟨rfl, Or.inl rfl, rfl, rfl⟩
        · refine mg_nm ?_ ?_ ?_ ?_ ?_
          · exact Z.nd
          · exact rfl
          · exact Or.inl rfl
          · exact Or.inr rfl
          · exact by decide
        · refine ms_ends ?_
          · refine ms_cons ?_ ?_
            · refine ms_ext ?_ ?_ ?_ ?_ ?_ ?_ ?_
              · exact rfl
              · exact Or.inr (Or.inl rfl)
              · exact rfl
              · exact rfl
              · exact rfl
              · exact rfl
              · refine me_lc (own := [(".0", 3), ("item", 4)]) (sl := [4]) ?_ ?_ ?_ ?_ ?_ ?_ ?_ ?_ ?_ ?_ ?_
                · exact Z.calm
                · exact Z.nd
                · exact by decide
                · exact by decide
                · exact by decide
                · exact fun _ => rfl
                · refine mi_any ?_
                  · refine me_toF ?_
                    · refine q_var ?_
                      · exact ⟨rfl, Or.inl rfl, rfl, rfl⟩
                · exact blk_of rfl
                · intro _ _ _ _ _
                  refine mg_nm ?_ ?_ ?_ ?_ ?_
                  · exact (Cz.blk Z).nd
                  · exact rfl
                  · exact Or.inl rfl
                  · exact Or.inr rfl
                  · exact by decide
                · intro _ _ _ _ _
                  refine mts_one ?_
                  · refine mt_cmp' (o_notIn (Cz.blk Z).u65) v_G ?_ ?_ ?_
                    · exact rfl
                    · refine q_var ?_
                      · exact ⟨rfl, Or.inl rfl, rfl, rfl⟩
                    · refine q_own ?_
                      · exact ⟨rfl, Or.inr (Or.inl rfl), rfl, rfl⟩
                · intro _ _ _ _ _
                  refine q_var ?_
                  · exact ⟨rfl, Or.inl rfl, rfl, rfl⟩
            · refine ms_nil
    · refine ms_cons ?_ ?_
      · refine ms_ret ?_
        · refine q_tuple ?_ ?_ ?_
          · exact ⟨rfl, c.n_tuple⟩
          · exact st1 rfl st0
          · refine maW_of ?_
            · refine ma_cons ?_ ?_ ?_
              · exact rfl
              · refine q_sorted (k := 0) ?_ ?_ ?_ ?_
                · exact Z
                · exact ⟨rfl, c.n_sorted⟩
                · exact st1 rfl st0
                · refine maW_cons ?_ ?_ ?_
                  · exact rfl
                  · refine me_toD ?_
                    · refine q_own ?_
                      · exact ⟨rfl, Or.inr (Or.inl rfl), rfl, rfl⟩
                  · refine maW_nil
              · refine ma_nil
      · refine ms_nil
theorem ok__law_union (c : Facts K mg) (hS : SysD base) : FnG PySem.Challenge.pw_lastsigns_k02_whole_worlds_by_unions w K mg base 1 c.f__law_union c.d__law_union ["sets"] (spOf K mg 1 fn__law_union) := fnG_den c.F__law_union sc__law_union fun cdv A outer s H vs E hr gd => pf__law_union c hS hr gd
/-! _law_with_all -/
abbrev N__law_with_all : List Str := ["nodes", "rights"]
def b__law_with_all : DenS := (sCons (sIf (tst (bin gLt (fnc gLen (aCons (dCall 1 false fn__law_union (aVal (dVar 1) agNil)) aNil)) (dVar 0)))
 (sCons (sAsg (bin gAdd (dVar 1) (dLst (aCons (dTupOf (dRng1 (dVar 0))) aNil))) (gNm 1))
  sNil)
 sNil)
  (sCons (sRet (dTup (aCons (dVar 0) (aCons (fnc gTuple (aCons (fnc gSorted (aCons (dVar 1) aNil)) aNil)) aNil))))
  sNil))
def fn__law_with_all : Fn := fnOf 2 [0] b__law_with_all
theorem sc__law_with_all : FnScope N__law_with_all ["nodes", "rights"] (defScope st__law_with_all) := ⟨rfl, rfl, rfl, by decide +kernel, rfl, by decide +kernel, by decide +kernel⟩
theorem pf__law_with_all (c : Facts K mg) (hS : SysD base) {cdv : Value} {A : Around} {outer : List PySem.Env} {s : Shared} {H : Hp} {vs : List V} {E : XK} (hr : Room 1 (A.deeper (envOfC "_law_with_all" (defScope st__law_with_all) s.heap.objs.size c.f__law_with_all cdv))) (gd : A.guards = some []) :
    PSs (cxG PySem.Challenge.pw_lastsigns_k02_whole_worlds_by_unions w K mg base N__law_with_all "_law_with_all" (defScope st__law_with_all) c.f__law_with_all cdv A outer s H E) (defBody st__law_with_all) (tS (en (cxG PySem.Challenge.pw_lastsigns_k02_whole_worlds_by_unions w K mg base N__law_with_all "_law_with_all" (defScope st__law_with_all) c.f__law_with_all cdv A outer s H E) [0] (L2.start N__law_with_all vs)) (WE E) (b__law_with_all)) := by
  have Z : Cz (cxG PySem.Challenge.pw_lastsigns_k02_whole_worlds_by_unions w K mg base N__law_with_all "_law_with_all" (defScope st__law_with_all) c.f__law_with_all cdv A outer s H E) 1 := ⟨sc__law_with_all.nd, rfl, gd, hr, hS⟩
  have hT : Takes (cxG PySem.Challenge.pw_lastsigns_k02_whole_worlds_by_unions w K mg base N__law_with_all "_law_with_all" (defScope st__law_with_all) c.f__law_with_all cdv A outer s H E) (WE E) := takes_of rfl rfl rfl rfl
  refine ms_cons ?_ ?_
  · refine ms_if ?_ ?_ ?_
    · refine mt_cmp' (o_lt Z.u64) v_G ?_ ?_ ?_
      · exact rfl
      · refine q_len ?_ ?_ ?_
        · exact ⟨rfl, c.n_len⟩
        · exact st1 rfl st0
        · refine maW_of ?_
          · refine ma_cons ?_ ?_ ?_
            · exact rfl
            · refine me_call (ps := ["sets"]) (fa := c.f__law_union) (fd := c.d__law_union) (k := 1) ?_ ?_ ?_ ?_ ?_ ?_ ?_
              · exact ⟨rfl, c.m__law_union, c.F__law_union.kp, c.B__law_union, rfl⟩
              · exact (ok__law_union c hS).mono (by decide)
              · exact Z.room
              · exact Z.gd
              · exact hT
              · refine mv_val ?_ ?_ ?_
                · exact rfl
                · refine q_var ?_
                  · exact ⟨rfl, Or.inl rfl, rfl, rfl⟩
                · refine mv_nil
              · exact st1 rfl st0
            · refine ma_nil
      · refine me_toW ?_
        · refine q_var ?_
          · exact ⟨rfl, Or.inl rfl, rfl, rfl⟩
    · refine ms_cons ?_ ?_
      · refine ms_asg (sl := [1]) ?_ ?_ ?_ ?_ ?_
        · exact rfl
        · exact rfl
        · exact rfl
        · refine me_bin' o_add v_add ?_ ?_
          · refine q_var ?_
            · exact ⟨rfl, Or.inl rfl, rfl, rfl⟩
          · refine me_toW ?_
            · refine me_lst ?_ ?_
              · exact LenIs.le (len1 len0) (by decide)
              · refine ma_cons ?_ ?_ ?_
                · exact rfl
                · refine q_tupRg1 (k := 1) ?_ ?_ ?_ ?_ ?_
                  · exact Z
                  · exact ⟨rfl, c.n_tuple⟩
                  · exact ⟨rfl, c.n_range⟩
                  · exact rfl
                  · refine q_var ?_
                    · exact ⟨rfl, Or.inl rfl, rfl, rfl⟩
                · refine ma_nil
        · refine mg_nm ?_ ?_ ?_ ?_ ?_
          · exact Z.nd
          · exact rfl
          · exact Or.inl rfl
          · exact Or.inr rfl
          · exact by decide
      · refine ms_nil
    · refine ms_nil
  · refine ms_cons ?_ ?_
    · refine ms_ret ?_
      · refine me_tup ?_ ?_
        · exact LenIs.le (len1 (len1 len0)) (by decide)
        · refine ma_cons ?_ ?_ ?_
          · exact rfl
          · refine q_var ?_
            · exact ⟨rfl, Or.inl rfl, rfl, rfl⟩
          · refine ma_cons ?_ ?_ ?_
            · exact rfl
            · refine q_tuple ?_ ?_ ?_
              · exact ⟨rfl, c.n_tuple⟩
              · exact st1 rfl st0
              · refine maW_of ?_
                · refine ma_cons ?_ ?_ ?_
                  · exact rfl
                  · refine q_sorted (k := 1) ?_ ?_ ?_ ?_
                    · exact Z
                    · exact ⟨rfl, c.n_sorted⟩
                    · exact st1 rfl st0
                    · refine maW_of ?_
                      · refine ma_cons ?_ ?_ ?_
                        · exact rfl
                        · refine q_var ?_
                          · exact ⟨rfl, Or.inl rfl, rfl, rfl⟩
                        · refine ma_nil
                  · refine ma_nil
            · refine ma_nil
    · refine ms_nil
theorem ok__law_with_all (c : Facts K mg) (hS : SysD base) : FnG PySem.Challenge.pw_lastsigns_k02_whole_worlds_by_unions w K mg base 2 c.f__law_with_all c.d__law_with_all ["nodes", "rights"] (spOf K mg 2 fn__law_with_all) := fnG_den c.F__law_with_all sc__law_with_all fun cdv A outer s H vs E hr gd => pf__law_with_all c hS hr gd
/-! _law_world -/
abbrev N__law_world : List Str := ["deck", "nodes", "way", "sets", "least", ".0", "own"]
def b__law_world : DenS := (sCons (sAsg (dTup (aCons (dCall 2 false fn__law_pick (aIo 0 (aVal (dLst (aCons (dCon (.int 2)) (aCons (dCon (.int 2)) (aCons (dCon (.int 3)) (aCons (dCon (.int 3)) (aCons (dCon (.int 3)) (aCons (dCon (.int 4)) aNil))))))) agNil))) (aCons (dCall 2 false fn__law_draw (aIo 0 (aVal (dCon (.int 5)) agNil))) aNil))) (gTp 2 (gsCons (gNm 1) (gsCons (gNm 2) gsNil))))
  (sCons (sAsg (dCall 1 false fn__law_sets (aVal (dVar 1) agNil)) (gNm 3))
  (sCons (sIf (tst (bin gEqB (dVar 2) (dCon (.int 0))))
 (sCons (sAsg (bin gAdd (dCon (.int 1)) (dCall 2 false fn__law_draw (aIo 0 (aVal (dVar 1) agNil)))) (gNm 4))
  (sCons (sRet (dTup (aCons (dVar 1) (aCons (fnc gTuple (aCons (dLc (dIt (dVar 3)) (gNm 6) (tst (bin gGe (fnc gLen (aCons (dVar 6) aNil)) (dVar 4))) (dVar 6) [5, 6]) aNil)) aNil))))
  sNil))
 sNil)
  (sCons (sIf (tst (bin gEqB (dVar 2) (dCon (.int 1))))
 (sCons (sRet (dCall 2 false fn__law_with_all (aVal (dVar 1) (aVal (dCall 3 false fn__law_some (aIo 0 (aVal (dVar 3) (aVal (bin gAdd (dCon (.int 1)) (dCall 2 false fn__law_draw (aIo 0 (aVal (dCon (.int 3)) agNil)))) agNil)))) agNil))))
  sNil)
 sNil)
  (sCons (sIf (tst (bin gEqB (dVar 2) (dCon (.int 2))))
 (sCons (sRet (dTup (aCons (dVar 1) (aCons (fnc gTuple (aCons (dVar 3) aNil)) aNil))))
  sNil)
 sNil)
  (sCons (sRet (dCall 2 false fn__law_with_all (aVal (dVar 1) (aVal (dLc (dIt (dVar 3)) (gNm 6) (tst (bin gLt (dCall 2 false fn__law_draw (aIo 0 (aVal (dCon (.int 5)) agNil))) (dVar 2))) (dVar 6) [5, 6]) agNil))))
  sNil))))))
def fn__law_world : Fn := fnOf 7 [0] b__law_world
theorem sc__law_world : FnScope N__law_world ["deck"] (defScope st__law_world) := ⟨rfl, rfl, rfl, by decide +kernel, rfl, by decide +kernel, by decide +kernel⟩
theorem pf__law_world (c : Facts K mg) (hS : SysD base) {cdv : Value} {A : Around} {outer : List PySem.Env} {s : Shared} {H : Hp} {vs : List V} {E : XK} (hr : Room 2 (A.deeper (envOfC "_law_world" (defScope st__law_world) s.heap.objs.size c.f__law_world cdv))) (gd : A.guards = some []) :
    PSs (cxG PySem.Challenge.pw_lastsigns_k02_whole_worlds_by_unions w K mg base N__law_world "_law_world" (defScope st__law_world) c.f__law_world cdv A outer s H E) (defBody st__law_world) (tS (en (cxG PySem.Challenge.pw_lastsigns_k02_whole_worlds_by_unions w K mg base N__law_world "_law_world" (defScope st__law_world) c.f__law_world cdv A outer s H E) [0] (L2.start N__law_world vs)) (WE E) (b__law_world)) := by
  have Z : Cz (cxG PySem.Challenge.pw_lastsigns_k02_whole_worlds_by_unions w K mg base N__law_world "_law_world" (defScope st__law_world) c.f__law_world cdv A outer s H E) 2 := ⟨sc__law_world.nd, rfl, gd, hr, hS⟩
  have hT : Takes (cxG PySem.Challenge.pw_lastsigns_k02_whole_worlds_by_unions w K mg base N__law_world "_law_world" (defScope st__law_world) c.f__law_world cdv A outer s H E) (WE E) := takes_of rfl rfl rfl rfl
  refine ms_cons ?_ ?_
  · refine ms_asg (sl := [1, 2]) ?_ ?_ ?_ ?_ ?_
    · exact rfl
    · exact rfl
    · exact rfl
    · refine me_tup ?_ ?_
      · exact LenIs.le (len1 (len1 len0)) (by decide)
      · refine ma_cons ?_ ?_ ?_
        · exact rfl
        · refine me_call (ps := ["deck", "items"]) (fa := c.f__law_pick) (fd := c.d__law_pick) (k := 2) ?_ ?_ ?_ ?_ ?_ ?_ ?_
          · exact ⟨rfl, c.m__law_pick, c.F__law_pick.kp, c.B__law_pick, rfl⟩
          · exact (ok__law_pick c hS).mono (by decide)
          · exact Z.room
          · exact Z.gd
          · exact hT
          · refine mv_io ?_ ?_ ?_ ?_ ?_
            · exact rfl
            · exact Or.inr (Or.inl rfl)
            · exact rfl
            · exact rfl
            · refine mv_val ?_ ?_ ?_
              · exact rfl
              · refine me_lst ?_ ?_
                · exact LenIs.le (len1 (len1 (len1 (len1 (len1 (len1 len0)))))) (by decide)
                · refine ma_cons ?_ ?_ ?_
                  · exact rfl
                  · refine me_int
                  · refine ma_cons ?_ ?_ ?_
                    · exact rfl
                    · refine me_int
                    · refine ma_cons ?_ ?_ ?_
                      · exact rfl
                      · refine me_int
                      · refine ma_cons ?_ ?_ ?_
                        · exact rfl
                        · refine me_int
                        · refine ma_cons ?_ ?_ ?_
                          · exact rfl
                          · refine me_int
                          · refine ma_cons ?_ ?_ ?_
                            · exact rfl
                            · refine me_int
                            · refine ma_nil
              · refine mv_nil
          · exact st1 rfl (st1 rfl st0)
        · refine ma_cons ?_ ?_ ?_
          · exact rfl
          · refine me_call (ps := ["deck", "many"]) (fa := c.f__law_draw) (fd := c.d__law_draw) (k := 2) ?_ ?_ ?_ ?_ ?_ ?_ ?_
            · exact ⟨rfl, c.m__law_draw, c.F__law_draw.kp, c.B__law_draw, rfl⟩
            · exact (ok__law_draw c hS).mono (by decide)
            · exact Z.room
            · exact Z.gd
            · exact hT
            · refine mv_io ?_ ?_ ?_ ?_ ?_
              · exact rfl
              · exact Or.inr (Or.inl rfl)
              · exact rfl
              · exact rfl
              · refine mv_val ?_ ?_ ?_
                · exact rfl
                · refine me_int
                · refine mv_nil
            · exact st1 rfl (st1 rfl st0)
          · refine ma_nil
    · refine mg_tup ?_ ?_ ?_
      · exact Z.calm
      · exact st1 rfl (st1 rfl st0)
      · refine mgs_cons (sl := [1]) (sl' := [2]) ?_ ?_ ?_
        · exact rfl
        · refine mg_nm ?_ ?_ ?_ ?_ ?_
          · exact Z.nd
          · exact rfl
          · exact Or.inl rfl
          · exact Or.inr rfl
          · exact by decide
        · refine mgs_cons (sl := [2]) (sl' := []) ?_ ?_ ?_
          · exact rfl
          · refine mg_nm ?_ ?_ ?_ ?_ ?_
            · exact Z.nd
            · exact rfl
            · exact Or.inr rfl
            · exact Or.inl rfl
            · exact by decide
          · refine mgs_nil
  · refine ms_cons ?_ ?_
    · refine ms_asg (sl := [3]) ?_ ?_ ?_ ?_ ?_
      · exact rfl
      · exact rfl
      · exact rfl
      · refine me_call (ps := ["many"]) (fa := c.f__law_sets) (fd := c.d__law_sets) (k := 2) ?_ ?_ ?_ ?_ ?_ ?_ ?_
        · exact ⟨rfl, c.m__law_sets, c.F__law_sets.kp, c.B__law_sets, rfl⟩
        · exact (ok__law_sets c hS).mono (by decide)
        · exact Z.room
        · exact Z.gd
        · exact hT
        · refine mv_val ?_ ?_ ?_
          · exact rfl
          · refine q_var ?_
            · exact ⟨rfl, Or.inl rfl, rfl, rfl⟩
          · refine mv_nil
        · exact st1 rfl st0
      · refine mg_nm ?_ ?_ ?_ ?_ ?_
        · exact Z.nd
        · exact rfl
        · exact Or.inl rfl
        · exact Or.inr rfl
        · exact by decide
    · refine ms_cons ?_ ?_
      · refine ms_if ?_ ?_ ?_
        · refine mt_cmp' (o_eq Z.u64) v_G ?_ ?_ ?_
          · exact rfl
          · refine q_var ?_
            · exact ⟨rfl, Or.inr (Or.inl rfl), rfl, rfl⟩
          · refine me_toW ?_
            · refine me_int
        · refine ms_cons ?_ ?_
          · refine ms_asg (sl := [4]) ?_ ?_ ?_ ?_ ?_
            · exact rfl
            · exact rfl
            · exact rfl
            · refine me_bin' o_add v_add ?_ ?_
              · refine me_int
              · refine me_toW ?_
                · refine me_call (ps := ["deck", "many"]) (fa := c.f__law_draw) (fd := c.d__law_draw) (k := 2) ?_ ?_ ?_ ?_ ?_ ?_ ?_
                  · exact ⟨rfl, c.m__law_draw, c.F__law_draw.kp, c.B__law_draw, rfl⟩
                  · exact (ok__law_draw c hS).mono (by decide)
                  · exact Z.room
                  · exact Z.gd
                  · exact hT
                  · refine mv_io ?_ ?_ ?_ ?_ ?_
                    · exact rfl
                    · exact Or.inr (Or.inl rfl)
                    · exact rfl
                    · exact rfl
                    · refine mv_val ?_ ?_ ?_
                      · exact rfl
                      · refine q_var ?_
                        · exact ⟨rfl, Or.inl rfl, rfl, rfl⟩
                      · refine mv_nil
                  · exact st1 rfl (st1 rfl st0)
            · refine mg_nm ?_ ?_ ?_ ?_ ?_
              · exact Z.nd
              · exact rfl
              · exact Or.inr rfl
              · exact Or.inl rfl
              · exact by decide
          · refine ms_cons ?_ ?_
            · refine ms_ret ?_
              · refine me_tup ?_ ?_
                · exact LenIs.le (len1 (len1 len0)) (by decide)
                · refine ma_cons ?_ ?_ ?_
                  · exact rfl
                  · refine q_var ?_
                    · exact ⟨rfl, Or.inl rfl, rfl, rfl⟩
                  · refine ma_cons ?_ ?_ ?_
                    · exact rfl
                    · refine q_tuple ?_ ?_ ?_
                      · exact ⟨rfl, c.n_tuple⟩
                      · exact st1 rfl st0
                      · refine maW_of ?_
                        · refine ma_cons ?_ ?_ ?_
                          · exact rfl
                          · refine me_lc (own := [(".0", 5), ("own", 6)]) (sl := [6]) ?_ ?_ ?_ ?_ ?_ ?_ ?_ ?_ ?_ ?_ ?_
                            · exact Z.calm
                            · exact Z.nd
                            · exact by decide
                            · exact by decide
                            · exact by decide
                            · exact fun _ => rfl
                            · refine mi_any ?_
                              · refine me_toF ?_
                                · refine q_var ?_
                                  · exact ⟨rfl, Or.inl rfl, rfl, rfl⟩
                            · exact blk_of rfl
                            · intro _ _ _ _ _
                              refine mg_nm ?_ ?_ ?_ ?_ ?_
                              · exact (Cz.blk Z).nd
                              · exact rfl
                              · exact Or.inl rfl
                              · exact Or.inr rfl
                              · exact by decide
                            · intro _ _ _ _ _
                              refine mts_one ?_
                              · refine mt_cmp' o_ge v_G ?_ ?_ ?_
                                · exact rfl
                                · refine q_len ?_ ?_ ?_
                                  · exact ⟨rfl, c.n_len⟩
                                  · exact st1 rfl st0
                                  · refine maW_of ?_
                                    · refine ma_cons ?_ ?_ ?_
                                      · exact rfl
                                      · refine q_var ?_
                                        · exact ⟨rfl, Or.inl rfl, rfl, rfl⟩
                                      · refine ma_nil
                                · refine me_toW ?_
                                  · refine q_var ?_
                                    · exact ⟨rfl, Or.inr (Or.inl rfl), rfl, rfl⟩
                            · intro _ _ _ _ _
                              refine q_var ?_
                              · exact ⟨rfl, Or.inl rfl, rfl, rfl⟩
                          · refine ma_nil
                    · refine ma_nil
            · refine ms_nil
        · refine ms_nil
      · refine ms_cons ?_ ?_
        · refine ms_if ?_ ?_ ?_
          · refine mt_cmp' (o_eq Z.u64) v_G ?_ ?_ ?_
            · exact rfl
            · refine q_var ?_
              · exact ⟨rfl, Or.inr (Or.inl rfl), rfl, rfl⟩
            · refine me_toW ?_
              · refine me_int
          · refine ms_cons ?_ ?_
            · refine ms_ret ?_
              · refine me_call (ps := ["nodes", "rights"]) (fa := c.f__law_with_all) (fd := c.d__law_with_all) (k := 2) ?_ ?_ ?_ ?_ ?_ ?_ ?_
                · exact ⟨rfl, c.m__law_with_all, c.F__law_with_all.kp, c.B__law_with_all, rfl⟩
                · exact (ok__law_with_all c hS).mono (by decide)
                · exact Z.room
                · exact Z.gd
                · exact hT
                · refine mv_val ?_ ?_ ?_
                  · exact rfl
                  · refine q_var ?_
                    · exact ⟨rfl, Or.inl rfl, rfl, rfl⟩
                  · refine mv_val ?_ ?_ ?_
                    · exact rfl
                    · refine me_call (ps := ["deck", "items", "many"]) (fa := c.f__law_some) (fd := c.d__law_some) (k := 2) ?_ ?_ ?_ ?_ ?_ ?_ ?_
                      · exact ⟨rfl, c.m__law_some, c.F__law_some.kp, c.B__law_some, rfl⟩
                      · exact (ok__law_some c hS).mono (by decide)
                      · exact Z.room
                      · exact Z.gd
                      · exact hT
                      · refine mv_io ?_ ?_ ?_ ?_ ?_
                        · exact rfl
                        · exact Or.inr (Or.inl rfl)
                        · exact rfl
                        · exact rfl
                        · refine mv_val ?_ ?_ ?_
                          · exact rfl
                          · refine q_var ?_
                            · exact ⟨rfl, Or.inl rfl, rfl, rfl⟩
                          · refine mv_val ?_ ?_ ?_
                            · exact rfl
                            · refine me_bin' o_add v_add ?_ ?_
                              · refine me_int
                              · refine me_toW ?_
                                · refine me_call (ps := ["deck", "many"]) (fa := c.f__law_draw) (fd := c.d__law_draw) (k := 2) ?_ ?_ ?_ ?_ ?_ ?_ ?_
                                  · exact ⟨rfl, c.m__law_draw, c.F__law_draw.kp, c.B__law_draw, rfl⟩
                                  · exact (ok__law_draw c hS).mono (by decide)
                                  · exact Z.room
                                  · exact Z.gd
                                  · exact hT
                                  · refine mv_io ?_ ?_ ?_ ?_ ?_
                                    · exact rfl
                                    · exact Or.inr (Or.inl rfl)
                                    · exact rfl
                                    · exact rfl
                                    · refine mv_val ?_ ?_ ?_
                                      · exact rfl
                                      · refine me_int
                                      · refine mv_nil
                                  · exact st1 rfl (st1 rfl st0)
                            · refine mv_nil
                      · exact st1 rfl (st1 rfl (st1 rfl st0))
                    · refine mv_nil
                · exact st1 rfl (st1 rfl st0)
            · refine ms_nil
          · refine ms_nil
        · refine ms_cons ?_ ?_
          · refine ms_if ?_ ?_ ?_
            · refine mt_cmp' (o_eq Z.u64) v_G ?_ ?_ ?_
              · exact rfl
              · refine q_var ?_
                · exact ⟨rfl, Or.inr (Or.inl rfl), rfl, rfl⟩
              · refine me_toW ?_
                · refine me_int
            · refine ms_cons ?_ ?_
              · refine ms_ret ?_
                · refine me_tup ?_ ?_
                  · exact LenIs.le (len1 (len1 len0)) (by decide)
                  · refine ma_cons ?_ ?_ ?_
                    · exact rfl
                    · refine q_var ?_
                      · exact ⟨rfl, Or.inl rfl, rfl, rfl⟩
                    · refine ma_cons ?_ ?_ ?_
                      · exact rfl
                      · refine q_tuple ?_ ?_ ?_
                        · exact ⟨rfl, c.n_tuple⟩
                        · exact st1 rfl st0
                        · refine maW_of ?_
                          · refine ma_cons ?_ ?_ ?_
                            · exact rfl
                            · refine q_var ?_
                              · exact ⟨rfl, Or.inl rfl, rfl, rfl⟩
                            · refine ma_nil
                      · refine ma_nil
              · refine ms_nil
            · refine ms_nil
          · refine ms_cons ?_ ?_
            · refine ms_ret ?_
              · refine me_call (ps := ["nodes", "rights"]) (fa := c.f__law_with_all) (fd := c.d__law_with_all) (k := 2) ?_ ?_ ?_ ?_ ?_ ?_ ?_
                · exact ⟨rfl, c.m__law_with_all, c.F__law_with_all.kp, c.B__law_with_all, rfl⟩
                · exact (ok__law_with_all c hS).mono (by decide)
                · exact Z.room
                · exact Z.gd
                · exact hT
                · refine mv_val ?_ ?_ ?_
                  · exact rfl
                  · refine q_var ?_
                    · exact ⟨rfl, Or.inl rfl, rfl, rfl⟩
                  · refine mv_val ?_ ?_ ?_
                    · exact rfl
                    · refine me_lc (own := [(".0", 5), ("own", 6)]) (sl := [6]) ?_ ?_ ?_ ?_ ?_ ?_ ?_ ?_ ?_ ?_ ?_
                      · exact Z.calm
                      · exact Z.nd
                      · exact by decide
                      · exact by decide
                      · exact by decide
                      · exact fun _ => rfl
                      · refine mi_any ?_
                        · refine me_toF ?_
                          · refine q_var ?_
                            · exact ⟨rfl, Or.inl rfl, rfl, rfl⟩
                      · exact blk_of rfl
                      · intro _ _ _ _ _
                        refine mg_nm ?_ ?_ ?_ ?_ ?_
                        · exact (Cz.blk Z).nd
                        · exact rfl
                        · exact Or.inl rfl
                        · exact Or.inr rfl
                        · exact by decide
                      · intro _ _ _ _ _
                        refine mts_one ?_
                        · refine mt_cmp' (o_lt (Cz.blk Z).u64) v_G ?_ ?_ ?_
                          · exact rfl
                          · refine me_call (ps := ["deck", "many"]) (fa := c.f__law_draw) (fd := c.d__law_draw) (k := 2) ?_ ?_ ?_ ?_ ?_ ?_ ?_
                            · exact ⟨rfl, c.m__law_draw, c.F__law_draw.kp, c.B__law_draw, rfl⟩
                            · exact (ok__law_draw c hS).mono (by decide)
                            · exact (Cz.blk Z).room
                            · exact (Cz.blk Z).gd
                            · exact takes_F
                            · refine mv_io ?_ ?_ ?_ ?_ ?_
                              · exact rfl
                              · exact Or.inr (Or.inl rfl)
                              · exact rfl
                              · exact rfl
                              · refine mv_val ?_ ?_ ?_
                                · exact rfl
                                · refine me_int
                                · refine mv_nil
                            · exact st1 rfl (st1 rfl st0)
                          · refine me_toW ?_
                            · refine q_var ?_
                              · exact ⟨rfl, Or.inr (Or.inl rfl), rfl, rfl⟩
                      · intro _ _ _ _ _
                        refine q_var ?_
                        · exact ⟨rfl, Or.inl rfl, rfl, rfl⟩
                    · refine mv_nil
                · exact st1 rfl (st1 rfl st0)
            · refine ms_nil
theorem ok__law_world (c : Facts K mg) (hS : SysD base) : FnG PySem.Challenge.pw_lastsigns_k02_whole_worlds_by_unions w K mg base 3 c.f__law_world c.d__law_world ["deck"] (spOf K mg 1 fn__law_world) := fnG_den c.F__law_world sc__law_world fun cdv A outer s H vs E hr gd => pf__law_world c hS hr gd
/-! _law_any -/
abbrev N__law_any : List Str := ["deck", "deep", "sort", "items", ".0", "turn"]
def b__law_any (self : Fn) : DenS := (sCons (sAsg (dCall 2 false fn__law_draw (aIo 0 (aVal (dIte (bin gGt (dVar 1) (dCon (.int 0))) (dCon (.int 13)) (dCon (.int 9))) agNil))) (gNm 2))
  (sCons (sIf (tst (bin gLt (dVar 2) (dCon (.int 9))))
 (sCons (sRet (bin gIx (dLst (aCons (dCon .none) (aCons (dCon (.bool true)) (aCons (dCon (.bool false)) (aCons (bin gSub (dCall 2 false fn__law_draw (aIo 0 (aVal (dCon (.int 9)) agNil))) (dCon (.int 2))) (aCons (dCon (.str "")) (aCons (dCon (.str "form")) (aCons (bin gPow (dCon (.int 10)) (dCon (.int 39))) (aCons (dCon (.str "0")) (aCons (dTup aNil) aNil)))))))))) (dVar 2)))
  sNil)
 sNil)
  (sCons (sAsg (dLc (dRng1 (dCall 2 false fn__law_draw (aIo 0 (aVal (dCon (.int 4)) agNil)))) (gNm 5) tYesD (dCall 2 false (self) (aIo 0 (aVal (bin gSub (dVar 1) (dCon (.int 1))) agNil))) [4, 5]) (gNm 3))
  (sCons (sIf (tst (bin gEqB (dVar 2) (dCon (.int 9))))
 (sCons (sRet (dVar 3))
  sNil)
 sNil)
  (sCons (sRet (dIte (bin gLt (dVar 2) (dCon (.int 12))) (fnc gTuple (aCons (dVar 3) aNil)) (dDict [("0", (dVar 3))])))
  sNil)))))
def fn__law_any : Nat → Fn
  | 0 => fun _ => .bad
  | n + 1 => fnOf 6 [0, 1] (b__law_any (fn__law_any n))
theorem sc__law_any : FnScope N__law_any ["deck", "deep"] (defScope st__law_any) := ⟨rfl, rfl, rfl, by decide +kernel, rfl, by decide +kernel, by decide +kernel⟩
theorem pf__law_any (c : Facts K mg) (hS : SysD base) {self : Fn} {n : Nat} (hself : FnG PySem.Challenge.pw_lastsigns_k02_whole_worlds_by_unions w K mg base (1 + n) c.f__law_any c.d__law_any ["deck", "deep"] (spOf K mg 2 self)) {cdv : Value} {A : Around} {outer : List PySem.Env} {s : Shared} {H : Hp} {vs : List V} {E : XK} (hr : Room (1 + n) (A.deeper (envOfC "_law_any" (defScope st__law_any) s.heap.objs.size c.f__law_any cdv))) (gd : A.guards = some []) :
    PSs (cxG PySem.Challenge.pw_lastsigns_k02_whole_worlds_by_unions w K mg base N__law_any "_law_any" (defScope st__law_any) c.f__law_any cdv A outer s H E) (defBody st__law_any) (tS (en (cxG PySem.Challenge.pw_lastsigns_k02_whole_worlds_by_unions w K mg base N__law_any "_law_any" (defScope st__law_any) c.f__law_any cdv A outer s H E) [0, 1] (L2.start N__law_any vs)) (WE E) (b__law_any self)) := by
  have Z : Cz (cxG PySem.Challenge.pw_lastsigns_k02_whole_worlds_by_unions w K mg base N__law_any "_law_any" (defScope st__law_any) c.f__law_any cdv A outer s H E) (1 + n) := ⟨sc__law_any.nd, rfl, gd, hr, hS⟩
  have hT : Takes (cxG PySem.Challenge.pw_lastsigns_k02_whole_worlds_by_unions w K mg base N__law_any "_law_any" (defScope st__law_any) c.f__law_any cdv A outer s H E) (WE E) := takes_of rfl rfl rfl rfl
  refine ms_cons ?_ ?_
  · refine ms_asg (sl := [2]) ?_ ?_ ?_ ?_ ?_
    · exact rfl
    · exact rfl
    · exact rfl
    · refine me_call (ps := ["deck", "many"]) (fa := c.f__law_draw) (fd := c.d__law_draw) (k := (1 + n)) ?_ ?_ ?_ ?_ ?_ ?_ ?_
      · exact ⟨rfl, c.m__law_draw, c.F__law_draw.kp, c.B__law_draw, rfl⟩
      · exact (ok__law_draw c hS).mono (by omega)
      · exact Z.room
      · exact Z.gd
      · exact hT
      · refine mv_io ?_ ?_ ?_ ?_ ?_
        · exact rfl
        · exact Or.inr (Or.inl rfl)
        · exact rfl
        · exact rfl
        · refine mv_val ?_ ?_ ?_
          · exact rfl
          · refine me_ite ?_ ?_ ?_
            · refine mt_cmp' o_gt v_G ?_ ?_ ?_
              · exact rfl
              · refine q_var ?_
                · exact ⟨rfl, Or.inr (Or.inl rfl), rfl, rfl⟩
              · refine me_toW ?_
                · refine me_int
            · refine me_int
            · refine me_int
          · refine mv_nil
      · exact st1 rfl (st1 rfl st0)
    · refine mg_nm ?_ ?_ ?_ ?_ ?_
      · exact Z.nd
      · exact rfl
      · exact Or.inl rfl
      · exact Or.inr rfl
      · exact by decide
  · refine ms_cons ?_ ?_
    · refine ms_if ?_ ?_ ?_
      · refine mt_cmp' (o_lt Z.u64) v_G ?_ ?_ ?_
        · exact rfl
        · refine q_var ?_
          · exact ⟨rfl, Or.inl rfl, rfl, rfl⟩
        · refine me_toW ?_
          · refine me_int
      · refine ms_cons ?_ ?_
        · refine ms_ret ?_
          · refine me_ix' ?_ ?_ ?_
            · exact rfl
            · refine me_lst ?_ ?_
              · exact LenIs.le (len1 (len1 (len1 (len1 (len1 (len1 (len1 (len1 (len1 len0))))))))) (by decide)
              · refine ma_cons ?_ ?_ ?_
                · exact rfl
                · refine me_non
                · refine ma_cons ?_ ?_ ?_
                  · exact rfl
                  · refine me_bl
                  · refine ma_cons ?_ ?_ ?_
                    · exact rfl
                    · refine me_bl
                    · refine ma_cons ?_ ?_ ?_
                      · exact rfl
                      · refine me_bin' o_sub v_sub ?_ ?_
                        · refine me_call (ps := ["deck", "many"]) (fa := c.f__law_draw) (fd := c.d__law_draw) (k := (1 + n)) ?_ ?_ ?_ ?_ ?_ ?_ ?_
                          · exact ⟨rfl, c.m__law_draw, c.F__law_draw.kp, c.B__law_draw, rfl⟩
                          · exact (ok__law_draw c hS).mono (by omega)
                          · exact Z.room
                          · exact Z.gd
                          · exact hT
                          · refine mv_io ?_ ?_ ?_ ?_ ?_
                            · exact rfl
                            · exact Or.inr (Or.inl rfl)
                            · exact rfl
                            · exact rfl
                            · refine mv_val ?_ ?_ ?_
                              · exact rfl
                              · refine me_int
                              · refine mv_nil
                          · exact st1 rfl (st1 rfl st0)
                        · refine me_toW ?_
                          · refine me_int
                      · refine ma_cons ?_ ?_ ?_
                        · exact rfl
                        · refine me_str
                        · refine ma_cons ?_ ?_ ?_
                          · exact rfl
                          · refine me_str
                          · refine ma_cons ?_ ?_ ?_
                            · exact rfl
                            · refine me_bin' op_pow v_pow ?_ ?_
                              · refine me_int
                              · refine me_toW ?_
                                · refine me_int
                            · refine ma_cons ?_ ?_ ?_
                              · exact rfl
                              · refine me_str
                              · refine ma_cons ?_ ?_ ?_
                                · exact rfl
                                · refine me_tup ?_ ?_
                                  · exact LenIs.le len0 (by decide)
                                  · refine ma_nil
                                · refine ma_nil
            · refine me_toD ?_
              · refine me_toW ?_
                · refine q_var ?_
                  · exact ⟨rfl, Or.inl rfl, rfl, rfl⟩
        · refine ms_nil
      · refine ms_nil
    · refine ms_cons ?_ ?_
      · refine ms_lc (own := [(".0", 4), ("turn", 5)]) (sl := [5]) ?_ ?_ ?_ ?_ ?_ ?_ ?_ ?_ ?_ ?_ ?_ ?_ ?_ ?_ ?_
        · exact Z.calm
        · exact Z.nd
        · exact by decide
        · exact by decide
        · exact by decide
        · exact fun _ => rfl
        · exact rfl
        · exact rfl
        · exact by decide
        · exact rfl
        · refine mi_range1 ?_ ?_ ?_ ?_
          · exact rfl
          · exact c.n_range
          · exact rfl
          · refine me_call (ps := ["deck", "many"]) (fa := c.f__law_draw) (fd := c.d__law_draw) (k := (1 + n)) ?_ ?_ ?_ ?_ ?_ ?_ ?_
            · exact ⟨rfl, c.m__law_draw, c.F__law_draw.kp, c.B__law_draw, rfl⟩
            · exact (ok__law_draw c hS).mono (by omega)
            · exact Z.room
            · exact Z.gd
            · exact hT
            · refine mv_io ?_ ?_ ?_ ?_ ?_
              · exact rfl
              · exact Or.inr (Or.inl rfl)
              · exact rfl
              · exact rfl
              · refine mv_val ?_ ?_ ?_
                · exact rfl
                · refine me_int
                · refine mv_nil
            · exact st1 rfl (st1 rfl st0)
        · exact blk_of rfl
        · intro _ _ _ _ _
          refine mg_nm ?_ ?_ ?_ ?_ ?_
          · exact (Cz.blk Z).nd
          · exact rfl
          · exact Or.inl rfl
          · exact Or.inr rfl
          · exact by decide
        · intro _ _ _ _ _
          refine mts_nil
        · intro _ _ _ _ _
          refine me_call (ps := ["deck", "deep"]) (fa := c.f__law_any) (fd := c.d__law_any) (k := (1 + n)) ?_ ?_ ?_ ?_ ?_ ?_ ?_
          · exact ⟨rfl, c.m__law_any, c.F__law_any.kp, c.B__law_any, rfl⟩
          · exact hself
          · exact (Cz.blk Z).room
          · exact (Cz.blk Z).gd
          · exact takes_F
          · refine mv_io ?_ ?_ ?_ ?_ ?_
            · exact rfl
            · exact Or.inr (Or.inl rfl)
            · exact rfl
            · exact rfl
            · refine mv_val ?_ ?_ ?_
              · exact rfl
              · refine me_bin' o_sub v_sub ?_ ?_
                · refine q_var ?_
                  · exact ⟨rfl, Or.inr (Or.inl rfl), rfl, rfl⟩
                · refine me_toW ?_
                  · refine me_int
              · refine mv_nil
          · exact st1 rfl (st1 rfl st0)
      · refine ms_cons ?_ ?_
        · refine ms_if ?_ ?_ ?_
          · refine mt_cmp' (o_eq Z.u64) v_G ?_ ?_ ?_
            · exact rfl
            · refine q_var ?_
              · exact ⟨rfl, Or.inl rfl, rfl, rfl⟩
            · refine me_toW ?_
              · refine me_int
          · refine ms_cons ?_ ?_
            · refine ms_ret ?_
              · refine q_var ?_
                · exact ⟨rfl, Or.inl rfl, rfl, rfl⟩
            · refine ms_nil
          · refine ms_nil
        · refine ms_cons ?_ ?_
          · refine ms_ret ?_
            · refine me_ite ?_ ?_ ?_
              · refine mt_cmp' (o_lt Z.u64) v_G ?_ ?_ ?_
                · exact rfl
                · refine q_var ?_
                  · exact ⟨rfl, Or.inl rfl, rfl, rfl⟩
                · refine me_toW ?_
                  · refine me_int
              · refine q_tuple ?_ ?_ ?_
                · exact ⟨rfl, c.n_tuple⟩
                · exact st1 rfl st0
                · refine maW_of ?_
                  · refine ma_cons ?_ ?_ ?_
                    · exact rfl
                    · refine q_var ?_
                      · exact ⟨rfl, Or.inl rfl, rfl, rfl⟩
                    · refine ma_nil
              · refine me_dict ?_ ?_ ?_ ?_ ?_ ?_ ?_
                · exact rfl
                · exact rfl
                · exact by simp
                · exact by decide
                · exact rfl
                · exact by decide
                · refine md_cons ?_ ?_
                  · refine q_var ?_
                    · exact ⟨rfl, Or.inl rfl, rfl, rfl⟩
                  · refine md_nil
          · refine ms_nil
theorem ok__law_any (c : Facts K mg) (hS : SysD base) : ∀ n : Nat, FnG PySem.Challenge.pw_lastsigns_k02_whole_worlds_by_unions w K mg base (1 + n) c.f__law_any c.d__law_any ["deck", "deep"] (spOf K mg 2 (fn__law_any n))
  | 0 => FnG.bad
  | n + 1 => fnG_den c.F__law_any sc__law_any fun cdv A outer s H vs E hr gd => pf__law_any c hS (ok__law_any c hS n) hr gd
/-! _law_other -/
abbrev N__law_other : List Str := ["deck", "item", "sort"]
def b__law_other : DenS := (sCons (sAsg (dCall 2 false fn__law_draw (aIo 0 (aVal (dCon (.int 10)) agNil))) (gNm 2))
  (sCons (sIf (tst (bin gGt (dVar 2) (dCon (.int 7))))
 (sCons (sRet (dCall 2 false fn__law_pick (aIo 0 (aVal (dLst (aCons (dLst aNil) (aCons (dDict []) (aCons (dLst (aCons (dCon (.int 0)) aNil)) (aCons (dDict [("0", (dCon (.int 0)))]) aNil))))) agNil))))
  sNil)
 sNil)
  (sCons (sIf (tst (dAnd (bin gEqB (dVar 2) (dCon (.int 0))) (dCall 3 false fn__law_whole (aVal (dVar 1) (aVal (dCon (.int 0)) (aVal (dCon (.int 99)) agNil))))))
 (sCons (sRet (bin gAdd (dVar 1) (dCon (.int 1))))
  sNil)
 sNil)
  (sCons (sIf (tst (dAnd (bin gEqB (dVar 2) (dCon (.int 1))) (dCall 3 false fn__law_whole (aVal (dVar 1) (aVal (dCon (.int 0)) (aVal (dCon (.int 99)) agNil))))))
 (sCons (sRet (bin gSub (dVar 1) (dCon (.int 1))))
  sNil)
 sNil)
  (sCons (sIf (tst (bin gEqB (dVar 2) (dCon (.int 2))))
 (sCons (sRet (bin gIx (dLst (aCons (dCon .none) (aCons (dCon (.bool true)) (aCons (dCon (.bool false)) (aCons (una gNeg (dCon (.int 1))) (aCons (dCon (.int 0)) (aCons (dCon (.int 1)) (aCons (dCon (.int 4)) (aCons (dCon (.int 5)) (aCons (dCon (.int 8)) (aCons (dCon (.str "0")) (aCons (dTup aNil) (aCons (dLst aNil) (aCons (dDict []) aNil)))))))))))))) (dCall 2 false fn__law_draw (aIo 0 (aVal (dCon (.int 13)) agNil)))))
  sNil)
 sNil)
  (sCons (sIf (tst (dAnd (bin gEqB (dVar 2) (dCon (.int 3))) (una (fun d => some (.bool (isTy .tuple d))) (dVar 1))))
 (sCons (sRet (fnc gList (aCons (dVar 1) aNil)))
  sNil)
 sNil)
  (sCons (sIf (tst (dAnd (bin gEqB (dVar 2) (dCon (.int 4))) (una (fun d => some (.bool (isTy .tuple d))) (dVar 1))))
 (sCons (sRet (bin gAdd (dVar 1) (dSl (dVar 1) none (some (dCon (.int 1))))))
  sNil)
 sNil)
  (sCons (sIf (tst (dAnd (bin gEqB (dVar 2) (dCon (.int 5))) (una (fun d => some (.bool (isTy .tuple d))) (dVar 1))))
 (sCons (sRet (dSl (dVar 1) (some (dCon (.int 1))) none))
  sNil)
 sNil)
  (sCons (sIf (tst (dAnd (bin gEqB (dVar 2) (dCon (.int 6))) (una (fun d => some (.bool (isTy .tuple d))) (dVar 1))))
 (sCons (sRet (una gBack (dVar 1)))
  sNil)
 sNil)
  (sCons (sRet (dIte (dCall 3 false fn__law_whole (aVal (dVar 1) (aVal (dCon (.int 0)) (aVal (dCon (.int 1)) agNil)))) (bin gEqB (dVar 1) (dCon (.int 1))) (dCall 2 false (fn__law_any 40) (aIo 0 (aVal (dCon (.int 1)) agNil)))))
  sNil))))))))))
def fn__law_other : Fn := fnOf 3 [0, 1] b__law_other
theorem sc__law_other : FnScope N__law_other ["deck", "item"] (defScope st__law_other) := ⟨rfl, rfl, rfl, by decide +kernel, rfl, by decide +kernel, by decide +kernel⟩
theorem pf__law_other (c : Facts K mg) (hS : SysD base) {cdv : Value} {A : Around} {outer : List PySem.Env} {s : Shared} {H : Hp} {vs : List V} {E : XK} (hr : Room 42 (A.deeper (envOfC "_law_other" (defScope st__law_other) s.heap.objs.size c.f__law_other cdv))) (gd : A.guards = some []) :
    PSs (cxG PySem.Challenge.pw_lastsigns_k02_whole_worlds_by_unions w K mg base N__law_other "_law_other" (defScope st__law_other) c.f__law_other cdv A outer s H E) (defBody st__law_other) (tS (en (cxG PySem.Challenge.pw_lastsigns_k02_whole_worlds_by_unions w K mg base N__law_other "_law_other" (defScope st__law_other) c.f__law_other cdv A outer s H E) [0, 1] (L2.start N__law_other vs)) (WE E) (b__law_other)) := by
  have Z : Cz (cxG PySem.Challenge.pw_lastsigns_k02_whole_worlds_by_unions w K mg base N__law_other "_law_other" (defScope st__law_other) c.f__law_other cdv A outer s H E) 42 := ⟨sc__law_other.nd, rfl, gd, hr, hS⟩
  have hT : Takes (cxG PySem.Challenge.pw_lastsigns_k02_whole_worlds_by_unions w K mg base N__law_other "_law_other" (defScope st__law_other) c.f__law_other cdv A outer s H E) (WE E) := takes_of rfl rfl rfl rfl
  refine ms_cons ?_ ?_
  · refine ms_asg (sl := [2]) ?_ ?_ ?_ ?_ ?_
    · exact rfl
    · exact rfl
    · exact rfl
    · refine me_call (ps := ["deck", "many"]) (fa := c.f__law_draw) (fd := c.d__law_draw) (k := 42) ?_ ?_ ?_ ?_ ?_ ?_ ?_
      · exact ⟨rfl, c.m__law_draw, c.F__law_draw.kp, c.B__law_draw, rfl⟩
      · exact (ok__law_draw c hS).mono (by decide)
      · exact Z.room
      · exact Z.gd
      · exact hT
      · refine mv_io ?_ ?_ ?_ ?_ ?_
        · exact rfl
        · exact Or.inl rfl
        · exact rfl
        · exact rfl
        · refine mv_val ?_ ?_ ?_
          · exact rfl
          · refine me_int
          · refine mv_nil
      · exact st1 rfl (st1 rfl st0)
    · refine mg_nm ?_ ?_ ?_ ?_ ?_
      · exact Z.nd
      · exact rfl
      · exact Or.inl rfl
      · exact Or.inr rfl
      · exact by decide
  · refine ms_cons ?_ ?_
    · refine ms_if ?_ ?_ ?_
      · refine mt_cmp' o_gt v_G ?_ ?_ ?_
        · exact rfl
        · refine q_var ?_
          · exact ⟨rfl, Or.inl rfl, rfl, rfl⟩
        · refine me_toW ?_
          · refine me_int
      · refine ms_cons ?_ ?_
        · refine ms_ret ?_
          · refine me_call (ps := ["deck", "items"]) (fa := c.f__law_pick) (fd := c.d__law_pick) (k := 42) ?_ ?_ ?_ ?_ ?_ ?_ ?_
            · exact ⟨rfl, c.m__law_pick, c.F__law_pick.kp, c.B__law_pick, rfl⟩
            · exact (ok__law_pick c hS).mono (by decide)
            · exact Z.room
            · exact Z.gd
            · exact hT
            · refine mv_io ?_ ?_ ?_ ?_ ?_
              · exact rfl
              · exact Or.inl rfl
              · exact rfl
              · exact rfl
              · refine mv_val ?_ ?_ ?_
                · exact rfl
                · refine me_lst ?_ ?_
                  · exact LenIs.le (len1 (len1 (len1 (len1 len0)))) (by decide)
                  · refine ma_cons ?_ ?_ ?_
                    · exact rfl
                    · refine me_lst ?_ ?_
                      · exact LenIs.le len0 (by decide)
                      · refine ma_nil
                    · refine ma_cons ?_ ?_ ?_
                      · exact rfl
                      · refine me_dict0
                      · refine ma_cons ?_ ?_ ?_
                        · exact rfl
                        · refine me_lst ?_ ?_
                          · exact LenIs.le (len1 len0) (by decide)
                          · refine ma_cons ?_ ?_ ?_
                            · exact rfl
                            · refine me_int
                            · refine ma_nil
                        · refine ma_cons ?_ ?_ ?_
                          · exact rfl
                          · refine me_dict ?_ ?_ ?_ ?_ ?_ ?_ ?_
                            · exact rfl
                            · exact rfl
                            · exact by simp
                            · exact by decide
                            · exact rfl
                            · exact by decide
                            · refine md_cons ?_ ?_
                              · refine me_int
                              · refine md_nil
                          · refine ma_nil
                · refine mv_nil
            · exact st1 rfl (st1 rfl st0)
        · refine ms_nil
      · refine ms_nil
    · refine ms_cons ?_ ?_
      · refine ms_if ?_ ?_ ?_
        · refine L2.PW.pt ?_
          refine mw_and ?_ ?_
          · refine mt_cmp' (o_eq Z.u64) v_G ?_ ?_ ?_
            · exact rfl
            · refine q_var ?_
              · exact ⟨rfl, Or.inl rfl, rfl, rfl⟩
            · refine me_toW ?_
              · refine me_int
          · refine mw_one_and ?_
            · refine mt_val ?_ ?_
              · refine me_call (ps := ["value", "low", "high"]) (fa := c.f__law_whole) (fd := c.d__law_whole) (k := 42) ?_ ?_ ?_ ?_ ?_ ?_ ?_
                · exact ⟨rfl, c.m__law_whole, c.F__law_whole.kp, c.B__law_whole, rfl⟩
                · exact (ok__law_whole c hS).mono (by decide)
                · exact Z.room
                · exact Z.gd
                · exact hT
                · refine mv_val ?_ ?_ ?_
                  · exact rfl
                  · refine q_var ?_
                    · exact ⟨rfl, Or.inl rfl, rfl, rfl⟩
                  · refine mv_val ?_ ?_ ?_
                    · exact rfl
                    · refine me_int
                    · refine mv_val ?_ ?_ ?_
                      · exact rfl
                      · refine me_int
                      · refine mv_nil
                · exact st1 rfl (st1 rfl (st1 rfl st0))
              · exact fun _ => rfl
        · refine ms_cons ?_ ?_
          · refine ms_ret ?_
            · refine me_bin' o_add v_add ?_ ?_
              · refine q_var ?_
                · exact ⟨rfl, Or.inl rfl, rfl, rfl⟩
              · refine me_toW ?_
                · refine me_int
          · refine ms_nil
        · refine ms_nil
      · refine ms_cons ?_ ?_
        · refine ms_if ?_ ?_ ?_
          · refine L2.PW.pt ?_
            refine mw_and ?_ ?_
            · refine mt_cmp' (o_eq Z.u64) v_G ?_ ?_ ?_
              · exact rfl
              · refine q_var ?_
                · exact ⟨rfl, Or.inl rfl, rfl, rfl⟩
              · refine me_toW ?_
                · refine me_int
            · refine mw_one_and ?_
              · refine mt_val ?_ ?_
                · refine me_call (ps := ["value", "low", "high"]) (fa := c.f__law_whole) (fd := c.d__law_whole) (k := 42) ?_ ?_ ?_ ?_ ?_ ?_ ?_
                  · exact ⟨rfl, c.m__law_whole, c.F__law_whole.kp, c.B__law_whole, rfl⟩
                  · exact (ok__law_whole c hS).mono (by decide)
                  · exact Z.room
                  · exact Z.gd
                  · exact hT
                  · refine mv_val ?_ ?_ ?_
                    · exact rfl
                    · refine q_var ?_
                      · exact ⟨rfl, Or.inl rfl, rfl, rfl⟩
                    · refine mv_val ?_ ?_ ?_
                      · exact rfl
                      · refine me_int
                      · refine mv_val ?_ ?_ ?_
                        · exact rfl
                        · refine me_int
                        · refine mv_nil
                  · exact st1 rfl (st1 rfl (st1 rfl st0))
                · exact fun _ => rfl
          · refine ms_cons ?_ ?_
            · refine ms_ret ?_
              · refine me_bin' o_sub v_sub ?_ ?_
                · refine q_var ?_
                  · exact ⟨rfl, Or.inl rfl, rfl, rfl⟩
                · refine me_toW ?_
                  · refine me_int
            · refine ms_nil
          · refine ms_nil
        · refine ms_cons ?_ ?_
          · refine ms_if ?_ ?_ ?_
            · refine mt_cmp' (o_eq Z.u64) v_G ?_ ?_ ?_
              · exact rfl
              · refine q_var ?_
                · exact ⟨rfl, Or.inl rfl, rfl, rfl⟩
              · refine me_toW ?_
                · refine me_int
            · refine ms_cons ?_ ?_
              · refine ms_ret ?_
                · refine me_ix' ?_ ?_ ?_
                  · exact rfl
                  · refine me_lst ?_ ?_
                    · exact LenIs.le (len1 (len1 (len1 (len1 (len1 (len1 (len1 (len1 (len1 (len1 (len1 (len1 (len1 len0))))))))))))) (by decide)
                    · refine ma_cons ?_ ?_ ?_
                      · exact rfl
                      · refine me_non
                      · refine ma_cons ?_ ?_ ?_
                        · exact rfl
                        · refine me_bl
                        · refine ma_cons ?_ ?_ ?_
                          · exact rfl
                          · refine me_bl
                          · refine ma_cons ?_ ?_ ?_
                            · exact rfl
                            · refine me_un un_neg v_neg ?_
                              · refine me_int
                            · refine ma_cons ?_ ?_ ?_
                              · exact rfl
                              · refine me_int
                              · refine ma_cons ?_ ?_ ?_
                                · exact rfl
                                · refine me_int
                                · refine ma_cons ?_ ?_ ?_
                                  · exact rfl
                                  · refine me_int
                                  · refine ma_cons ?_ ?_ ?_
                                    · exact rfl
                                    · refine me_int
                                    · refine ma_cons ?_ ?_ ?_
                                      · exact rfl
                                      · refine me_int
                                      · refine ma_cons ?_ ?_ ?_
                                        · exact rfl
                                        · refine me_str
                                        · refine ma_cons ?_ ?_ ?_
                                          · exact rfl
                                          · refine me_tup ?_ ?_
                                            · exact LenIs.le len0 (by decide)
                                            · refine ma_nil
                                          · refine ma_cons ?_ ?_ ?_
                                            · exact rfl
                                            · refine me_lst ?_ ?_
                                              · exact LenIs.le len0 (by decide)
                                              · refine ma_nil
                                            · refine ma_cons ?_ ?_ ?_
                                              · exact rfl
                                              · refine me_dict0
                                              · refine ma_nil
                  · refine me_toD ?_
                    · refine me_toW ?_
                      · refine me_call (ps := ["deck", "many"]) (fa := c.f__law_draw) (fd := c.d__law_draw) (k := 42) ?_ ?_ ?_ ?_ ?_ ?_ ?_
                        · exact ⟨rfl, c.m__law_draw, c.F__law_draw.kp, c.B__law_draw, rfl⟩
                        · exact (ok__law_draw c hS).mono (by decide)
                        · exact Z.room
                        · exact Z.gd
                        · exact hT
                        · refine mv_io ?_ ?_ ?_ ?_ ?_
                          · exact rfl
                          · exact Or.inl rfl
                          · exact rfl
                          · exact rfl
                          · refine mv_val ?_ ?_ ?_
                            · exact rfl
                            · refine me_int
                            · refine mv_nil
                        · exact st1 rfl (st1 rfl st0)
              · refine ms_nil
            · refine ms_nil
          · refine ms_cons ?_ ?_
            · refine ms_if ?_ ?_ ?_
              · refine L2.PW.pt ?_
                refine mw_and ?_ ?_
                · refine mt_cmp' (o_eq Z.u64) v_G ?_ ?_ ?_
                  · exact rfl
                  · refine q_var ?_
                    · exact ⟨rfl, Or.inl rfl, rfl, rfl⟩
                  · refine me_toW ?_
                    · refine me_int
                · refine mw_one_and ?_
                  · refine mt_val ?_ ?_
                    · refine me_isi .tuple ?_ ?_ ?_ ?_ ?_ ?_ ?_
                      · exact rfl
                      · exact rfl
                      · exact c.n_isinstance
                      · exact rfl
                      · exact c.n_tuple
                      · exact rfl
                      · refine me_toD ?_
                        · refine me_toW ?_
                          · refine q_var ?_
                            · exact ⟨rfl, Or.inl rfl, rfl, rfl⟩
                    · exact fun _ => rfl
              · refine ms_cons ?_ ?_
                · refine ms_ret ?_
                  · refine q_list ?_ ?_ ?_
                    · exact ⟨rfl, c.n_list⟩
                    · exact st1 rfl st0
                    · refine maW_of ?_
                      · refine ma_cons ?_ ?_ ?_
                        · exact rfl
                        · refine q_var ?_
                          · exact ⟨rfl, Or.inl rfl, rfl, rfl⟩
                        · refine ma_nil
                · refine ms_nil
              · refine ms_nil
            · refine ms_cons ?_ ?_
              · refine ms_if ?_ ?_ ?_
                · refine L2.PW.pt ?_
                  refine mw_and ?_ ?_
                  · refine mt_cmp' (o_eq Z.u64) v_G ?_ ?_ ?_
                    · exact rfl
                    · refine q_var ?_
                      · exact ⟨rfl, Or.inl rfl, rfl, rfl⟩
                    · refine me_toW ?_
                      · refine me_int
                  · refine mw_one_and ?_
                    · refine mt_val ?_ ?_
                      · refine me_isi .tuple ?_ ?_ ?_ ?_ ?_ ?_ ?_
                        · exact rfl
                        · exact rfl
                        · exact c.n_isinstance
                        · exact rfl
                        · exact c.n_tuple
                        · exact rfl
                        · refine me_toD ?_
                          · refine me_toW ?_
                            · refine q_var ?_
                              · exact ⟨rfl, Or.inl rfl, rfl, rfl⟩
                      · exact fun _ => rfl
                · refine ms_cons ?_ ?_
                  · refine ms_ret ?_
                    · refine me_bin' o_add v_add ?_ ?_
                      · refine q_var ?_
                        · exact ⟨rfl, Or.inl rfl, rfl, rfl⟩
                      · refine me_toW ?_
                        · refine me_sl ?_ ?_ ?_
                          · refine me_toD ?_
                            · refine me_toW ?_
                              · refine q_var ?_
                                · exact ⟨rfl, Or.inl rfl, rfl, rfl⟩
                          · refine mp_none
                          · refine mp_some ?_
                            · refine me_int
                  · refine ms_nil
                · refine ms_nil
              · refine ms_cons ?_ ?_
                · refine ms_if ?_ ?_ ?_
                  · refine L2.PW.pt ?_
                    refine mw_and ?_ ?_
                    · refine mt_cmp' (o_eq Z.u64) v_G ?_ ?_ ?_
                      · exact rfl
                      · refine q_var ?_
                        · exact ⟨rfl, Or.inl rfl, rfl, rfl⟩
                      · refine me_toW ?_
                        · refine me_int
                    · refine mw_one_and ?_
                      · refine mt_val ?_ ?_
                        · refine me_isi .tuple ?_ ?_ ?_ ?_ ?_ ?_ ?_
                          · exact rfl
                          · exact rfl
                          · exact c.n_isinstance
                          · exact rfl
                          · exact c.n_tuple
                          · exact rfl
                          · refine me_toD ?_
                            · refine me_toW ?_
                              · refine q_var ?_
                                · exact ⟨rfl, Or.inl rfl, rfl, rfl⟩
                        · exact fun _ => rfl
                  · refine ms_cons ?_ ?_
                    · refine ms_ret ?_
                      · refine me_sl ?_ ?_ ?_
                        · refine me_toD ?_
                          · refine me_toW ?_
                            · refine q_var ?_
                              · exact ⟨rfl, Or.inl rfl, rfl, rfl⟩
                        · refine mp_some ?_
                          · refine me_int
                        · refine mp_none
                    · refine ms_nil
                  · refine ms_nil
                · refine ms_cons ?_ ?_
                  · refine ms_if ?_ ?_ ?_
                    · refine L2.PW.pt ?_
                      refine mw_and ?_ ?_
                      · refine mt_cmp' (o_eq Z.u64) v_G ?_ ?_ ?_
                        · exact rfl
                        · refine q_var ?_
                          · exact ⟨rfl, Or.inl rfl, rfl, rfl⟩
                        · refine me_toW ?_
                          · refine me_int
                      · refine mw_one_and ?_
                        · refine mt_val ?_ ?_
                          · refine me_isi .tuple ?_ ?_ ?_ ?_ ?_ ?_ ?_
                            · exact rfl
                            · exact rfl
                            · exact c.n_isinstance
                            · exact rfl
                            · exact c.n_tuple
                            · exact rfl
                            · refine me_toD ?_
                              · refine me_toW ?_
                                · refine q_var ?_
                                  · exact ⟨rfl, Or.inl rfl, rfl, rfl⟩
                          · exact fun _ => rfl
                    · refine ms_cons ?_ ?_
                      · refine ms_ret ?_
                        · refine me_rev ?_
                          · refine q_var ?_
                            · exact ⟨rfl, Or.inl rfl, rfl, rfl⟩
                      · refine ms_nil
                    · refine ms_nil
                  · refine ms_cons ?_ ?_
                    · refine ms_ret ?_
                      · refine me_ite ?_ ?_ ?_
                        · refine mt_val ?_ ?_
                          · refine me_call (ps := ["value", "low", "high"]) (fa := c.f__law_whole) (fd := c.d__law_whole) (k := 42) ?_ ?_ ?_ ?_ ?_ ?_ ?_
                            · exact ⟨rfl, c.m__law_whole, c.F__law_whole.kp, c.B__law_whole, rfl⟩
                            · exact (ok__law_whole c hS).mono (by decide)
                            · exact Z.room
                            · exact Z.gd
                            · exact hT
                            · refine mv_val ?_ ?_ ?_
                              · exact rfl
                              · refine q_var ?_
                                · exact ⟨rfl, Or.inl rfl, rfl, rfl⟩
                              · refine mv_val ?_ ?_ ?_
                                · exact rfl
                                · refine me_int
                                · refine mv_val ?_ ?_ ?_
                                  · exact rfl
                                  · refine me_int
                                  · refine mv_nil
                            · exact st1 rfl (st1 rfl (st1 rfl st0))
                          · exact fun _ => rfl
                        · refine me_cmp' (o_eq Z.u64) v_G ?_ ?_ ?_
                          · exact rfl
                          · refine q_var ?_
                            · exact ⟨rfl, Or.inl rfl, rfl, rfl⟩
                          · refine me_toW ?_
                            · refine me_int
                        · refine me_call (ps := ["deck", "deep"]) (fa := c.f__law_any) (fd := c.d__law_any) (k := 42) ?_ ?_ ?_ ?_ ?_ ?_ ?_
                          · exact ⟨rfl, c.m__law_any, c.F__law_any.kp, c.B__law_any, rfl⟩
                          · exact (ok__law_any c hS 40).mono (by decide)
                          · exact Z.room
                          · exact Z.gd
                          · exact hT
                          · refine mv_io ?_ ?_ ?_ ?_ ?_
                            · exact rfl
                            · exact Or.inl rfl
                            · exact rfl
                            · exact rfl
                            · refine mv_val ?_ ?_ ?_
                              · exact rfl
                              · refine me_int
                              · refine mv_nil
                          · exact st1 rfl (st1 rfl st0)
                    · refine ms_nil
theorem ok__law_other (c : Facts K mg) (hS : SysD base) : FnG PySem.Challenge.pw_lastsigns_k02_whole_worlds_by_unions w K mg base 43 c.f__law_other c.d__law_other ["deck", "item"] (spOf K mg 2 fn__law_other) := fnG_den c.F__law_other sc__law_other fun cdv A outer s H vs E hr gd => pf__law_other c hS hr gd
/-! _law_least -/
abbrev N__law_least : List Str := ["world", ".0", "one", "own"]
def b__law_least : DenS := (sCons (sRet (dLc (dIt (bin gIx (dVar 0) (dCon (.int 1)))) (gNm 2) (tst (bin gEqB (dLc (dIt (bin gIx (dVar 0) (dCon (.int 1)))) (gNm 3) (tst (dAnd (bin gNeB (dVar 3) (dVar 2)) (dCall 2 false fn__law_lies (aVal (dVar 3) (aVal (dVar 2) agNil))))) (dVar 3) [1, 3]) (dLst aNil))) (dVar 2) [1, 2]))
  sNil)
def fn__law_least : Fn := fnOf 4 [0] b__law_least
theorem sc__law_least : FnScope N__law_least ["world"] (defScope st__law_least) := ⟨rfl, rfl, rfl, by decide +kernel, rfl, by decide +kernel, by decide +kernel⟩
theorem pf__law_least (c : Facts K mg) (hS : SysD base) {cdv : Value} {A : Around} {outer : List PySem.Env} {s : Shared} {H : Hp} {vs : List V} {E : XK} (hr : Room 1 (A.deeper (envOfC "_law_least" (defScope st__law_least) s.heap.objs.size c.f__law_least cdv))) (gd : A.guards = some []) :
    PSs (cxG PySem.Challenge.pw_lastsigns_k02_whole_worlds_by_unions w K mg base N__law_least "_law_least" (defScope st__law_least) c.f__law_least cdv A outer s H E) (defBody st__law_least) (tS (en (cxG PySem.Challenge.pw_lastsigns_k02_whole_worlds_by_unions w K mg base N__law_least "_law_least" (defScope st__law_least) c.f__law_least cdv A outer s H E) [0] (L2.start N__law_least vs)) (WE E) (b__law_least)) := by
  have Z : Cz (cxG PySem.Challenge.pw_lastsigns_k02_whole_worlds_by_unions w K mg base N__law_least "_law_least" (defScope st__law_least) c.f__law_least cdv A outer s H E) 1 := ⟨sc__law_least.nd, rfl, gd, hr, hS⟩
  have hT : Takes (cxG PySem.Challenge.pw_lastsigns_k02_whole_worlds_by_unions w K mg base N__law_least "_law_least" (defScope st__law_least) c.f__law_least cdv A outer s H E) (WE E) := takes_of rfl rfl rfl rfl
  refine ms_cons ?_ ?_
  · refine ms_ret ?_
    · refine me_lc (own := [(".0", 1), ("one", 2)]) (sl := [2]) ?_ ?_ ?_ ?_ ?_ ?_ ?_ ?_ ?_ ?_ ?_
      · exact Z.calm
      · exact Z.nd
      · exact by decide
      · exact by decide
      · exact by decide
      · exact fun _ => rfl
      · refine mi_any ?_
        · refine me_toF ?_
          · refine me_ix' ?_ ?_ ?_
            · exact rfl
            · refine q_var ?_
              · exact ⟨rfl, Or.inr (Or.inl rfl), rfl, rfl⟩
            · refine me_toD ?_
              · refine me_toW ?_
                · refine me_int
      · exact blk_of rfl
      · intro _ _ _ _ _
        refine mg_nm ?_ ?_ ?_ ?_ ?_
        · exact (Cz.blk Z).nd
        · exact rfl
        · exact Or.inr rfl
        · exact Or.inl rfl
        · exact by decide
      · intro _ _ _ _ _
        refine mts_one ?_
        · refine mt_cmp' (o_eq (Cz.blk Z).u64) v_G ?_ ?_ ?_
          · exact rfl
          · refine me_lc (own := [(".0", 1), ("own", 3)]) (sl := [3]) ?_ ?_ ?_ ?_ ?_ ?_ ?_ ?_ ?_ ?_ ?_
            · exact (Cz.blk Z).calm
            · exact (Cz.blk Z).nd
            · exact by decide
            · exact by decide
            · exact by decide
            · exact fun _ => rfl
            · refine mi_any ?_
              · refine me_toF ?_
                · refine me_ix' ?_ ?_ ?_
                  · exact rfl
                  · refine q_var ?_
                    · exact ⟨rfl, Or.inr (Or.inl rfl), rfl, rfl⟩
                  · refine me_toD ?_
                    · refine me_toW ?_
                      · refine me_int
            · exact blk_of rfl
            · intro _ _ _ _ _
              refine mg_nm ?_ ?_ ?_ ?_ ?_
              · exact (Cz.blk (Cz.blk Z)).nd
              · exact rfl
              · exact Or.inl rfl
              · exact Or.inr rfl
              · exact by decide
            · intro _ _ _ _ _
              refine mts_one ?_
              · refine L2.PW.pt ?_
                refine mw_and ?_ ?_
                · refine mt_cmp' (o_ne (Cz.blk (Cz.blk Z)).u64) v_G ?_ ?_ ?_
                  · exact rfl
                  · refine q_var ?_
                    · exact ⟨rfl, Or.inl rfl, rfl, rfl⟩
                  · refine me_toW ?_
                    · refine q_var ?_
                      · exact ⟨rfl, Or.inr (Or.inl rfl), rfl, rfl⟩
                · refine mw_one_and ?_
                  · refine mt_val ?_ ?_
                    · refine me_call (ps := ["one", "other"]) (fa := c.f__law_lies) (fd := c.d__law_lies) (k := 1) ?_ ?_ ?_ ?_ ?_ ?_ ?_
                      · exact ⟨rfl, c.m__law_lies, c.F__law_lies.kp, c.B__law_lies, rfl⟩
                      · exact (ok__law_lies c hS).mono (by decide)
                      · exact (Cz.blk (Cz.blk Z)).room
                      · exact (Cz.blk (Cz.blk Z)).gd
                      · exact takes_F
                      · refine mv_val ?_ ?_ ?_
                        · exact rfl
                        · refine q_var ?_
                          · exact ⟨rfl, Or.inl rfl, rfl, rfl⟩
                        · refine mv_val ?_ ?_ ?_
                          · exact rfl
                          · refine q_var ?_
                            · exact ⟨rfl, Or.inr (Or.inl rfl), rfl, rfl⟩
                          · refine mv_nil
                      · exact st1 rfl (st1 rfl st0)
                    · exact fun _ => rfl
            · intro _ _ _ _ _
              refine q_var ?_
              · exact ⟨rfl, Or.inl rfl, rfl, rfl⟩
          · refine me_toW ?_
            · refine me_lst ?_ ?_
              · exact LenIs.le len0 (by decide)
              · refine ma_nil
      · intro _ _ _ _ _
        refine q_var ?_
        · exact ⟨rfl, Or.inr (Or.inl rfl), rfl, rfl⟩
  · refine ms_nil
theorem ok__law_least (c : Facts K mg) (hS : SysD base) : FnG PySem.Challenge.pw_lastsigns_k02_whole_worlds_by_unions w K mg base 2 c.f__law_least c.d__law_least ["world"] (spOf K mg 1 fn__law_least) := fnG_den c.F__law_least sc__law_least fun cdv A outer s H vs E hr gd => pf__law_least c hS hr gd
/-! _law_unions -/
abbrev N__law_unions : List Str := ["sets", "found", "own", "fresh", ".0", "other", "spot", "one"]
def b__law_unions : DenS := (sCons (sNew 1 aNil)
  (sCons (sLp [2, 3] (sFor (dIt (dVar 0)) (gNm 2)
 (sEnd [2, 3]
 (sCons (sAsg (bin gAdd (dLst (aCons (dVar 2) aNil)) (dFix (nLcO 1 (gNm 5) tYesD (dCall 1 false fn__law_union (aVal (dLst (aCons (dVar 2) (aCons (dVar 5) aNil))) agNil)) [4, 5]))) (gNm 3))
  (sCons (sExt 1 (dLc (dEnum (dVar 3)) (gTp 2 (gsCons (gNm 6) (gsCons (gNm 7) gsNil))) (tst (dAnd (bin gNotInB (dVar 7) (dOwn 1)) (bin gNotInB (dVar 7) (dSl (dVar 3) none (some (dVar 6)))))) (dVar 7) [4, 6, 7]))
  sNil)))))
  (sCons (sRet (fnc gSorted (aCons (dOwn 1) aNil)))
  sNil)))
def fn__law_unions : Fn := fnOf 8 [0] b__law_unions
theorem sc__law_unions : FnScope N__law_unions ["sets"] (defScope st__law_unions) := ⟨rfl, rfl, rfl, by decide +kernel, rfl, by decide +kernel, by decide +kernel⟩
theorem pf__law_unions (c : Facts K mg) (hS : SysD base) {cdv : Value} {A : Around} {outer : List PySem.Env} {s : Shared} {H : Hp} {vs : List V} {E : XK} (hr : Room 1 (A.deeper (envOfC "_law_unions" (defScope st__law_unions) s.heap.objs.size c.f__law_unions cdv))) (gd : A.guards = some []) :
    PSs (cxG PySem.Challenge.pw_lastsigns_k02_whole_worlds_by_unions w K mg base N__law_unions "_law_unions" (defScope st__law_unions) c.f__law_unions cdv A outer s H E) (defBody st__law_unions) (tS (en (cxG PySem.Challenge.pw_lastsigns_k02_whole_worlds_by_unions w K mg base N__law_unions "_law_unions" (defScope st__law_unions) c.f__law_unions cdv A outer s H E) [0] (L2.start N__law_unions vs)) (WE E) (b__law_unions)) := by
  have Z : Cz (cxG PySem.Challenge.pw_lastsigns_k02_whole_worlds_by_unions w K mg base N__law_unions "_law_unions" (defScope st__law_unions) c.f__law_unions cdv A outer s H E) 1 := ⟨sc__law_unions.nd, rfl, gd, hr, hS⟩
  have hT : Takes (cxG PySem.Challenge.pw_lastsigns_k02_whole_worlds_by_unions w K mg base N__law_unions "_law_unions" (defScope st__law_unions) c.f__law_unions cdv A outer s H E) (WE E) := takes_of rfl rfl rfl rfl
  refine ms_cons ?_ ?_
  · refine ms_new ?_ ?_ ?_ ?_ ?_ ?_ ?_
    · exact rfl
    · exact Z.nd
    · exact rfl
    · exact Or.inr rfl
    · exact Or.inl rfl
    · exact by decide
    · refine mn_lst ?_ ?_
      · exact LenIs.le len0 (by decide)
      · refine ma_nil
  · refine ms_cons ?_ ?_
    · refine ms_lp ?_
      · refine ms_for (sl := [2]) ?_ ?_ ?_ ?_ ?_ ?_
        · exact L2.passes_of rfl
        · exact Z.calm
        · exact fun _ => rfl
        · refine mi_any ?_
          · refine me_toF ?_
            · refine q_var ?_
              · exact ⟨rfl, Or.inl rfl, rfl, rfl⟩
        · refine mg_nm ?_ ?_ ?_ ?_ ?_
          · exact Z.nd
          · exact rfl
          · exact Or.inr rfl
          · exact Or.inl rfl
          · exact by decide
        · refine ms_ends ?_
          · refine ms_cons ?_ ?_
            · refine ms_asg (sl := [3]) ?_ ?_ ?_ ?_ ?_
              · exact rfl
              · exact rfl
              · exact rfl
              · refine me_bin' o_add v_add ?_ ?_
                · refine me_lst ?_ ?_
                  · exact LenIs.le (len1 len0) (by decide)
                  · refine ma_cons ?_ ?_ ?_
                    · exact rfl
                    · refine q_var ?_
                      · exact ⟨rfl, Or.inr (Or.inl rfl), rfl, rfl⟩
                    · refine ma_nil
                · refine me_toW ?_
                  · refine me_fix ?_
                    · refine mn_lcO (own := [(".0", 4), ("other", 5)]) (sl := [5]) ?_ ?_ ?_ ?_ ?_ ?_ ?_ ?_ ?_ ?_ ?_ ?_ ?_ ?_ ?_
                      · exact rfl
                      · exact Or.inr (Or.inl rfl)
                      · exact rfl
                      · exact rfl
                      · exact by decide
                      · exact Z.calm
                      · exact Z.nd
                      · exact by decide
                      · exact by decide
                      · exact by decide
                      · exact fun _ => rfl
                      · exact blk_of rfl
                      · intro _ _ _ _ _
                        refine mg_nm ?_ ?_ ?_ ?_ ?_
                        · exact (Cz.blk Z).nd
                        · exact rfl
                        · exact Or.inl rfl
                        · exact Or.inr rfl
                        · exact by decide
                      · intro _ _ _ _ _
                        refine mts_nil
                      · intro _ _ _ _ _
                        refine me_call (ps := ["sets"]) (fa := c.f__law_union) (fd := c.d__law_union) (k := 1) ?_ ?_ ?_ ?_ ?_ ?_ ?_
                        · exact ⟨rfl, c.m__law_union, c.F__law_union.kp, c.B__law_union, rfl⟩
                        · exact (ok__law_union c hS).mono (by decide)
                        · exact (Cz.blk Z).room
                        · exact (Cz.blk Z).gd
                        · exact takes_F
                        · refine mv_val ?_ ?_ ?_
                          · exact rfl
                          · refine me_lst ?_ ?_
                            · exact LenIs.le (len1 (len1 len0)) (by decide)
                            · refine ma_cons ?_ ?_ ?_
                              · exact rfl
                              · refine q_var ?_
                                · exact ⟨rfl, Or.inr (Or.inl rfl), rfl, rfl⟩
                              · refine ma_cons ?_ ?_ ?_
                                · exact rfl
                                · refine q_var ?_
                                  · exact ⟨rfl, Or.inl rfl, rfl, rfl⟩
                                · refine ma_nil
                          · refine mv_nil
                        · exact st1 rfl st0
              · refine mg_nm ?_ ?_ ?_ ?_ ?_
                · exact Z.nd
                · exact rfl
                · exact Or.inr rfl
                · exact Or.inl rfl
                · exact by decide
            · refine ms_cons ?_ ?_
              · refine ms_ext ?_ ?_ ?_ ?_ ?_ ?_ ?_
                · exact rfl
                · exact Or.inr (Or.inl rfl)
                · exact rfl
                · exact rfl
                · exact rfl
                · exact rfl
                · refine me_lc (own := [(".0", 4), ("spot", 6), ("one", 7)]) (sl := [6, 7]) ?_ ?_ ?_ ?_ ?_ ?_ ?_ ?_ ?_ ?_ ?_
                  · exact Z.calm
                  · exact Z.nd
                  · exact by decide
                  · exact by decide
                  · exact by decide
                  · exact fun _ => rfl
                  · refine mi_enum ?_ ?_ ?_ ?_
                    · exact rfl
                    · exact c.n_enumerate
                    · exact rfl
                    · refine me_toF ?_
                      · refine q_var ?_
                        · exact ⟨rfl, Or.inr (Or.inl rfl), rfl, rfl⟩
                  · exact blk_of rfl
                  · intro _ _ _ _ _
                    refine mg_tup ?_ ?_ ?_
                    · exact (Cz.blk Z).calm
                    · exact st1 rfl (st1 rfl st0)
                    · refine mgs_cons (sl := [6]) (sl' := [7]) ?_ ?_ ?_
                      · exact rfl
                      · refine mg_nm ?_ ?_ ?_ ?_ ?_
                        · exact (Cz.blk Z).nd
                        · exact rfl
                        · exact Or.inl rfl
                        · exact Or.inr rfl
                        · exact by decide
                      · refine mgs_cons (sl := [7]) (sl' := []) ?_ ?_ ?_
                        · exact rfl
                        · refine mg_nm ?_ ?_ ?_ ?_ ?_
                          · exact (Cz.blk Z).nd
                          · exact rfl
                          · exact Or.inl rfl
                          · exact Or.inr rfl
                          · exact by decide
                        · refine mgs_nil
                  · intro _ _ _ _ _
                    refine mts_one ?_
                    · refine L2.PW.pt ?_
                      refine mw_and ?_ ?_
                      · refine mt_cmp' (o_notIn (Cz.blk Z).u65) v_G ?_ ?_ ?_
                        · exact rfl
                        · refine q_var ?_
                          · exact ⟨rfl, Or.inl rfl, rfl, rfl⟩
                        · refine q_own ?_
                          · exact ⟨rfl, Or.inr (Or.inl rfl), rfl, rfl⟩
                      · refine mw_one_and ?_
                        · refine mt_cmp' (o_notIn (Cz.blk Z).u65) v_G ?_ ?_ ?_
                          · exact rfl
                          · refine q_var ?_
                            · exact ⟨rfl, Or.inl rfl, rfl, rfl⟩
                          · refine me_toW ?_
                            · refine me_sl ?_ ?_ ?_
                              · refine me_toD ?_
                                · refine me_toW ?_
                                  · refine q_var ?_
                                    · exact ⟨rfl, Or.inr (Or.inl rfl), rfl, rfl⟩
                              · refine mp_none
                              · refine mp_some ?_
                                · refine q_var ?_
                                  · exact ⟨rfl, Or.inl rfl, rfl, rfl⟩
                  · intro _ _ _ _ _
                    refine q_var ?_
                    · exact ⟨rfl, Or.inl rfl, rfl, rfl⟩
              · refine ms_nil
    · refine ms_cons ?_ ?_
      · refine ms_ret ?_
        · refine q_sorted (k := 1) ?_ ?_ ?_ ?_
          · exact Z
          · exact ⟨rfl, c.n_sorted⟩
          · exact st1 rfl st0
          · refine maW_cons ?_ ?_ ?_
            · exact rfl
            · refine me_toD ?_
              · refine q_own ?_
                · exact ⟨rfl, Or.inr (Or.inl rfl), rfl, rfl⟩
            · refine maW_nil
      · refine ms_nil
theorem ok__law_unions (c : Facts K mg) (hS : SysD base) : FnG PySem.Challenge.pw_lastsigns_k02_whole_worlds_by_unions w K mg base 2 c.f__law_unions c.d__law_unions ["sets"] (spOf K mg 1 fn__law_unions) := fnG_den c.F__law_unions sc__law_unions fun cdv A outer s H vs E hr gd => pf__law_unions c hS hr gd
/-! _law_told_most -/
abbrev N__law_told_most : List Str := ["nodes", "stopped", "is_named", "slip"]
def b__law_told_most : DenS := (sCons (sTry TBL "Unfit" 3
 (sCons (sRet (dTup (aCons (dCon (.str "told")) (aCons (dIte (dVar 2) (dCallK 0 2 2 [1, 0] false fn_at_most agNil (aVal (dVar 1) (aVal (dVar 0) agNil))) (dCall 2 false fn_at_most (aVal (dVar 0) (aVal (dVar 1) agNil)))) aNil))))
  sNil)
 (fun cl => (sCons (sRet (dTup (aCons (dCon (.str "unfit")) (aCons (dCon (.bool (subX TBL cl "SignError"))) aNil))))
  sNil)))
  sNil)
def fn__law_told_most : Fn := fnOf 4 [0, 1, 2] b__law_told_most
theorem sc__law_told_most : FnScope N__law_told_most ["nodes", "stopped", "is_named"] (defScope st__law_told_most) := ⟨rfl, rfl, rfl, by decide +kernel, rfl, by decide +kernel, by decide +kernel⟩
theorem pf__law_told_most (c : Facts K mg) (hS : SysD base) {cdv : Value} {A : Around} {outer : List PySem.Env} {s : Shared} {H : Hp} {vs : List V} {E : XK} (hr : Room 2 (A.deeper (envOfC "_law_told_most" (defScope st__law_told_most) s.heap.objs.size c.f__law_told_most cdv))) (gd : A.guards = some []) :
    PSs (cxG PySem.Challenge.pw_lastsigns_k02_whole_worlds_by_unions w K mg base N__law_told_most "_law_told_most" (defScope st__law_told_most) c.f__law_told_most cdv A outer s H E) (defBody st__law_told_most) (tS (en (cxG PySem.Challenge.pw_lastsigns_k02_whole_worlds_by_unions w K mg base N__law_told_most "_law_told_most" (defScope st__law_told_most) c.f__law_told_most cdv A outer s H E) [0, 1, 2] (L2.start N__law_told_most vs)) (WE E) (b__law_told_most)) := by
  have Z : Cz (cxG PySem.Challenge.pw_lastsigns_k02_whole_worlds_by_unions w K mg base N__law_told_most "_law_told_most" (defScope st__law_told_most) c.f__law_told_most cdv A outer s H E) 2 := ⟨sc__law_told_most.nd, rfl, gd, hr, hS⟩
  have hT : Takes (cxG PySem.Challenge.pw_lastsigns_k02_whole_worlds_by_unions w K mg base N__law_told_most "_law_told_most" (defScope st__law_told_most) c.f__law_told_most cdv A outer s H E) (WE E) := takes_of rfl rfl rfl rfl
  refine ms_cons ?_ ?_
  · refine ms_try (c := .ref c.C_Unfit) ?_ ?_ ?_ ?_ ?_ ?_ ?_ ?_ ?_ ?_ ?_ ?_
    · exact rfl
    · exact rfl
    · exact Z.nd
    · exact rfl
    · exact rfl
    · exact by decide
    · exact start_lt (by decide)
    · exact ⟨rfl, rfl, Or.inl c.m_Unfit⟩
    · exact hT
    · exact c.T_Unfit
    · intro W1 pn1 xe1 hT po
      refine ms_cons ?_ ?_
      · refine ms_ret ?_
        · refine me_tup ?_ ?_
          · exact LenIs.le (len1 (len1 len0)) (by decide)
          · refine ma_cons ?_ ?_ ?_
            · exact rfl
            · refine me_str
            · refine ma_cons ?_ ?_ ?_
              · exact rfl
              · refine me_ite ?_ ?_ ?_
                · refine mt_val ?_ ?_
                  · refine q_var ?_
                    · exact ⟨rfl, Or.inl rfl, rfl, rfl⟩
                  · exact fun _ => rfl
                · refine me_callK0 (ps := ["nodes", "stopped"]) (fa := c.f_at_most) (fd := c.d_at_most) (k := 2) (ks := ["stopped", "nodes"]) (perm := [1, 0]) ?_ ?_ ?_ ?_ ?_ ?_ ?_ ?_ ?_ ?_
                  · exact ⟨rfl, c.m_at_most, c.F_at_most.kp, kwb_at_most_0_stopped_nodes c, rfl⟩
                  · exact (ok_at_most c hS).mono (by decide)
                  · exact (Cz.tr Z).room
                  · exact (Cz.tr Z).gd
                  · exact hT
                  · refine mk_val ?_ ?_
                    · refine q_var ?_
                      · exact ⟨rfl, Or.inl rfl, rfl, rfl⟩
                    · refine mk_val ?_ ?_
                      · refine q_var ?_
                        · exact ⟨rfl, Or.inl rfl, rfl, rfl⟩
                      · refine mk_nil
                  · exact rfl
                  · exact rfl
                  · exact rfl
                  · exact rfl
                · refine me_call (ps := ["nodes", "stopped"]) (fa := c.f_at_most) (fd := c.d_at_most) (k := 2) ?_ ?_ ?_ ?_ ?_ ?_ ?_
                  · exact ⟨rfl, c.m_at_most, c.F_at_most.kp, c.B_at_most, rfl⟩
                  · exact (ok_at_most c hS).mono (by decide)
                  · exact (Cz.tr Z).room
                  · exact (Cz.tr Z).gd
                  · exact hT
                  · refine mv_val ?_ ?_ ?_
                    · exact rfl
                    · refine q_var ?_
                      · exact ⟨rfl, Or.inl rfl, rfl, rfl⟩
                    · refine mv_val ?_ ?_ ?_
                      · exact rfl
                      · refine q_var ?_
                        · exact ⟨rfl, Or.inl rfl, rfl, rfl⟩
                      · refine mv_nil
                  · exact st1 rfl (st1 rfl st0)
              · refine ma_nil
      · refine ms_nil
    · intro a1 oe1 cl1 cls1 pn1 hk1 hm1 hz1 hf1
      refine ms_cons ?_ ?_
      · refine ms_ret ?_
        · refine me_tup ?_ ?_
          · exact LenIs.le (len1 (len1 len0)) (by decide)
          · refine ma_cons ?_ ?_ ?_
            · exact rfl
            · refine me_str
            · refine ma_cons ?_ ?_ ?_
              · exact rfl
              · refine ms_isE (E := c.C_SignError) (cls := cls1) ?_ ?_ ?_ ?_ ?_ ?_ ?_ ?_ ?_ ?_ ?_ ?_
                · exact c.E_SignError
                · exact hk1
                · exact hm1
                · exact hz1
                · exact hf1
                · exact ⟨rfl, Or.inl rfl, rfl, rfl⟩
                · exact start_lt (by decide)
                · exact rfl
                · exact c.n_isinstance
                · exact rfl
                · exact c.m_SignError
                · exact rfl
              · refine ma_nil
      · refine ms_nil
  · refine ms_nil
theorem ok__law_told_most (c : Facts K mg) (hS : SysD base) : FnG PySem.Challenge.pw_lastsigns_k02_whole_worlds_by_unions w K mg base 3 c.f__law_told_most c.d__law_told_most ["nodes", "stopped", "is_named"] (spOf K mg 3 fn__law_told_most) := fnG_den c.F__law_told_most sc__law_told_most fun cdv A outer s H vs E hr gd => pf__law_told_most c hS hr gd
/-! law -/
abbrev N_law : List Str := ["script", "deck", "turn", "nodes", "stopped", "due", "world", "kept", "least", "told", ".0", "own"]
def b_law : DenS := (sCons (sCall 1 1 fn__law_deck (aIo 0 agNil))
  (sCons (sLp [2, 3, 4, 5] (sFor (dRng1 (dCon (.int 12))) (gNm 2)
 (sEnd [2, 3, 4, 5]
 (sCons (sAsg (dIte (bin gGt (dCall 2 false fn__law_draw (aIo 1 (aVal (dCon (.int 3)) agNil))) (dCon (.int 0))) (bin gAdd (dCon (.int 2)) (dCall 2 false fn__law_draw (aIo 1 (aVal (dCon (.int 3)) agNil)))) (bin gSub (dCall 2 false fn__law_draw (aIo 1 (aVal (dCon (.int 8)) agNil))) (dCon (.int 1)))) (gNm 3))
  (sCons (sAsg (bin gSub (dCall 2 false fn__law_draw (aIo 1 (aVal (dCon (.int 7)) agNil))) (dCon (.int 1))) (gNm 4))
  (sCons (sIf (tst (bin gGt (dVar 2) (dCon (.int 8))))
 (sCons (sAsg (dTup (aCons (dCall 2 false fn__law_other (aIo 1 (aVal (dVar 3) agNil))) (aCons (dCall 2 false fn__law_pick (aIo 1 (aVal (dLst (aCons (dCon (.int 1)) (aCons (dCon (.int 0)) (aCons (dCon (.bool true)) (aCons (dCon (.bool false)) (aCons (dCon .none) (aCons (dCon (.str "1")) (aCons (dTup (aCons (dCon (.int 1)) aNil)) aNil)))))))) agNil))) aNil))) (gTp 2 (gsCons (gNm 3) (gsCons (gNm 4) gsNil))))
  sNil)
 sNil)
  (sCons (sAsg (dTup (aCons (dCon (.str "unfit")) (aCons (dCon (.bool true)) aNil))) (gNm 5))
  (sCons (sIf (tst (dAnd (dCall 3 false fn__law_whole (aVal (dVar 3) (aVal (dCon (.int 2)) (aVal (dCon (.int 4)) agNil)))) (dCall 3 false fn__law_whole (aVal (dVar 4) (aVal (dCon (.int 0)) (aVal (bin gSub (dVar 3) (dCon (.int 1))) agNil))))))
 (sCons (sAsg (dTup (aCons (dCon (.str "told")) (aCons (dTup (aCons (dVar 3) (aCons (fnc gTuple (aCons (dLc (dIt (dCall 1 false fn__law_sets (aVal (dVar 3) agNil))) (gNm 11) (tst (bin gGe (fnc gLen (aCons (dVar 11) aNil)) (bin gSub (dVar 3) (dVar 4)))) (dVar 11) [10, 11]) aNil)) aNil))) aNil))) (gNm 5))
  sNil)
 sNil)
  (sCons (sIf (tst (dNot (dCall 2 false (fn__law_same 40) (aVal (dCall 3 false fn__law_told_most (aVal (dVar 3) (aVal (dVar 4) (aVal (bin gEqB (dVar 2) (dCon (.int 3))) agNil)))) (aVal (dVar 5) agNil)))))
 (sCons (sRet (dCon (.bool false)))
  sNil)
 sNil)
  sNil)))))))))
  (sCons (sLp [2, 5, 6, 7, 8, 9] (sFor (dRng1 (dCon (.int 8))) (gNm 2)
 (sEnd [2, 5, 6, 7, 8, 9]
 (sCons (sAsg (dCall 1 false fn__law_world (aIo 1 agNil)) (gNm 6))
  (sCons (sPar 7 8 (.val (fnc gShow (aCons (dVar 6) aNil))) (.val (fnc gTuple (aCons (dCall 1 false fn__law_least (aVal (dVar 6) agNil)) aNil))))
  (sCons (sAsg (bin gEqB (dCall 1 false fn__law_unions (aVal (dVar 8) agNil)) (fnc gList (aCons (bin gIx (dVar 6) (dCon (.int 1))) aNil))) (gNm 5))
  (sCons (sAsg (dIte (bin gEqB (dVar 2) (dCon (.int 1))) (dCallK 0 1 1 [0] false fn_least_rights agNil (aVal (dVar 6) agNil)) (dCall 1 false fn_least_rights (aVal (dVar 6) agNil))) (gNm 9))
  (sCons (sIf (tst (dOr (dNot (dCall 2 false (fn__law_same 40) (aVal (dVar 9) (aVal (dVar 8) agNil)))) (dNot (dCall 2 false (fn__law_same 40) (aVal (dCall 1 false fn_least_rights (aVal (dVar 6) agNil)) (aVal (dVar 8) agNil))))))
 (sCons (sRet (dCon (.bool false)))
  sNil)
 sNil)
  (sCons (sIf (tst (dOr (dNot (dCall 2 false (fn__law_same 40) (aVal (dIte (bin gEqB (dVar 2) (dCon (.int 2))) (dCallK 0 1 1 [0] false fn_is_joined agNil (aVal (dVar 6) agNil)) (dCall 1 false fn_is_joined (aVal (dVar 6) agNil))) (aVal (dVar 5) agNil)))) (bin gNeB (fnc gShow (aCons (dVar 6) aNil)) (dVar 7))))
 (sCons (sRet (dCon (.bool false)))
  sNil)
 sNil)
  sNil)))))))))
  (sCons (sRet (dCon (.bool true)))
  sNil))))
def fn_law : Fn := fnOf 12 [0] b_law
theorem sc_law : FnScope N_law ["script"] (defScope st_law) := ⟨rfl, rfl, rfl, by decide +kernel, rfl, by decide +kernel, by decide +kernel⟩
theorem pf_law (c : Facts K mg) (hS : SysD base) {cdv : Value} {A : Around} {outer : List PySem.Env} {s : Shared} {H : Hp} {vs : List V} {E : XK} (hr : Room 43 (A.deeper (envOfC "law" (defScope st_law) s.heap.objs.size c.f_law cdv))) (gd : A.guards = some []) :
    PSs (cxG PySem.Challenge.pw_lastsigns_k02_whole_worlds_by_unions w K mg base N_law "law" (defScope st_law) c.f_law cdv A outer s H E) (defBody st_law) (tS (en (cxG PySem.Challenge.pw_lastsigns_k02_whole_worlds_by_unions w K mg base N_law "law" (defScope st_law) c.f_law cdv A outer s H E) [0] (L2.start N_law vs)) (WE E) (b_law)) := by
  have Z : Cz (cxG PySem.Challenge.pw_lastsigns_k02_whole_worlds_by_unions w K mg base N_law "law" (defScope st_law) c.f_law cdv A outer s H E) 43 := ⟨sc_law.nd, rfl, gd, hr, hS⟩
  have hT : Takes (cxG PySem.Challenge.pw_lastsigns_k02_whole_worlds_by_unions w K mg base N_law "law" (defScope st_law) c.f_law cdv A outer s H E) (WE E) := takes_of rfl rfl rfl rfl
  refine ms_cons ?_ ?_
  · refine ms_call (ps := ["script"]) (fa := c.f__law_deck) (fd := c.d__law_deck) (k := 43) ?_ ?_ ?_ ?_ ?_ ?_ ?_ ?_ ?_ ?_ ?_ ?_ ?_
    · exact rfl
    · exact Z.nd
    · exact rfl
    · exact Or.inl rfl
    · exact Or.inl rfl
    · exact by decide
    · exact ⟨rfl, c.m__law_deck, c.F__law_deck.kp, c.B__law_deck, rfl⟩
    · exact (ok__law_deck c hS).mono (by decide)
    · exact Z.room
    · exact Z.gd
    · exact hT
    · refine mv_io ?_ ?_ ?_ ?_ ?_
      · exact rfl
      · exact Or.inl rfl
      · exact rfl
      · exact rfl
      · refine mv_nil
    · exact st1 rfl st0
  · refine ms_cons ?_ ?_
    · refine ms_lp ?_
      · refine ms_for (sl := [2]) ?_ ?_ ?_ ?_ ?_ ?_
        · exact L2.passes_of rfl
        · exact Z.calm
        · exact fun _ => rfl
        · refine mi_range1 ?_ ?_ ?_ ?_
          · exact rfl
          · exact c.n_range
          · exact rfl
          · refine me_int
        · refine mg_nm ?_ ?_ ?_ ?_ ?_
          · exact Z.nd
          · exact rfl
          · exact Or.inl rfl
          · exact Or.inr rfl
          · exact by decide
        · refine ms_ends ?_
          · refine ms_cons ?_ ?_
            · refine ms_asg (sl := [3]) ?_ ?_ ?_ ?_ ?_
              · exact rfl
              · exact rfl
              · exact rfl
              · refine me_ite ?_ ?_ ?_
                · refine mt_cmp' o_gt v_G ?_ ?_ ?_
                  · exact rfl
                  · refine me_call (ps := ["deck", "many"]) (fa := c.f__law_draw) (fd := c.d__law_draw) (k := 43) ?_ ?_ ?_ ?_ ?_ ?_ ?_
                    · exact ⟨rfl, c.m__law_draw, c.F__law_draw.kp, c.B__law_draw, rfl⟩
                    · exact (ok__law_draw c hS).mono (by decide)
                    · exact Z.room
                    · exact Z.gd
                    · exact hT
                    · refine mv_io ?_ ?_ ?_ ?_ ?_
                      · exact rfl
                      · exact Or.inl rfl
                      · exact rfl
                      · exact rfl
                      · refine mv_val ?_ ?_ ?_
                        · exact rfl
                        · refine me_int
                        · refine mv_nil
                    · exact st1 rfl (st1 rfl st0)
                  · refine me_toW ?_
                    · refine me_int
                · refine me_bin' o_add v_add ?_ ?_
                  · refine me_int
                  · refine me_toW ?_
                    · refine me_call (ps := ["deck", "many"]) (fa := c.f__law_draw) (fd := c.d__law_draw) (k := 43) ?_ ?_ ?_ ?_ ?_ ?_ ?_
                      · exact ⟨rfl, c.m__law_draw, c.F__law_draw.kp, c.B__law_draw, rfl⟩
                      · exact (ok__law_draw c hS).mono (by decide)
                      · exact Z.room
                      · exact Z.gd
                      · exact hT
                      · refine mv_io ?_ ?_ ?_ ?_ ?_
                        · exact rfl
                        · exact Or.inl rfl
                        · exact rfl
                        · exact rfl
                        · refine mv_val ?_ ?_ ?_
                          · exact rfl
                          · refine me_int
                          · refine mv_nil
                      · exact st1 rfl (st1 rfl st0)
                · refine me_bin' o_sub v_sub ?_ ?_
                  · refine me_call (ps := ["deck", "many"]) (fa := c.f__law_draw) (fd := c.d__law_draw) (k := 43) ?_ ?_ ?_ ?_ ?_ ?_ ?_
                    · exact ⟨rfl, c.m__law_draw, c.F__law_draw.kp, c.B__law_draw, rfl⟩
                    · exact (ok__law_draw c hS).mono (by decide)
                    · exact Z.room
                    · exact Z.gd
                    · exact hT
                    · refine mv_io ?_ ?_ ?_ ?_ ?_
                      · exact rfl
                      · exact Or.inl rfl
                      · exact rfl
                      · exact rfl
                      · refine mv_val ?_ ?_ ?_
                        · exact rfl
                        · refine me_int
                        · refine mv_nil
                    · exact st1 rfl (st1 rfl st0)
                  · refine me_toW ?_
                    · refine me_int
              · refine mg_nm ?_ ?_ ?_ ?_ ?_
                · exact Z.nd
                · exact rfl
                · exact Or.inr rfl
                · exact Or.inl rfl
                · exact by decide
            · refine ms_cons ?_ ?_
              · refine ms_asg (sl := [4]) ?_ ?_ ?_ ?_ ?_
                · exact rfl
                · exact rfl
                · exact rfl
                · refine me_bin' o_sub v_sub ?_ ?_
                  · refine me_call (ps := ["deck", "many"]) (fa := c.f__law_draw) (fd := c.d__law_draw) (k := 43) ?_ ?_ ?_ ?_ ?_ ?_ ?_
                    · exact ⟨rfl, c.m__law_draw, c.F__law_draw.kp, c.B__law_draw, rfl⟩
                    · exact (ok__law_draw c hS).mono (by decide)
                    · exact Z.room
                    · exact Z.gd
                    · exact hT
                    · refine mv_io ?_ ?_ ?_ ?_ ?_
                      · exact rfl
                      · exact Or.inl rfl
                      · exact rfl
                      · exact rfl
                      · refine mv_val ?_ ?_ ?_
                        · exact rfl
                        · refine me_int
                        · refine mv_nil
                    · exact st1 rfl (st1 rfl st0)
                  · refine me_toW ?_
                    · refine me_int
                · refine mg_nm ?_ ?_ ?_ ?_ ?_
                  · exact Z.nd
                  · exact rfl
                  · exact Or.inr rfl
                  · exact Or.inl rfl
                  · exact by decide
              · refine ms_cons ?_ ?_
                · refine ms_if ?_ ?_ ?_
                  · refine mt_cmp' o_gt v_G ?_ ?_ ?_
                    · exact rfl
                    · refine q_var ?_
                      · exact ⟨rfl, Or.inl rfl, rfl, rfl⟩
                    · refine me_toW ?_
                      · refine me_int
                  · refine ms_cons ?_ ?_
                    · refine ms_asg (sl := [3, 4]) ?_ ?_ ?_ ?_ ?_
                      · exact rfl
                      · exact rfl
                      · exact rfl
                      · refine me_tup ?_ ?_
                        · exact LenIs.le (len1 (len1 len0)) (by decide)
                        · refine ma_cons ?_ ?_ ?_
                          · exact rfl
                          · refine me_call (ps := ["deck", "item"]) (fa := c.f__law_other) (fd := c.d__law_other) (k := 43) ?_ ?_ ?_ ?_ ?_ ?_ ?_
                            · exact ⟨rfl, c.m__law_other, c.F__law_other.kp, c.B__law_other, rfl⟩
                            · exact (ok__law_other c hS).mono (by decide)
                            · exact Z.room
                            · exact Z.gd
                            · exact hT
                            · refine mv_io ?_ ?_ ?_ ?_ ?_
                              · exact rfl
                              · exact Or.inl rfl
                              · exact rfl
                              · exact rfl
                              · refine mv_val ?_ ?_ ?_
                                · exact rfl
                                · refine q_var ?_
                                  · exact ⟨rfl, Or.inr (Or.inl rfl), rfl, rfl⟩
                                · refine mv_nil
                            · exact st1 rfl (st1 rfl st0)
                          · refine ma_cons ?_ ?_ ?_
                            · exact rfl
                            · refine me_call (ps := ["deck", "items"]) (fa := c.f__law_pick) (fd := c.d__law_pick) (k := 43) ?_ ?_ ?_ ?_ ?_ ?_ ?_
                              · exact ⟨rfl, c.m__law_pick, c.F__law_pick.kp, c.B__law_pick, rfl⟩
                              · exact (ok__law_pick c hS).mono (by decide)
                              · exact Z.room
                              · exact Z.gd
                              · exact hT
                              · refine mv_io ?_ ?_ ?_ ?_ ?_
                                · exact rfl
                                · exact Or.inl rfl
                                · exact rfl
                                · exact rfl
                                · refine mv_val ?_ ?_ ?_
                                  · exact rfl
                                  · refine me_lst ?_ ?_
                                    · exact LenIs.le (len1 (len1 (len1 (len1 (len1 (len1 (len1 len0))))))) (by decide)
                                    · refine ma_cons ?_ ?_ ?_
                                      · exact rfl
                                      · refine me_int
                                      · refine ma_cons ?_ ?_ ?_
                                        · exact rfl
                                        · refine me_int
                                        · refine ma_cons ?_ ?_ ?_
                                          · exact rfl
                                          · refine me_bl
                                          · refine ma_cons ?_ ?_ ?_
                                            · exact rfl
                                            · refine me_bl
                                            · refine ma_cons ?_ ?_ ?_
                                              · exact rfl
                                              · refine me_non
                                              · refine ma_cons ?_ ?_ ?_
                                                · exact rfl
                                                · refine me_str
                                                · refine ma_cons ?_ ?_ ?_
                                                  · exact rfl
                                                  · refine me_tup ?_ ?_
                                                    · exact LenIs.le (len1 len0) (by decide)
                                                    · refine ma_cons ?_ ?_ ?_
                                                      · exact rfl
                                                      · refine me_int
                                                      · refine ma_nil
                                                  · refine ma_nil
                                  · refine mv_nil
                              · exact st1 rfl (st1 rfl st0)
                            · refine ma_nil
                      · refine mg_tup ?_ ?_ ?_
                        · exact Z.calm
                        · exact st1 rfl (st1 rfl st0)
                        · refine mgs_cons (sl := [3]) (sl' := [4]) ?_ ?_ ?_
                          · exact rfl
                          · refine mg_nm ?_ ?_ ?_ ?_ ?_
                            · exact Z.nd
                            · exact rfl
                            · exact Or.inr rfl
                            · exact Or.inl rfl
                            · exact by decide
                          · refine mgs_cons (sl := [4]) (sl' := []) ?_ ?_ ?_
                            · exact rfl
                            · refine mg_nm ?_ ?_ ?_ ?_ ?_
                              · exact Z.nd
                              · exact rfl
                              · exact Or.inr rfl
                              · exact Or.inl rfl
                              · exact by decide
                            · refine mgs_nil
                    · refine ms_nil
                  · refine ms_nil
                · refine ms_cons ?_ ?_
                  · refine ms_asg (sl := [5]) ?_ ?_ ?_ ?_ ?_
                    · exact rfl
                    · exact rfl
                    · exact rfl
                    · refine me_tup ?_ ?_
                      · exact LenIs.le (len1 (len1 len0)) (by decide)
                      · refine ma_cons ?_ ?_ ?_
                        · exact rfl
                        · refine me_str
                        · refine ma_cons ?_ ?_ ?_
                          · exact rfl
                          · refine me_bl
                          · refine ma_nil
                    · refine mg_nm ?_ ?_ ?_ ?_ ?_
                      · exact Z.nd
                      · exact rfl
                      · exact Or.inl rfl
                      · exact Or.inr rfl
                      · exact by decide
                  · refine ms_cons ?_ ?_
                    · refine ms_if ?_ ?_ ?_
                      · refine L2.PW.pt ?_
                        refine mw_and ?_ ?_
                        · refine mt_val ?_ ?_
                          · refine me_call (ps := ["value", "low", "high"]) (fa := c.f__law_whole) (fd := c.d__law_whole) (k := 43) ?_ ?_ ?_ ?_ ?_ ?_ ?_
                            · exact ⟨rfl, c.m__law_whole, c.F__law_whole.kp, c.B__law_whole, rfl⟩
                            · exact (ok__law_whole c hS).mono (by decide)
                            · exact Z.room
                            · exact Z.gd
                            · exact hT
                            · refine mv_val ?_ ?_ ?_
                              · exact rfl
                              · refine q_var ?_
                                · exact ⟨rfl, Or.inr (Or.inl rfl), rfl, rfl⟩
                              · refine mv_val ?_ ?_ ?_
                                · exact rfl
                                · refine me_int
                                · refine mv_val ?_ ?_ ?_
                                  · exact rfl
                                  · refine me_int
                                  · refine mv_nil
                            · exact st1 rfl (st1 rfl (st1 rfl st0))
                          · exact fun _ => rfl
                        · refine mw_one_and ?_
                          · refine mt_val ?_ ?_
                            · refine me_call (ps := ["value", "low", "high"]) (fa := c.f__law_whole) (fd := c.d__law_whole) (k := 43) ?_ ?_ ?_ ?_ ?_ ?_ ?_
                              · exact ⟨rfl, c.m__law_whole, c.F__law_whole.kp, c.B__law_whole, rfl⟩
                              · exact (ok__law_whole c hS).mono (by decide)
                              · exact Z.room
                              · exact Z.gd
                              · exact hT
                              · refine mv_val ?_ ?_ ?_
                                · exact rfl
                                · refine q_var ?_
                                  · exact ⟨rfl, Or.inr (Or.inl rfl), rfl, rfl⟩
                                · refine mv_val ?_ ?_ ?_
                                  · exact rfl
                                  · refine me_int
                                  · refine mv_val ?_ ?_ ?_
                                    · exact rfl
                                    · refine me_bin' o_sub v_sub ?_ ?_
                                      · refine q_var ?_
                                        · exact ⟨rfl, Or.inr (Or.inl rfl), rfl, rfl⟩
                                      · refine me_toW ?_
                                        · refine me_int
                                    · refine mv_nil
                              · exact st1 rfl (st1 rfl (st1 rfl st0))
                            · exact fun _ => rfl
                      · refine ms_cons ?_ ?_
                        · refine ms_asg (sl := [5]) ?_ ?_ ?_ ?_ ?_
                          · exact rfl
                          · exact rfl
                          · exact rfl
                          · refine me_tup ?_ ?_
                            · exact LenIs.le (len1 (len1 len0)) (by decide)
                            · refine ma_cons ?_ ?_ ?_
                              · exact rfl
                              · refine me_str
                              · refine ma_cons ?_ ?_ ?_
                                · exact rfl
                                · refine me_tup ?_ ?_
                                  · exact LenIs.le (len1 (len1 len0)) (by decide)
                                  · refine ma_cons ?_ ?_ ?_
                                    · exact rfl
                                    · refine q_var ?_
                                      · exact ⟨rfl, Or.inr (Or.inl rfl), rfl, rfl⟩
                                    · refine ma_cons ?_ ?_ ?_
                                      · exact rfl
                                      · refine q_tuple ?_ ?_ ?_
                                        · exact ⟨rfl, c.n_tuple⟩
                                        · exact st1 rfl st0
                                        · refine maW_of ?_
                                          · refine ma_cons ?_ ?_ ?_
                                            · exact rfl
                                            · refine me_lc (own := [(".0", 10), ("own", 11)]) (sl := [11]) ?_ ?_ ?_ ?_ ?_ ?_ ?_ ?_ ?_ ?_ ?_
                                              · exact Z.calm
                                              · exact Z.nd
                                              · exact by decide
                                              · exact by decide
                                              · exact by decide
                                              · exact fun _ => rfl
                                              · refine mi_any ?_
                                                · refine me_toF ?_
                                                  · refine me_call (ps := ["many"]) (fa := c.f__law_sets) (fd := c.d__law_sets) (k := 43) ?_ ?_ ?_ ?_ ?_ ?_ ?_
                                                    · exact ⟨rfl, c.m__law_sets, c.F__law_sets.kp, c.B__law_sets, rfl⟩
                                                    · exact (ok__law_sets c hS).mono (by decide)
                                                    · exact Z.room
                                                    · exact Z.gd
                                                    · exact hT
                                                    · refine mv_val ?_ ?_ ?_
                                                      · exact rfl
                                                      · refine q_var ?_
                                                        · exact ⟨rfl, Or.inr (Or.inl rfl), rfl, rfl⟩
                                                      · refine mv_nil
                                                    · exact st1 rfl st0
                                              · exact blk_of rfl
                                              · intro _ _ _ _ _
                                                refine mg_nm ?_ ?_ ?_ ?_ ?_
                                                · exact (Cz.blk Z).nd
                                                · exact rfl
                                                · exact Or.inl rfl
                                                · exact Or.inr rfl
                                                · exact by decide
                                              · intro _ _ _ _ _
                                                refine mts_one ?_
                                                · refine mt_cmp' o_ge v_G ?_ ?_ ?_
                                                  · exact rfl
                                                  · refine q_len ?_ ?_ ?_
                                                    · exact ⟨rfl, c.n_len⟩
                                                    · exact st1 rfl st0
                                                    · refine maW_of ?_
                                                      · refine ma_cons ?_ ?_ ?_
                                                        · exact rfl
                                                        · refine q_var ?_
                                                          · exact ⟨rfl, Or.inl rfl, rfl, rfl⟩
                                                        · refine ma_nil
                                                  · refine me_toW ?_
                                                    · refine me_bin' o_sub v_sub ?_ ?_
                                                      · refine q_var ?_
                                                        · exact ⟨rfl, Or.inr (Or.inl rfl), rfl, rfl⟩
                                                      · refine me_toW ?_
                                                        · refine q_var ?_
                                                          · exact ⟨rfl, Or.inr (Or.inl rfl), rfl, rfl⟩
                                              · intro _ _ _ _ _
                                                refine q_var ?_
                                                · exact ⟨rfl, Or.inl rfl, rfl, rfl⟩
                                            · refine ma_nil
                                      · refine ma_nil
                                · refine ma_nil
                          · refine mg_nm ?_ ?_ ?_ ?_ ?_
                            · exact Z.nd
                            · exact rfl
                            · exact Or.inl rfl
                            · exact Or.inr rfl
                            · exact by decide
                        · refine ms_nil
                      · refine ms_nil
                    · refine ms_cons ?_ ?_
                      · refine ms_if ?_ ?_ ?_
                        · refine mt_not ?_
                          · refine mt_val ?_ ?_
                            · refine me_call (ps := ["found", "due"]) (fa := c.f__law_same) (fd := c.d__law_same) (k := 43) ?_ ?_ ?_ ?_ ?_ ?_ ?_
                              · exact ⟨rfl, c.m__law_same, c.F__law_same.kp, c.B__law_same, rfl⟩
                              · exact (ok__law_same c hS 40).mono (by decide)
                              · exact Z.room
                              · exact Z.gd
                              · exact hT
                              · refine mv_val ?_ ?_ ?_
                                · exact rfl
                                · refine me_call (ps := ["nodes", "stopped", "is_named"]) (fa := c.f__law_told_most) (fd := c.d__law_told_most) (k := 43) ?_ ?_ ?_ ?_ ?_ ?_ ?_
                                  · exact ⟨rfl, c.m__law_told_most, c.F__law_told_most.kp, c.B__law_told_most, rfl⟩
                                  · exact (ok__law_told_most c hS).mono (by decide)
                                  · exact Z.room
                                  · exact Z.gd
                                  · exact hT
                                  · refine mv_val ?_ ?_ ?_
                                    · exact rfl
                                    · refine q_var ?_
                                      · exact ⟨rfl, Or.inr (Or.inl rfl), rfl, rfl⟩
                                    · refine mv_val ?_ ?_ ?_
                                      · exact rfl
                                      · refine q_var ?_
                                        · exact ⟨rfl, Or.inr (Or.inl rfl), rfl, rfl⟩
                                      · refine mv_val ?_ ?_ ?_
                                        · exact rfl
                                        · refine me_cmp' (o_eq Z.u64) v_G ?_ ?_ ?_
                                          · exact rfl
                                          · refine q_var ?_
                                            · exact ⟨rfl, Or.inl rfl, rfl, rfl⟩
                                          · refine me_toW ?_
                                            · refine me_int
                                        · refine mv_nil
                                  · exact st1 rfl (st1 rfl (st1 rfl st0))
                                · refine mv_val ?_ ?_ ?_
                                  · exact rfl
                                  · refine q_var ?_
                                    · exact ⟨rfl, Or.inl rfl, rfl, rfl⟩
                                  · refine mv_nil
                              · exact st1 rfl (st1 rfl st0)
                            · exact fun _ => rfl
                        · refine ms_cons ?_ ?_
                          · refine ms_ret ?_
                            · refine me_bl
                          · refine ms_nil
                        · refine ms_nil
                      · refine ms_nil
    · refine ms_cons ?_ ?_
      · refine ms_lp ?_
        · refine ms_for (sl := [2]) ?_ ?_ ?_ ?_ ?_ ?_
          · exact L2.passes_of rfl
          · exact Z.calm
          · exact fun _ => rfl
          · refine mi_range1 ?_ ?_ ?_ ?_
            · exact rfl
            · exact c.n_range
            · exact rfl
            · refine me_int
          · refine mg_nm ?_ ?_ ?_ ?_ ?_
            · exact Z.nd
            · exact rfl
            · exact Or.inl rfl
            · exact Or.inr rfl
            · exact by decide
          · refine ms_ends ?_
            · refine ms_cons ?_ ?_
              · refine ms_asg (sl := [6]) ?_ ?_ ?_ ?_ ?_
                · exact rfl
                · exact rfl
                · exact rfl
                · refine me_call (ps := ["deck"]) (fa := c.f__law_world) (fd := c.d__law_world) (k := 43) ?_ ?_ ?_ ?_ ?_ ?_ ?_
                  · exact ⟨rfl, c.m__law_world, c.F__law_world.kp, c.B__law_world, rfl⟩
                  · exact (ok__law_world c hS).mono (by decide)
                  · exact Z.room
                  · exact Z.gd
                  · exact hT
                  · refine mv_io ?_ ?_ ?_ ?_ ?_
                    · exact rfl
                    · exact Or.inl rfl
                    · exact rfl
                    · exact rfl
                    · refine mv_nil
                  · exact st1 rfl st0
                · refine mg_nm ?_ ?_ ?_ ?_ ?_
                  · exact Z.nd
                  · exact rfl
                  · exact Or.inl rfl
                  · exact Or.inr rfl
                  · exact by decide
              · refine ms_cons ?_ ?_
                · refine ms_par (ra := (.val (fnc gShow (aCons (dVar 6) aNil)))) (rb := (.val (fnc gTuple (aCons (dCall 1 false fn__law_least (aVal (dVar 6) agNil)) aNil)))) ?_ ?_ ?_ ?_ ?_ ?_ ?_ ?_ ?_ ?_ ?_ ?_ ?_ ?_
                  · exact Z.calm
                  · exact Z.nd
                  · exact rfl
                  · exact rfl
                  · exact by decide
                  · exact by decide
                  · exact by decide
                  · exact rfl
                  · exact rfl
                  · exact rfl
                  · exact rfl
                  · exact rfl
                  · refine q_repr (k := 43) ?_ ?_ ?_ ?_
                    · exact Z
                    · exact ⟨rfl, c.n_repr⟩
                    · exact st1 rfl st0
                    · refine maW_of ?_
                      · refine ma_cons ?_ ?_ ?_
                        · exact rfl
                        · refine q_var ?_
                          · exact ⟨rfl, Or.inl rfl, rfl, rfl⟩
                        · refine ma_nil
                  · refine q_tuple ?_ ?_ ?_
                    · exact ⟨rfl, c.n_tuple⟩
                    · exact st1 rfl st0
                    · refine maW_of ?_
                      · refine ma_cons ?_ ?_ ?_
                        · exact rfl
                        · refine me_call (ps := ["world"]) (fa := c.f__law_least) (fd := c.d__law_least) (k := 43) ?_ ?_ ?_ ?_ ?_ ?_ ?_
                          · exact ⟨rfl, c.m__law_least, c.F__law_least.kp, c.B__law_least, rfl⟩
                          · exact (ok__law_least c hS).mono (by decide)
                          · exact Z.room
                          · exact Z.gd
                          · exact hT
                          · refine mv_val ?_ ?_ ?_
                            · exact rfl
                            · refine q_var ?_
                              · exact ⟨rfl, Or.inl rfl, rfl, rfl⟩
                            · refine mv_nil
                          · exact st1 rfl st0
                        · refine ma_nil
                · refine ms_cons ?_ ?_
                  · refine ms_asg (sl := [5]) ?_ ?_ ?_ ?_ ?_
                    · exact rfl
                    · exact rfl
                    · exact rfl
                    · refine me_cmp' (o_eq Z.u64) v_G ?_ ?_ ?_
                      · exact rfl
                      · refine me_call (ps := ["sets"]) (fa := c.f__law_unions) (fd := c.d__law_unions) (k := 43) ?_ ?_ ?_ ?_ ?_ ?_ ?_
                        · exact ⟨rfl, c.m__law_unions, c.F__law_unions.kp, c.B__law_unions, rfl⟩
                        · exact (ok__law_unions c hS).mono (by decide)
                        · exact Z.room
                        · exact Z.gd
                        · exact hT
                        · refine mv_val ?_ ?_ ?_
                          · exact rfl
                          · refine q_var ?_
                            · exact ⟨rfl, Or.inl rfl, rfl, rfl⟩
                          · refine mv_nil
                        · exact st1 rfl st0
                      · refine me_toW ?_
                        · refine q_list ?_ ?_ ?_
                          · exact ⟨rfl, c.n_list⟩
                          · exact st1 rfl st0
                          · refine maW_of ?_
                            · refine ma_cons ?_ ?_ ?_
                              · exact rfl
                              · refine me_ix' ?_ ?_ ?_
                                · exact rfl
                                · refine q_var ?_
                                  · exact ⟨rfl, Or.inl rfl, rfl, rfl⟩
                                · refine me_toD ?_
                                  · refine me_toW ?_
                                    · refine me_int
                              · refine ma_nil
                    · refine mg_nm ?_ ?_ ?_ ?_ ?_
                      · exact Z.nd
                      · exact rfl
                      · exact Or.inl rfl
                      · exact Or.inr rfl
                      · exact by decide
                  · refine ms_cons ?_ ?_
                    · refine ms_asg (sl := [9]) ?_ ?_ ?_ ?_ ?_
                      · exact rfl
                      · exact rfl
                      · exact rfl
                      · refine me_ite ?_ ?_ ?_
                        · refine mt_cmp' (o_eq Z.u64) v_G ?_ ?_ ?_
                          · exact rfl
                          · refine q_var ?_
                            · exact ⟨rfl, Or.inl rfl, rfl, rfl⟩
                          · refine me_toW ?_
                            · refine me_int
                        · refine me_callK0 (ps := ["world"]) (fa := c.f_least_rights) (fd := c.d_least_rights) (k := 43) (ks := ["world"]) (perm := [0]) ?_ ?_ ?_ ?_ ?_ ?_ ?_ ?_ ?_ ?_
                          · exact ⟨rfl, c.m_least_rights, c.F_least_rights.kp, kwb_least_rights_0_world c, rfl⟩
                          · exact (ok_least_rights c hS).mono (by decide)
                          · exact Z.room
                          · exact Z.gd
                          · exact hT
                          · refine mk_val ?_ ?_
                            · refine q_var ?_
                              · exact ⟨rfl, Or.inl rfl, rfl, rfl⟩
                            · refine mk_nil
                          · exact rfl
                          · exact rfl
                          · exact rfl
                          · exact rfl
                        · refine me_call (ps := ["world"]) (fa := c.f_least_rights) (fd := c.d_least_rights) (k := 43) ?_ ?_ ?_ ?_ ?_ ?_ ?_
                          · exact ⟨rfl, c.m_least_rights, c.F_least_rights.kp, c.B_least_rights, rfl⟩
                          · exact (ok_least_rights c hS).mono (by decide)
                          · exact Z.room
                          · exact Z.gd
                          · exact hT
                          · refine mv_val ?_ ?_ ?_
                            · exact rfl
                            · refine q_var ?_
                              · exact ⟨rfl, Or.inl rfl, rfl, rfl⟩
                            · refine mv_nil
                          · exact st1 rfl st0
                      · refine mg_nm ?_ ?_ ?_ ?_ ?_
                        · exact Z.nd
                        · exact rfl
                        · exact Or.inl rfl
                        · exact Or.inr rfl
                        · exact by decide
                    · refine ms_cons ?_ ?_
                      · refine ms_if ?_ ?_ ?_
                        · refine L2.PW.pt ?_
                          refine mw_or ?_ ?_
                          · refine mt_not ?_
                            · refine mt_val ?_ ?_
                              · refine me_call (ps := ["found", "due"]) (fa := c.f__law_same) (fd := c.d__law_same) (k := 43) ?_ ?_ ?_ ?_ ?_ ?_ ?_
                                · exact ⟨rfl, c.m__law_same, c.F__law_same.kp, c.B__law_same, rfl⟩
                                · exact (ok__law_same c hS 40).mono (by decide)
                                · exact Z.room
                                · exact Z.gd
                                · exact hT
                                · refine mv_val ?_ ?_ ?_
                                  · exact rfl
                                  · refine q_var ?_
                                    · exact ⟨rfl, Or.inl rfl, rfl, rfl⟩
                                  · refine mv_val ?_ ?_ ?_
                                    · exact rfl
                                    · refine q_var ?_
                                      · exact ⟨rfl, Or.inl rfl, rfl, rfl⟩
                                    · refine mv_nil
                                · exact st1 rfl (st1 rfl st0)
                              · exact fun _ => rfl
                          · refine mw_one_or ?_
                            · refine mt_not ?_
                              · refine mt_val ?_ ?_
                                · refine me_call (ps := ["found", "due"]) (fa := c.f__law_same) (fd := c.d__law_same) (k := 43) ?_ ?_ ?_ ?_ ?_ ?_ ?_
                                  · exact ⟨rfl, c.m__law_same, c.F__law_same.kp, c.B__law_same, rfl⟩
                                  · exact (ok__law_same c hS 40).mono (by decide)
                                  · exact Z.room
                                  · exact Z.gd
                                  · exact hT
                                  · refine mv_val ?_ ?_ ?_
                                    · exact rfl
                                    · refine me_call (ps := ["world"]) (fa := c.f_least_rights) (fd := c.d_least_rights) (k := 43) ?_ ?_ ?_ ?_ ?_ ?_ ?_
                                      · exact ⟨rfl, c.m_least_rights, c.F_least_rights.kp, c.B_least_rights, rfl⟩
                                      · exact (ok_least_rights c hS).mono (by decide)
                                      · exact Z.room
                                      · exact Z.gd
                                      · exact hT
                                      · refine mv_val ?_ ?_ ?_
                                        · exact rfl
                                        · refine q_var ?_
                                          · exact ⟨rfl, Or.inl rfl, rfl, rfl⟩
                                        · refine mv_nil
                                      · exact st1 rfl st0
                                    · refine mv_val ?_ ?_ ?_
                                      · exact rfl
                                      · refine q_var ?_
                                        · exact ⟨rfl, Or.inl rfl, rfl, rfl⟩
                                      · refine mv_nil
                                  · exact st1 rfl (st1 rfl st0)
                                · exact fun _ => rfl
                        · refine ms_cons ?_ ?_
                          · refine ms_ret ?_
                            · refine me_bl
                          · refine ms_nil
                        · refine ms_nil
                      · refine ms_cons ?_ ?_
                        · refine ms_if ?_ ?_ ?_
                          · refine L2.PW.pt ?_
                            refine mw_or ?_ ?_
                            · refine mt_not ?_
                              · refine mt_val ?_ ?_
                                · refine me_call (ps := ["found", "due"]) (fa := c.f__law_same) (fd := c.d__law_same) (k := 43) ?_ ?_ ?_ ?_ ?_ ?_ ?_
                                  · exact ⟨rfl, c.m__law_same, c.F__law_same.kp, c.B__law_same, rfl⟩
                                  · exact (ok__law_same c hS 40).mono (by decide)
                                  · exact Z.room
                                  · exact Z.gd
                                  · exact hT
                                  · refine mv_val ?_ ?_ ?_
                                    · exact rfl
                                    · refine me_ite ?_ ?_ ?_
                                      · refine mt_cmp' (o_eq Z.u64) v_G ?_ ?_ ?_
                                        · exact rfl
                                        · refine q_var ?_
                                          · exact ⟨rfl, Or.inl rfl, rfl, rfl⟩
                                        · refine me_toW ?_
                                          · refine me_int
                                      · refine me_callK0 (ps := ["world"]) (fa := c.f_is_joined) (fd := c.d_is_joined) (k := 43) (ks := ["world"]) (perm := [0]) ?_ ?_ ?_ ?_ ?_ ?_ ?_ ?_ ?_ ?_
                                        · exact ⟨rfl, c.m_is_joined, c.F_is_joined.kp, kwb_is_joined_0_world c, rfl⟩
                                        · exact (ok_is_joined c hS).mono (by decide)
                                        · exact Z.room
                                        · exact Z.gd
                                        · exact hT
                                        · refine mk_val ?_ ?_
                                          · refine q_var ?_
                                            · exact ⟨rfl, Or.inl rfl, rfl, rfl⟩
                                          · refine mk_nil
                                        · exact rfl
                                        · exact rfl
                                        · exact rfl
                                        · exact rfl
                                      · refine me_call (ps := ["world"]) (fa := c.f_is_joined) (fd := c.d_is_joined) (k := 43) ?_ ?_ ?_ ?_ ?_ ?_ ?_
                                        · exact ⟨rfl, c.m_is_joined, c.F_is_joined.kp, c.B_is_joined, rfl⟩
                                        · exact (ok_is_joined c hS).mono (by decide)
                                        · exact Z.room
                                        · exact Z.gd
                                        · exact hT
                                        · refine mv_val ?_ ?_ ?_
                                          · exact rfl
                                          · refine q_var ?_
                                            · exact ⟨rfl, Or.inl rfl, rfl, rfl⟩
                                          · refine mv_nil
                                        · exact st1 rfl st0
                                    · refine mv_val ?_ ?_ ?_
                                      · exact rfl
                                      · refine q_var ?_
                                        · exact ⟨rfl, Or.inl rfl, rfl, rfl⟩
                                      · refine mv_nil
                                  · exact st1 rfl (st1 rfl st0)
                                · exact fun _ => rfl
                            · refine mw_one_or ?_
                              · refine mt_cmp' (o_ne Z.u64) v_G ?_ ?_ ?_
                                · exact rfl
                                · refine q_repr (k := 43) ?_ ?_ ?_ ?_
                                  · exact Z
                                  · exact ⟨rfl, c.n_repr⟩
                                  · exact st1 rfl st0
                                  · refine maW_of ?_
                                    · refine ma_cons ?_ ?_ ?_
                                      · exact rfl
                                      · refine q_var ?_
                                        · exact ⟨rfl, Or.inl rfl, rfl, rfl⟩
                                      · refine ma_nil
                                · refine me_toW ?_
                                  · refine q_var ?_
                                    · exact ⟨rfl, Or.inl rfl, rfl, rfl⟩
                          · refine ms_cons ?_ ?_
                            · refine ms_ret ?_
                              · refine me_bl
                            · refine ms_nil
                          · refine ms_nil
                        · refine ms_nil
      · refine ms_cons ?_ ?_
        · refine ms_ret ?_
          · refine me_bl
        · refine ms_nil
theorem ok_law (c : Facts K mg) (hS : SysD base) : FnG PySem.Challenge.pw_lastsigns_k02_whole_worlds_by_unions w K mg base 44 c.f_law c.d_law ["script"] (spOf K mg 1 fn_law) := fnG_den c.F_law sc_law fun cdv A outer s H vs E hr gd => pf_law c hS hr gd
end
end Lw
namespace Lw
open PySem Ev
/-! ## plain facts of the denotations (no program in sight) -/
theorem sl_small {n : Nat} (h : n ≤ 16777216) : n ≤ sizeLine := h
theorem sl_lt {n : Nat} (h : n < 16777216) : n < sizeLine := h
theorem gNe_nil (xs : List PyData) : gNeB (.list xs) (.list []) = some (.bool (!xs.isEmpty)) := by cases xs <;> rfl
theorem gEq_nil (xs : List PyData) : gEqB (.list xs) (.list []) = some (.bool xs.isEmpty) := by cases xs <;> rfl
theorem gMul_l {i j : Int} (h : -(2 ^ 64) < i ∧ i < 2 ^ 64) : gMul (.int i) (.int j) = some (.int (i * j)) := by
  show (if decide ((-(2 ^ 64) < i ∧ i < 2 ^ 64) ∨ (-(2 ^ 64) < j ∧ j < 2 ^ 64)) = true then some (PyData.int (i * j)) else none) = _
  exact if_pos (decide_eq_true (Or.inl h))
theorem gMul_r {i j : Int} (h : -(2 ^ 64) < j ∧ j < 2 ^ 64) : gMul (.int i) (.int j) = some (.int (i * j)) := by
  show (if decide ((-(2 ^ 64) < i ∧ i < 2 ^ 64) ∨ (-(2 ^ 64) < j ∧ j < 2 ^ 64)) = true then some (PyData.int (i * j)) else none) = _
  exact if_pos (decide_eq_true (Or.inr h))
theorem gMod_p {i j : Int} (h : 0 < j) : gMod (.int i) (.int j) = some (.int (i % j)) := by
  show (if decide (0 < j) = true then some (PyData.int (i % j)) else none) = _
  exact if_pos (decide_eq_true h)
theorem gDiv_p {i j : Int} (h : 0 < j ∧ j < 1073741824) : gDiv (.int i) (.int j) = some (.int (i / j)) := by
  show (if decide (0 < j ∧ j < 1073741824) = true then some (PyData.int (i / j)) else none) = _
  exact if_pos (decide_eq_true h)
theorem gAdd_i (i j : Int) : gAdd (.int i) (.int j) = some (.int (i + j)) := Eq.trans rfl rfl
theorem gSub_i (i j : Int) : gSub (.int i) (.int j) = some (.int (i - j)) := Eq.trans rfl rfl
theorem gInt_i (i : Int) : gInt [.int i] = some (.int i) := Eq.trans rfl rfl
theorem mod_b {x m : Int} (h : 0 < m) (h2 : m < 2 ^ 64) : -(2 ^ 64) < x % m ∧ x % m < 2 ^ 64 := by
  have h0 := Int.emod_nonneg x (show m ≠ 0 by omega)
  have h1 := Int.emod_lt_of_pos x h
  omega

/-! ## the denotations, applied -/
section
variable (f g : DenS) (fa fb fc : Den PyData) (ρ : Ens) (i n k : Nat) (d : PyData) (fs : Den (List PyData)) (gs : Den (List Ag)) (fn : Fn)
theorem sCons_e : sCons f g ρ = (f ρ).seq g := Eq.trans rfl rfl
theorem sNil_e : sNil ρ = .nx ρ := Eq.trans rfl rfl
theorem sIf_e (c : Den Bool) : sIf c f g ρ = (c ρ).out fun b ρ1 => if b = true then f ρ1 else g ρ1 := Eq.trans rfl rfl
theorem sRet_e : sRet fa ρ = (fa ρ).out fun d ρ1 => .rt d ρ1 := Eq.trans rfl rfl
theorem sExp_e : sExp fa ρ = (fa ρ).out fun _ ρ1 => .nx ρ1 := Eq.trans rfl rfl
theorem sAsg_e (h : DenG) : sAsg fa h ρ = (fa ρ).out fun d ρ1 => match h d ρ1 with
  | some ρ2 => .nx ρ2
  | none => .bad := Eq.trans rfl rfl
theorem tst_e : tst fa ρ = (fa ρ).bind fun d ρ1 => lift (asB d) ρ1 := Eq.trans rfl rfl
theorem bin_e (h : PyData → PyData → Option PyData) : bin h fa fb ρ = (fa ρ).bind fun d1 ρ1 => (fb ρ1).bind fun d2 ρ2 => lift (h d1 d2) ρ2 := Eq.trans rfl rfl
theorem una_e (h : PyData → Option PyData) : una h fa ρ = (fa ρ).bind fun d ρ1 => lift (h d) ρ1 := Eq.trans rfl rfl
theorem fnc_e (h : List PyData → Option PyData) : fnc h fs ρ = (fs ρ).bind fun d ρ1 => lift (h d) ρ1 := Eq.trans rfl rfl
theorem dVar_e : dVar i ρ = match ρ[i]? with
  | some (.fz d) => .ok d ρ
  | _ => .bad := Eq.trans rfl rfl
theorem dOwn_e : dOwn i ρ = match ρ[i]? with
  | some (.fz d) => .ok d ρ
  | some (.ow (.lst xs)) => .ok (.list xs) ρ
  | _ => .bad := Eq.trans rfl rfl
theorem dRd_e : dRd i ρ = match ρ[i]? with
  | some (.fz d) => .ok d ρ
  | some (.ow (.lst xs)) => .ok (.list xs) ρ
  | some (.sc xs) => .ok (.list xs) ρ
  | _ => .bad := Eq.trans rfl rfl
theorem dFrz_e : dFrz i ρ = match ρ[i]? with
  | some (.fz d) => .ok d ρ
  | some (.ow (.lst xs)) => .ok (.list xs) (ρ.set i (.fz (.list xs)))
  | _ => .bad := Eq.trans rfl rfl
theorem dCon_e : dCon d ρ = .ok d ρ := Eq.trans rfl rfl
theorem aNil_e : aNil ρ = .ok [] ρ := Eq.trans rfl rfl
theorem aCons_e : aCons fa fs ρ = (fa ρ).bind fun d ρ1 => (fs ρ1).bind fun ds ρ2 => .ok (d :: ds) ρ2 := Eq.trans rfl rfl
theorem dTup_e : dTup fs ρ = (fs ρ).bind fun ds ρ1 => .ok (.tuple ds) ρ1 := Eq.trans rfl rfl
theorem dLst_e : dLst fs ρ = (fs ρ).bind fun ds ρ1 => .ok (.list ds) ρ1 := Eq.trans rfl rfl
theorem dTupOf_e : dTupOf fs ρ = (fs ρ).bind fun ds ρ1 => .ok (.tuple ds) ρ1 := Eq.trans rfl rfl
theorem dAnd_e : dAnd fa fb ρ = (fa ρ).bind fun d ρ1 => match d with
  | .bool true => fb ρ1
  | .bool false => .ok (.bool false) ρ1
  | _ => .bad := Eq.trans rfl rfl
theorem dOr_e : dOr fa fb ρ = (fa ρ).bind fun d ρ1 => match d with
  | .bool true => .ok (.bool true) ρ1
  | .bool false => fb ρ1
  | _ => .bad := Eq.trans rfl rfl
theorem dNot_e : dNot fa ρ = (fa ρ).bind fun d ρ1 => match d with
  | .bool b => .ok (.bool !b) ρ1
  | _ => .bad := Eq.trans rfl rfl
theorem dIte_e : dIte fa fb fc ρ = (fa ρ).bind fun d ρ1 => match d with
  | .bool true => fb ρ1
  | .bool false => fc ρ1
  | _ => .bad := Eq.trans rfl rfl
theorem dChain_e (h h' : PyData → PyData → Option PyData) : dChain h h' fa fb fc ρ = (fa ρ).bind fun d1 ρ1 => (fb ρ1).bind fun d2 ρ2 => match h d1 d2 with
  | some (.bool true) => (fc ρ2).bind fun d3 ρ3 => lift (h' d2 d3) ρ3
  | some (.bool false) => .ok (.bool false) ρ2
  | _ => .bad := Eq.trans rfl rfl
theorem dCall_e (c : Bool) : dCall n c fn gs ρ = (gs ρ).bind (callV n c fn) := Eq.trans rfl rfl
theorem aVal_e : aVal fa gs ρ = (fa ρ).bind fun d ρ1 => (gs ρ1).bind fun ds ρ2 => .ok (.val d :: ds) ρ2 := Eq.trans rfl rfl
theorem aIo_e : aIo i gs ρ = if isIo ρ[i]? = true then (gs ρ).bind fun ds ρ2 => .ok (.io i :: ds) ρ2 else .bad := Eq.trans rfl rfl
theorem agNil_e : agNil ρ = .ok [] ρ := Eq.trans rfl rfl
theorem gNm_e : gNm i d ρ = some (ρ.set i (.fz d)) := Eq.trans rfl rfl
theorem sFor_e (h : DenG) : sFor fs h f ρ = (fs ρ).out fun ds ρ1 => forL h f ds ρ1 := Eq.trans rfl rfl
theorem sNew_e : sNew i fs ρ = (fs ρ).out fun xs ρ1 => .nx (ρ1.set i (.ow (.lst xs))) := Eq.trans rfl rfl
theorem dLc_e (h : DenG) (tt : Den Bool) (vs : List Nat) : dLc fs h tt fa vs ρ = (fs ρ).bind fun ds ρ1 => (lcL h tt fa vs ds (wipeE ρ1 vs)).bind fun out ρ2 => .ok (.list out) (restE ρ1 ρ2 vs) := Eq.trans rfl rfl
theorem nLc_e (h : DenG) (tt : Den Bool) (vs : List Nat) : nLc fs h tt fa vs ρ = (fs ρ).bind fun ds ρ1 => (lcL h tt fa vs ds (wipeE ρ1 vs)).bind fun out ρ2 => .ok out (restE ρ1 ρ2 vs) := Eq.trans rfl rfl
theorem dIt_e : dIt fa ρ = (fa ρ).bind fun d ρ1 => lift (items d) ρ1 := Eq.trans rfl rfl
theorem dSl_e (fl fh : Option (Den PyData)) : dSl fa fl fh ρ = (fa ρ).bind fun d ρ1 => (dPart fl ρ1).bind fun l ρ2 => (dPart fh ρ2).bind fun h ρ3 => lift (gSl l h d) ρ3 := Eq.trans rfl rfl
theorem dPart_n : dPart none ρ = .ok none ρ := Eq.trans rfl rfl
theorem dPart_s : dPart (some fa) ρ = (fa ρ).bind fun d ρ1 => lift ((isI d).map some) ρ1 := Eq.trans rfl rfl
theorem sPar_e (j : Nat) (a b : RH) : sPar i j a b ρ = (a.run ρ).out fun s ρ1 => (b.run ρ1).out fun u ρ2 => .nx ((ρ2.set i s).set j u) := Eq.trans rfl rfl
theorem rhv_e : (RH.val fa).run ρ = (fa ρ).bind fun d ρ1 => .ok (.fz d) ρ1 := Eq.trans rfl rfl
theorem rhn_e : (RH.new fs).run ρ = (fs ρ).bind fun xs ρ1 => .ok (.ow (.lst xs)) ρ1 := Eq.trans rfl rfl
theorem sRetD_e (x : Str) (l : List (Str × Den PyData)) : sRetD x fs l ρ = (fs ρ).out fun xs ρ1 => (dVals l ρ1).out fun ds ρ2 => .ro (.dic ((.inr x, .lst xs) :: (l.map fun p => (Sum.inr p.1 : L2.Key)).zip (ds.map Fld.dat))) ρ2 := Eq.trans rfl rfl
theorem dVals_n : dVals [] ρ = .ok [] ρ := Eq.trans rfl rfl
theorem dVals_c (x : Str) (l : List (Str × Den PyData)) : dVals ((x, fa) :: l) ρ = (fa ρ).bind fun d ρ1 => (dVals l ρ1).bind fun ds ρ2 => .ok (d :: ds) ρ2 := Eq.trans rfl rfl
theorem fnOf_e (io : List Nat) (as : List Sl) : fnOf n io f as = if okio io as = true then (match f (as ++ List.replicate (n - as.length) .un) with
  | .rt d ρ => .ret d (outs as ρ)
  | .ro o ρ => .own o (outs as ρ)
  | .nx ρ => .ret .none (outs as ρ)
  | .exc x ρ => .exc x (outs as ρ)
  | _ => .bad) else .bad := Eq.trans rfl rfl
theorem lift_s {α : Type} (a : α) : lift (some a) ρ = .ok a ρ := Eq.trans rfl rfl
theorem dRng1_e : dRng1 fa ρ = (fa ρ).bind fun d ρ1 => lift (match d with
  | .int j => rng2 0 j
  | _ => none) ρ1 := Eq.trans rfl rfl
theorem dRng2_e : dRng2 fa fb ρ = (fa ρ).bind fun d ρ1 => (fb ρ1).bind fun e ρ2 => lift (match d, e with
  | .int i, .int j => rng2 i j
  | _, _ => none) ρ2 := Eq.trans rfl rfl
theorem dEnum_e : dEnum fa ρ = (fa ρ).bind fun d ρ1 => lift (match d with
  | .list xs => some (numbered 0 xs)
  | .tuple xs => some (numbered 0 xs)
  | _ => none) ρ1 := Eq.trans rfl rfl
theorem dZip_e : dZip fa fb ρ = (fa ρ).bind fun d ρ1 => (fb ρ1).bind fun e ρ2 => lift (match d, e with
  | .list xs, .list ys => if (zipped xs ys).length ≤ sizeLine then some (zipped xs ys) else none
  | .tuple xs, .tuple ys => if (zipped xs ys).length ≤ sizeLine then some (zipped xs ys) else none
  | _, _ => none) ρ2 := Eq.trans rfl rfl
theorem nList_e : nList fa ρ = (fa ρ).bind fun d ρ1 => lift (match d with
  | .list xs => some xs
  | .tuple xs => some xs
  | _ => none) ρ1 := Eq.trans rfl rfl
theorem sApp_e : sApp i fa ρ = match ownL ρ i with
  | none => .bad
  | some _ => (fa ρ).out fun d ρ1 => match ownL ρ1 i with
    | some xs => if xs.length < sizeLine then .nx (ρ1.set i (.ow (.lst (xs ++ [d])))) else .bad
    | none => .bad := Eq.trans rfl rfl
theorem sExt_e : sExt i fa ρ = match ownL ρ i with
  | none => .bad
  | some _ => (fa ρ).out fun d ρ1 => match ownL ρ1 i, d with
    | some xs, .list ys => if xs.length + ys.length ≤ sizeLine then .nx (ρ1.set i (.ow (.lst (xs ++ ys)))) else .bad
    | _, _ => .bad := Eq.trans rfl rfl
end
def okGo (io : List Nat) : Nat → List Sl → Bool
  | _, [] => true
  | k, .ow _ :: r => io.contains k && okGo io (k + 1) r
  | k, .un :: r => okGo io (k + 1) r
  | k, .fz _ :: r => okGo io (k + 1) r
  | k, .sc _ :: r => okGo io (k + 1) r
theorem okio_e (io : List Nat) (as : List Sl) : okio io as = okGo io 0 as := by
  have key : ∀ (as : List Sl) (k : Nat), ((List.range as.length).all fun i => match as[i]? with
      | some (.ow _) => io.contains (k + i)
      | _ => true) = okGo io k as := by
    intro as
    induction as with
    | nil => intro k; rfl
    | cons a r ih =>
      intro k
      rw [List.length_cons, List.range_succ_eq_map, List.all_cons, List.all_map]
      have e : ((fun i => match (a :: r)[i]? with
          | some (.ow _) => io.contains (k + i)
          | _ => true) ∘ Nat.succ) = fun i => match r[i]? with
          | some (.ow _) => io.contains (k + 1 + i)
          | _ => true := by
        funext i
        simp only [Function.comp, Nat.succ_eq_add_one, List.getElem?_cons_succ]
        rw [show k + (i + 1) = k + 1 + i by omega]
      rw [e, ih (k + 1)]
      cases a <;> simp [okGo]
  have := key as 0
  simp only [Nat.zero_add] at this
  exact this
theorem items_l (xs : List PyData) : items (.list xs) = some xs := Eq.trans rfl rfl
theorem items_t (xs : List PyData) : items (.tuple xs) = some xs := Eq.trans rfl rfl
theorem gTp_t (n : Nat) (fs : List PyData → Ens → Option Ens) (xs : List PyData) (ρ : Ens) : gTp n fs (.tuple xs) ρ = if xs.length = n then fs xs ρ else none := Eq.trans rfl rfl
theorem gsCons_c (f : DenG) (fs : List PyData → Ens → Option Ens) (d : PyData) (ds : List PyData) (ρ : Ens) : gsCons f fs (d :: ds) ρ = (f d ρ).bind fun ρ1 => fs ds ρ1 := Eq.trans rfl rfl
theorem gsNil_n (ρ : Ens) : gsNil [] ρ = some ρ := Eq.trans rfl rfl

/-! ## texts of data are not longer than these numbers -/
mutual
def sz : PyData → Nat
  | .none => 5
  | .bool _ => 5
  | .int _ => 1921
  | .str x => (reprText x).length
  | .list xs => 3 + szs xs
  | .tuple xs => 3 + szs xs
  | .dict kvs => 3 + szk kvs
def szs : List PyData → Nat
  | [] => 0
  | x :: r => sz x + 2 + szs r
def szk : List (PyData × PyData) → Nat
  | [] => 0
  | (k, v) :: r => sz k + sz v + 4 + szk r
end
theorem strA (x y : Str) : (x ++ y).length = x.length + y.length := PySem.strLen_append x y
theorem textFrom_le : ∀ (ts : List Str) (k : Nat) (acc : Str), (PySem.textFrom k acc ts).length ≤ acc.length + (ts.map fun t => t.length + 2).sum
  | [], k, acc => by show acc.length ≤ _; simp
  | t :: r, k, acc => by
    have ih := textFrom_le r (k + 1) (acc ++ (if k > 0 then ", " else "" : String) ++ t)
    have e : (acc ++ (if k > 0 then ", " else "" : String) ++ t).length ≤ acc.length + 2 + t.length := by
      rw [strA, strA]
      have : ((if k > 0 then ", " else "" : String) : Str).length ≤ 2 := by split <;> decide
      omega
    have h : (PySem.textFrom k acc (t :: r)).length ≤ (acc ++ (if k > 0 then ", " else "" : String) ++ t).length + (r.map fun t => t.length + 2).sum := ih
    simp only [List.map_cons, List.sum_cons]
    omega
theorem join_le : ∀ ts : List Str, (Str.join ", " ts).length ≤ (ts.map fun t => t.length + 2).sum
  | [] => by decide
  | [x] => by show x.length ≤ _; simp
  | x :: y :: r => by
    have ih := join_le (y :: r)
    show (x ++ ", " ++ Str.join ", " (y :: r)).length ≤ _
    rw [strA, strA]
    have e2 : ((", " : String) : Str).length = 2 := rfl
    simp only [List.map_cons, List.sum_cons] at ih ⊢
    omega
mutual
theorem shown_le : ∀ d : PyData, d.showable = true → d.shown.length ≤ sz d
  | .none, _ => by simp only [PyData.shown, sz]; decide
  | .bool b, _ => by cases b <;> (simp only [PyData.shown, sz]; decide)
  | .int i, h => by
    simp only [PyData.shown, sz]
    exact PyProof.Rows.int_text_len_1921 (by simpa [PyData.showable] using h)
  | .str x, _ => by simp only [PyData.shown, sz]; exact Nat.le_refl _
  | .list xs, h => by
    have ih := shownAll_le xs (by simpa [PyData.showable] using h)
    have t := textFrom_le (PyData.shownAll xs) 0 "["
    simp only [PyData.shown, sz]
    show (PySem.textFrom 0 "[" (PyData.shownAll xs) ++ "]").length ≤ _
    rw [strA]
    have e1 : (("[" : String) : Str).length = 1 := rfl
    have e2 : (("]" : String) : Str).length = 1 := rfl
    omega
  | .tuple xs, h => by
    have ih := shownAll_le xs (by simpa [PyData.showable] using h)
    have t := join_le (PyData.shownAll xs)
    simp only [PyData.shown, sz]
    unfold PySem.tupleText
    rw [strA, strA]
    have e1 : (("(" : String) : Str).length = 1 := rfl
    have e2 : ((if (PyData.shownAll xs).length == 1 then ",)" else ")" : String) : Str).length ≤ 2 := by split <;> decide
    omega
  | .dict kvs, h => by
    have ih := shownKv_le kvs (by simpa [PyData.showable] using h)
    have t := join_le (PyData.shownKv kvs)
    simp only [PyData.shown, sz]
    unfold PySem.dictText
    rw [strA, strA]
    have e1 : (("{" : String) : Str).length = 1 := rfl
    have e2 : (("}" : String) : Str).length = 1 := rfl
    omega
theorem shownAll_le : ∀ xs : List PyData, PyData.showableAll xs = true → ((PyData.shownAll xs).map fun t => t.length + 2).sum ≤ szs xs
  | [], _ => by simp [PyData.shownAll, szs]
  | x :: r, h => by
    have h' : x.showable = true ∧ PyData.showableAll r = true := by simpa [PyData.showableAll] using h
    have i1 := shown_le x h'.1
    have i2 := shownAll_le r h'.2
    simp only [PyData.shownAll, List.map_cons, List.sum_cons, szs]
    omega
theorem shownKv_le : ∀ kvs : List (PyData × PyData), PyData.showableKv kvs = true → ((PyData.shownKv kvs).map fun t => t.length + 2).sum ≤ szk kvs
  | [], _ => by simp [PyData.shownKv, szk]
  | (k, v) :: r, h => by
    have h' : (k.showable = true ∧ v.showable = true) ∧ PyData.showableKv r = true := by simpa [PyData.showableKv] using h
    have i1 := shown_le k h'.1.1
    have i2 := shown_le v h'.1.2
    have i3 := shownKv_le r h'.2
    have e1 : ((": " : String) : Str).length = 2 := rfl
    simp only [PyData.shownKv, List.map_cons, List.sum_cons, szk, strA]
    omega
end
theorem showOk_of {d : PyData} (h1 : d.showable = true) (h2 : PyData.depth d ≤ 60) (h3 : sz d ≤ 16777216) : showOk d = true := by
  have := shown_le d h1
  unfold showOk
  rw [h1, decide_eq_true h2, decide_eq_true (show d.shown.length ≤ sizeLine from Nat.le_trans this h3)]
  rfl

/-! ## loops and comprehensions -/
theorem lc_pure {g : DenG} {tt : Den Bool} {te : Den PyData} {vs : List Nat} {ρ0 : Ens} {P : PyData → Prop} {h : PyData → PyData} {f : PyData → Bool}
    (step : ∀ d, P d → ∃ ρa ρb ρc, g d ρ0 = some ρa ∧ tt ρa = .ok (f d) ρb ∧ (f d = true → te ρb = .ok (h d) ρc ∧ wipeE ρc vs = ρ0) ∧ (f d = false → wipeE ρb vs = ρ0)) :
    ∀ ds : List PyData, (∀ d ∈ ds, P d) → lcL g tt te vs ds ρ0 = .ok ((ds.filter f).map h) ρ0
  | [], _ => rfl
  | d :: ds, hp => by
    obtain ⟨ρa, ρb, ρc, e1, e2, e3, e4⟩ := step d (hp d List.mem_cons_self)
    have ih := lc_pure step ds fun x hx => hp x (List.mem_cons_of_mem _ hx)
    unfold lcL
    rw [e1]
    dsimp only
    rw [e2]
    cases hf : f d with
    | true =>
      obtain ⟨e5, e6⟩ := e3 hf
      simp only [noex, Rs.bind, if_true, e5, e6, ih, List.filter_cons_of_pos hf, List.map_cons]
    | false =>
      simp only [noex, Rs.bind, e4 hf, ih, Bool.false_eq_true, if_false]
      rw [List.filter_cons_of_neg (by rw [hf]; exact Bool.false_ne_true)]
theorem lc_inv {g : DenG} {tt : Den Bool} {te : Den PyData} {vs : List Nat} {I : Ens → Prop} {P : PyData → Prop} {Q : PyData → Prop}
    (step : ∀ d ρ, P d → I ρ → ∃ ρa b ρb, g d ρ = some ρa ∧ tt ρa = .ok b ρb ∧ (b = true → ∃ y ρc, te ρb = .ok y ρc ∧ Q y ∧ I (wipeE ρc vs)) ∧ (b = false → I (wipeE ρb vs))) :
    ∀ (ds : List PyData) (ρ : Ens), (∀ d ∈ ds, P d) → I ρ → ∃ ys ρ', lcL g tt te vs ds ρ = .ok ys ρ' ∧ I ρ' ∧ (∀ y ∈ ys, Q y) ∧ ys.length ≤ ds.length
  | [], ρ, _, hi => ⟨[], ρ, rfl, hi, fun _ h => (by cases h), Nat.le_refl _⟩
  | d :: ds, ρ, hp, hi => by
    obtain ⟨ρa, b, ρb, e1, e2, e3, e4⟩ := step d ρ (hp d List.mem_cons_self) hi
    unfold lcL
    rw [e1]
    dsimp only
    rw [e2]
    cases b with
    | true =>
      obtain ⟨y, ρc, e5, hy, hi2⟩ := e3 rfl
      obtain ⟨ys, ρ', e6, h1, h2, h3⟩ := lc_inv step ds _ (fun x hx => hp x (List.mem_cons_of_mem _ hx)) hi2
      refine ⟨y :: ys, ρ', ?_, h1, fun z hz => ?_, by rw [List.length_cons, List.length_cons]; omega⟩
      rotate_left
      · rcases List.mem_cons.mp hz with e | e
        · rw [e]
          exact hy
        · exact h2 z e
      simp only [noex, Rs.bind, if_true, e5, e6]
    | false =>
      obtain ⟨ys, ρ', e6, h1, h2, h3⟩ := lc_inv step ds _ (fun x hx => hp x (List.mem_cons_of_mem _ hx)) (e4 rfl)
      refine ⟨ys, ρ', ?_, h1, h2, by rw [List.length_cons]; omega⟩
      simp only [noex, Rs.bind, e6, Bool.false_eq_true, if_false]
/-- a loop that only goes on -/
theorem for_inv {g : DenG} {f : DenS} {I : Nat → Ens → Prop} : ∀ (ds : List PyData) (k : Nat) (ρ : Ens), (∀ (i : Nat) d ρ, ds[i]? = some d → I (k + i) ρ → ∃ ρ1 ρ2, g d ρ = some ρ1 ∧ f ρ1 = .nx ρ2 ∧ I (k + i + 1) ρ2) → I k ρ → ∃ ρ', forL g f ds ρ = .nx ρ' ∧ I (k + ds.length) ρ'
  | [], k, ρ, _, hi => ⟨ρ, rfl, hi⟩
  | d :: ds, k, ρ, step, hi => by
    obtain ⟨ρ1, ρ2, e1, e2, hi2⟩ := step 0 d ρ rfl hi
    obtain ⟨ρ', e3, h⟩ := for_inv (I := I) ds (k + 1) ρ2 (fun i d ρ e h => by
      obtain ⟨ρ1, ρ2, a, b, c⟩ := step (i + 1) d ρ (by simpa using e) (by rw [show k + (i + 1) = k + 1 + i by omega]; exact h)
      exact ⟨ρ1, ρ2, a, b, by rw [show k + 1 + i + 1 = k + (i + 1) + 1 by omega]; exact c⟩) (by simpa using hi2)
    refine ⟨ρ', ?_, by rw [List.length_cons, show k + (ds.length + 1) = k + 1 + ds.length by omega]; exact h⟩
    unfold forL
    rw [e1]
    dsimp only
    rw [e2]
    exact e3
/-- a loop that ends at the first d of which p d -/
theorem for_find {g : DenG} {f : DenS} {I : Ens → Prop} {R : PyData → Ens → Prop} {p : PyData → Bool} {r : PyData → PyData} {P : PyData → Prop}
    (step : ∀ d ρ, P d → I ρ → ∃ ρ1, g d ρ = some ρ1 ∧ (p d = false → ∃ ρ2, f ρ1 = .nx ρ2 ∧ I ρ2) ∧ (p d = true → ∃ ρ2, f ρ1 = .rt (r d) ρ2 ∧ R d ρ2)) :
    ∀ (ds : List PyData) (ρ : Ens), (∀ d ∈ ds, P d) → I ρ → match ds.find? p with
      | some d => ∃ ρ', forL g f ds ρ = .rt (r d) ρ' ∧ R d ρ'
      | none => ∃ ρ', forL g f ds ρ = .nx ρ' ∧ I ρ'
  | [], ρ, _, hi => ⟨ρ, rfl, hi⟩
  | d :: ds, ρ, hp, hi => by
    obtain ⟨ρ1, e1, h1, h2⟩ := step d ρ (hp d List.mem_cons_self) hi
    cases hd : p d with
    | true =>
      obtain ⟨ρ2, e2, hr⟩ := h2 hd
      rw [List.find?_cons_of_pos hd]
      refine ⟨ρ2, ?_, hr⟩
      unfold forL
      rw [e1]
      dsimp only
      rw [e2]
      rfl
    | false =>
      obtain ⟨ρ2, e2, hi2⟩ := h1 hd
      rw [List.find?_cons_of_neg (by rw [hd]; exact Bool.false_ne_true)]
      have ih := for_find step ds ρ2 (fun x hx => hp x (List.mem_cons_of_mem _ hx)) hi2
      have e : forL g f (d :: ds) ρ = forL g f ds ρ2 := by
        rw [forL.eq_2]
        rw [e1]
        dsimp only
        rw [e2]
        rfl
      rw [e]
      exact ih
theorem lc_s {g : DenG} {tt : Den Bool} {te : Den PyData} {vs : List Nat} {ρ0 : Ens} (P : PyData → Prop) (h : PyData → PyData) (f : PyData → Bool)
    (step : ∀ d, P d → ∃ ρa, g d ρ0 = some ρa ∧ wipeE ρa vs = ρ0 ∧ tt ρa = .ok (f d) ρa ∧ (f d = true → te ρa = .ok (h d) ρa)) (ds : List PyData) (hp : ∀ d ∈ ds, P d) : lcL g tt te vs ds ρ0 = .ok ((ds.filter f).map h) ρ0 :=
  lc_pure (fun d hd => by
    obtain ⟨ρa, e1, e2, e3, e4⟩ := step d hd
    exact ⟨ρa, ρa, ρa, e1, e3, fun z => ⟨e4 z, e2⟩, fun _ => e2⟩) ds hp
/-! the same, from a name for the run: generalize e : forL _ _ _ _ = r -/
theorem for_run {g : DenG} {f : DenS} {ds : List PyData} {ρ : Ens} {r : Out} (e : forL g f ds ρ = r) (I : Nat → Ens → Prop) (hi : I 0 ρ) (step : ∀ (i : Nat) d ρ, ds[i]? = some d → I i ρ → ∃ ρ1 ρ2, g d ρ = some ρ1 ∧ f ρ1 = .nx ρ2 ∧ I (i + 1) ρ2) : ∃ ρ', r = .nx ρ' ∧ I ds.length ρ' := by
  obtain ⟨ρ', e2, h⟩ := for_inv (I := I) ds 0 ρ (fun i d ρ e h => by
    obtain ⟨ρ1, ρ2, a, b, c⟩ := step i d ρ e (by rw [Nat.zero_add] at h; exact h)
    exact ⟨ρ1, ρ2, a, b, by rw [Nat.zero_add]; exact c⟩) hi
  exact ⟨ρ', e.symm.trans e2, by rw [Nat.zero_add] at h; exact h⟩
theorem lc_run {g : DenG} {tt : Den Bool} {te : Den PyData} {vs : List Nat} {ds : List PyData} {ρ : Ens} {r : Rs (List PyData)} (e : lcL g tt te vs ds ρ = r) (I : Ens → Prop) (P Q : PyData → Prop) (hp : ∀ d ∈ ds, P d) (hi : I ρ)
    (step : ∀ d ρ, P d → I ρ → ∃ ρa b ρb, g d ρ = some ρa ∧ tt ρa = .ok b ρb ∧ (b = true → ∃ y ρc, te ρb = .ok y ρc ∧ Q y ∧ I (wipeE ρc vs)) ∧ (b = false → I (wipeE ρb vs))) : ∃ ys ρ', r = .ok ys ρ' ∧ I ρ' ∧ (∀ y ∈ ys, Q y) ∧ ys.length ≤ ds.length := by
  obtain ⟨ys, ρ', e2, h⟩ := lc_inv step ds ρ hp hi
  exact ⟨ys, ρ', e.symm.trans e2, h⟩
theorem find_run {g : DenG} {f : DenS} {ds : List PyData} {ρ : Ens} {o : Out} (e : forL g f ds ρ = o) (I : Ens → Prop) (R : PyData → Ens → Prop) (p : PyData → Bool) (r : PyData → PyData) (P : PyData → Prop) (hp : ∀ d ∈ ds, P d) (hi : I ρ)
    (step : ∀ d ρ, P d → I ρ → ∃ ρ1, g d ρ = some ρ1 ∧ (p d = false → ∃ ρ2, f ρ1 = .nx ρ2 ∧ I ρ2) ∧ (p d = true → ∃ ρ2, f ρ1 = .rt (r d) ρ2 ∧ R d ρ2)) : match ds.find? p with
      | some d => ∃ ρ', o = .rt (r d) ρ' ∧ R d ρ'
      | none => ∃ ρ', o = .nx ρ' ∧ I ρ' := by
  have h := for_find step ds ρ hp hi
  rw [e] at h
  exact h
theorem sFor_of {s : Den (List PyData)} {g : DenG} {f : DenS} {ρ ρ1 : Ens} {ds : List PyData} (h : s ρ = .ok ds ρ1) : sFor s g f ρ = forL g f ds ρ1 := by
  rw [sFor_e, h]
  rfl
theorem rng1_of {fa : Den PyData} {ρ ρ1 : Ens} {j : Int} {ds : List PyData} (h : fa ρ = .ok (.int j) ρ1) (h2 : rng2 0 j = some ds) : dRng1 fa ρ = .ok ds ρ1 := by
  rw [dRng1_e, h]
  show lift (rng2 0 j) ρ1 = _
  rw [h2]
  rfl
theorem rng2_of' {fa fb : Den PyData} {ρ ρ1 ρ2 : Ens} {i j : Int} {ds : List PyData} (h : fa ρ = .ok (.int i) ρ1) (h1 : fb ρ1 = .ok (.int j) ρ2) (h2 : rng2 i j = some ds) : dRng2 fa fb ρ = .ok ds ρ2 := by
  rw [dRng2_e, h]
  show ((fb ρ1).bind fun e ρ2 => _) = _
  rw [h1]
  show lift (rng2 i j) ρ2 = _
  rw [h2]
  rfl
theorem enum_l {fa : Den PyData} {ρ ρ1 : Ens} {xs : List PyData} (h : fa ρ = .ok (.list xs) ρ1) : dEnum fa ρ = .ok (numbered 0 xs) ρ1 := by
  rw [dEnum_e, h]
  rfl
theorem enum_t {fa : Den PyData} {ρ ρ1 : Ens} {xs : List PyData} (h : fa ρ = .ok (.tuple xs) ρ1) : dEnum fa ρ = .ok (numbered 0 xs) ρ1 := by
  rw [dEnum_e, h]
  rfl
theorem zip_l {fa fb : Den PyData} {ρ ρ1 ρ2 : Ens} {xs ys : List PyData} (h : fa ρ = .ok (.list xs) ρ1) (h1 : fb ρ1 = .ok (.list ys) ρ2) (hz : (zipped xs ys).length ≤ sizeLine) : dZip fa fb ρ = .ok (zipped xs ys) ρ2 := by
  rw [dZip_e, h]
  show ((fb ρ1).bind fun e ρ2 => _) = _
  rw [h1]
  show lift (if (zipped xs ys).length ≤ sizeLine then some (zipped xs ys) else none) ρ2 = _
  rw [if_pos hz]
  rfl
theorem zip_t {fa fb : Den PyData} {ρ ρ1 ρ2 : Ens} {xs ys : List PyData} (h : fa ρ = .ok (.tuple xs) ρ1) (h1 : fb ρ1 = .ok (.tuple ys) ρ2) (hz : (zipped xs ys).length ≤ sizeLine) : dZip fa fb ρ = .ok (zipped xs ys) ρ2 := by
  rw [dZip_e, h]
  show ((fb ρ1).bind fun e ρ2 => _) = _
  rw [h1]
  show lift (if (zipped xs ys).length ≤ sizeLine then some (zipped xs ys) else none) ρ2 = _
  rw [if_pos hz]
  rfl

/-! ## small data -/
def Good (D S : Nat) (d : PyData) : Prop := d.showable = true ∧ PyData.depth d ≤ D ∧ sz d ≤ S
def GoodL (D S : Nat) (xs : List PyData) : Prop := PyData.showableAll xs = true ∧ PyData.depthAll xs ≤ D ∧ szs xs ≤ S
theorem Good.mono {D S D' S' : Nat} {d : PyData} (h : Good D S d) (h1 : D ≤ D') (h2 : S ≤ S') : Good D' S' d := ⟨h.1, Nat.le_trans h.2.1 h1, Nat.le_trans h.2.2 h2⟩
theorem GoodL.mono {D S D' S' : Nat} {d : List PyData} (h : GoodL D S d) (h1 : D ≤ D') (h2 : S ≤ S') : GoodL D' S' d := ⟨h.1, Nat.le_trans h.2.1 h1, Nat.le_trans h.2.2 h2⟩
theorem Good.show {D S : Nat} {d : PyData} (h : Good D S d) (h1 : D ≤ 60) (h2 : S ≤ 16777216) : showOk d = true := showOk_of h.1 (Nat.le_trans h.2.1 h1) (Nat.le_trans h.2.2 h2)
theorem good_nil {D S : Nat} : GoodL D S [] := ⟨by simp [PyData.showableAll], by simp [PyData.depthAll], by simp [szs]⟩
theorem good_cons {D S T : Nat} {x : PyData} {xs : List PyData} (h : Good D S x) (h2 : GoodL D T xs) : GoodL D (S + 2 + T) (x :: xs) := by
  refine ⟨?_, ?_, ?_⟩
  · rw [PyData.showableAll, h.1, h2.1]; rfl
  · rw [PyData.depthAll]; exact Nat.max_le.mpr ⟨h.2.1, h2.2.1⟩
  · rw [szs]; have := h.2.2; have := h2.2.2; omega
theorem GoodL.head {D S : Nat} {x : PyData} {xs : List PyData} (h : GoodL D S (x :: xs)) : Good D (S - szs xs - 2) x ∧ GoodL D (S - sz x - 2) xs := by
  obtain ⟨h1, h2, h3⟩ := h
  rw [PyData.showableAll, Bool.and_eq_true] at h1
  rw [PyData.depthAll] at h2
  rw [szs] at h3
  have := Nat.max_le.mp h2
  exact ⟨⟨h1.1, this.1, by omega⟩, ⟨h1.2, this.2, by omega⟩⟩
theorem GoodL.mem {D S : Nat} : ∀ {xs : List PyData} {x : PyData}, GoodL D S xs → x ∈ xs → Good D S x
  | [], _, _, h => by cases h
  | y :: ys, x, h, hx => by
    obtain ⟨h1, h2⟩ := h.head
    rcases List.mem_cons.mp hx with e | e
    · rw [e]; exact h1.mono (Nat.le_refl _) (by omega)
    · exact (GoodL.mem h2 e).mono (Nat.le_refl _) (by omega)
theorem szs_append : ∀ xs ys : List PyData, szs (xs ++ ys) = szs xs + szs ys
  | [], ys => by simp [szs]
  | x :: xs, ys => by rw [List.cons_append, szs, szs, szs_append xs ys]; omega
theorem sa_append : ∀ xs ys : List PyData, PyData.showableAll (xs ++ ys) = (PyData.showableAll xs && PyData.showableAll ys)
  | [], ys => by simp [PyData.showableAll]
  | x :: xs, ys => by rw [List.cons_append, PyData.showableAll, PyData.showableAll, sa_append xs ys, Bool.and_assoc]
theorem da_append : ∀ xs ys : List PyData, PyData.depthAll (xs ++ ys) = max (PyData.depthAll xs) (PyData.depthAll ys)
  | [], ys => by simp [PyData.depthAll]
  | x :: xs, ys => by rw [List.cons_append, PyData.depthAll, PyData.depthAll, da_append xs ys, Nat.max_assoc]
theorem good_append {D S T : Nat} {xs ys : List PyData} (h : GoodL D S xs) (h2 : GoodL D T ys) : GoodL D (S + T) (xs ++ ys) :=
  ⟨by rw [sa_append, h.1, h2.1]; rfl, by rw [da_append]; exact Nat.max_le.mpr ⟨h.2.1, h2.2.1⟩, by rw [szs_append]; have := h.2.2; have := h2.2.2; omega⟩
theorem GoodL.take {D S : Nat} {xs : List PyData} (h : GoodL D S xs) (n : Nat) : GoodL D S (xs.take n) := by
  have e := List.take_append_drop n xs
  have h1 := h.1
  have h2 := h.2.1
  have h3 := h.2.2
  rw [← e, sa_append, Bool.and_eq_true] at h1
  rw [← e, da_append] at h2
  rw [← e, szs_append] at h3
  exact ⟨h1.1, (Nat.max_le.mp h2).1, by omega⟩
theorem GoodL.drop {D S : Nat} {xs : List PyData} (h : GoodL D S xs) (n : Nat) : GoodL D S (xs.drop n) := by
  have e := List.take_append_drop n xs
  have h1 := h.1
  have h2 := h.2.1
  have h3 := h.2.2
  rw [← e, sa_append, Bool.and_eq_true] at h1
  rw [← e, da_append] at h2
  rw [← e, szs_append] at h3
  exact ⟨h1.2, (Nat.max_le.mp h2).2, by omega⟩
theorem GoodL.cut {D S : Nat} {xs : List PyData} (h : GoodL D S xs) (lo hi : Option Int) : GoodL D S (cutD xs lo hi) := (h.drop _).take _
theorem GoodL.filter {D S : Nat} (p : PyData → Bool) : ∀ {xs : List PyData}, GoodL D S xs → GoodL D S (xs.filter p)
  | [], h => h
  | x :: xs, h => by
    obtain ⟨h1, h2⟩ := h.head
    have hs := h.2.2
    rw [szs] at hs
    cases hp : p x with
    | true =>
      rw [List.filter_cons_of_pos hp]
      exact (good_cons (show Good D (sz x) x from ⟨h1.1, h1.2.1, Nat.le_refl _⟩) (h2.filter p)).mono (Nat.le_refl _) (by omega)
    | false =>
      rw [List.filter_cons_of_neg (by rw [hp]; exact Bool.false_ne_true)]
      exact (h2.filter p).mono (Nat.le_refl _) (by omega)
theorem GoodL.reverse {D S : Nat} {xs : List PyData} (h : GoodL D S xs) : GoodL D S xs.reverse := by
  have key : ∀ l : List PyData, szs l.reverse = szs l ∧ PyData.showableAll l.reverse = PyData.showableAll l ∧ PyData.depthAll l.reverse = PyData.depthAll l := by
    intro l
    induction l with
    | nil => exact ⟨rfl, rfl, rfl⟩
    | cons x l ih =>
      rw [List.reverse_cons, szs_append, sa_append, da_append, ih.1, ih.2.1, ih.2.2]
      refine ⟨by simp only [szs]; omega, by simp only [PyData.showableAll, Bool.and_true]; exact Bool.and_comm _ _, by simp only [PyData.depthAll]; rw [Nat.max_zero]; exact Nat.max_comm _ _⟩
  obtain ⟨h1, h2, h3⟩ := key xs
  exact ⟨by rw [h2]; exact h.1, by rw [h3]; exact h.2.1, by rw [h1]; exact h.2.2⟩
theorem good_tuple {D S : Nat} {xs : List PyData} (h : GoodL D S xs) : Good (D + 1) (S + 3) (.tuple xs) :=
  ⟨by rw [PyData.showable]; exact h.1, by rw [PyData.depth]; have := h.2.1; omega, by rw [sz]; have := h.2.2; omega⟩
theorem good_list {D S : Nat} {xs : List PyData} (h : GoodL D S xs) : Good (D + 1) (S + 3) (.list xs) :=
  ⟨by rw [PyData.showable]; exact h.1, by rw [PyData.depth]; have := h.2.1; omega, by rw [sz]; have := h.2.2; omega⟩
theorem Good.tup {D S : Nat} {xs : List PyData} (h : Good (D + 1) (S + 3) (.tuple xs)) : GoodL D S xs := by
  obtain ⟨h1, h2, h3⟩ := h
  rw [PyData.showable] at h1
  rw [PyData.depth] at h2
  rw [sz] at h3
  exact ⟨h1, by omega, by omega⟩
theorem Good.tup' {D S : Nat} {xs : List PyData} (h : Good D S (.tuple xs)) : GoodL (D - 1) (S - 3) xs := by
  obtain ⟨h1, h2, h3⟩ := h
  rw [PyData.showable] at h1
  rw [PyData.depth] at h2
  rw [sz] at h3
  exact ⟨h1, by omega, by omega⟩
theorem good_int {D S : Nat} {i : Int} (h : i.natAbs.log2 < 1920) (hs : 1921 ≤ S) : Good D S (.int i) := ⟨by simpa [PyData.showable] using h, by simp [PyData.depth], by rw [sz]; exact hs⟩
theorem small_log {i : Int} (h : i.natAbs < 2 ^ 200) : i.natAbs.log2 < 1920 := by
  by_cases h0 : i.natAbs = 0
  · rw [h0]; decide
  · have := (Nat.log2_lt h0 (k := 200)).mpr h
    omega
theorem good_small {D S : Nat} {i : Int} (h : i.natAbs < 2 ^ 200) (hs : 1921 ≤ S) : Good D S (.int i) := good_int (small_log h) hs
theorem good_none {D S : Nat} (hs : 5 ≤ S) : Good D S .none := ⟨by simp [PyData.showable], by simp [PyData.depth], by rw [sz]; exact hs⟩
theorem good_bool {D S : Nat} {b : Bool} (hs : 5 ≤ S) : Good D S (.bool b) := ⟨by simp [PyData.showable], by simp [PyData.depth], by rw [sz]; exact hs⟩
theorem good_str {D S : Nat} {x : Str} (hs : (reprText x).length ≤ S) : Good D S (.str x) := ⟨by simp [PyData.showable], by simp [PyData.depth], by rw [sz]; exact hs⟩
theorem len_szs : ∀ xs : List PyData, 2 * xs.length ≤ szs xs
  | [] => Nat.le_refl _
  | x :: xs => by rw [szs, List.length_cons]; have := len_szs xs; omega
theorem GoodL.len {D S : Nat} {xs : List PyData} (h : GoodL D S xs) : 2 * xs.length ≤ S := Nat.le_trans (len_szs xs) h.2.2
theorem goodL_all {D S : Nat} : ∀ {xs : List PyData}, (∀ x ∈ xs, Good D S x) → GoodL D (xs.length * (S + 2)) xs
  | [], _ => good_nil
  | x :: xs, h => by
    have h1 := h x List.mem_cons_self
    have h2 := goodL_all (D := D) (S := S) fun y hy => h y (List.mem_cons_of_mem _ hy)
    exact (good_cons h1 h2).mono (Nat.le_refl _) (by rw [List.length_cons, Nat.succ_mul]; omega)
theorem good_dict0 {D S : Nat} (hs : 3 ≤ S) (hd : 1 ≤ D) : Good D S (.dict []) := ⟨by simp [PyData.showable, PyData.showableKv], by simp [PyData.depth, PyData.depthKv]; exact hd, by simp [sz, szk]; exact hs⟩
theorem good_dict1 {D S : Nat} {k : Str} {d : PyData} (h : Good D S d) (hk : (reprText k).length ≤ 20) : Good (D + 1) (S + 30) (.dict [(.str k, d)]) := by
  obtain ⟨h1, h2, h3⟩ := h
  refine ⟨by simp [PyData.showable, PyData.showableKv, h1], by simp [PyData.depth, PyData.depthKv]; omega, by simp only [sz, szk]; omega⟩

/-! ## loops whose turns leave the slots as they were -/
theorem sLp_e (js : List Nat) (f : DenS) (ρ : Ens) : sLp js f ρ = (f (wipeE ρ js)).wipe js := Eq.trans rfl rfl
theorem sEnd_e (js : List Nat) (f : DenS) (ρ : Ens) : sEnd js f ρ = (f ρ).wipe js := Eq.trans rfl rfl
def turnF (g : DenG) (f : DenS) (d : PyData) (ρ : Ens) : Out := match g d ρ with
  | some ρ1 => f ρ1
  | none => .bad
theorem forL_cons (g : DenG) (f : DenS) (d : PyData) (ds : List PyData) (ρ : Ens) : forL g f (d :: ds) ρ = (turnF g f d ρ).turn (forL g f ds) := by
  rw [forL]
  unfold turnF
  cases g d ρ <;> rfl
theorem forL_nil (g : DenG) (f : DenS) (ρ : Ens) : forL g f [] ρ = .nx ρ := Eq.trans rfl rfl
@[simp] theorem nx_turn (e : Ens) (k : Ens → Out) : (Out.nx e).turn k = k e := rfl
@[simp] theorem ct_turn (e : Ens) (k : Ens → Out) : (Out.ct e).turn k = k e := rfl
@[simp] theorem bk_turn (e : Ens) (k : Ens → Out) : (Out.bk e).turn k = .nx e := rfl
@[simp] theorem rt_turn (d : PyData) (e : Ens) (k : Ens → Out) : (Out.rt d e).turn k = .rt d e := rfl
/-- the first d of which p d ends it -/
theorem for_first {g : DenG} {f : DenS} (st : Ens) (p : PyData → Bool) (r : PyData → PyData) (q : PyData → Ens) (P : PyData → Prop) (h : ∀ d, P d → turnF g f d st = if p d = true then .rt (r d) (q d) else .nx st) :
    ∀ (ds : List PyData), (∀ d ∈ ds, P d) → forL g f ds st = match ds.find? p with
      | some d => .rt (r d) (q d)
      | none => .nx st
  | [], _ => rfl
  | d :: ds, hp => by
    rw [forL_cons, h d (hp d List.mem_cons_self)]
    cases e : p d with
    | true => rw [List.find?_cons_of_pos e]; rfl
    | false =>
      rw [List.find?_cons_of_neg (by rw [e]; exact Bool.false_ne_true)]
      exact for_first st p r q P h ds fun x hx => hp x (List.mem_cons_of_mem _ hx)
/-- a state that is carried on -/
theorem for_fold {S : Type} {g : DenG} {f : DenS} (st : S → Ens) (step : S → PyData → S) (P : PyData → Prop) (I : S → Prop) (h : ∀ d s, P d → I s → turnF g f d (st s) = .nx (st (step s d)) ∧ I (step s d)) :
    ∀ (ds : List PyData) (s : S), (∀ d ∈ ds, P d) → I s → forL g f ds (st s) = .nx (st (ds.foldl step s)) ∧ I (ds.foldl step s)
  | [], s, _, i => ⟨rfl, i⟩
  | d :: ds, s, hp, i => by
    obtain ⟨e, i2⟩ := h d s (hp d List.mem_cons_self) i
    rw [forL_cons, e]
    exact for_fold st step P I h ds _ (fun x hx => hp x (List.mem_cons_of_mem _ hx)) i2
/-- a state of which something is known turn by turn -/
theorem for_st {S : Type} {g : DenG} {f : DenS} (st : S → Ens) (I : Nat → S → Prop) (ds : List PyData) (h : ∀ (i : Nat) d s, ds[i]? = some d → I i s → ∃ s', turnF g f d (st s) = .nx (st s') ∧ I (i + 1) s') (s : S) (i0 : I 0 s) :
    ∃ s', forL g f ds (st s) = .nx (st s') ∧ I ds.length s' := by
  have key : ∀ (ds : List PyData) (k : Nat) (s : S), (∀ (i : Nat) d s, ds[i]? = some d → I (k + i) s → ∃ s', turnF g f d (st s) = .nx (st s') ∧ I (k + i + 1) s') → I k s → ∃ s', forL g f ds (st s) = .nx (st s') ∧ I (k + ds.length) s' := by
    intro ds
    induction ds with
    | nil => intro k s _ i; exact ⟨s, rfl, i⟩
    | cons d ds ih =>
      intro k s h i
      obtain ⟨s1, e, i1⟩ := h 0 d s rfl i
      obtain ⟨s2, e2, i2⟩ := ih (k + 1) s1 (fun i d s hd hi => by
        obtain ⟨s', e, i'⟩ := h (i + 1) d s (by simpa using hd) (by rw [show k + (i + 1) = k + 1 + i by omega]; exact hi)
        exact ⟨s', e, by rw [show k + 1 + i + 1 = k + (i + 1) + 1 by omega]; exact i'⟩) i1
      refine ⟨s2, ?_, by rw [List.length_cons, show k + (ds.length + 1) = k + 1 + ds.length by omega]; exact i2⟩
      rw [forL_cons, e]
      exact e2
  obtain ⟨s', e, i⟩ := key ds 0 s (fun i d s hd hi => by rw [Nat.zero_add] at hi ⊢; exact h i d s hd hi) i0
  exact ⟨s', e, by rw [Nat.zero_add] at i; exact i⟩
/-- a comprehension whose turns change a state; J: what is known of it and of the items so far -/
theorem lc_acc {S : Type} {g : DenG} {tt : Den Bool} {te : Den PyData} {vs : List Nat} (st : S → Ens) (J : Nat → List PyData → S → Prop) (ds : List PyData)
    (h : ∀ (i : Nat) d acc s, ds[i]? = some d → J i acc s → ∃ ρa b ρb, g d (st s) = some ρa ∧ tt ρa = .ok b ρb ∧ (b = true → ∃ y ρc s', te ρb = .ok y ρc ∧ wipeE ρc vs = st s' ∧ J (i + 1) (acc ++ [y]) s') ∧ (b = false → ∃ s', wipeE ρb vs = st s' ∧ J (i + 1) acc s')) (s : S) (j0 : J 0 [] s) :
    ∃ ys s', lcL g tt te vs ds (st s) = .ok ys (st s') ∧ J ds.length ys s' := by
  have key : ∀ (ds : List PyData) (k : Nat) (acc : List PyData) (s : S), (∀ (i : Nat) d acc s, ds[i]? = some d → J (k + i) acc s → ∃ ρa b ρb, g d (st s) = some ρa ∧ tt ρa = .ok b ρb ∧ (b = true → ∃ y ρc s', te ρb = .ok y ρc ∧ wipeE ρc vs = st s' ∧ J (k + i + 1) (acc ++ [y]) s') ∧ (b = false → ∃ s', wipeE ρb vs = st s' ∧ J (k + i + 1) acc s')) → J k acc s →
      ∃ ys s', lcL g tt te vs ds (st s) = .ok ys (st s') ∧ J (k + ds.length) (acc ++ ys) s' := by
    intro ds
    induction ds with
    | nil => intro k acc s _ j; exact ⟨[], s, rfl, by rw [List.append_nil]; exact j⟩
    | cons d ds ih =>
      intro k acc s h j
      have h' : ∀ (i : Nat) d acc s, ds[i]? = some d → J (k + 1 + i) acc s → ∃ ρa b ρb, g d (st s) = some ρa ∧ tt ρa = .ok b ρb ∧ (b = true → ∃ y ρc s', te ρb = .ok y ρc ∧ wipeE ρc vs = st s' ∧ J (k + 1 + i + 1) (acc ++ [y]) s') ∧ (b = false → ∃ s', wipeE ρb vs = st s' ∧ J (k + 1 + i + 1) acc s') := fun i d acc s hd hj => by
        have := h (i + 1) d acc s (by simpa using hd) (by rw [show k + (i + 1) = k + 1 + i by omega]; exact hj)
        rw [show k + (i + 1) + 1 = k + 1 + i + 1 by omega] at this
        exact this
      obtain ⟨ρa, b, ρb, e1, e2, h1, h2⟩ := h 0 d acc s rfl j
      rw [lcL, e1]
      dsimp only
      rw [e2]
      cases b with
      | true =>
        obtain ⟨y, ρc, s1, e3, e4, j1⟩ := h1 rfl
        obtain ⟨ys, s2, e5, j2⟩ := ih (k + 1) (acc ++ [y]) s1 h' j1
        refine ⟨y :: ys, s2, ?_, by rw [List.length_cons, show k + (ds.length + 1) = k + 1 + ds.length by omega]; simpa using j2⟩
        simp only [noex, Rs.bind, if_true, e3, e4, e5]
      | false =>
        obtain ⟨s1, e4, j1⟩ := h2 rfl
        obtain ⟨ys, s2, e5, j2⟩ := ih (k + 1) acc s1 h' j1
        refine ⟨ys, s2, ?_, by rw [List.length_cons, show k + (ds.length + 1) = k + 1 + ds.length by omega]; exact j2⟩
        simp only [noex, Rs.bind, Bool.false_eq_true, if_false, e4, e5]
  obtain ⟨ys, s', e, j⟩ := key ds 0 [] s (fun i d acc s hd hj => by rw [Nat.zero_add] at hj ⊢; exact h i d acc s hd hj) j0
  exact ⟨ys, s', e, by rw [Nat.zero_add, List.nil_append] at j; exact j⟩
theorem sCall_e (n i : Nat) (fn : Fn) (fa : Den (List Ag)) (ρ : Ens) : sCall n i fn fa ρ = (fa ρ).out (callO n i fn) := Eq.trans rfl rfl
theorem callO_e (n i : Nat) (fn : Fn) (as : List Ag) (ρ : Ens) : callO n i fn as ρ = if agOk n false as = true then (match fn (as.map (slOf ρ)) with
  | .own o ss => if ss.length = as.length then .nx ((back ρ as ss).set i (.ow o)) else .bad
  | .exc x ss => if ss.length = as.length then .exc x (back ρ as ss) else .bad
  | _ => .bad) else .bad := Eq.trans rfl rfl
theorem dCallK_e (n m k : Nat) (perm : List Nat) (c : Bool) (fn : Fn) (fa fk : Den (List Ag)) (ρ : Ens) : dCallK n m k perm c fn fa fk ρ = (fa ρ).bind fun as ρ1 => (fk ρ1).bind fun bs ρ2 => if as.length = n ∧ bs.length = m then callV k c fn (pick perm (as ++ bs)) ρ2 else .bad := Eq.trans rfl rfl
theorem dFix_e (f : Den (List PyData)) (ρ : Ens) : dFix f ρ = (f ρ).bind fun xs ρ1 => .ok (.list xs) ρ1 := Eq.trans rfl rfl
theorem nLc2_e (s : Den (List PyData)) (g : DenG) (tt : Den Bool) (s1 : Den (List PyData)) (g1 : DenG) (tt1 : Den Bool) (te : Den PyData) (vs vs1 : List Nat) (ρ : Ens) : nLc2 s g tt s1 g1 tt1 te vs vs1 ρ = (s ρ).bind fun ds ρ1 => (lcL2 g tt s1 g1 tt1 te vs vs1 ds (wipeE ρ1 vs)).bind fun out ρ2 => if decide (out.length ≤ sizeLine) = true then .ok out (restE ρ1 ρ2 vs) else .bad := Eq.trans rfl rfl
theorem sRetN_e (f : Den (List PyData)) (ρ : Ens) : sRetN f ρ = (f ρ).out fun xs ρ1 => .ro (.lst xs) ρ1 := Eq.trans rfl rfl
theorem sRetO_e (i : Nat) (ρ : Ens) : sRetO i ρ = match ρ[i]? with
  | some (.ow o) => .ro o (ρ.set i .un)
  | _ => .bad := Eq.trans rfl rfl
theorem sPar3_e (i j l : Nat) (a b c : RH) (ρ : Ens) : sPar3 i j l a b c ρ = (a.run ρ).out fun s ρ1 => (b.run ρ1).out fun u ρ2 => (c.run ρ2).out fun t ρ3 => .nx (((ρ3.set i s).set j u).set l t) := Eq.trans rfl rfl
theorem nOp_e (g : PyData → PyData → Option (List PyData)) (fa fb : Den PyData) (ρ : Ens) : nOp g fa fb ρ = (fa ρ).bind fun d1 ρ1 => (fb ρ1).bind fun d2 ρ2 => lift (g d1 d2) ρ2 := Eq.trans rfl rfl
theorem sPut_e (i : Nat) (f fi : Den PyData) (ρ : Ens) : sPut i f fi ρ = (f ρ).out fun d ρ1 => match ownL ρ1 i with
  | none => .bad
  | some _ => (fi ρ1).out fun z ρ2 => match z with
    | .int k => match setAt ρ2 i k d with
      | some ρ3 => .nx ρ3
      | none => .bad
    | _ => .bad := Eq.trans rfl rfl
theorem nLcO_e (i : Nat) (g : DenG) (tt : Den Bool) (te : Den PyData) (vs : List Nat) (ρ : Ens) : nLcO i g tt te vs ρ = match ρ[i]? with
  | some (.ow (.lst xs)) => if decide (xs.length ≤ sizeLine) = true then (lcL g tt te vs xs (wipeE (ρ.set i .un) vs)).bind fun out ρ2 => .ok out ((restE (ρ.set i .un) ρ2 vs).set i (.ow (.lst xs))) else .bad
  | some (.fz d) => nLc (dIt (dVar i)) g tt te vs ρ
  | _ => .bad := Eq.trans rfl rfl
theorem step_of {g : DenG} {f : DenS} {d : PyData} {ρ ρ1 : Ens} {I : Ens → Prop} (h : g d ρ = some ρ1) (k : ∃ ρ2, f ρ1 = .nx ρ2 ∧ I ρ2) : ∃ ρ1 ρ2, g d ρ = some ρ1 ∧ f ρ1 = .nx ρ2 ∧ I ρ2 :=
  let ⟨ρ2, h1, h2⟩ := k; ⟨ρ1, ρ2, h, h1, h2⟩

/-! ## the deck of k01 .. k14 -/
def deckO (xs : List Int) (s t : Int) : Own := .dic [(.inr "great", .lst (xs.map .int)), (.inr "seal", .dat (.int s)), (.inr "turn", .dat (.int t))]
def Dk (o : Own) : Prop := ∃ xs s t, o = deckO xs s t
theorem k_gs : ¬ (Str.ofString "great") = Str.ofString "seal" := by decide
theorem k_gt : ¬ (Str.ofString "great") = Str.ofString "turn" := by decide
theorem k_st : ¬ (Str.ofString "seal") = Str.ofString "turn" := by decide
theorem k_sg : ¬ (Str.ofString "seal") = Str.ofString "great" := by decide
theorem k_tg : ¬ (Str.ofString "turn") = Str.ofString "great" := by decide
theorem k_ts : ¬ (Str.ofString "turn") = Str.ofString "seal" := by decide
theorem draw_spec {o : Own} (h : Dk o) {m : Int} (h1 : 0 < m) (h2 : m < 1073741824) : ∃ r o', fn__law_draw [.ow o, .fz (.int m)] = .ret (.int r) [.ow o', .fz (.int m)] ∧ 0 ≤ r ∧ r < m ∧ Dk o' := by
  obtain ⟨xs, s, t, rfl⟩ := h
  have hm : m ≠ 0 := by omega
  cases xs with
  | cons x xs =>
    by_cases hx : x < m
    · refine ⟨x % m, deckO xs s t, ?_, Int.emod_nonneg _ hm, Int.emod_lt_of_pos _ h1, _, _, _, rfl⟩
      simp [fn__law_draw, b__law_draw, fnOf, okio, List.range, List.range.loop, sCons, sIf, tst, bin, dFldW, fldOf, dicL, lookF, deckO, dLst, aNil, lift, gNe_nil, asB, sGreat, fldL, h1, h2, putL, setF, outs, hx]
    · refine ⟨x % m, deckO (x / m :: xs) s t, ?_, Int.emod_nonneg _ hm, Int.emod_lt_of_pos _ h1, _, _, _, rfl⟩
      simp [fn__law_draw, b__law_draw, fnOf, okio, List.range, List.range.loop, sCons, sIf, tst, bin, dFldW, fldOf, dicL, lookF, deckO, dLst, aNil, lift, gNe_nil, asB, sGreat, fldL, h1, h2, putL, setF, outs, hx]
  | nil =>
    have q1 : (3 : Nat) < sizeLine := sl_lt (by decide)
    have q2 : ∀ j, gMul (.int 2654435761) (.int j) = some (.int (2654435761 * j)) := fun j => gMul_l (by decide)
    have q3 : ∀ j, gMul (.int 40503) (.int j) = some (.int (40503 * j)) := fun j => gMul_l (by decide)
    have q4 : ∀ x, gMul (.int (x % 4294967291)) (.int (x % 4294967291)) = some (.int (x % 4294967291 * (x % 4294967291))) := fun x => gMul_l (mod_b (by decide) (by decide))
    have q5 : ∀ x, gMul (.int (x % 4294967279)) (.int (x % 4294967279)) = some (.int (x % 4294967279 * (x % 4294967279))) := fun x => gMul_l (mod_b (by decide) (by decide))
    have q6 : ∀ x, gMod (.int x) (.int m) = some (.int (x % m)) := fun x => gMod_p h1
    have q7 : ∀ x, gMod (.int x) (.int 4294967291) = some (.int (x % 4294967291)) := fun x => gMod_p (by decide)
    have q8 : ∀ x, gMod (.int x) (.int 4294967279) = some (.int (x % 4294967279)) := fun x => gMod_p (by decide)
    have q9 : ∀ x, gMod (.int x) (.int 4294967231) = some (.int (x % 4294967231)) := fun x => gMod_p (by decide)
    have qa : ∀ x, gDiv (.int x) (.int 64) = some (.int (x / 64)) := fun x => gDiv_p (by decide)
    suffices h : ∃ x, fn__law_draw [.ow (deckO [] s t), .fz (.int m)] = .ret (.int (x % m)) [.ow (deckO [] s (t + 1)), .fz (.int m)] by
      obtain ⟨x, e⟩ := h
      exact ⟨_, _, e, Int.emod_nonneg _ hm, Int.emod_lt_of_pos _ h1, _, _, _, rfl⟩
    simp [fn__law_draw, b__law_draw, fnOf, okio, List.range, List.range.loop, sCons, sIf, tst, bin, dFldW, fldOf, dicL, lookF, deckO, dLst, aNil, lift, gNe_nil, asB, sNil, sFld, dFld, k_gt, k_st, k_gs, k_sg, k_tg, k_ts, gAdd_i, dCon, putF, sAsg, q1, q2, q3, q4, q5, q6, q7, q8, q9, qa, fnc, aCons, gInt_i, gNm, dVar, sRet, outs]
    exact ⟨_, rfl⟩
/-! ## draws from lists -/
theorem gLen_l (xs : List PyData) : gLen [.list xs] = some (.int xs.length) := rfl
theorem gLen_t (xs : List PyData) : gLen [.tuple xs] = some (.int xs.length) := rfl
theorem gIx_l {xs : List PyData} {i : Int} (h0 : 0 ≤ i) (h1 : i < xs.length) : ∃ d, gIx (.list xs) (.int i) = some d ∧ xs[i.toNat]? = some d ∧ d ∈ xs := by
  have hl : i.toNat < xs.length := by omega
  refine ⟨xs[i.toNat], ?_, List.getElem?_eq_getElem hl, List.getElem_mem hl⟩
  show L2.atI xs i = _
  unfold L2.atI L2.ixN
  rw [if_pos h0, if_pos h1]
  exact List.getElem?_eq_getElem hl
theorem gIx_t {xs : List PyData} {i : Int} (h0 : 0 ≤ i) (h1 : i < xs.length) : ∃ d, gIx (.tuple xs) (.int i) = some d ∧ xs[i.toNat]? = some d ∧ d ∈ xs := gIx_l h0 h1
theorem pick_l {o : Own} (h : Dk o) {xs : List PyData} (h1 : xs ≠ []) (h2 : xs.length < 1073741824) : ∃ d o', fn__law_pick [.ow o, .fz (.list xs)] = .ret d [.ow o', .fz (.list xs)] ∧ d ∈ xs ∧ Dk o' := by
  have hp : (0 : Int) < xs.length := by
    cases xs with
    | nil => exact absurd rfl h1
    | cons _ _ => simp
  obtain ⟨r, o', e, r0, r1, hd⟩ := draw_spec h hp (by omega)
  obtain ⟨d, e1, _, e2⟩ := gIx_l r0 r1
  refine ⟨d, o', ?_, e2, hd⟩
  simp [fn__law_pick, b__law_pick, fnOf_e, okio_e, okGo, sCons_e, sNil_e, sIf_e, sRet_e, sAsg_e, sExp_e, tst_e, bin_e, una_e, fnc_e, lift_s, dVar_e, dCon_e, dOwn_e, dRd_e, dFrz_e, aCons_e, aNil_e, dTup_e, dLst_e, dTupOf_e, dAnd_e, dOr_e, dNot_e, dIte_e, asB, outs, gNm_e, gTp_t, gsCons_c, gsNil_n, dCall_e, callV, aVal_e, aIo_e, agNil_e, isIo, slOf, back, agOk, agIo, sNew_e, dLc_e, nLc_e, dIt_e, items_l, items_t, dSl_e, dPart_n, dPart_s, sPar_e, rhv_e, rhn_e, wipeE, restE, keepF, ownL, gLen_l, e, e1]
/-! ## the deck -/
def isInt (d : PyData) : Prop := ∃ i : Int, d = .int i
def ownC : PyData → PyData
  | .int i => .int (2 * (if i < 0 then -i else i) + if i < 0 then 1 else 0)
  | d => d
def isBig : PyData → Bool
  | .int i => decide (1000000000000000000 ≤ i)
  | _ => false
theorem pow18 : gPow (.int 10) (.int 18) = some (.int 1000000000000000000) := rfl
theorem ints_of : ∀ {ds : List PyData}, (∀ d ∈ ds, isInt d) → ∃ xs : List Int, ds = xs.map .int
  | [], _ => ⟨[], rfl⟩
  | d :: ds, h => by
    obtain ⟨i, rfl⟩ := h d List.mem_cons_self
    obtain ⟨xs, e⟩ := ints_of fun x hx => h x (List.mem_cons_of_mem _ hx)
    exact ⟨i :: xs, by rw [e]; rfl⟩
theorem isInt_map (xs : List Int) : ∀ d ∈ xs.map PyData.int, isInt d := fun d hd => by
  obtain ⟨i, _, rfl⟩ := List.mem_map.mp hd
  exact ⟨i, rfl⟩
theorem cutInts (ns : List Int) (lo hi : Option Int) : ∃ ms : List Int, gSl lo hi (.list (ns.map .int)) = some (.list (ms.map .int)) := by
  refine ⟨(ns.drop (HT.sIx ns.length 0 lo)).take (HT.sIx ns.length ns.length hi - HT.sIx ns.length 0 lo), ?_⟩
  show some (PyData.list (cutD _ _ _)) = _
  unfold cutD
  rw [List.length_map, ← List.map_drop, ← List.map_take]
theorem gLt_i (i j : Int) : gLt (.int i) (.int j) = some (.bool (decide (i < j))) := rfl
theorem gGe_i (i j : Int) : gGe (.int i) (.int j) = some (.bool (decide (j ≤ i))) := rfl
theorem isI_i (i : Int) : Ev.isI (.int i) = some i := rfl
theorem deck_spec (ns : List Int) : ∃ o as, fn__law_deck [.sc (ns.map .int)] = .own o as ∧ Dk o ∧ as = [.sc (ns.map .int)] := by
  obtain ⟨ms, e1⟩ := cutInts ns none (some 63)
  simp only [fn__law_deck, b__law_deck]
  simp -implicitDefEqProofs [fnOf_e, okio_e, okGo, sCons_e, sNil_e, sIf_e, sRet_e, sAsg_e, sExp_e, tst_e, bin_e, una_e, fnc_e, lift_s, dVar_e, dCon_e, dOwn_e, dRd_e, dFrz_e, aCons_e, aNil_e, dTup_e, dLst_e, dTupOf_e, dAnd_e, dOr_e, dNot_e, dIte_e, asB, outs, gNm_e, gTp_t, gsCons_c, gsNil_n, dCall_e, callV, aVal_e, aIo_e, agNil_e, isIo, slOf, back, agOk, agIo, sNew_e, dLc_e, nLc_e, dIt_e, items_l, items_t, dSl_e, dPart_n, dPart_s, sPar_e, rhv_e, rhn_e, wipeE, restE, keepF, ownL, e1, isI_i]
  rw [lc_s isInt ownC (fun _ => true) ?_ _ (isInt_map ms)]
  rotate_left
  · rintro d ⟨i, rfl⟩
    exact ⟨_, rfl, rfl, rfl, fun _ => by simp -implicitDefEqProofs [fnOf_e, okio_e, okGo, sCons_e, sNil_e, sIf_e, sRet_e, sAsg_e, sExp_e, tst_e, bin_e, una_e, fnc_e, lift_s, dVar_e, dCon_e, dOwn_e, dRd_e, dFrz_e, aCons_e, aNil_e, dTup_e, dLst_e, dTupOf_e, dAnd_e, dOr_e, dNot_e, dIte_e, asB, outs, gNm_e, gTp_t, gsCons_c, gsNil_n, dCall_e, callV, aVal_e, aIo_e, agNil_e, isIo, slOf, back, agOk, agIo, sNew_e, dLc_e, nLc_e, dIt_e, items_l, items_t, dSl_e, dPart_n, dPart_s, sPar_e, rhv_e, rhn_e, wipeE, restE, keepF, ownL, gAbs, gInt, gLt_i, gMul_l, gAdd_i, ownC]⟩
  simp -implicitDefEqProofs [fnOf_e, okio_e, okGo, sCons_e, sNil_e, sIf_e, sRet_e, sAsg_e, sExp_e, tst_e, bin_e, una_e, fnc_e, lift_s, dVar_e, dCon_e, dOwn_e, dRd_e, dFrz_e, aCons_e, aNil_e, dTup_e, dLst_e, dTupOf_e, dAnd_e, dOr_e, dNot_e, dIte_e, asB, outs, gNm_e, gTp_t, gsCons_c, gsNil_n, dCall_e, callV, aVal_e, aIo_e, agNil_e, isIo, slOf, back, agOk, agIo, sNew_e, dLc_e, nLc_e, dIt_e, items_l, items_t, dSl_e, dPart_n, dPart_s, sPar_e, rhv_e, rhn_e, wipeE, restE, keepF, ownL, gLen_l, gAdd_i]
  obtain ⟨cs, ec⟩ : ∃ cs : List Int, (ms.map PyData.int).map ownC = cs.map .int := ints_of fun d hd => by
    obtain ⟨x, hx, rfl⟩ := List.mem_map.mp hd
    obtain ⟨i, _, rfl⟩ := List.mem_map.mp hx
    exact ⟨_, rfl⟩
  have ef : (ms.map PyData.int).filter (fun _ => true) = ms.map .int := List.filter_eq_self.mpr fun _ _ => rfl
  rw [ef, ec]
  simp -implicitDefEqProofs [fnOf_e, okio_e, okGo, sCons_e, sNil_e, sIf_e, sRet_e, sAsg_e, sExp_e, tst_e, bin_e, una_e, fnc_e, lift_s, dVar_e, dCon_e, dOwn_e, dRd_e, dFrz_e, aCons_e, aNil_e, dTup_e, dLst_e, dTupOf_e, dAnd_e, dOr_e, dNot_e, dIte_e, asB, outs, gNm_e, gTp_t, gsCons_c, gsNil_n, dCall_e, callV, aVal_e, aIo_e, agNil_e, isIo, slOf, back, agOk, agIo, sNew_e, dLc_e, nLc_e, dIt_e, items_l, items_t, dSl_e, dPart_n, dPart_s, sPar_e, rhv_e, rhn_e, wipeE, restE, keepF, ownL, sLp_e, sEnd_e, sCall_e, callO_e, dCallK_e, sFor_e, sApp_e, sExt_e, dEnum_e, dFix_e, nLc2_e, sRetN_e, sPar3_e, sRetO_e, sPut_e, nOp_e, pick]
  generalize e : forL _ _ _ _ = r
  obtain ⟨ρ', rfl, s, rfl⟩ := for_run e (fun _ ρ => ∃ s, ρ = [.sc (ns.map .int), .fz (.list (cs.map .int)), .fz (.int s), .un, .un, .un]) ⟨_, rfl⟩ fun i d ρ hd ⟨s, hρ⟩ => by
    subst hρ
    obtain ⟨z, rfl⟩ := isInt_map cs d (List.mem_of_getElem? hd)
    exact ⟨_, _, rfl, by simp -implicitDefEqProofs [fnOf_e, okio_e, okGo, sCons_e, sNil_e, sIf_e, sRet_e, sAsg_e, sExp_e, tst_e, bin_e, una_e, fnc_e, lift_s, dVar_e, dCon_e, dOwn_e, dRd_e, dFrz_e, aCons_e, aNil_e, dTup_e, dLst_e, dTupOf_e, dAnd_e, dOr_e, dNot_e, dIte_e, asB, outs, gNm_e, gTp_t, gsCons_c, gsNil_n, dCall_e, callV, aVal_e, aIo_e, agNil_e, isIo, slOf, back, agOk, agIo, sNew_e, dLc_e, nLc_e, dIt_e, items_l, items_t, dSl_e, dPart_n, dPart_s, sPar_e, rhv_e, rhn_e, wipeE, restE, keepF, ownL, sLp_e, sEnd_e, sCall_e, callO_e, dCallK_e, sFor_e, sApp_e, sExt_e, dEnum_e, dFix_e, nLc2_e, sRetN_e, sPar3_e, sRetO_e, sPut_e, nOp_e, pick, gMul_r, gAdd_i, gInt_i, gMod_p]; rfl, _, rfl⟩
  simp -implicitDefEqProofs [fnOf_e, okio_e, okGo, sCons_e, sNil_e, sIf_e, sRet_e, sAsg_e, sExp_e, tst_e, bin_e, una_e, fnc_e, lift_s, dVar_e, dCon_e, dOwn_e, dRd_e, dFrz_e, aCons_e, aNil_e, dTup_e, dLst_e, dTupOf_e, dAnd_e, dOr_e, dNot_e, dIte_e, asB, outs, gNm_e, gTp_t, gsCons_c, gsNil_n, dCall_e, callV, aVal_e, aIo_e, agNil_e, isIo, slOf, back, agOk, agIo, sNew_e, dLc_e, nLc_e, dIt_e, items_l, items_t, dSl_e, dPart_n, dPart_s, sPar_e, rhv_e, rhn_e, wipeE, restE, keepF, ownL, sRetD_e]
  rw [lc_s isInt id isBig ?_ _ (isInt_map cs)]
  rotate_left
  · rintro d ⟨i, rfl⟩
    exact ⟨_, rfl, rfl, by simp -implicitDefEqProofs [fnOf_e, okio_e, okGo, sCons_e, sNil_e, sIf_e, sRet_e, sAsg_e, sExp_e, tst_e, bin_e, una_e, fnc_e, lift_s, dVar_e, dCon_e, dOwn_e, dRd_e, dFrz_e, aCons_e, aNil_e, dTup_e, dLst_e, dTupOf_e, dAnd_e, dOr_e, dNot_e, dIte_e, asB, outs, gNm_e, gTp_t, gsCons_c, gsNil_n, dCall_e, callV, aVal_e, aIo_e, agNil_e, isIo, slOf, back, agOk, agIo, sNew_e, dLc_e, nLc_e, dIt_e, items_l, items_t, dSl_e, dPart_n, dPart_s, sPar_e, rhv_e, rhn_e, wipeE, restE, keepF, ownL, pow18, gGe_i, isBig], fun _ => by simp -implicitDefEqProofs [fnOf_e, okio_e, okGo, sCons_e, sNil_e, sIf_e, sRet_e, sAsg_e, sExp_e, tst_e, bin_e, una_e, fnc_e, lift_s, dVar_e, dCon_e, dOwn_e, dRd_e, dFrz_e, aCons_e, aNil_e, dTup_e, dLst_e, dTupOf_e, dAnd_e, dOr_e, dNot_e, dIte_e, asB, outs, gNm_e, gTp_t, gsCons_c, gsNil_n, dCall_e, callV, aVal_e, aIo_e, agNil_e, isIo, slOf, back, agOk, agIo, sNew_e, dLc_e, nLc_e, dIt_e, items_l, items_t, dSl_e, dPart_n, dPart_s, sPar_e, rhv_e, rhn_e, wipeE, restE, keepF, ownL]⟩
  obtain ⟨gs, eg⟩ : ∃ gs : List Int, (cs.map PyData.int).filter isBig = gs.map .int := ints_of fun d hd => isInt_map cs d (List.mem_filter.mp hd).1
  simp -implicitDefEqProofs [fnOf_e, okio_e, okGo, sCons_e, sNil_e, sIf_e, sRet_e, sAsg_e, sExp_e, tst_e, bin_e, una_e, fnc_e, lift_s, dVar_e, dCon_e, dOwn_e, dRd_e, dFrz_e, aCons_e, aNil_e, dTup_e, dLst_e, dTupOf_e, dAnd_e, dOr_e, dNot_e, dIte_e, asB, outs, gNm_e, gTp_t, gsCons_c, gsNil_n, dCall_e, callV, aVal_e, aIo_e, agNil_e, isIo, slOf, back, agOk, agIo, sNew_e, dLc_e, nLc_e, dIt_e, items_l, items_t, dSl_e, dPart_n, dPart_s, sPar_e, rhv_e, rhn_e, wipeE, restE, keepF, ownL, dVals_n, dVals_c, eg]
  exact ⟨gs, s, 0, rfl⟩
/-! ## some of a list -/
theorem seqIx {k : Int} {n : Nat} (h0 : 0 ≤ k) (h1 : k < n) : seqIndex? k n = some k.toNat := by
  unfold seqIndex?
  have : ¬ k < 0 := by omega
  simp [this, h0, h1]
theorem canAll {xs : List PyData} (h : ∀ x ∈ xs, PySem.SeqAt.shaped x = true) : PyData.canLayAll0 xs = true := by
  induction xs with
  | nil => rfl
  | cons x xs ih =>
    have h1 := PySem.SeqAt.canLay_of_shaped (h x List.mem_cons_self)
    simp [PyData.canLayAll0, h1, ih fun y hy => h y (List.mem_cons_of_mem _ hy)]
theorem gIn_l {d : PyData} {xs : List PyData} (h : PySem.SeqAt.shaped d = true) (hx : ∀ x ∈ xs, PySem.SeqAt.shaped x = true) : gInB d (.list xs) = some (.bool (xs.any fun z => PyData.eqv z d)) := by
  simp [gInB, gIn, h, canAll hx]
theorem gIn_t {d : PyData} {xs : List PyData} (h : PySem.SeqAt.shaped d = true) (hx : ∀ x ∈ xs, PySem.SeqAt.shaped x = true) : gInB d (.tuple xs) = some (.bool (xs.any fun z => PyData.eqv z d)) := by
  simp [gInB, gIn, h, canAll hx]
theorem gNotIn_l {d : PyData} {xs : List PyData} (h : PySem.SeqAt.shaped d = true) (hx : ∀ x ∈ xs, PySem.SeqAt.shaped x = true) : gNotInB d (.list xs) = some (.bool (!xs.any fun z => PyData.eqv z d)) := by
  simp [gNotInB, gIn, h, canAll hx]
theorem gNotIn_t {d : PyData} {xs : List PyData} (h : PySem.SeqAt.shaped d = true) (hx : ∀ x ∈ xs, PySem.SeqAt.shaped x = true) : gNotInB d (.tuple xs) = some (.bool (!xs.any fun z => PyData.eqv z d)) := by
  simp [gNotInB, gIn, h, canAll hx]
theorem rng2_n {a b : Int} {n : Nat} (h : (b - a).toNat = n) (h1 : -1000000 ≤ a ∧ a ≤ 1000000 ∧ -1000000 ≤ b ∧ b ≤ 1000000) : rng2 a b = some ((List.range n).map fun k : Nat => .int (a + k)) := by
  unfold rng2
  subst h
  rw [if_pos]
  refine decide_eq_true ⟨by omega, by omega, by omega, by omega, sl_small (by omega)⟩
theorem rng_get {a : Int} {n i : Nat} {d : PyData} (h : ((List.range n).map fun k : Nat => PyData.int (a + k))[i]? = some d) : d = .int (a + i) ∧ i < n := by
  rw [List.getElem?_map] at h
  cases e : (List.range n)[i]? with
  | none => rw [e] at h; cases h
  | some j =>
    rw [e] at h
    cases h
    obtain ⟨h1, h2⟩ := List.getElem?_eq_some_iff.mp e
    rw [List.getElem_range] at h2
    subst h2
    exact ⟨rfl, by simpa using h1⟩
theorem gMin_i (i j : Int) : gMin2 [.int i, .int j] = some (.int (if j < i then j else i)) := Eq.trans rfl rfl
theorem some_spec {o : Own} (h : Dk o) {xs : List PyData} (hl : xs.length ≤ 10000) (hs : ∀ x ∈ xs, PySem.SeqAt.shaped x = true) {m : Int} (m0 : 0 ≤ m) (m1 : m ≤ 10000) :
    ∃ ys o', fn__law_some [.ow o, .fz (.list xs), .fz (.int m)] = .ret (.list (ys)) [.ow o', .fz (.list xs), .fz (.int m)] ∧ (∀ y ∈ ys, y ∈ xs) ∧ ys.length ≤ xs.length ∧ Dk o' ∧ (0 < m → xs ≠ [] → ys ≠ []) ∧ ∃ p : PyData → Bool, ys = xs.filter p := by
  simp only [fn__law_some, b__law_some]
  obtain ⟨n, hn⟩ : ∃ n : Nat, (if (xs.length : Int) < m then (xs.length : Int) else m) = n ∧ n ≤ xs.length ∧ (0 < m → xs ≠ [] → 0 < n) := by
    by_cases h1 : (xs.length : Int) < m
    · exact ⟨xs.length, if_pos h1, Nat.le_refl _, fun _ h => List.length_pos_iff.mpr h⟩
    · exact ⟨m.toNat, by rw [if_neg h1]; omega, by omega, fun _ _ => by omega⟩
  obtain ⟨hn, hn2, hn3⟩ := hn
  simp -implicitDefEqProofs [fnOf_e, okio_e, okGo, sCons_e, sNil_e, sIf_e, sRet_e, sAsg_e, sExp_e, tst_e, bin_e, una_e, fnc_e, lift_s, dVar_e, dCon_e, dOwn_e, dRd_e, dFrz_e, aCons_e, aNil_e, dTup_e, dLst_e, dTupOf_e, dAnd_e, dOr_e, dNot_e, dIte_e, asB, outs, gNm_e, gTp_t, gsCons_c, gsNil_n, dCall_e, callV, aVal_e, aIo_e, agNil_e, isIo, slOf, back, agOk, agIo, sNew_e, dLc_e, nLc_e, dIt_e, items_l, items_t, dSl_e, dPart_n, dPart_s, sPar_e, rhv_e, rhn_e, wipeE, restE, keepF, ownL, nList_e, sLp_e]
  rw [sFor_of (rng1_of (j := n) (ρ1 := [.ow o, .fz (.list xs), .fz (.int m), .ow (.lst xs), .ow (.lst []), .un, .un, .un]) (by simp -implicitDefEqProofs [fnOf_e, okio_e, okGo, sCons_e, sNil_e, sIf_e, sRet_e, sAsg_e, sExp_e, tst_e, bin_e, una_e, fnc_e, lift_s, dVar_e, dCon_e, dOwn_e, dRd_e, dFrz_e, aCons_e, aNil_e, dTup_e, dLst_e, dTupOf_e, dAnd_e, dOr_e, dNot_e, dIte_e, asB, outs, gNm_e, gTp_t, gsCons_c, gsNil_n, dCall_e, callV, aVal_e, aIo_e, agNil_e, isIo, slOf, back, agOk, agIo, sNew_e, dLc_e, nLc_e, dIt_e, items_l, items_t, dSl_e, dPart_n, dPart_s, sPar_e, rhv_e, rhn_e, wipeE, restE, keepF, ownL, gLen_l, gMin_i, hn]) (rng2_n (n := n) (by omega) (by omega)))]
  generalize e : forL _ _ _ _ = r
  obtain ⟨ρ', rfl, o', l, f, rfl, ho, h1, h2, h3, h4⟩ := for_run e (fun k ρ => ∃ o l f, ρ = [.ow o, .fz (.list xs), .fz (.int m), .ow (.lst l), .ow (.lst f), .un, .un, .un] ∧ Dk o ∧ l.length + k = xs.length ∧ (∀ y ∈ l, y ∈ xs) ∧ (∀ y ∈ f, y ∈ xs) ∧ f.length = k)
    ⟨o, xs, [], rfl, h, rfl, fun _ h => h, fun _ h => (by cases h), rfl⟩ fun i d ρ hd ⟨o, l, f, hρ, ho, h1, h2, h3, h4⟩ => by
      subst hρ
      have hi : i < n := by
        have := (List.getElem?_eq_some_iff.mp hd).1
        simpa using this
      obtain ⟨r, o', e, r0, r1, hd'⟩ := draw_spec ho (m := (l.length : Int)) (by omega) (by omega)
      have hj : r.toNat < l.length := by omega
      refine ⟨_, _, rfl, ?_, o', l.eraseIdx r.toNat, f ++ [l[r.toNat]], rfl, hd', ?_, fun y hy => h2 y (List.mem_of_mem_eraseIdx hy), fun y hy => ?_, by rw [List.length_append, h4]; rfl⟩
      · have q1 : f.length < sizeLine := sl_lt (by omega)
        have q2 : (-9223372036854775808 ≤ r ∧ r < 9223372036854775808) := by omega
        simp -implicitDefEqProofs [fnOf_e, okio_e, okGo, sCons_e, sNil_e, sIf_e, sRet_e, sAsg_e, sExp_e, tst_e, bin_e, una_e, fnc_e, lift_s, dVar_e, dCon_e, dOwn_e, dRd_e, dFrz_e, aCons_e, aNil_e, dTup_e, dLst_e, dTupOf_e, dAnd_e, dOr_e, dNot_e, dIte_e, asB, outs, gNm_e, gTp_t, gsCons_c, gsNil_n, dCall_e, callV, aVal_e, aIo_e, agNil_e, isIo, slOf, back, agOk, agIo, sNew_e, dLc_e, nLc_e, dIt_e, items_l, items_t, dSl_e, dPart_n, dPart_s, sPar_e, rhv_e, rhn_e, wipeE, restE, keepF, ownL, sLp_e, sEnd_e, sCall_e, callO_e, dCallK_e, sFor_e, sApp_e, sExt_e, dEnum_e, dFix_e, nLc2_e, sRetN_e, sPar3_e, sRetO_e, sPut_e, nOp_e, pick, dPopAt, gLen_l, e, seqIx r0 r1, q1, q2, List.getElem?_eq_getElem hj]
      · rw [List.length_eraseIdx, if_pos hj]; omega
      · rcases List.mem_append.mp hy with q | q
        · exact h3 y q
        · rw [List.mem_singleton.mp q]; exact h2 _ (List.getElem_mem hj)
  simp -implicitDefEqProofs [fnOf_e, okio_e, okGo, sCons_e, sNil_e, sIf_e, sRet_e, sAsg_e, sExp_e, tst_e, bin_e, una_e, fnc_e, lift_s, dVar_e, dCon_e, dOwn_e, dRd_e, dFrz_e, aCons_e, aNil_e, dTup_e, dLst_e, dTupOf_e, dAnd_e, dOr_e, dNot_e, dIte_e, asB, outs, gNm_e, gTp_t, gsCons_c, gsNil_n, dCall_e, callV, aVal_e, aIo_e, agNil_e, isIo, slOf, back, agOk, agIo, sNew_e, dLc_e, nLc_e, dIt_e, items_l, items_t, dSl_e, dPart_n, dPart_s, sPar_e, rhv_e, rhn_e, wipeE, restE, keepF, ownL, sLp_e, sEnd_e, sCall_e, callO_e, dCallK_e, sFor_e, sApp_e, sExt_e, dEnum_e, dFix_e, nLc2_e, sRetN_e, sPar3_e, sRetO_e, sPut_e, nOp_e, pick]
  rw [lc_s (fun x => PySem.SeqAt.shaped x = true) id (fun x => f.any fun z => PyData.eqv z x) ?_ _ hs]
  rotate_left
  · intro d hd
    exact ⟨_, rfl, rfl, by simp -implicitDefEqProofs [fnOf_e, okio_e, okGo, sCons_e, sNil_e, sIf_e, sRet_e, sAsg_e, sExp_e, tst_e, bin_e, una_e, fnc_e, lift_s, dVar_e, dCon_e, dOwn_e, dRd_e, dFrz_e, aCons_e, aNil_e, dTup_e, dLst_e, dTupOf_e, dAnd_e, dOr_e, dNot_e, dIte_e, asB, outs, gNm_e, gTp_t, gsCons_c, gsNil_n, dCall_e, callV, aVal_e, aIo_e, agNil_e, isIo, slOf, back, agOk, agIo, sNew_e, dLc_e, nLc_e, dIt_e, items_l, items_t, dSl_e, dPart_n, dPart_s, sPar_e, rhv_e, rhn_e, wipeE, restE, keepF, ownL, gIn_l hd fun y hy => hs y (h3 y hy)], fun _ => by simp -implicitDefEqProofs [fnOf_e, okio_e, okGo, sCons_e, sNil_e, sIf_e, sRet_e, sAsg_e, sExp_e, tst_e, bin_e, una_e, fnc_e, lift_s, dVar_e, dCon_e, dOwn_e, dRd_e, dFrz_e, aCons_e, aNil_e, dTup_e, dLst_e, dTupOf_e, dAnd_e, dOr_e, dNot_e, dIte_e, asB, outs, gNm_e, gTp_t, gsCons_c, gsNil_n, dCall_e, callV, aVal_e, aIo_e, agNil_e, isIo, slOf, back, agOk, agIo, sNew_e, dLc_e, nLc_e, dIt_e, items_l, items_t, dSl_e, dPart_n, dPart_s, sPar_e, rhv_e, rhn_e, wipeE, restE, keepF, ownL]⟩
  simp -implicitDefEqProofs [fnOf_e, okio_e, okGo, sCons_e, sNil_e, sIf_e, sRet_e, sAsg_e, sExp_e, tst_e, bin_e, una_e, fnc_e, lift_s, dVar_e, dCon_e, dOwn_e, dRd_e, dFrz_e, aCons_e, aNil_e, dTup_e, dLst_e, dTupOf_e, dAnd_e, dOr_e, dNot_e, dIte_e, asB, outs, gNm_e, gTp_t, gsCons_c, gsNil_n, dCall_e, callV, aVal_e, aIo_e, agNil_e, isIo, slOf, back, agOk, agIo, sNew_e, dLc_e, nLc_e, dIt_e, items_l, items_t, dSl_e, dPart_n, dPart_s, sPar_e, rhv_e, rhn_e, wipeE, restE, keepF, ownL]
  refine ⟨_, o', ⟨rfl, rfl⟩, fun y hy => (List.mem_filter.mp hy).1, List.length_filter_le _ _, ho, fun q1 q2 q3 => ?_, _, rfl⟩
  have hf : 0 < f.length := by
    rw [h4]
    simpa using hn3 q1 q2
  obtain ⟨z, hz⟩ := List.exists_mem_of_length_pos hf
  have : z ∈ xs.filter (fun x => f.any fun z => PyData.eqv z x) := List.mem_filter.mpr ⟨h3 z hz, List.any_eq_true.mpr ⟨z, hz, PySem.SeqAt.eqv_refl z (PySem.SeqAt.canLay_of_shaped (hs z (h3 z hz)))⟩⟩
  rw [q3] at this
  cases this
/-! ## rows of whole numbers -/
def Row (n : Nat) (d : PyData) : Prop := ∃ ns : List Int, d = .tuple (ns.map .int) ∧ ns ≠ [] ∧ ns.length ≤ n ∧ ∀ x ∈ ns, 0 ≤ x ∧ x < n
theorem Row.mono {n m : Nat} {d : PyData} (h : Row n d) (hm : n ≤ m) : Row m d := by
  obtain ⟨ns, e, h1, h2, h3⟩ := h
  exact ⟨ns, e, h1, by omega, fun x hx => ⟨(h3 x hx).1, by have := (h3 x hx).2; omega⟩⟩
theorem canInts : ∀ ns : List Int, PyData.canLayAll0 (ns.map .int) = true
  | [] => by simp [PyData.canLayAll0]
  | n :: ns => by simp [PyData.canLayAll0, PyData.canLay0, canInts ns]
theorem shaped_ints (ns : List Int) : PySem.SeqAt.shaped (.tuple (ns.map .int)) = true := by
  unfold PySem.SeqAt.shaped
  rw [PyData.canLay0, canInts ns, PyData.depth, PySem.W.depth_ints]
  rfl
theorem shaped_int (i : Int) : PySem.SeqAt.shaped (.int i) = true := by
  unfold PySem.SeqAt.shaped
  rw [PyData.canLay0, PyData.depth]
  rfl
theorem Row.shaped {n : Nat} {d : PyData} (h : Row n d) : PySem.SeqAt.shaped d = true := by
  obtain ⟨ns, rfl, _⟩ := h
  exact shaped_ints ns
theorem sort_rows {n : Nat} {xs : List PyData} (h : ∀ x ∈ xs, Row n x) (hl : xs.length ≤ 16777216) : gSorted [.list xs] = some (.list (sorts xs)) := by
  have hk : sortOk xs = true := by
    unfold sortOk
    rw [Bool.and_eq_true, Bool.and_eq_true, Bool.and_eq_true, Bool.or_eq_true]
    refine ⟨⟨⟨?_, .inl ?_⟩, ?_⟩, decide_eq_true (sl_small hl)⟩
    · refine List.all_eq_true.mpr fun x hx => List.all_eq_true.mpr fun y hy => ?_
      obtain ⟨ns, rfl, _⟩ := h x hx
      obtain ⟨ms, rfl, _⟩ := h y hy
      rw [PySem.W.alike, PySem.W.alike_ints]
    · refine List.all_eq_true.mpr fun x hx => ?_
      obtain ⟨ns, rfl, h1, _⟩ := h x hx
      cases ns with
      | nil => exact absurd rfl h1
      | cons _ _ => rfl
    · refine List.all_eq_true.mpr fun x hx => ?_
      obtain ⟨ns, rfl, _⟩ := h x hx
      refine decide_eq_true ?_
      rw [PyData.depth, PySem.W.depth_ints]
      decide
  simp [gSorted, hk]
theorem sort_ints {xs : List Int} (hl : xs.length ≤ 16777216) : gSorted [.list (xs.map .int)] = some (.list (sorts (xs.map .int))) := by
  have hk : sortOk (xs.map PyData.int) = true := by
    unfold sortOk
    rw [Bool.and_eq_true, Bool.and_eq_true, Bool.and_eq_true, Bool.or_eq_true]
    refine ⟨⟨⟨?_, .inr ?_⟩, ?_⟩, decide_eq_true (sl_small (by rw [List.length_map]; exact hl))⟩
    · refine List.all_eq_true.mpr fun x hx => List.all_eq_true.mpr fun y hy => ?_
      obtain ⟨i, _, rfl⟩ := List.mem_map.mp hx
      obtain ⟨j, _, rfl⟩ := List.mem_map.mp hy
      rw [PySem.W.alike]
    · refine List.all_eq_true.mpr fun x hx => ?_
      obtain ⟨i, _, rfl⟩ := List.mem_map.mp hx
      rfl
    · refine List.all_eq_true.mpr fun x hx => ?_
      obtain ⟨i, _, rfl⟩ := List.mem_map.mp hx
      refine decide_eq_true ?_
      rw [PyData.depth]
      decide
  simp [gSorted, hk]
theorem mem_sorts {xs : List PyData} {d : PyData} : d ∈ sorts xs ↔ d ∈ xs := by rw [sorts_eq]; exact List.mem_mergeSort
theorem len_sorts (xs : List PyData) : (sorts xs).length = xs.length := by rw [sorts_eq]; exact List.length_mergeSort _
theorem gAdd_t {xs ys : List PyData} (h : xs.length + ys.length ≤ 16777216) : gAdd (.tuple xs) (.tuple ys) = some (.tuple (xs ++ ys)) := by
  show (if xs.length + ys.length ≤ sizeLine then some (PyData.tuple (xs ++ ys)) else none) = _
  exact if_pos (sl_small h)
theorem gAdd_l {xs ys : List PyData} (h : xs.length + ys.length ≤ 16777216) : gAdd (.list xs) (.list ys) = some (.list (xs ++ ys)) := by
  show (if xs.length + ys.length ≤ sizeLine then some (PyData.list (xs ++ ys)) else none) = _
  exact if_pos (sl_small h)
def snoc (k : Int) : PyData → PyData
  | .tuple xs => .tuple (xs ++ [.int k])
  | d => d
theorem row_snoc {k : Nat} {d : PyData} (h : Row k d) : Row (k + 1) (snoc k d) := by
  obtain ⟨ns, rfl, h1, h2, h3⟩ := h
  refine ⟨ns ++ [(k : Int)], by simp [snoc], by simp, by simp; exact h2, fun x hx => ?_⟩
  rcases List.mem_append.mp hx with q | q
  · have := h3 x q; omega
  · rw [List.mem_singleton.mp q]; omega
theorem sl_drop1 (x : PyData) (xs : List PyData) : gSl (some 1) none (.list (x :: xs)) = some (.list xs) := by
  show some (PyData.list (cutD _ _ _)) = _
  unfold cutD
  have e : HT.sIx (x :: xs).length 0 (some 1) = 1 := by
    rw [show (some 1 : Option Int) = some ((1 : Nat) : Int) from rfl, HT.sIx_nat]
    simp
  rw [e]
  show some (PyData.list (List.take ((x :: xs).length - 1) xs)) = _
  simp
theorem sets_spec8 {n : Nat} (hn : n ≤ 8) : ∃ ys, fn__law_sets [.fz (.int n)] = .ret (.list ys) [.fz (.int n)] ∧ (∀ y ∈ ys, Row n y) ∧ ys.length + 1 = 2 ^ n ∧ (0 < n → ∃ y ∈ ys, ∃ ns : List Int, y = .tuple (ns.map .int) ∧ ns.length = n) := by
  simp only [fn__law_sets, b__law_sets]
  simp -implicitDefEqProofs [fnOf_e, okio_e, okGo, sCons_e, sNil_e, sIf_e, sRet_e, sAsg_e, sExp_e, tst_e, bin_e, una_e, fnc_e, lift_s, dVar_e, dCon_e, dOwn_e, dRd_e, dFrz_e, aCons_e, aNil_e, dTup_e, dLst_e, dTupOf_e, dAnd_e, dOr_e, dNot_e, dIte_e, asB, outs, gNm_e, gTp_t, gsCons_c, gsNil_n, dCall_e, callV, aVal_e, aIo_e, agNil_e, isIo, slOf, back, agOk, agIo, sNew_e, dLc_e, nLc_e, dIt_e, items_l, items_t, dSl_e, dPart_n, dPart_s, sPar_e, rhv_e, rhn_e, wipeE, restE, keepF, ownL, sLp_e]
  rw [sFor_of (rng1_of (j := n) (ρ1 := [.fz (.int n), .fz (.list [.tuple []]), .un, .un, .un]) (by simp -implicitDefEqProofs [fnOf_e, okio_e, okGo, sCons_e, sNil_e, sIf_e, sRet_e, sAsg_e, sExp_e, tst_e, bin_e, una_e, fnc_e, lift_s, dVar_e, dCon_e, dOwn_e, dRd_e, dFrz_e, aCons_e, aNil_e, dTup_e, dLst_e, dTupOf_e, dAnd_e, dOr_e, dNot_e, dIte_e, asB, outs, gNm_e, gTp_t, gsCons_c, gsNil_n, dCall_e, callV, aVal_e, aIo_e, agNil_e, isIo, slOf, back, agOk, agIo, sNew_e, dLc_e, nLc_e, dIt_e, items_l, items_t, dSl_e, dPart_n, dPart_s, sPar_e, rhv_e, rhn_e, wipeE, restE, keepF, ownL]) (rng2_n (n := n) (by omega) (by omega)))]
  generalize e : forL _ _ _ _ = r
  obtain ⟨ρ', rfl, l, rfl, h1, h2, h3⟩ := for_run e (fun k ρ => ∃ l, ρ = [.fz (.int n), .fz (.list (.tuple [] :: l)), .un, .un, .un] ∧ (∀ y ∈ l, Row k y) ∧ l.length + 1 = 2 ^ k ∧ (0 < k → ∃ y ∈ l, ∃ ns : List Int, y = .tuple (ns.map .int) ∧ ns.length = k))
    ⟨[], rfl, fun _ h => (by cases h), rfl, fun h => absurd h (by decide)⟩ fun k d ρ hd ⟨l, hρ, h1, h2, h3⟩ => by
      subst hρ
      obtain ⟨rfl, hk⟩ := rng_get hd
      have hp : 2 ^ k ≤ 2 ^ 7 := Nat.pow_le_pow_right (by decide) (by omega)
      refine ⟨_, _, rfl, ?_, l ++ (.tuple [.int k] :: l.map (snoc k)), rfl, fun y hy => ?_, ?_, fun _ => ?_⟩
      · simp -implicitDefEqProofs [fnOf_e, okio_e, okGo, sCons_e, sNil_e, sIf_e, sRet_e, sAsg_e, sExp_e, tst_e, bin_e, una_e, fnc_e, lift_s, dVar_e, dCon_e, dOwn_e, dRd_e, dFrz_e, aCons_e, aNil_e, dTup_e, dLst_e, dTupOf_e, dAnd_e, dOr_e, dNot_e, dIte_e, asB, outs, gNm_e, gTp_t, gsCons_c, gsNil_n, dCall_e, callV, aVal_e, aIo_e, agNil_e, isIo, slOf, back, agOk, agIo, sNew_e, dLc_e, nLc_e, dIt_e, items_l, items_t, dSl_e, dPart_n, dPart_s, sPar_e, rhv_e, rhn_e, wipeE, restE, keepF, ownL, sEnd_e]
        rw [lc_s (fun y => ∃ ys, y = .tuple ys ∧ ys.length ≤ 100) (snoc k) (fun _ => true) ?_ (.tuple [] :: l) ?_]
        rotate_left
        · rintro d ⟨ys, rfl, hy⟩
          exact ⟨_, rfl, rfl, rfl, fun _ => by simp -implicitDefEqProofs [fnOf_e, okio_e, okGo, sCons_e, sNil_e, sIf_e, sRet_e, sAsg_e, sExp_e, tst_e, bin_e, una_e, fnc_e, lift_s, dVar_e, dCon_e, dOwn_e, dRd_e, dFrz_e, aCons_e, aNil_e, dTup_e, dLst_e, dTupOf_e, dAnd_e, dOr_e, dNot_e, dIte_e, asB, outs, gNm_e, gTp_t, gsCons_c, gsNil_n, dCall_e, callV, aVal_e, aIo_e, agNil_e, isIo, slOf, back, agOk, agIo, sNew_e, dLc_e, nLc_e, dIt_e, items_l, items_t, dSl_e, dPart_n, dPart_s, sPar_e, rhv_e, rhn_e, wipeE, restE, keepF, ownL, gAdd_t (show ys.length + [PyData.int (k : Int)].length ≤ 16777216 by simp; omega), snoc]⟩
        · intro y hy
          rcases List.mem_cons.mp hy with q | q
          · exact ⟨[], q, by simp⟩
          · obtain ⟨ns, e, _, h3, _⟩ := h1 y q
            exact ⟨_, e, by rw [List.length_map]; omega⟩
        have ef : (PyData.tuple [] :: l).filter (fun _ => true) = .tuple [] :: l := List.filter_eq_self.mpr fun _ _ => rfl
        rw [ef]
        simp -implicitDefEqProofs [fnOf_e, okio_e, okGo, sCons_e, sNil_e, sIf_e, sRet_e, sAsg_e, sExp_e, tst_e, bin_e, una_e, fnc_e, lift_s, dVar_e, dCon_e, dOwn_e, dRd_e, dFrz_e, aCons_e, aNil_e, dTup_e, dLst_e, dTupOf_e, dAnd_e, dOr_e, dNot_e, dIte_e, asB, outs, gNm_e, gTp_t, gsCons_c, gsNil_n, dCall_e, callV, aVal_e, aIo_e, agNil_e, isIo, slOf, back, agOk, agIo, sNew_e, dLc_e, nLc_e, dIt_e, items_l, items_t, dSl_e, dPart_n, dPart_s, sPar_e, rhv_e, rhn_e, wipeE, restE, keepF, ownL, snoc]
        rw [gAdd_l (by simp; omega)]
        simp -implicitDefEqProofs [fnOf_e, okio_e, okGo, sCons_e, sNil_e, sIf_e, sRet_e, sAsg_e, sExp_e, tst_e, bin_e, una_e, fnc_e, lift_s, dVar_e, dCon_e, dOwn_e, dRd_e, dFrz_e, aCons_e, aNil_e, dTup_e, dLst_e, dTupOf_e, dAnd_e, dOr_e, dNot_e, dIte_e, asB, outs, gNm_e, gTp_t, gsCons_c, gsNil_n, dCall_e, callV, aVal_e, aIo_e, agNil_e, isIo, slOf, back, agOk, agIo, sNew_e, dLc_e, nLc_e, dIt_e, items_l, items_t, dSl_e, dPart_n, dPart_s, sPar_e, rhv_e, rhn_e, wipeE, restE, keepF, ownL]
      · rcases List.mem_append.mp hy with q | q
        · exact (h1 y q).mono (by omega)
        · rcases List.mem_cons.mp q with q | q
          · subst q
            exact ⟨[(k : Int)], rfl, by simp, by simp, fun x hx => by rw [List.mem_singleton.mp hx]; omega⟩
          · obtain ⟨z, hz, rfl⟩ := List.mem_map.mp q
            exact row_snoc (h1 z hz)
      · rw [List.length_append, List.length_cons, List.length_map, Nat.pow_succ]; omega
      · by_cases hk0 : 0 < k
        · obtain ⟨y, hy, ns, rfl, hn⟩ := h3 hk0
          exact ⟨snoc k (.tuple (ns.map .int)), List.mem_append_right _ (List.mem_cons_of_mem _ (List.mem_map.mpr ⟨_, hy, rfl⟩)), ns ++ [(k : Int)], by simp [snoc], by simp [hn]⟩
        · have hk0 : k = 0 := by omega
          subst hk0
          exact ⟨.tuple [.int ((0 : Nat) : Int)], List.mem_append_right _ List.mem_cons_self, [((0 : Nat) : Int)], rfl, rfl⟩
  have h2' : l.length + 1 = 2 ^ n := by simpa using h2
  have hl : l.length ≤ 255 := by
    have : 2 ^ n ≤ 2 ^ 8 := Nat.pow_le_pow_right (by decide) hn
    omega
  have hr : ∀ y ∈ l, Row n y := by simpa using h1
  simp -implicitDefEqProofs [fnOf_e, okio_e, okGo, sCons_e, sNil_e, sIf_e, sRet_e, sAsg_e, sExp_e, tst_e, bin_e, una_e, fnc_e, lift_s, dVar_e, dCon_e, dOwn_e, dRd_e, dFrz_e, aCons_e, aNil_e, dTup_e, dLst_e, dTupOf_e, dAnd_e, dOr_e, dNot_e, dIte_e, asB, outs, gNm_e, gTp_t, gsCons_c, gsNil_n, dCall_e, callV, aVal_e, aIo_e, agNil_e, isIo, slOf, back, agOk, agIo, sNew_e, dLc_e, nLc_e, dIt_e, items_l, items_t, dSl_e, dPart_n, dPart_s, sPar_e, rhv_e, rhn_e, wipeE, restE, keepF, ownL, isI_i, sl_drop1, sort_rows hr (by omega)]
  refine ⟨fun y hy => hr y (mem_sorts.mp hy), by rw [len_sorts]; exact h2', fun h0 => ?_⟩
  obtain ⟨y, hy, q⟩ := h3 (by simpa using h0)
  exact ⟨y, mem_sorts.mpr hy, by simpa using q⟩
theorem sets_spec {n : Nat} (hn : n ≤ 4) : ∃ ys, fn__law_sets [.fz (.int n)] = .ret (.list ys) [.fz (.int n)] ∧ (∀ y ∈ ys, Row n y) ∧ ys.length ≤ 15 ∧ (0 < n → ∃ y ∈ ys, ∃ ns : List Int, y = .tuple (ns.map .int) ∧ ns.length = n) := by
  obtain ⟨ys, e, h1, h2, h3⟩ := sets_spec8 (n := n) (by omega)
  refine ⟨ys, e, h1, ?_, h3⟩
  have : 2 ^ n ≤ 2 ^ 4 := Nat.pow_le_pow_right (by decide) hn
  omega
theorem union_spec {n : Nat} (hn : n ≤ 4) {xs : List PyData} (h : ∀ x ∈ xs, Row n x) (hl : xs.length ≤ 100) : ∃ ms : List Int, fn__law_union [.fz (.list xs)] = .ret (.tuple (ms.map .int)) [.fz (.list xs)] ∧ (xs = [] → ms = []) := by
  simp only [fn__law_union, b__law_union]
  simp -implicitDefEqProofs [fnOf_e, okio_e, okGo, sCons_e, sNil_e, sIf_e, sRet_e, sAsg_e, sExp_e, tst_e, bin_e, una_e, fnc_e, lift_s, dVar_e, dCon_e, dOwn_e, dRd_e, dFrz_e, aCons_e, aNil_e, dTup_e, dLst_e, dTupOf_e, dAnd_e, dOr_e, dNot_e, dIte_e, asB, outs, gNm_e, gTp_t, gsCons_c, gsNil_n, dCall_e, callV, aVal_e, aIo_e, agNil_e, isIo, slOf, back, agOk, agIo, sNew_e, dLc_e, nLc_e, dIt_e, items_l, items_t, dSl_e, dPart_n, dPart_s, sPar_e, rhv_e, rhn_e, wipeE, restE, keepF, ownL, sLp_e, sEnd_e, sCall_e, callO_e, dCallK_e, sFor_e, sApp_e, sExt_e, dEnum_e, dFix_e, nLc2_e, sRetN_e, sPar3_e, sRetO_e, sPut_e, nOp_e, pick]
  generalize e : forL _ _ _ _ = r
  obtain ⟨ρ', rfl, ms, rfl, h2⟩ := for_run e (fun k ρ => ∃ (ms : List Int), ρ = [.fz (.list xs), .ow (.lst (ms.map .int)), .un, .un, .un] ∧ ms.length ≤ 4 * k)
    ⟨[], rfl, Nat.le_refl _⟩ fun k d ρ hd ⟨ms, hρ, h2⟩ => by
      subst hρ
      have hk : k < 100 := by have := (List.getElem?_eq_some_iff.mp hd).1; omega
      obtain ⟨ns, rfl, _, h3, _⟩ := h d (List.mem_of_getElem? hd)
      have es : ∀ z ∈ ms.map PyData.int, PySem.SeqAt.shaped z = true := fun z hz => by
        obtain ⟨i, _, rfl⟩ := List.mem_map.mp hz
        exact shaped_int i
      obtain ⟨fs, ef⟩ : ∃ fs : List Int, (ns.map PyData.int).filter (fun z => !(ms.map PyData.int).any fun y => PyData.eqv y z) = fs.map .int := ints_of fun d hd => isInt_map ns d (List.mem_filter.mp hd).1
      have efl : fs.length ≤ 4 := by
        have := congrArg List.length ef
        have h5 := List.length_filter_le (fun z => !(ms.map PyData.int).any fun y => PyData.eqv y z) (ns.map PyData.int)
        rw [List.length_map] at this h5
        omega
      refine ⟨_, _, rfl, ?_, ms ++ fs, rfl, by rw [List.length_append]; omega⟩
      simp -implicitDefEqProofs [fnOf_e, okio_e, okGo, sCons_e, sNil_e, sIf_e, sRet_e, sAsg_e, sExp_e, tst_e, bin_e, una_e, fnc_e, lift_s, dVar_e, dCon_e, dOwn_e, dRd_e, dFrz_e, aCons_e, aNil_e, dTup_e, dLst_e, dTupOf_e, dAnd_e, dOr_e, dNot_e, dIte_e, asB, outs, gNm_e, gTp_t, gsCons_c, gsNil_n, dCall_e, callV, aVal_e, aIo_e, agNil_e, isIo, slOf, back, agOk, agIo, sNew_e, dLc_e, nLc_e, dIt_e, items_l, items_t, dSl_e, dPart_n, dPart_s, sPar_e, rhv_e, rhn_e, wipeE, restE, keepF, ownL, sLp_e, sEnd_e, sCall_e, callO_e, dCallK_e, sFor_e, sApp_e, sExt_e, dEnum_e, dFix_e, nLc2_e, sRetN_e, sPar3_e, sRetO_e, sPut_e, nOp_e, pick]
      rw [lc_s isInt id (fun z => !(ms.map PyData.int).any fun y => PyData.eqv y z) ?_ _ (isInt_map ns)]
      rotate_left
      · rintro d ⟨i, rfl⟩
        exact ⟨_, rfl, rfl, by simp -implicitDefEqProofs [fnOf_e, okio_e, okGo, sCons_e, sNil_e, sIf_e, sRet_e, sAsg_e, sExp_e, tst_e, bin_e, una_e, fnc_e, lift_s, dVar_e, dCon_e, dOwn_e, dRd_e, dFrz_e, aCons_e, aNil_e, dTup_e, dLst_e, dTupOf_e, dAnd_e, dOr_e, dNot_e, dIte_e, asB, outs, gNm_e, gTp_t, gsCons_c, gsNil_n, dCall_e, callV, aVal_e, aIo_e, agNil_e, isIo, slOf, back, agOk, agIo, sNew_e, dLc_e, nLc_e, dIt_e, items_l, items_t, dSl_e, dPart_n, dPart_s, sPar_e, rhv_e, rhn_e, wipeE, restE, keepF, ownL, gNotIn_l (shaped_int i) es], fun _ => by simp -implicitDefEqProofs [fnOf_e, okio_e, okGo, sCons_e, sNil_e, sIf_e, sRet_e, sAsg_e, sExp_e, tst_e, bin_e, una_e, fnc_e, lift_s, dVar_e, dCon_e, dOwn_e, dRd_e, dFrz_e, aCons_e, aNil_e, dTup_e, dLst_e, dTupOf_e, dAnd_e, dOr_e, dNot_e, dIte_e, asB, outs, gNm_e, gTp_t, gsCons_c, gsNil_n, dCall_e, callV, aVal_e, aIo_e, agNil_e, isIo, slOf, back, agOk, agIo, sNew_e, dLc_e, nLc_e, dIt_e, items_l, items_t, dSl_e, dPart_n, dPart_s, sPar_e, rhv_e, rhn_e, wipeE, restE, keepF, ownL]⟩
      rw [ef]
      have q1 : ms.length + fs.length ≤ sizeLine := sl_small (by omega)
      simp -implicitDefEqProofs [fnOf_e, okio_e, okGo, sCons_e, sNil_e, sIf_e, sRet_e, sAsg_e, sExp_e, tst_e, bin_e, una_e, fnc_e, lift_s, dVar_e, dCon_e, dOwn_e, dRd_e, dFrz_e, aCons_e, aNil_e, dTup_e, dLst_e, dTupOf_e, dAnd_e, dOr_e, dNot_e, dIte_e, asB, outs, gNm_e, gTp_t, gsCons_c, gsNil_n, dCall_e, callV, aVal_e, aIo_e, agNil_e, isIo, slOf, back, agOk, agIo, sNew_e, dLc_e, nLc_e, dIt_e, items_l, items_t, dSl_e, dPart_n, dPart_s, sPar_e, rhv_e, rhn_e, wipeE, restE, keepF, ownL, q1]
  have hs : ms.length ≤ 16777216 := by omega
  obtain ⟨ts, et⟩ : ∃ ts : List Int, sorts (ms.map PyData.int) = ts.map .int := ints_of fun d hd => isInt_map ms d (mem_sorts.mp hd)
  simp -implicitDefEqProofs [fnOf_e, okio_e, okGo, sCons_e, sNil_e, sIf_e, sRet_e, sAsg_e, sExp_e, tst_e, bin_e, una_e, fnc_e, lift_s, dVar_e, dCon_e, dOwn_e, dRd_e, dFrz_e, aCons_e, aNil_e, dTup_e, dLst_e, dTupOf_e, dAnd_e, dOr_e, dNot_e, dIte_e, asB, outs, gNm_e, gTp_t, gsCons_c, gsNil_n, dCall_e, callV, aVal_e, aIo_e, agNil_e, isIo, slOf, back, agOk, agIo, sNew_e, dLc_e, nLc_e, dIt_e, items_l, items_t, dSl_e, dPart_n, dPart_s, sPar_e, rhv_e, rhn_e, wipeE, restE, keepF, ownL, sort_ints hs, et, gTuple]
  refine ⟨ts, rfl, fun z => ?_⟩
  subst z
  have : ms = [] := List.eq_nil_of_length_eq_zero (by simpa using h2)
  subst this
  have := congrArg List.length et
  rw [len_sorts] at this
  exact List.eq_nil_of_length_eq_zero (by simpa using this.symm)
theorem range_row {n : Nat} (h0 : 0 < n) : Row n (.tuple ((List.range n).map fun k : Nat => .int ((0 : Int) + k))) := by
  refine ⟨(List.range n).map fun k : Nat => (k : Int), by rw [List.map_map]; congr 1; simp [Function.comp_def], by simp; omega, by simp, fun x hx => ?_⟩
  obtain ⟨k, hk, rfl⟩ := List.mem_map.mp hx
  have := List.mem_range.mp hk
  omega
theorem with_all_spec {n : Nat} (hn : n ≤ 4) (h0 : 0 < n) {xs : List PyData} (h : ∀ x ∈ xs, Row n x) (hl : xs.length ≤ 100) : ∃ ys as, fn__law_with_all [.fz (.int n), .fz (.list xs)] = .ret (.tuple [.int n, .tuple ys]) as ∧ (∀ y ∈ ys, Row n y) ∧ ys.length ≤ xs.length + 1 ∧ as = [.fz (.int n), .fz (.list xs)] ∧ ys ≠ [] := by
  obtain ⟨ms, e, em⟩ := union_spec hn h hl
  simp only [fn__law_with_all, b__law_with_all]
  by_cases hc : (ms.length : Int) < n
  · have hrow : ∀ y ∈ xs ++ [.tuple ((List.range n).map fun k : Nat => .int ((0 : Int) + k))], Row n y := fun y hy => by
      rcases List.mem_append.mp hy with q | q
      · exact h y q
      · rw [List.mem_singleton.mp q]; exact range_row h0
    simp only [Int.zero_add] at hrow
    have eR : dRng1 (dVar 0) [.fz (.int n), .fz (.list xs)] = .ok ((List.range n).map fun k : Nat => .int ((0 : Int) + k)) [.fz (.int n), .fz (.list xs)] := rng1_of (j := (n : Int)) (by simp -implicitDefEqProofs [fnOf_e, okio_e, okGo, sCons_e, sNil_e, sIf_e, sRet_e, sAsg_e, sExp_e, tst_e, bin_e, una_e, fnc_e, lift_s, dVar_e, dCon_e, dOwn_e, dRd_e, dFrz_e, aCons_e, aNil_e, dTup_e, dLst_e, dTupOf_e, dAnd_e, dOr_e, dNot_e, dIte_e, asB, outs, gNm_e, gTp_t, gsCons_c, gsNil_n, dCall_e, callV, aVal_e, aIo_e, agNil_e, isIo, slOf, back, agOk, agIo, sNew_e, dLc_e, nLc_e, dIt_e, items_l, items_t, dSl_e, dPart_n, dPart_s, sPar_e, rhv_e, rhn_e, wipeE, restE, keepF, ownL]) (rng2_n (n := n) (by omega) (by omega))
    simp -implicitDefEqProofs [fnOf_e, okio_e, okGo, sCons_e, sNil_e, sIf_e, sRet_e, sAsg_e, sExp_e, tst_e, bin_e, una_e, fnc_e, lift_s, dVar_e, dCon_e, dOwn_e, dRd_e, dFrz_e, aCons_e, aNil_e, dTup_e, dLst_e, dTupOf_e, dAnd_e, dOr_e, dNot_e, dIte_e, asB, outs, gNm_e, gTp_t, gsCons_c, gsNil_n, dCall_e, callV, aVal_e, aIo_e, agNil_e, isIo, slOf, back, agOk, agIo, sNew_e, dLc_e, nLc_e, dIt_e, items_l, items_t, dSl_e, dPart_n, dPart_s, sPar_e, rhv_e, rhn_e, wipeE, restE, keepF, ownL, e, gLen_t, gLt_i, hc, eR]
    rw [gAdd_l (by simp; omega)]
    simp -implicitDefEqProofs [fnOf_e, okio_e, okGo, sCons_e, sNil_e, sIf_e, sRet_e, sAsg_e, sExp_e, tst_e, bin_e, una_e, fnc_e, lift_s, dVar_e, dCon_e, dOwn_e, dRd_e, dFrz_e, aCons_e, aNil_e, dTup_e, dLst_e, dTupOf_e, dAnd_e, dOr_e, dNot_e, dIte_e, asB, outs, gNm_e, gTp_t, gsCons_c, gsNil_n, dCall_e, callV, aVal_e, aIo_e, agNil_e, isIo, slOf, back, agOk, agIo, sNew_e, dLc_e, nLc_e, dIt_e, items_l, items_t, dSl_e, dPart_n, dPart_s, sPar_e, rhv_e, rhn_e, wipeE, restE, keepF, ownL, sort_rows hrow (by rw [List.length_append]; simp; omega), gTuple]
    exact ⟨_, _, ⟨rfl, rfl⟩, fun y hy => hrow y (mem_sorts.mp hy), by rw [len_sorts, List.length_append]; exact Nat.le_refl _, rfl, fun z => by have := congrArg List.length z; rw [len_sorts, List.length_append] at this; simp at this⟩
  · simp -implicitDefEqProofs [fnOf_e, okio_e, okGo, sCons_e, sNil_e, sIf_e, sRet_e, sAsg_e, sExp_e, tst_e, bin_e, una_e, fnc_e, lift_s, dVar_e, dCon_e, dOwn_e, dRd_e, dFrz_e, aCons_e, aNil_e, dTup_e, dLst_e, dTupOf_e, dAnd_e, dOr_e, dNot_e, dIte_e, asB, outs, gNm_e, gTp_t, gsCons_c, gsNil_n, dCall_e, callV, aVal_e, aIo_e, agNil_e, isIo, slOf, back, agOk, agIo, sNew_e, dLc_e, nLc_e, dIt_e, items_l, items_t, dSl_e, dPart_n, dPart_s, sPar_e, rhv_e, rhn_e, wipeE, restE, keepF, ownL, e, gLen_t, gLt_i, hc, sort_rows h (by omega), gTuple]
    exact ⟨_, _, ⟨rfl, rfl⟩, fun y hy => h y (mem_sorts.mp hy), by rw [len_sorts]; exact Nat.le_succ _, rfl, fun z => by
      have z := congrArg List.length z
      rw [len_sorts] at z
      have := em (List.eq_nil_of_length_eq_zero z)
      subst this
      simp at hc
      omega⟩
/-- a world: a number of nodes, right sets -/
def World (d : PyData) : Prop := ∃ (n : Nat) (ys : List PyData), d = .tuple [.int n, .tuple ys] ∧ 2 ≤ n ∧ n ≤ 4 ∧ (∀ y ∈ ys, Row n y) ∧ ys.length ≤ 16 ∧ ys ≠ []
theorem gGe_len (xs : List PyData) : gLen [.tuple xs] = some (.int xs.length) := rfl
theorem gEqB_i (i j : Int) : gEqB (.int i) (.int j) = some (.bool (i == j)) := by
  have h1 : PySem.SeqAt.shaped (.int i) = true := shaped_int i
  have h2 : PySem.SeqAt.shaped (.int j) = true := shaped_int j
  simp [gEqB, gEq, h1, h2, PyData.eqv]
theorem gNeB_i (i j : Int) : gNeB (.int i) (.int j) = some (.bool (!(i == j))) := by
  have h1 : PySem.SeqAt.shaped (.int i) = true := shaped_int i
  have h2 : PySem.SeqAt.shaped (.int j) = true := shaped_int j
  simp [gNeB, gEq, h1, h2, PyData.eqv]
theorem world_spec {o : Own} (h : Dk o) : ∃ d o', fn__law_world [.ow o] = .ret d [.ow o'] ∧ World d ∧ Dk o' := by
  simp only [fn__law_world, b__law_world]
  obtain ⟨d, o1, e1, hd, h1⟩ := pick_l h (xs := [.int 2, .int 2, .int 3, .int 3, .int 3, .int 4]) (by simp) (by simp)
  obtain ⟨n, rfl, n2, n4⟩ : ∃ n : Nat, d = .int n ∧ 2 ≤ n ∧ n ≤ 4 := by
    simp at hd
    rcases hd with rfl | rfl | rfl
    · exact ⟨2, rfl, by omega, by omega⟩
    · exact ⟨3, rfl, by omega, by omega⟩
    · exact ⟨4, rfl, by omega, by omega⟩
  obtain ⟨w, o2, e2, w0, w5, h2⟩ := draw_spec h1 (m := 5) (by decide) (by decide)
  obtain ⟨ss, e3, hs, hsl, hfull⟩ := sets_spec n4
  obtain ⟨fy, hfy, fns, rfl, hfn⟩ := hfull (by omega)
  by_cases c0 : w = 0
  · subst c0
    obtain ⟨r, o3, e4, r0, rn, h3⟩ := draw_spec h2 (m := (n : Int)) (by omega) (by omega)
    simp -implicitDefEqProofs [fnOf_e, okio_e, okGo, sCons_e, sNil_e, sIf_e, sRet_e, sAsg_e, sExp_e, tst_e, bin_e, una_e, fnc_e, lift_s, dVar_e, dCon_e, dOwn_e, dRd_e, dFrz_e, aCons_e, aNil_e, dTup_e, dLst_e, dTupOf_e, dAnd_e, dOr_e, dNot_e, dIte_e, asB, outs, gNm_e, gTp_t, gsCons_c, gsNil_n, dCall_e, callV, aVal_e, aIo_e, agNil_e, isIo, slOf, back, agOk, agIo, sNew_e, dLc_e, nLc_e, dIt_e, items_l, items_t, dSl_e, dPart_n, dPart_s, sPar_e, rhv_e, rhn_e, wipeE, restE, keepF, ownL, e1, e2, e3, e4, gEqB_i, gAdd_i]
    rw [lc_s (fun y => ∃ ys, y = .tuple ys) id (fun y => match y with | .tuple ys => decide (1 + r ≤ ys.length) | _ => false) ?_ _ (fun y hy => by obtain ⟨ns, q, _⟩ := hs y hy; exact ⟨_, q⟩)]
    rotate_left
    · rintro d ⟨ys, rfl⟩
      exact ⟨_, rfl, rfl, by simp -implicitDefEqProofs [fnOf_e, okio_e, okGo, sCons_e, sNil_e, sIf_e, sRet_e, sAsg_e, sExp_e, tst_e, bin_e, una_e, fnc_e, lift_s, dVar_e, dCon_e, dOwn_e, dRd_e, dFrz_e, aCons_e, aNil_e, dTup_e, dLst_e, dTupOf_e, dAnd_e, dOr_e, dNot_e, dIte_e, asB, outs, gNm_e, gTp_t, gsCons_c, gsNil_n, dCall_e, callV, aVal_e, aIo_e, agNil_e, isIo, slOf, back, agOk, agIo, sNew_e, dLc_e, nLc_e, dIt_e, items_l, items_t, dSl_e, dPart_n, dPart_s, sPar_e, rhv_e, rhn_e, wipeE, restE, keepF, ownL, gLen_t, gGe_i], fun _ => by simp -implicitDefEqProofs [fnOf_e, okio_e, okGo, sCons_e, sNil_e, sIf_e, sRet_e, sAsg_e, sExp_e, tst_e, bin_e, una_e, fnc_e, lift_s, dVar_e, dCon_e, dOwn_e, dRd_e, dFrz_e, aCons_e, aNil_e, dTup_e, dLst_e, dTupOf_e, dAnd_e, dOr_e, dNot_e, dIte_e, asB, outs, gNm_e, gTp_t, gsCons_c, gsNil_n, dCall_e, callV, aVal_e, aIo_e, agNil_e, isIo, slOf, back, agOk, agIo, sNew_e, dLc_e, nLc_e, dIt_e, items_l, items_t, dSl_e, dPart_n, dPart_s, sPar_e, rhv_e, rhn_e, wipeE, restE, keepF, ownL]⟩
    simp -implicitDefEqProofs [fnOf_e, okio_e, okGo, sCons_e, sNil_e, sIf_e, sRet_e, sAsg_e, sExp_e, tst_e, bin_e, una_e, fnc_e, lift_s, dVar_e, dCon_e, dOwn_e, dRd_e, dFrz_e, aCons_e, aNil_e, dTup_e, dLst_e, dTupOf_e, dAnd_e, dOr_e, dNot_e, dIte_e, asB, outs, gNm_e, gTp_t, gsCons_c, gsNil_n, dCall_e, callV, aVal_e, aIo_e, agNil_e, isIo, slOf, back, agOk, agIo, sNew_e, dLc_e, nLc_e, dIt_e, items_l, items_t, dSl_e, dPart_n, dPart_s, sPar_e, rhv_e, rhn_e, wipeE, restE, keepF, ownL, gTuple]
    exact ⟨_, _, ⟨rfl, rfl⟩, ⟨n, _, rfl, n2, n4, fun y hy => hs y (List.mem_filter.mp hy).1, by have := List.length_filter_le (fun y => match y with | .tuple ys => decide (1 + r ≤ ys.length) | _ => false) ss; omega, fun z => by
      have : PyData.tuple (fns.map .int) ∈ ss.filter (fun y => match y with | .tuple ys => decide (1 + r ≤ ys.length) | _ => false) := List.mem_filter.mpr ⟨hfy, by simp [hfn]; omega⟩
      rw [z] at this
      cases this⟩, h3⟩
  by_cases c1 : w = 1
  · subst c1
    obtain ⟨r, o3, e4, r0, r3, h3⟩ := draw_spec h2 (m := 3) (by decide) (by decide)
    obtain ⟨ys, o4, e5, hy1, hy2, h4, _⟩ := some_spec h3 (xs := ss) (m := 1 + r) (by omega) (fun y hy => (hs y hy).shaped) (by omega) (by omega)
    obtain ⟨zs, as, e6, hz, hzl, rfl, zne⟩ := with_all_spec n4 (by omega) (xs := ys) (fun y hy => hs y (hy1 y hy)) (by omega)
    simp -implicitDefEqProofs [fnOf_e, okio_e, okGo, sCons_e, sNil_e, sIf_e, sRet_e, sAsg_e, sExp_e, tst_e, bin_e, una_e, fnc_e, lift_s, dVar_e, dCon_e, dOwn_e, dRd_e, dFrz_e, aCons_e, aNil_e, dTup_e, dLst_e, dTupOf_e, dAnd_e, dOr_e, dNot_e, dIte_e, asB, outs, gNm_e, gTp_t, gsCons_c, gsNil_n, dCall_e, callV, aVal_e, aIo_e, agNil_e, isIo, slOf, back, agOk, agIo, sNew_e, dLc_e, nLc_e, dIt_e, items_l, items_t, dSl_e, dPart_n, dPart_s, sPar_e, rhv_e, rhn_e, wipeE, restE, keepF, ownL, e1, e2, e3, e4, e5, e6, gEqB_i, gAdd_i]
    exact ⟨_, _, ⟨rfl, rfl⟩, ⟨n, zs, rfl, n2, n4, hz, by omega, zne⟩, h4⟩
  by_cases c2 : w = 2
  · subst c2
    simp -implicitDefEqProofs [fnOf_e, okio_e, okGo, sCons_e, sNil_e, sIf_e, sRet_e, sAsg_e, sExp_e, tst_e, bin_e, una_e, fnc_e, lift_s, dVar_e, dCon_e, dOwn_e, dRd_e, dFrz_e, aCons_e, aNil_e, dTup_e, dLst_e, dTupOf_e, dAnd_e, dOr_e, dNot_e, dIte_e, asB, outs, gNm_e, gTp_t, gsCons_c, gsNil_n, dCall_e, callV, aVal_e, aIo_e, agNil_e, isIo, slOf, back, agOk, agIo, sNew_e, dLc_e, nLc_e, dIt_e, items_l, items_t, dSl_e, dPart_n, dPart_s, sPar_e, rhv_e, rhn_e, wipeE, restE, keepF, ownL, e1, e2, e3, gEqB_i, gTuple]
    exact ⟨_, _, ⟨rfl, rfl⟩, ⟨n, ss, rfl, n2, n4, hs, by omega, fun z => by rw [z] at hfy; cases hfy⟩, h2⟩
  have b0 : (w == 0) = false := by simpa using c0
  have b1 : (w == 1) = false := by simpa using c1
  have b2 : (w == 2) = false := by simpa using c2
  simp -implicitDefEqProofs [fnOf_e, okio_e, okGo, sCons_e, sNil_e, sIf_e, sRet_e, sAsg_e, sExp_e, tst_e, bin_e, una_e, fnc_e, lift_s, dVar_e, dCon_e, dOwn_e, dRd_e, dFrz_e, aCons_e, aNil_e, dTup_e, dLst_e, dTupOf_e, dAnd_e, dOr_e, dNot_e, dIte_e, asB, outs, gNm_e, gTp_t, gsCons_c, gsNil_n, dCall_e, callV, aVal_e, aIo_e, agNil_e, isIo, slOf, back, agOk, agIo, sNew_e, dLc_e, nLc_e, dIt_e, items_l, items_t, dSl_e, dPart_n, dPart_s, sPar_e, rhv_e, rhn_e, wipeE, restE, keepF, ownL, e1, e2, e3, gEqB_i, b0, b1, b2]
  generalize e : lcL _ _ _ _ _ _ = r
  obtain ⟨ys, ρ', rfl, ⟨o3, rfl, h3⟩, hy, hl⟩ := lc_run e (fun ρ => ∃ o, ρ = [.ow o, .fz (.int n), .fz (.int w), .fz (.list ss), .un, .un, .un] ∧ Dk o) (fun y => y ∈ ss) (fun y => y ∈ ss) (fun y hy => hy) ⟨o2, rfl, h2⟩ fun d ρ hd ⟨o, hρ, ho⟩ => by
    subst hρ
    obtain ⟨r, o3, e4, _, _, h3⟩ := draw_spec ho (m := 5) (by decide) (by decide)
    refine ⟨_, decide (r < w), _, rfl, by simp -implicitDefEqProofs [fnOf_e, okio_e, okGo, sCons_e, sNil_e, sIf_e, sRet_e, sAsg_e, sExp_e, tst_e, bin_e, una_e, fnc_e, lift_s, dVar_e, dCon_e, dOwn_e, dRd_e, dFrz_e, aCons_e, aNil_e, dTup_e, dLst_e, dTupOf_e, dAnd_e, dOr_e, dNot_e, dIte_e, asB, outs, gNm_e, gTp_t, gsCons_c, gsNil_n, dCall_e, callV, aVal_e, aIo_e, agNil_e, isIo, slOf, back, agOk, agIo, sNew_e, dLc_e, nLc_e, dIt_e, items_l, items_t, dSl_e, dPart_n, dPart_s, sPar_e, rhv_e, rhn_e, wipeE, restE, keepF, ownL, e4, gLt_i]; rfl, fun _ => ⟨d, _, by simp -implicitDefEqProofs [fnOf_e, okio_e, okGo, sCons_e, sNil_e, sIf_e, sRet_e, sAsg_e, sExp_e, tst_e, bin_e, una_e, fnc_e, lift_s, dVar_e, dCon_e, dOwn_e, dRd_e, dFrz_e, aCons_e, aNil_e, dTup_e, dLst_e, dTupOf_e, dAnd_e, dOr_e, dNot_e, dIte_e, asB, outs, gNm_e, gTp_t, gsCons_c, gsNil_n, dCall_e, callV, aVal_e, aIo_e, agNil_e, isIo, slOf, back, agOk, agIo, sNew_e, dLc_e, nLc_e, dIt_e, items_l, items_t, dSl_e, dPart_n, dPart_s, sPar_e, rhv_e, rhn_e, wipeE, restE, keepF, ownL]; rfl, hd, o3, rfl, h3⟩, fun _ => ⟨o3, rfl, h3⟩⟩
  obtain ⟨zs, as, e6, hz, hzl, rfl, zne⟩ := with_all_spec n4 (by omega) (xs := ys) (fun y h => hs y (hy y h)) (by omega)
  simp -implicitDefEqProofs [fnOf_e, okio_e, okGo, sCons_e, sNil_e, sIf_e, sRet_e, sAsg_e, sExp_e, tst_e, bin_e, una_e, fnc_e, lift_s, dVar_e, dCon_e, dOwn_e, dRd_e, dFrz_e, aCons_e, aNil_e, dTup_e, dLst_e, dTupOf_e, dAnd_e, dOr_e, dNot_e, dIte_e, asB, outs, gNm_e, gTp_t, gsCons_c, gsNil_n, dCall_e, callV, aVal_e, aIo_e, agNil_e, isIo, slOf, back, agOk, agIo, sNew_e, dLc_e, nLc_e, dIt_e, items_l, items_t, dSl_e, dPart_n, dPart_s, sPar_e, rhv_e, rhn_e, wipeE, restE, keepF, ownL, e6]
  exact ⟨_, _, ⟨rfl, rfl⟩, ⟨n, zs, rfl, n2, n4, hz, by omega, zne⟩, h3⟩

/-! ## ascending rows -/
def RowA (n : Nat) (d : PyData) : Prop := ∃ ns : List Int, d = .tuple (ns.map .int) ∧ ns ≠ [] ∧ (ns.length ≤ n ∧ ns.Pairwise (· < ·)) ∧ ∀ x ∈ ns, 0 ≤ x ∧ x < n
theorem RowA.row {n : Nat} {d : PyData} (h : RowA n d) : Row n d := by
  obtain ⟨ns, e, h1, h2, h3⟩ := h
  exact ⟨ns, e, h1, h2.1, h3⟩
theorem RowA.mono {n m : Nat} {d : PyData} (h : RowA n d) (hm : n ≤ m) : RowA m d := by
  obtain ⟨ns, e, h1, h2, h3⟩ := h
  exact ⟨ns, e, h1, ⟨by omega, h2.2⟩, fun x hx => ⟨(h3 x hx).1, by have := (h3 x hx).2; omega⟩⟩
theorem row_snocA {k : Nat} {d : PyData} (h : RowA k d) : RowA (k + 1) (snoc k d) := by
  obtain ⟨ns, rfl, h1, h2, h3⟩ := h
  refine ⟨ns ++ [(k : Int)], by simp [snoc], by simp, ⟨by simp; exact h2.1, List.pairwise_append.mpr ⟨h2.2, by simp, fun a ha b hb => ?_⟩⟩, fun x hx => ?_⟩
  · rw [List.mem_singleton.mp hb]; exact (h3 a ha).2
  rcases List.mem_append.mp hx with q | q
  · have := h3 x q; omega
  · rw [List.mem_singleton.mp q]; omega
theorem range_rowA {n : Nat} (h0 : 0 < n) : RowA n (.tuple ((List.range n).map fun k : Nat => .int ((0 : Int) + k))) := by
  refine ⟨(List.range n).map fun k : Nat => (k : Int), by rw [List.map_map]; congr 1; simp [Function.comp_def], by simp; omega, ⟨by simp, ?_⟩, fun x hx => ?_⟩
  · exact List.Pairwise.map _ (fun a b h => by omega) List.pairwise_lt_range
  obtain ⟨k, hk, rfl⟩ := List.mem_map.mp hx
  have := List.mem_range.mp hk
  omega
theorem sets_spec8A {n : Nat} (hn : n ≤ 8) : ∃ ys, fn__law_sets [.fz (.int n)] = .ret (.list ys) [.fz (.int n)] ∧ (∀ y ∈ ys, RowA n y) ∧ ys.length + 1 = 2 ^ n ∧ (0 < n → ∃ y ∈ ys, ∃ ns : List Int, y = .tuple (ns.map .int) ∧ ns.length = n) := by
  simp only [fn__law_sets, b__law_sets]
  simp -implicitDefEqProofs [fnOf_e, okio_e, okGo, sCons_e, sNil_e, sIf_e, sRet_e, sAsg_e, sExp_e, tst_e, bin_e, una_e, fnc_e, lift_s, dVar_e, dCon_e, dOwn_e, dRd_e, dFrz_e, aCons_e, aNil_e, dTup_e, dLst_e, dTupOf_e, dAnd_e, dOr_e, dNot_e, dIte_e, asB, outs, gNm_e, gTp_t, gsCons_c, gsNil_n, dCall_e, callV, aVal_e, aIo_e, agNil_e, isIo, slOf, back, agOk, agIo, sNew_e, dLc_e, nLc_e, dIt_e, items_l, items_t, dSl_e, dPart_n, dPart_s, sPar_e, rhv_e, rhn_e, wipeE, restE, keepF, ownL, sLp_e]
  rw [sFor_of (rng1_of (j := n) (ρ1 := [.fz (.int n), .fz (.list [.tuple []]), .un, .un, .un]) (by simp -implicitDefEqProofs [fnOf_e, okio_e, okGo, sCons_e, sNil_e, sIf_e, sRet_e, sAsg_e, sExp_e, tst_e, bin_e, una_e, fnc_e, lift_s, dVar_e, dCon_e, dOwn_e, dRd_e, dFrz_e, aCons_e, aNil_e, dTup_e, dLst_e, dTupOf_e, dAnd_e, dOr_e, dNot_e, dIte_e, asB, outs, gNm_e, gTp_t, gsCons_c, gsNil_n, dCall_e, callV, aVal_e, aIo_e, agNil_e, isIo, slOf, back, agOk, agIo, sNew_e, dLc_e, nLc_e, dIt_e, items_l, items_t, dSl_e, dPart_n, dPart_s, sPar_e, rhv_e, rhn_e, wipeE, restE, keepF, ownL]) (rng2_n (n := n) (by omega) (by omega)))]
  generalize e : forL _ _ _ _ = r
  obtain ⟨ρ', rfl, l, rfl, h1, h2, h3⟩ := for_run e (fun k ρ => ∃ l, ρ = [.fz (.int n), .fz (.list (.tuple [] :: l)), .un, .un, .un] ∧ (∀ y ∈ l, RowA k y) ∧ l.length + 1 = 2 ^ k ∧ (0 < k → ∃ y ∈ l, ∃ ns : List Int, y = .tuple (ns.map .int) ∧ ns.length = k))
    ⟨[], rfl, fun _ h => (by cases h), rfl, fun h => absurd h (by decide)⟩ fun k d ρ hd ⟨l, hρ, h1, h2, h3⟩ => by
      subst hρ
      obtain ⟨rfl, hk⟩ := rng_get hd
      have hp : 2 ^ k ≤ 2 ^ 7 := Nat.pow_le_pow_right (by decide) (by omega)
      refine ⟨_, _, rfl, ?_, l ++ (.tuple [.int k] :: l.map (snoc k)), rfl, fun y hy => ?_, ?_, fun _ => ?_⟩
      · simp -implicitDefEqProofs [fnOf_e, okio_e, okGo, sCons_e, sNil_e, sIf_e, sRet_e, sAsg_e, sExp_e, tst_e, bin_e, una_e, fnc_e, lift_s, dVar_e, dCon_e, dOwn_e, dRd_e, dFrz_e, aCons_e, aNil_e, dTup_e, dLst_e, dTupOf_e, dAnd_e, dOr_e, dNot_e, dIte_e, asB, outs, gNm_e, gTp_t, gsCons_c, gsNil_n, dCall_e, callV, aVal_e, aIo_e, agNil_e, isIo, slOf, back, agOk, agIo, sNew_e, dLc_e, nLc_e, dIt_e, items_l, items_t, dSl_e, dPart_n, dPart_s, sPar_e, rhv_e, rhn_e, wipeE, restE, keepF, ownL, sEnd_e]
        rw [lc_s (fun y => ∃ ys, y = .tuple ys ∧ ys.length ≤ 100) (snoc k) (fun _ => true) ?_ (.tuple [] :: l) ?_]
        rotate_left
        · rintro d ⟨ys, rfl, hy⟩
          exact ⟨_, rfl, rfl, rfl, fun _ => by simp -implicitDefEqProofs [fnOf_e, okio_e, okGo, sCons_e, sNil_e, sIf_e, sRet_e, sAsg_e, sExp_e, tst_e, bin_e, una_e, fnc_e, lift_s, dVar_e, dCon_e, dOwn_e, dRd_e, dFrz_e, aCons_e, aNil_e, dTup_e, dLst_e, dTupOf_e, dAnd_e, dOr_e, dNot_e, dIte_e, asB, outs, gNm_e, gTp_t, gsCons_c, gsNil_n, dCall_e, callV, aVal_e, aIo_e, agNil_e, isIo, slOf, back, agOk, agIo, sNew_e, dLc_e, nLc_e, dIt_e, items_l, items_t, dSl_e, dPart_n, dPart_s, sPar_e, rhv_e, rhn_e, wipeE, restE, keepF, ownL, gAdd_t (show ys.length + [PyData.int (k : Int)].length ≤ 16777216 by simp; omega), snoc]⟩
        · intro y hy
          rcases List.mem_cons.mp hy with q | q
          · exact ⟨[], q, by simp⟩
          · obtain ⟨ns, e, _, ⟨h3, _⟩, _⟩ := h1 y q
            exact ⟨_, e, by rw [List.length_map]; omega⟩
        have ef : (PyData.tuple [] :: l).filter (fun _ => true) = .tuple [] :: l := List.filter_eq_self.mpr fun _ _ => rfl
        rw [ef]
        simp -implicitDefEqProofs [fnOf_e, okio_e, okGo, sCons_e, sNil_e, sIf_e, sRet_e, sAsg_e, sExp_e, tst_e, bin_e, una_e, fnc_e, lift_s, dVar_e, dCon_e, dOwn_e, dRd_e, dFrz_e, aCons_e, aNil_e, dTup_e, dLst_e, dTupOf_e, dAnd_e, dOr_e, dNot_e, dIte_e, asB, outs, gNm_e, gTp_t, gsCons_c, gsNil_n, dCall_e, callV, aVal_e, aIo_e, agNil_e, isIo, slOf, back, agOk, agIo, sNew_e, dLc_e, nLc_e, dIt_e, items_l, items_t, dSl_e, dPart_n, dPart_s, sPar_e, rhv_e, rhn_e, wipeE, restE, keepF, ownL, snoc]
        rw [gAdd_l (by simp; omega)]
        simp -implicitDefEqProofs [fnOf_e, okio_e, okGo, sCons_e, sNil_e, sIf_e, sRet_e, sAsg_e, sExp_e, tst_e, bin_e, una_e, fnc_e, lift_s, dVar_e, dCon_e, dOwn_e, dRd_e, dFrz_e, aCons_e, aNil_e, dTup_e, dLst_e, dTupOf_e, dAnd_e, dOr_e, dNot_e, dIte_e, asB, outs, gNm_e, gTp_t, gsCons_c, gsNil_n, dCall_e, callV, aVal_e, aIo_e, agNil_e, isIo, slOf, back, agOk, agIo, sNew_e, dLc_e, nLc_e, dIt_e, items_l, items_t, dSl_e, dPart_n, dPart_s, sPar_e, rhv_e, rhn_e, wipeE, restE, keepF, ownL]
      · rcases List.mem_append.mp hy with q | q
        · exact (h1 y q).mono (by omega)
        · rcases List.mem_cons.mp q with q | q
          · subst q
            exact ⟨[(k : Int)], rfl, by simp, ⟨by simp, by simp⟩, fun x hx => by rw [List.mem_singleton.mp hx]; omega⟩
          · obtain ⟨z, hz, rfl⟩ := List.mem_map.mp q
            exact row_snocA (h1 z hz)
      · rw [List.length_append, List.length_cons, List.length_map, Nat.pow_succ]; omega
      · by_cases hk0 : 0 < k
        · obtain ⟨y, hy, ns, rfl, hn⟩ := h3 hk0
          exact ⟨snoc k (.tuple (ns.map .int)), List.mem_append_right _ (List.mem_cons_of_mem _ (List.mem_map.mpr ⟨_, hy, rfl⟩)), ns ++ [(k : Int)], by simp [snoc], by simp [hn]⟩
        · have hk0 : k = 0 := by omega
          subst hk0
          exact ⟨.tuple [.int ((0 : Nat) : Int)], List.mem_append_right _ List.mem_cons_self, [((0 : Nat) : Int)], rfl, rfl⟩
  have h2' : l.length + 1 = 2 ^ n := by simpa using h2
  have hl : l.length ≤ 255 := by
    have : 2 ^ n ≤ 2 ^ 8 := Nat.pow_le_pow_right (by decide) hn
    omega
  have hr : ∀ y ∈ l, RowA n y := by simpa using h1
  simp -implicitDefEqProofs [fnOf_e, okio_e, okGo, sCons_e, sNil_e, sIf_e, sRet_e, sAsg_e, sExp_e, tst_e, bin_e, una_e, fnc_e, lift_s, dVar_e, dCon_e, dOwn_e, dRd_e, dFrz_e, aCons_e, aNil_e, dTup_e, dLst_e, dTupOf_e, dAnd_e, dOr_e, dNot_e, dIte_e, asB, outs, gNm_e, gTp_t, gsCons_c, gsNil_n, dCall_e, callV, aVal_e, aIo_e, agNil_e, isIo, slOf, back, agOk, agIo, sNew_e, dLc_e, nLc_e, dIt_e, items_l, items_t, dSl_e, dPart_n, dPart_s, sPar_e, rhv_e, rhn_e, wipeE, restE, keepF, ownL, isI_i, sl_drop1, sort_rows (fun y hy => (hr y hy).row) (by omega)]
  refine ⟨fun y hy => hr y (mem_sorts.mp hy), by rw [len_sorts]; exact h2', fun h0 => ?_⟩
  obtain ⟨y, hy, q⟩ := h3 (by simpa using h0)
  exact ⟨y, mem_sorts.mpr hy, by simpa using q⟩
theorem sets_specA {n : Nat} (hn : n ≤ 4) : ∃ ys, fn__law_sets [.fz (.int n)] = .ret (.list ys) [.fz (.int n)] ∧ (∀ y ∈ ys, RowA n y) ∧ ys.length ≤ 15 ∧ (0 < n → ∃ y ∈ ys, ∃ ns : List Int, y = .tuple (ns.map .int) ∧ ns.length = n) := by
  obtain ⟨ys, e, h1, h2, h3⟩ := sets_spec8A (n := n) (by omega)
  refine ⟨ys, e, h1, ?_, h3⟩
  have : 2 ^ n ≤ 2 ^ 4 := Nat.pow_le_pow_right (by decide) hn
  omega
theorem with_all_specA {n : Nat} (hn : n ≤ 4) (h0 : 0 < n) {xs : List PyData} (h : ∀ x ∈ xs, RowA n x) (hl : xs.length ≤ 100) : ∃ ys as, fn__law_with_all [.fz (.int n), .fz (.list xs)] = .ret (.tuple [.int n, .tuple ys]) as ∧ (∀ y ∈ ys, RowA n y) ∧ ys.length ≤ xs.length + 1 ∧ as = [.fz (.int n), .fz (.list xs)] ∧ ys ≠ [] := by
  obtain ⟨ms, e, em⟩ := union_spec hn (fun x hx => (h x hx).row) hl
  simp only [fn__law_with_all, b__law_with_all]
  by_cases hc : (ms.length : Int) < n
  · have hrow : ∀ y ∈ xs ++ [.tuple ((List.range n).map fun k : Nat => .int ((0 : Int) + k))], RowA n y := fun y hy => by
      rcases List.mem_append.mp hy with q | q
      · exact h y q
      · rw [List.mem_singleton.mp q]; exact range_rowA h0
    simp only [Int.zero_add] at hrow
    have eR : dRng1 (dVar 0) [.fz (.int n), .fz (.list xs)] = .ok ((List.range n).map fun k : Nat => .int ((0 : Int) + k)) [.fz (.int n), .fz (.list xs)] := rng1_of (j := (n : Int)) (by simp -implicitDefEqProofs [fnOf_e, okio_e, okGo, sCons_e, sNil_e, sIf_e, sRet_e, sAsg_e, sExp_e, tst_e, bin_e, una_e, fnc_e, lift_s, dVar_e, dCon_e, dOwn_e, dRd_e, dFrz_e, aCons_e, aNil_e, dTup_e, dLst_e, dTupOf_e, dAnd_e, dOr_e, dNot_e, dIte_e, asB, outs, gNm_e, gTp_t, gsCons_c, gsNil_n, dCall_e, callV, aVal_e, aIo_e, agNil_e, isIo, slOf, back, agOk, agIo, sNew_e, dLc_e, nLc_e, dIt_e, items_l, items_t, dSl_e, dPart_n, dPart_s, sPar_e, rhv_e, rhn_e, wipeE, restE, keepF, ownL]) (rng2_n (n := n) (by omega) (by omega))
    simp -implicitDefEqProofs [fnOf_e, okio_e, okGo, sCons_e, sNil_e, sIf_e, sRet_e, sAsg_e, sExp_e, tst_e, bin_e, una_e, fnc_e, lift_s, dVar_e, dCon_e, dOwn_e, dRd_e, dFrz_e, aCons_e, aNil_e, dTup_e, dLst_e, dTupOf_e, dAnd_e, dOr_e, dNot_e, dIte_e, asB, outs, gNm_e, gTp_t, gsCons_c, gsNil_n, dCall_e, callV, aVal_e, aIo_e, agNil_e, isIo, slOf, back, agOk, agIo, sNew_e, dLc_e, nLc_e, dIt_e, items_l, items_t, dSl_e, dPart_n, dPart_s, sPar_e, rhv_e, rhn_e, wipeE, restE, keepF, ownL, e, gLen_t, gLt_i, hc, eR]
    rw [gAdd_l (by simp; omega)]
    simp -implicitDefEqProofs [fnOf_e, okio_e, okGo, sCons_e, sNil_e, sIf_e, sRet_e, sAsg_e, sExp_e, tst_e, bin_e, una_e, fnc_e, lift_s, dVar_e, dCon_e, dOwn_e, dRd_e, dFrz_e, aCons_e, aNil_e, dTup_e, dLst_e, dTupOf_e, dAnd_e, dOr_e, dNot_e, dIte_e, asB, outs, gNm_e, gTp_t, gsCons_c, gsNil_n, dCall_e, callV, aVal_e, aIo_e, agNil_e, isIo, slOf, back, agOk, agIo, sNew_e, dLc_e, nLc_e, dIt_e, items_l, items_t, dSl_e, dPart_n, dPart_s, sPar_e, rhv_e, rhn_e, wipeE, restE, keepF, ownL, sort_rows (fun y hy => (hrow y hy).row) (by rw [List.length_append]; simp; omega), gTuple]
    exact ⟨_, _, ⟨rfl, rfl⟩, fun y hy => hrow y (mem_sorts.mp hy), by rw [len_sorts, List.length_append]; exact Nat.le_refl _, rfl, fun z => by have := congrArg List.length z; rw [len_sorts, List.length_append] at this; simp at this⟩
  · simp -implicitDefEqProofs [fnOf_e, okio_e, okGo, sCons_e, sNil_e, sIf_e, sRet_e, sAsg_e, sExp_e, tst_e, bin_e, una_e, fnc_e, lift_s, dVar_e, dCon_e, dOwn_e, dRd_e, dFrz_e, aCons_e, aNil_e, dTup_e, dLst_e, dTupOf_e, dAnd_e, dOr_e, dNot_e, dIte_e, asB, outs, gNm_e, gTp_t, gsCons_c, gsNil_n, dCall_e, callV, aVal_e, aIo_e, agNil_e, isIo, slOf, back, agOk, agIo, sNew_e, dLc_e, nLc_e, dIt_e, items_l, items_t, dSl_e, dPart_n, dPart_s, sPar_e, rhv_e, rhn_e, wipeE, restE, keepF, ownL, e, gLen_t, gLt_i, hc, sort_rows (fun y hy => (h y hy).row) (by omega), gTuple]
    exact ⟨_, _, ⟨rfl, rfl⟩, fun y hy => h y (mem_sorts.mp hy), by rw [len_sorts]; exact Nat.le_succ _, rfl, fun z => by
      have z := congrArg List.length z
      rw [len_sorts] at z
      have := em (List.eq_nil_of_length_eq_zero z)
      subst this
      simp at hc
      omega⟩
/-- a world: a number of nodes, right sets, ascending each -/
def WorldA (d : PyData) : Prop := ∃ (n : Nat) (ys : List PyData), d = .tuple [.int n, .tuple ys] ∧ 2 ≤ n ∧ n ≤ 4 ∧ (∀ y ∈ ys, RowA n y) ∧ ys.length ≤ 16 ∧ ys ≠ []
theorem world_specA {o : Own} (h : Dk o) : ∃ d o', fn__law_world [.ow o] = .ret d [.ow o'] ∧ WorldA d ∧ Dk o' := by
  simp only [fn__law_world, b__law_world]
  obtain ⟨d, o1, e1, hd, h1⟩ := pick_l h (xs := [.int 2, .int 2, .int 3, .int 3, .int 3, .int 4]) (by simp) (by simp)
  obtain ⟨n, rfl, n2, n4⟩ : ∃ n : Nat, d = .int n ∧ 2 ≤ n ∧ n ≤ 4 := by
    simp at hd
    rcases hd with rfl | rfl | rfl
    · exact ⟨2, rfl, by omega, by omega⟩
    · exact ⟨3, rfl, by omega, by omega⟩
    · exact ⟨4, rfl, by omega, by omega⟩
  obtain ⟨w, o2, e2, w0, w5, h2⟩ := draw_spec h1 (m := 5) (by decide) (by decide)
  obtain ⟨ss, e3, hs, hsl, hfull⟩ := sets_specA n4
  obtain ⟨fy, hfy, fns, rfl, hfn⟩ := hfull (by omega)
  by_cases c0 : w = 0
  · subst c0
    obtain ⟨r, o3, e4, r0, rn, h3⟩ := draw_spec h2 (m := (n : Int)) (by omega) (by omega)
    simp -implicitDefEqProofs [fnOf_e, okio_e, okGo, sCons_e, sNil_e, sIf_e, sRet_e, sAsg_e, sExp_e, tst_e, bin_e, una_e, fnc_e, lift_s, dVar_e, dCon_e, dOwn_e, dRd_e, dFrz_e, aCons_e, aNil_e, dTup_e, dLst_e, dTupOf_e, dAnd_e, dOr_e, dNot_e, dIte_e, asB, outs, gNm_e, gTp_t, gsCons_c, gsNil_n, dCall_e, callV, aVal_e, aIo_e, agNil_e, isIo, slOf, back, agOk, agIo, sNew_e, dLc_e, nLc_e, dIt_e, items_l, items_t, dSl_e, dPart_n, dPart_s, sPar_e, rhv_e, rhn_e, wipeE, restE, keepF, ownL, e1, e2, e3, e4, gEqB_i, gAdd_i]
    rw [lc_s (fun y => ∃ ys, y = .tuple ys) id (fun y => match y with | .tuple ys => decide (1 + r ≤ ys.length) | _ => false) ?_ _ (fun y hy => by obtain ⟨ns, q, _⟩ := hs y hy; exact ⟨_, q⟩)]
    rotate_left
    · rintro d ⟨ys, rfl⟩
      exact ⟨_, rfl, rfl, by simp -implicitDefEqProofs [fnOf_e, okio_e, okGo, sCons_e, sNil_e, sIf_e, sRet_e, sAsg_e, sExp_e, tst_e, bin_e, una_e, fnc_e, lift_s, dVar_e, dCon_e, dOwn_e, dRd_e, dFrz_e, aCons_e, aNil_e, dTup_e, dLst_e, dTupOf_e, dAnd_e, dOr_e, dNot_e, dIte_e, asB, outs, gNm_e, gTp_t, gsCons_c, gsNil_n, dCall_e, callV, aVal_e, aIo_e, agNil_e, isIo, slOf, back, agOk, agIo, sNew_e, dLc_e, nLc_e, dIt_e, items_l, items_t, dSl_e, dPart_n, dPart_s, sPar_e, rhv_e, rhn_e, wipeE, restE, keepF, ownL, gLen_t, gGe_i], fun _ => by simp -implicitDefEqProofs [fnOf_e, okio_e, okGo, sCons_e, sNil_e, sIf_e, sRet_e, sAsg_e, sExp_e, tst_e, bin_e, una_e, fnc_e, lift_s, dVar_e, dCon_e, dOwn_e, dRd_e, dFrz_e, aCons_e, aNil_e, dTup_e, dLst_e, dTupOf_e, dAnd_e, dOr_e, dNot_e, dIte_e, asB, outs, gNm_e, gTp_t, gsCons_c, gsNil_n, dCall_e, callV, aVal_e, aIo_e, agNil_e, isIo, slOf, back, agOk, agIo, sNew_e, dLc_e, nLc_e, dIt_e, items_l, items_t, dSl_e, dPart_n, dPart_s, sPar_e, rhv_e, rhn_e, wipeE, restE, keepF, ownL]⟩
    simp -implicitDefEqProofs [fnOf_e, okio_e, okGo, sCons_e, sNil_e, sIf_e, sRet_e, sAsg_e, sExp_e, tst_e, bin_e, una_e, fnc_e, lift_s, dVar_e, dCon_e, dOwn_e, dRd_e, dFrz_e, aCons_e, aNil_e, dTup_e, dLst_e, dTupOf_e, dAnd_e, dOr_e, dNot_e, dIte_e, asB, outs, gNm_e, gTp_t, gsCons_c, gsNil_n, dCall_e, callV, aVal_e, aIo_e, agNil_e, isIo, slOf, back, agOk, agIo, sNew_e, dLc_e, nLc_e, dIt_e, items_l, items_t, dSl_e, dPart_n, dPart_s, sPar_e, rhv_e, rhn_e, wipeE, restE, keepF, ownL, gTuple]
    exact ⟨_, _, ⟨rfl, rfl⟩, ⟨n, _, rfl, n2, n4, fun y hy => hs y (List.mem_filter.mp hy).1, by have := List.length_filter_le (fun y => match y with | .tuple ys => decide (1 + r ≤ ys.length) | _ => false) ss; omega, fun z => by
      have : PyData.tuple (fns.map .int) ∈ ss.filter (fun y => match y with | .tuple ys => decide (1 + r ≤ ys.length) | _ => false) := List.mem_filter.mpr ⟨hfy, by simp [hfn]; omega⟩
      rw [z] at this
      cases this⟩, h3⟩
  by_cases c1 : w = 1
  · subst c1
    obtain ⟨r, o3, e4, r0, r3, h3⟩ := draw_spec h2 (m := 3) (by decide) (by decide)
    obtain ⟨ys, o4, e5, hy1, hy2, h4, _⟩ := some_spec h3 (xs := ss) (m := 1 + r) (by omega) (fun y hy => (hs y hy).row.shaped) (by omega) (by omega)
    obtain ⟨zs, as, e6, hz, hzl, rfl, zne⟩ := with_all_specA n4 (by omega) (xs := ys) (fun y hy => hs y (hy1 y hy)) (by omega)
    simp -implicitDefEqProofs [fnOf_e, okio_e, okGo, sCons_e, sNil_e, sIf_e, sRet_e, sAsg_e, sExp_e, tst_e, bin_e, una_e, fnc_e, lift_s, dVar_e, dCon_e, dOwn_e, dRd_e, dFrz_e, aCons_e, aNil_e, dTup_e, dLst_e, dTupOf_e, dAnd_e, dOr_e, dNot_e, dIte_e, asB, outs, gNm_e, gTp_t, gsCons_c, gsNil_n, dCall_e, callV, aVal_e, aIo_e, agNil_e, isIo, slOf, back, agOk, agIo, sNew_e, dLc_e, nLc_e, dIt_e, items_l, items_t, dSl_e, dPart_n, dPart_s, sPar_e, rhv_e, rhn_e, wipeE, restE, keepF, ownL, e1, e2, e3, e4, e5, e6, gEqB_i, gAdd_i]
    exact ⟨_, _, ⟨rfl, rfl⟩, ⟨n, zs, rfl, n2, n4, hz, by omega, zne⟩, h4⟩
  by_cases c2 : w = 2
  · subst c2
    simp -implicitDefEqProofs [fnOf_e, okio_e, okGo, sCons_e, sNil_e, sIf_e, sRet_e, sAsg_e, sExp_e, tst_e, bin_e, una_e, fnc_e, lift_s, dVar_e, dCon_e, dOwn_e, dRd_e, dFrz_e, aCons_e, aNil_e, dTup_e, dLst_e, dTupOf_e, dAnd_e, dOr_e, dNot_e, dIte_e, asB, outs, gNm_e, gTp_t, gsCons_c, gsNil_n, dCall_e, callV, aVal_e, aIo_e, agNil_e, isIo, slOf, back, agOk, agIo, sNew_e, dLc_e, nLc_e, dIt_e, items_l, items_t, dSl_e, dPart_n, dPart_s, sPar_e, rhv_e, rhn_e, wipeE, restE, keepF, ownL, e1, e2, e3, gEqB_i, gTuple]
    exact ⟨_, _, ⟨rfl, rfl⟩, ⟨n, ss, rfl, n2, n4, hs, by omega, fun z => by rw [z] at hfy; cases hfy⟩, h2⟩
  have b0 : (w == 0) = false := by simpa using c0
  have b1 : (w == 1) = false := by simpa using c1
  have b2 : (w == 2) = false := by simpa using c2
  simp -implicitDefEqProofs [fnOf_e, okio_e, okGo, sCons_e, sNil_e, sIf_e, sRet_e, sAsg_e, sExp_e, tst_e, bin_e, una_e, fnc_e, lift_s, dVar_e, dCon_e, dOwn_e, dRd_e, dFrz_e, aCons_e, aNil_e, dTup_e, dLst_e, dTupOf_e, dAnd_e, dOr_e, dNot_e, dIte_e, asB, outs, gNm_e, gTp_t, gsCons_c, gsNil_n, dCall_e, callV, aVal_e, aIo_e, agNil_e, isIo, slOf, back, agOk, agIo, sNew_e, dLc_e, nLc_e, dIt_e, items_l, items_t, dSl_e, dPart_n, dPart_s, sPar_e, rhv_e, rhn_e, wipeE, restE, keepF, ownL, e1, e2, e3, gEqB_i, b0, b1, b2]
  generalize e : lcL _ _ _ _ _ _ = r
  obtain ⟨ys, ρ', rfl, ⟨o3, rfl, h3⟩, hy, hl⟩ := lc_run e (fun ρ => ∃ o, ρ = [.ow o, .fz (.int n), .fz (.int w), .fz (.list ss), .un, .un, .un] ∧ Dk o) (fun y => y ∈ ss) (fun y => y ∈ ss) (fun y hy => hy) ⟨o2, rfl, h2⟩ fun d ρ hd ⟨o, hρ, ho⟩ => by
    subst hρ
    obtain ⟨r, o3, e4, _, _, h3⟩ := draw_spec ho (m := 5) (by decide) (by decide)
    refine ⟨_, decide (r < w), _, rfl, by simp -implicitDefEqProofs [fnOf_e, okio_e, okGo, sCons_e, sNil_e, sIf_e, sRet_e, sAsg_e, sExp_e, tst_e, bin_e, una_e, fnc_e, lift_s, dVar_e, dCon_e, dOwn_e, dRd_e, dFrz_e, aCons_e, aNil_e, dTup_e, dLst_e, dTupOf_e, dAnd_e, dOr_e, dNot_e, dIte_e, asB, outs, gNm_e, gTp_t, gsCons_c, gsNil_n, dCall_e, callV, aVal_e, aIo_e, agNil_e, isIo, slOf, back, agOk, agIo, sNew_e, dLc_e, nLc_e, dIt_e, items_l, items_t, dSl_e, dPart_n, dPart_s, sPar_e, rhv_e, rhn_e, wipeE, restE, keepF, ownL, e4, gLt_i]; rfl, fun _ => ⟨d, _, by simp -implicitDefEqProofs [fnOf_e, okio_e, okGo, sCons_e, sNil_e, sIf_e, sRet_e, sAsg_e, sExp_e, tst_e, bin_e, una_e, fnc_e, lift_s, dVar_e, dCon_e, dOwn_e, dRd_e, dFrz_e, aCons_e, aNil_e, dTup_e, dLst_e, dTupOf_e, dAnd_e, dOr_e, dNot_e, dIte_e, asB, outs, gNm_e, gTp_t, gsCons_c, gsNil_n, dCall_e, callV, aVal_e, aIo_e, agNil_e, isIo, slOf, back, agOk, agIo, sNew_e, dLc_e, nLc_e, dIt_e, items_l, items_t, dSl_e, dPart_n, dPart_s, sPar_e, rhv_e, rhn_e, wipeE, restE, keepF, ownL]; rfl, hd, o3, rfl, h3⟩, fun _ => ⟨o3, rfl, h3⟩⟩
  obtain ⟨zs, as, e6, hz, hzl, rfl, zne⟩ := with_all_specA n4 (by omega) (xs := ys) (fun y h => hs y (hy y h)) (by omega)
  simp -implicitDefEqProofs [fnOf_e, okio_e, okGo, sCons_e, sNil_e, sIf_e, sRet_e, sAsg_e, sExp_e, tst_e, bin_e, una_e, fnc_e, lift_s, dVar_e, dCon_e, dOwn_e, dRd_e, dFrz_e, aCons_e, aNil_e, dTup_e, dLst_e, dTupOf_e, dAnd_e, dOr_e, dNot_e, dIte_e, asB, outs, gNm_e, gTp_t, gsCons_c, gsNil_n, dCall_e, callV, aVal_e, aIo_e, agNil_e, isIo, slOf, back, agOk, agIo, sNew_e, dLc_e, nLc_e, dIt_e, items_l, items_t, dSl_e, dPart_n, dPart_s, sPar_e, rhv_e, rhn_e, wipeE, restE, keepF, ownL, e6]
  exact ⟨_, _, ⟨rfl, rfl⟩, ⟨n, zs, rfl, n2, n4, hz, by omega, zne⟩, h3⟩

/-! ## any values -/
theorem pow39 : gPow (.int 10) (.int 39) = some (.int 1000000000000000000000000000000000000000) := rfl
theorem gGt_i (i j : Int) : gGt (.int i) (.int j) = some (.bool (decide (j < i))) := rfl
theorem good_in9 {S : Nat} (hS : 1921 ≤ S) {r : Int} (h0 : 0 ≤ r) (h9 : r < 9) {d : PyData} (h : d ∈ [.none, .bool true, .bool false, .int (r - 2), .str "", .str "form", .int 1000000000000000000000000000000000000000, .str "0", .tuple []]) : Good 1 S d := by
  simp only [List.mem_cons, List.not_mem_nil, or_false] at h
  rcases h with rfl | rfl | rfl | rfl | rfl | rfl | rfl | rfl | rfl
  · exact good_none (by omega)
  · exact good_bool (by omega)
  · exact good_bool (by omega)
  · exact good_small (by omega) hS
  · exact good_str (Nat.le_trans (show (reprText "").length ≤ 100 by decide +kernel) (by omega))
  · exact good_str (Nat.le_trans (show (reprText "form").length ≤ 100 by decide +kernel) (by omega))
  · exact good_small (by decide) hS
  · exact good_str (Nat.le_trans (show (reprText "0").length ≤ 100 by decide +kernel) (by omega))
  · exact (good_tuple (D := 0) (S := 0) good_nil).mono (by omega) (by omega)
theorem any_step {self : Fn} {k : Nat} {D S : Nat} (hS : 1921 ≤ S) (hk : k ≤ 10) (hself : 0 < k → ∀ o, Dk o → ∃ d o', self [.ow o, .fz (.int ((k : Int) - 1))] = .ret d [.ow o', .fz (.int ((k : Int) - 1))] ∧ Good D S d ∧ Dk o') {o : Own} (h : Dk o) :
    ∃ d o', fnOf 6 [0, 1] (b__law_any self) [.ow o, .fz (.int k)] = .ret d [.ow o', .fz (.int k)] ∧ Good (D + 2) (3 * (S + 2) + 40) d ∧ Dk o' := by
  simp only [b__law_any]
  obtain ⟨m, hm, m0, m13, mk⟩ : ∃ m : Int, (if 0 < k then (13 : Int) else 9) = m ∧ 0 < m ∧ m ≤ 13 ∧ (9 < m → 0 < k) := by
    by_cases q : 0 < k
    · exact ⟨13, if_pos q, by decide, by decide, fun _ => q⟩
    · exact ⟨9, if_neg q, by decide, by decide, fun z => absurd z (by decide)⟩
  obtain ⟨w, o1, e1, w0, wm, h1⟩ := draw_spec h (m := m) m0 (by omega)
  have ei : (dIte (bin gGt (dVar 1) (dCon (.int 0))) (dCon (.int 13)) (dCon (.int 9))) [.ow o, .fz (.int k), .un, .un, .un, .un] = .ok (.int m) [.ow o, .fz (.int k), .un, .un, .un, .un] := by
    by_cases q : 0 < k
    · rw [if_pos q] at hm
      simp -implicitDefEqProofs [fnOf_e, okio_e, okGo, sCons_e, sNil_e, sIf_e, sRet_e, sAsg_e, sExp_e, tst_e, bin_e, una_e, fnc_e, lift_s, dVar_e, dCon_e, dOwn_e, dRd_e, dFrz_e, aCons_e, aNil_e, dTup_e, dLst_e, dTupOf_e, dAnd_e, dOr_e, dNot_e, dIte_e, asB, outs, gNm_e, gTp_t, gsCons_c, gsNil_n, dCall_e, callV, aVal_e, aIo_e, agNil_e, isIo, slOf, back, agOk, agIo, sNew_e, dLc_e, nLc_e, dIt_e, items_l, items_t, dSl_e, dPart_n, dPart_s, sPar_e, rhv_e, rhn_e, wipeE, restE, keepF, ownL, gGt_i, q, hm]
    · rw [if_neg q] at hm
      have q' : k = 0 := by omega
      subst q'
      simp -implicitDefEqProofs [fnOf_e, okio_e, okGo, sCons_e, sNil_e, sIf_e, sRet_e, sAsg_e, sExp_e, tst_e, bin_e, una_e, fnc_e, lift_s, dVar_e, dCon_e, dOwn_e, dRd_e, dFrz_e, aCons_e, aNil_e, dTup_e, dLst_e, dTupOf_e, dAnd_e, dOr_e, dNot_e, dIte_e, asB, outs, gNm_e, gTp_t, gsCons_c, gsNil_n, dCall_e, callV, aVal_e, aIo_e, agNil_e, isIo, slOf, back, agOk, agIo, sNew_e, dLc_e, nLc_e, dIt_e, items_l, items_t, dSl_e, dPart_n, dPart_s, sPar_e, rhv_e, rhn_e, wipeE, restE, keepF, ownL, gGt_i, hm]
  by_cases c9 : w < 9
  · obtain ⟨r, o2, e2, r0, r9, h2⟩ := draw_spec h1 (m := 9) (by decide) (by decide)
    obtain ⟨d, e3, _, hd⟩ := gIx_l (xs := [.none, .bool true, .bool false, .int (r - 2), .str "", .str "form", .int 1000000000000000000000000000000000000000, .str "0", .tuple []]) (i := w) w0 (by simpa using c9)
    refine ⟨d, o2, ?_, (good_in9 hS r0 r9 hd).mono (by omega) (by omega), h2⟩
    simp -implicitDefEqProofs [fnOf_e, okio_e, okGo, sCons_e, sNil_e, sIf_e, sRet_e, sAsg_e, sExp_e, tst_e, bin_e, una_e, fnc_e, lift_s, dVar_e, dCon_e, dOwn_e, dRd_e, dFrz_e, aCons_e, aNil_e, dTup_e, dLst_e, dTupOf_e, dAnd_e, dOr_e, dNot_e, dIte_e, asB, outs, gNm_e, gTp_t, gsCons_c, gsNil_n, dCall_e, callV, aVal_e, aIo_e, agNil_e, isIo, slOf, back, agOk, agIo, sNew_e, dLc_e, nLc_e, dIt_e, items_l, items_t, dSl_e, dPart_n, dPart_s, sPar_e, rhv_e, rhn_e, wipeE, restE, keepF, ownL, -dIte_e, ei, e1, gLt_i, c9, e2, gSub_i, pow39, e3]
  · obtain ⟨r, o2, e2, r0, r4, h2⟩ := draw_spec h1 (m := 4) (by decide) (by decide)
    obtain ⟨t, rfl⟩ : ∃ t : Nat, r = t := ⟨r.toNat, by omega⟩
    have hkp : 0 < k := mk (by omega)
    have eR : dRng1 (dCall 2 false fn__law_draw (aIo 0 (aVal (dCon (.int 4)) agNil))) [.ow o1, .fz (.int k), .fz (.int w), .un, .un, .un] = .ok ((List.range t).map fun k : Nat => .int ((0 : Int) + k)) [.ow o2, .fz (.int k), .fz (.int w), .un, .un, .un] := rng1_of (j := (t : Int)) (by simp -implicitDefEqProofs [fnOf_e, okio_e, okGo, sCons_e, sNil_e, sIf_e, sRet_e, sAsg_e, sExp_e, tst_e, bin_e, una_e, fnc_e, lift_s, dVar_e, dCon_e, dOwn_e, dRd_e, dFrz_e, aCons_e, aNil_e, dTup_e, dLst_e, dTupOf_e, dAnd_e, dOr_e, dNot_e, dIte_e, asB, outs, gNm_e, gTp_t, gsCons_c, gsNil_n, dCall_e, callV, aVal_e, aIo_e, agNil_e, isIo, slOf, back, agOk, agIo, sNew_e, dLc_e, nLc_e, dIt_e, items_l, items_t, dSl_e, dPart_n, dPart_s, sPar_e, rhv_e, rhn_e, wipeE, restE, keepF, ownL, e2]) (rng2_n (n := t) (by omega) (by omega))
    have run : ∀ (xs : List PyData) o, Dk o → ∃ ys o', lcL (gNm 5) tYesD (dCall 2 false self (aIo 0 (aVal (bin gSub (dVar 1) (dCon (.int 1))) agNil))) [4, 5] xs [.ow o, .fz (.int k), .fz (.int w), .un, .un, .un] = .ok ys [.ow o', .fz (.int k), .fz (.int w), .un, .un, .un] ∧ Dk o' ∧ (∀ y ∈ ys, Good D S y) ∧ ys.length ≤ xs.length := by
      intro xs o ho
      obtain ⟨ys, ρ', e, ⟨o3, rfl, h3⟩, hy, hl⟩ := lc_run rfl (fun ρ => ∃ o, ρ = [.ow o, .fz (.int k), .fz (.int w), .un, .un, .un] ∧ Dk o) (fun _ => True) (Good D S) (fun _ _ => trivial) ⟨o, rfl, ho⟩ (ds := xs) (g := gNm 5) (tt := tYesD) (te := dCall 2 false self (aIo 0 (aVal (bin gSub (dVar 1) (dCon (.int 1))) agNil))) (vs := [4, 5]) fun d ρ _ ⟨o, hρ, ho⟩ => by
        subst hρ
        obtain ⟨z, o3, e3, hz, h3⟩ := hself hkp o ho
        exact ⟨_, true, _, rfl, rfl, fun _ => ⟨z, [.ow o3, .fz (.int k), .fz (.int w), .un, .un, .fz d], by simp -implicitDefEqProofs [fnOf_e, okio_e, okGo, sCons_e, sNil_e, sIf_e, sRet_e, sAsg_e, sExp_e, tst_e, bin_e, una_e, fnc_e, lift_s, dVar_e, dCon_e, dOwn_e, dRd_e, dFrz_e, aCons_e, aNil_e, dTup_e, dLst_e, dTupOf_e, dAnd_e, dOr_e, dNot_e, dIte_e, asB, outs, gNm_e, gTp_t, gsCons_c, gsNil_n, dCall_e, callV, aVal_e, aIo_e, agNil_e, isIo, slOf, back, agOk, agIo, sNew_e, dLc_e, nLc_e, dIt_e, items_l, items_t, dSl_e, dPart_n, dPart_s, sPar_e, rhv_e, rhn_e, wipeE, restE, keepF, ownL, gSub_i, e3], hz, o3, rfl, h3⟩, fun z => (by cases z)⟩
      exact ⟨ys, o3, e, h3, hy, hl⟩
    obtain ⟨ys, o3, e3, h3, hy, hl⟩ := run ((List.range t).map fun k : Nat => .int ((0 : Int) + k)) o2 h2
    have hl3 : ys.length ≤ 3 := by
      simp at hl
      omega
    have gy : GoodL D (3 * (S + 2)) ys := (goodL_all hy).mono (Nat.le_refl _) (Nat.mul_le_mul_right _ hl3)
    have b9 : (w < 9) = False := by simp [c9]
    by_cases d9 : w = 9
    · subst d9
      refine ⟨.list ys, o3, ?_, (good_list gy).mono (by omega) (by omega), h3⟩
      simp only [Int.zero_add] at eR e3
      simp -implicitDefEqProofs [fnOf_e, okio_e, okGo, sCons_e, sNil_e, sIf_e, sRet_e, sAsg_e, sExp_e, tst_e, bin_e, una_e, fnc_e, lift_s, dVar_e, dCon_e, dOwn_e, dRd_e, dFrz_e, aCons_e, aNil_e, dTup_e, dLst_e, dTupOf_e, dAnd_e, dOr_e, dNot_e, dIte_e, asB, outs, gNm_e, gTp_t, gsCons_c, gsNil_n, dCall_e, callV, aVal_e, aIo_e, agNil_e, isIo, slOf, back, agOk, agIo, sNew_e, dLc_e, nLc_e, dIt_e, items_l, items_t, dSl_e, dPart_n, dPart_s, sPar_e, rhv_e, rhn_e, wipeE, restE, keepF, ownL, -dIte_e, ei, e1, gLt_i, eR, e3, gEqB_i]
    · have b9' : (w == 9) = false := by simpa using d9
      simp only [Int.zero_add] at eR e3
      by_cases d12 : w < 12
      · refine ⟨.tuple ys, o3, ?_, (good_tuple gy).mono (by omega) (by omega), h3⟩
        simp -implicitDefEqProofs [fnOf_e, okio_e, okGo, sCons_e, sNil_e, sIf_e, sRet_e, sAsg_e, sExp_e, tst_e, bin_e, una_e, fnc_e, lift_s, dVar_e, dCon_e, dOwn_e, dRd_e, dFrz_e, aCons_e, aNil_e, dTup_e, dLst_e, dTupOf_e, dAnd_e, dOr_e, dNot_e, dIte_e, asB, outs, gNm_e, gTp_t, gsCons_c, gsNil_n, dCall_e, callV, aVal_e, aIo_e, agNil_e, isIo, slOf, back, agOk, agIo, sNew_e, dLc_e, nLc_e, dIt_e, items_l, items_t, dSl_e, dPart_n, dPart_s, sPar_e, rhv_e, rhn_e, wipeE, restE, keepF, ownL, -dIte_e, ei, e1, gLt_i, b9, eR, e3, gEqB_i, b9']
        simp -implicitDefEqProofs [fnOf_e, okio_e, okGo, sCons_e, sNil_e, sIf_e, sRet_e, sAsg_e, sExp_e, tst_e, bin_e, una_e, fnc_e, lift_s, dVar_e, dCon_e, dOwn_e, dRd_e, dFrz_e, aCons_e, aNil_e, dTup_e, dLst_e, dTupOf_e, dAnd_e, dOr_e, dNot_e, dIte_e, asB, outs, gNm_e, gTp_t, gsCons_c, gsNil_n, dCall_e, callV, aVal_e, aIo_e, agNil_e, isIo, slOf, back, agOk, agIo, sNew_e, dLc_e, nLc_e, dIt_e, items_l, items_t, dSl_e, dPart_n, dPart_s, sPar_e, rhv_e, rhn_e, wipeE, restE, keepF, ownL, gLt_i, d12, gTuple]
      · refine ⟨.dict [(.str "0", .list ys)], o3, ?_, (good_dict1 (good_list gy) (by decide +kernel)).mono (by omega) (by omega), h3⟩
        simp -implicitDefEqProofs [fnOf_e, okio_e, okGo, sCons_e, sNil_e, sIf_e, sRet_e, sAsg_e, sExp_e, tst_e, bin_e, una_e, fnc_e, lift_s, dVar_e, dCon_e, dOwn_e, dRd_e, dFrz_e, aCons_e, aNil_e, dTup_e, dLst_e, dTupOf_e, dAnd_e, dOr_e, dNot_e, dIte_e, asB, outs, gNm_e, gTp_t, gsCons_c, gsNil_n, dCall_e, callV, aVal_e, aIo_e, agNil_e, isIo, slOf, back, agOk, agIo, sNew_e, dLc_e, nLc_e, dIt_e, items_l, items_t, dSl_e, dPart_n, dPart_s, sPar_e, rhv_e, rhn_e, wipeE, restE, keepF, ownL, -dIte_e, ei, e1, gLt_i, b9, eR, e3, gEqB_i, b9']
        simp -implicitDefEqProofs [fnOf_e, okio_e, okGo, sCons_e, sNil_e, sIf_e, sRet_e, sAsg_e, sExp_e, tst_e, bin_e, una_e, fnc_e, lift_s, dVar_e, dCon_e, dOwn_e, dRd_e, dFrz_e, aCons_e, aNil_e, dTup_e, dLst_e, dTupOf_e, dAnd_e, dOr_e, dNot_e, dIte_e, asB, outs, gNm_e, gTp_t, gsCons_c, gsNil_n, dCall_e, callV, aVal_e, aIo_e, agNil_e, isIo, slOf, back, agOk, agIo, sNew_e, dLc_e, nLc_e, dIt_e, items_l, items_t, dSl_e, dPart_n, dPart_s, sPar_e, rhv_e, rhn_e, wipeE, restE, keepF, ownL, gLt_i, d12, dDict, dVals_n, dVals_c]
def anyD : Nat → Nat
  | 0 => 3
  | k + 1 => anyD k + 2
def anyS : Nat → Nat
  | 0 => 7000
  | k + 1 => 3 * (anyS k + 2) + 40
theorem any_spec : ∀ (k n : Nat), k ≤ 10 → k < n → ∀ {o : Own}, Dk o → ∃ d o', fn__law_any n [.ow o, .fz (.int k)] = .ret d [.ow o', .fz (.int k)] ∧ Good (anyD k) (anyS k) d ∧ Dk o'
  | 0, n + 1, hk, _, o, h => by
    obtain ⟨d, o', e, g, h'⟩ := any_step (self := fn__law_any n) (k := 0) (D := 1) (S := 1921) (by decide) hk (fun z => absurd z (by decide)) h
    exact ⟨d, o', e, g.mono (by decide) (by decide), h'⟩
  | k + 1, n + 1, hk, hn, o, h => by
    have := any_step (self := fn__law_any n) (k := k + 1) (D := anyD k) (S := anyS k) (by have : ∀ k, 1921 ≤ anyS k := (fun k => by induction k with | zero => decide | succ k ih => rw [anyS]; omega); exact this k) hk (fun _ o ho => by
      have e : (((k + 1 : Nat) : Int) - 1) = k := by omega
      rw [e]
      exact any_spec k n (by omega) (by omega) ho) h
    exact this

/-! ## other values, bent ones -/
def inR (d : PyData) (a b : Int) : Bool := match d with
  | .int i => decide (a ≤ i) && decide (i ≤ b)
  | _ => false
theorem whole_eq (d : PyData) (a b : Int) : fn__law_whole [.fz d, .fz (.int a), .fz (.int b)] = .ret (.bool (inR d a b)) [.fz d, .fz (.int a), .fz (.int b)] := by
  cases d with
  | int i =>
    simp only [fn__law_whole, b__law_whole]
    by_cases h : a ≤ i <;> simp -implicitDefEqProofs [fnOf_e, okio_e, okGo, sCons_e, sNil_e, sIf_e, sRet_e, sAsg_e, sExp_e, tst_e, bin_e, una_e, fnc_e, lift_s, dVar_e, dCon_e, dOwn_e, dRd_e, dFrz_e, aCons_e, aNil_e, dTup_e, dLst_e, dTupOf_e, dAnd_e, dOr_e, dNot_e, dIte_e, asB, outs, gNm_e, gTp_t, gsCons_c, gsNil_n, dCall_e, callV, aVal_e, aIo_e, agNil_e, isIo, slOf, back, agOk, agIo, sNew_e, dLc_e, nLc_e, dIt_e, items_l, items_t, dSl_e, dPart_n, dPart_s, sPar_e, rhv_e, rhn_e, wipeE, restE, keepF, ownL, dChain_e, isTy, gLe, h, inR]
  | _ => rfl
theorem isTup_no {d : PyData} (h : ∀ xs, d ≠ .tuple xs) : isTy .tuple d = false := by
  cases d with
  | tuple xs => exact absurd rfl (h xs)
  | _ => rfl
theorem isTup_yes (xs : List PyData) : isTy .tuple (.tuple xs) = true := rfl
theorem gSl_t (lo hi : Option Int) (xs : List PyData) : gSl lo hi (.tuple xs) = some (.tuple (cutD xs lo hi)) := rfl
theorem cut_pre (xs : List PyData) (k : Nat) : cutD xs none (some (k : Int)) = xs.take k := by
  unfold cutD
  rw [HT.sIx_nat, HT.sIx_none]
  simp
theorem cut_suf (xs : List PyData) (k : Nat) : cutD xs (some (k : Int)) none = xs.drop k := by
  unfold cutD
  rw [HT.sIx_nat, HT.sIx_none]
  by_cases h : k ≤ xs.length
  · rw [Nat.min_eq_left h]
    exact List.take_of_length_le (by rw [List.length_drop]; exact Nat.le_refl _)
  · rw [Nat.min_eq_right (by omega), List.drop_length, List.drop_eq_nil_of_le (by omega)]
    simp
theorem good_in4 {S : Nat} (hS : 2000 ≤ S) {d : PyData} (h : d ∈ [.list [], .dict [], .list [.int 0], .dict [(.str "0", .int 0)]]) : Good 2 S d := by
  simp only [List.mem_cons, List.not_mem_nil, or_false] at h
  rcases h with rfl | rfl | rfl | rfl
  · exact (good_list (D := 0) (S := 0) good_nil).mono (by omega) (by omega)
  · exact good_dict0 (by omega) (by omega)
  · exact (good_list (D := 0) (S := 1923) ((good_cons (D := 0) (S := 1921) (T := 0) (good_small (by decide) (by decide)) good_nil).mono (by omega) (by omega))).mono (by omega) (by omega)
  · exact (good_dict1 (D := 0) (S := 1921) (good_small (by decide) (by decide)) (by decide +kernel)).mono (by omega) (by omega)
theorem good_in13 {S : Nat} (hS : 2000 ≤ S) {d : PyData} (h : d ∈ [.none, .bool true, .bool false, .int (-1), .int 0, .int 1, .int 4, .int 5, .int 8, .str "0", .tuple [], .list [], .dict []]) : Good 2 S d := by
  simp only [List.mem_cons, List.not_mem_nil, or_false] at h
  rcases h with rfl | rfl | rfl | rfl | rfl | rfl | rfl | rfl | rfl | rfl | rfl | rfl | rfl
  · exact good_none (by omega)
  · exact good_bool (by omega)
  · exact good_bool (by omega)
  · exact good_small (by decide) (by omega)
  · exact good_small (by decide) (by omega)
  · exact good_small (by decide) (by omega)
  · exact good_small (by decide) (by omega)
  · exact good_small (by decide) (by omega)
  · exact good_small (by decide) (by omega)
  · exact good_str (Nat.le_trans (show (reprText "0").length ≤ 100 by decide +kernel) (by omega))
  · exact (good_tuple (D := 0) (S := 0) good_nil).mono (by omega) (by omega)
  · exact (good_list (D := 0) (S := 0) good_nil).mono (by omega) (by omega)
  · exact good_dict0 (by omega) (by omega)
theorem inR_int {d : PyData} {a b : Int} (h : inR d a b = true) : ∃ i, d = .int i ∧ a ≤ i ∧ i ≤ b := by
  cases d with
  | int i =>
    simp [inR] at h
    exact ⟨i, rfl, h.1, h.2⟩
  | _ => cases h
theorem negOne : gNeg (.int 1) = some (.int (-1)) := rfl
theorem other_spec {o : Own} (h : Dk o) {v : PyData} {D S : Nat} (hv : Good D S v) (hS : S ≤ 4000000) : ∃ d o', fn__law_other [.ow o, .fz v] = .ret d [.ow o', .fz v] ∧ Good (D + 5) (2 * S + 30000) d ∧ Dk o' := by
  simp only [fn__law_other, b__law_other]
  obtain ⟨w, o1, e1, w0, wm, h1⟩ := draw_spec h (m := 10) (by decide) (by decide)
  by_cases c7 : 7 < w
  · obtain ⟨d, o2, e2, hd, h2⟩ := pick_l h1 (xs := [.list [], .dict [], .list [.int 0], .dict [(.str "0", .int 0)]]) (by simp) (by simp)
    refine ⟨d, o2, ?_, (good_in4 (S := 2000) (by omega) hd).mono (by omega) (by omega), h2⟩
    simp -implicitDefEqProofs [fnOf_e, okio_e, okGo, sCons_e, sNil_e, sIf_e, sRet_e, sAsg_e, sExp_e, tst_e, bin_e, una_e, fnc_e, lift_s, dVar_e, dCon_e, dOwn_e, dRd_e, dFrz_e, aCons_e, aNil_e, dTup_e, dLst_e, dTupOf_e, dAnd_e, dOr_e, dNot_e, dIte_e, asB, outs, gNm_e, gTp_t, gsCons_c, gsNil_n, dCall_e, callV, aVal_e, aIo_e, agNil_e, isIo, slOf, back, agOk, agIo, sNew_e, dLc_e, nLc_e, dIt_e, items_l, items_t, dSl_e, dPart_n, dPart_s, sPar_e, rhv_e, rhn_e, wipeE, restE, keepF, ownL, e1, gGt_i, c7, dDict, dVals_n, dVals_c, e2]
  have b7 : decide (7 < w) = false := by simpa using c7
  -- a whole number turned by one
  by_cases c0 : w = 0 ∧ inR v 0 99 = true
  · obtain ⟨rfl, hr⟩ := c0
    obtain ⟨i, rfl, i0, i9⟩ := inR_int hr
    refine ⟨.int (i + 1), o1, ?_, good_small (by omega) (by omega), h1⟩
    simp -implicitDefEqProofs [fnOf_e, okio_e, okGo, sCons_e, sNil_e, sIf_e, sRet_e, sAsg_e, sExp_e, tst_e, bin_e, una_e, fnc_e, lift_s, dVar_e, dCon_e, dOwn_e, dRd_e, dFrz_e, aCons_e, aNil_e, dTup_e, dLst_e, dTupOf_e, dAnd_e, dOr_e, dNot_e, dIte_e, asB, outs, gNm_e, gTp_t, gsCons_c, gsNil_n, dCall_e, callV, aVal_e, aIo_e, agNil_e, isIo, slOf, back, agOk, agIo, sNew_e, dLc_e, nLc_e, dIt_e, items_l, items_t, dSl_e, dPart_n, dPart_s, sPar_e, rhv_e, rhn_e, wipeE, restE, keepF, ownL, e1, gGt_i, gEqB_i, whole_eq, hr, gAdd_i]
  by_cases c1 : w = 1 ∧ inR v 0 99 = true
  · obtain ⟨rfl, hr⟩ := c1
    obtain ⟨i, rfl, i0, i9⟩ := inR_int hr
    refine ⟨.int (i - 1), o1, ?_, good_small (by omega) (by omega), h1⟩
    simp -implicitDefEqProofs [fnOf_e, okio_e, okGo, sCons_e, sNil_e, sIf_e, sRet_e, sAsg_e, sExp_e, tst_e, bin_e, una_e, fnc_e, lift_s, dVar_e, dCon_e, dOwn_e, dRd_e, dFrz_e, aCons_e, aNil_e, dTup_e, dLst_e, dTupOf_e, dAnd_e, dOr_e, dNot_e, dIte_e, asB, outs, gNm_e, gTp_t, gsCons_c, gsNil_n, dCall_e, callV, aVal_e, aIo_e, agNil_e, isIo, slOf, back, agOk, agIo, sNew_e, dLc_e, nLc_e, dIt_e, items_l, items_t, dSl_e, dPart_n, dPart_s, sPar_e, rhv_e, rhn_e, wipeE, restE, keepF, ownL, e1, gGt_i, gEqB_i, whole_eq, hr, gSub_i]
  by_cases c2 : w = 2
  · subst c2
    obtain ⟨r, o2, e2, r0, r13, h2⟩ := draw_spec h1 (m := 13) (by decide) (by decide)
    obtain ⟨d, e3, _, hd⟩ := gIx_l (xs := [.none, .bool true, .bool false, .int (-1), .int 0, .int 1, .int 4, .int 5, .int 8, .str "0", .tuple [], .list [], .dict []]) (i := r) r0 (by simpa using r13)
    refine ⟨d, o2, ?_, (good_in13 (S := 2000) (by omega) hd).mono (by omega) (by omega), h2⟩
    simp -implicitDefEqProofs [fnOf_e, okio_e, okGo, sCons_e, sNil_e, sIf_e, sRet_e, sAsg_e, sExp_e, tst_e, bin_e, una_e, fnc_e, lift_s, dVar_e, dCon_e, dOwn_e, dRd_e, dFrz_e, aCons_e, aNil_e, dTup_e, dLst_e, dTupOf_e, dAnd_e, dOr_e, dNot_e, dIte_e, asB, outs, gNm_e, gTp_t, gsCons_c, gsNil_n, dCall_e, callV, aVal_e, aIo_e, agNil_e, isIo, slOf, back, agOk, agIo, sNew_e, dLc_e, nLc_e, dIt_e, items_l, items_t, dSl_e, dPart_n, dPart_s, sPar_e, rhv_e, rhn_e, wipeE, restE, keepF, ownL, e1, gGt_i, gEqB_i, negOne, dDict, dVals_n, e2, e3]
  -- the answers of the two tests by number
  have t0 : (w = 0 → inR v 0 99 = false) := fun e => by cases q : inR v 0 99 with
    | false => rfl
    | true => exact absurd ⟨e, q⟩ c0
  have t1 : (w = 1 → inR v 0 99 = false) := fun e => by cases q : inR v 0 99 with
    | false => rfl
    | true => exact absurd ⟨e, q⟩ c1
  by_cases ct : ∃ xs, v = .tuple xs ∧ 3 ≤ w ∧ w ≤ 6
  · obtain ⟨xs, rfl, w3, w6⟩ := ct
    have hx := hv.tup'
    have hlen := hx.len
    have ew : w = 3 ∨ w = 4 ∨ w = 5 ∨ w = 6 := by omega
    rcases ew with rfl | rfl | rfl | rfl
    · refine ⟨.list xs, o1, ?_, (good_list hx).mono (by omega) (by omega), h1⟩
      simp -implicitDefEqProofs [fnOf_e, okio_e, okGo, sCons_e, sNil_e, sIf_e, sRet_e, sAsg_e, sExp_e, tst_e, bin_e, una_e, fnc_e, lift_s, dVar_e, dCon_e, dOwn_e, dRd_e, dFrz_e, aCons_e, aNil_e, dTup_e, dLst_e, dTupOf_e, dAnd_e, dOr_e, dNot_e, dIte_e, asB, outs, gNm_e, gTp_t, gsCons_c, gsNil_n, dCall_e, callV, aVal_e, aIo_e, agNil_e, isIo, slOf, back, agOk, agIo, sNew_e, dLc_e, nLc_e, dIt_e, items_l, items_t, dSl_e, dPart_n, dPart_s, sPar_e, rhv_e, rhn_e, wipeE, restE, keepF, ownL, e1, gGt_i, gEqB_i, isTup_yes, gList]
    · refine ⟨.tuple (xs ++ xs.take 1), o1, ?_, (good_tuple (good_append hx (hx.take 1))).mono (by omega) (by omega), h1⟩
      have hc : cutD xs none (some 1) = xs.take 1 := cut_pre xs 1
      simp -implicitDefEqProofs [fnOf_e, okio_e, okGo, sCons_e, sNil_e, sIf_e, sRet_e, sAsg_e, sExp_e, tst_e, bin_e, una_e, fnc_e, lift_s, dVar_e, dCon_e, dOwn_e, dRd_e, dFrz_e, aCons_e, aNil_e, dTup_e, dLst_e, dTupOf_e, dAnd_e, dOr_e, dNot_e, dIte_e, asB, outs, gNm_e, gTp_t, gsCons_c, gsNil_n, dCall_e, callV, aVal_e, aIo_e, agNil_e, isIo, slOf, back, agOk, agIo, sNew_e, dLc_e, nLc_e, dIt_e, items_l, items_t, dSl_e, dPart_n, dPart_s, sPar_e, rhv_e, rhn_e, wipeE, restE, keepF, ownL, e1, gGt_i, gEqB_i, isTup_yes, isI_i, gSl_t, hc]
      rw [gAdd_t (by have := List.length_take_le 1 xs; omega)]
      simp -implicitDefEqProofs [fnOf_e, okio_e, okGo, sCons_e, sNil_e, sIf_e, sRet_e, sAsg_e, sExp_e, tst_e, bin_e, una_e, fnc_e, lift_s, dVar_e, dCon_e, dOwn_e, dRd_e, dFrz_e, aCons_e, aNil_e, dTup_e, dLst_e, dTupOf_e, dAnd_e, dOr_e, dNot_e, dIte_e, asB, outs, gNm_e, gTp_t, gsCons_c, gsNil_n, dCall_e, callV, aVal_e, aIo_e, agNil_e, isIo, slOf, back, agOk, agIo, sNew_e, dLc_e, nLc_e, dIt_e, items_l, items_t, dSl_e, dPart_n, dPart_s, sPar_e, rhv_e, rhn_e, wipeE, restE, keepF, ownL]
    · refine ⟨.tuple (xs.drop 1), o1, ?_, (good_tuple (hx.drop 1)).mono (by omega) (by omega), h1⟩
      have hc : cutD xs (some 1) none = xs.drop 1 := cut_suf xs 1
      simp -implicitDefEqProofs [fnOf_e, okio_e, okGo, sCons_e, sNil_e, sIf_e, sRet_e, sAsg_e, sExp_e, tst_e, bin_e, una_e, fnc_e, lift_s, dVar_e, dCon_e, dOwn_e, dRd_e, dFrz_e, aCons_e, aNil_e, dTup_e, dLst_e, dTupOf_e, dAnd_e, dOr_e, dNot_e, dIte_e, asB, outs, gNm_e, gTp_t, gsCons_c, gsNil_n, dCall_e, callV, aVal_e, aIo_e, agNil_e, isIo, slOf, back, agOk, agIo, sNew_e, dLc_e, nLc_e, dIt_e, items_l, items_t, dSl_e, dPart_n, dPart_s, sPar_e, rhv_e, rhn_e, wipeE, restE, keepF, ownL, e1, gGt_i, gEqB_i, isTup_yes, isI_i, gSl_t, hc]
    · refine ⟨.tuple xs.reverse, o1, ?_, (good_tuple hx.reverse).mono (by omega) (by omega), h1⟩
      simp -implicitDefEqProofs [fnOf_e, okio_e, okGo, sCons_e, sNil_e, sIf_e, sRet_e, sAsg_e, sExp_e, tst_e, bin_e, una_e, fnc_e, lift_s, dVar_e, dCon_e, dOwn_e, dRd_e, dFrz_e, aCons_e, aNil_e, dTup_e, dLst_e, dTupOf_e, dAnd_e, dOr_e, dNot_e, dIte_e, asB, outs, gNm_e, gTp_t, gsCons_c, gsNil_n, dCall_e, callV, aVal_e, aIo_e, agNil_e, isIo, slOf, back, agOk, agIo, sNew_e, dLc_e, nLc_e, dIt_e, items_l, items_t, dSl_e, dPart_n, dPart_s, sPar_e, rhv_e, rhn_e, wipeE, restE, keepF, ownL, e1, gGt_i, gEqB_i, isTup_yes, gBack]
  have fin : ∃ d o2, (∀ z, (dIte (dCall 3 false fn__law_whole (aVal (dVar 1) (aVal (dCon (.int 0)) (aVal (dCon (.int 1)) agNil)))) (bin gEqB (dVar 1) (dCon (.int 1))) (dCall 2 false (fn__law_any 40) (aIo 0 (aVal (dCon (.int 1)) agNil)))) [.ow o1, .fz v, z] = .ok d [.ow o2, .fz v, z]) ∧ Good (D + 5) (2 * S + 30000) d ∧ Dk o2 := by
    cases q : inR v 0 1 with
    | true =>
      obtain ⟨i, rfl, _, _⟩ := inR_int q
      exact ⟨.bool (i == 1), o1, fun z => by simp -implicitDefEqProofs [fnOf_e, okio_e, okGo, sCons_e, sNil_e, sIf_e, sRet_e, sAsg_e, sExp_e, tst_e, bin_e, una_e, fnc_e, lift_s, dVar_e, dCon_e, dOwn_e, dRd_e, dFrz_e, aCons_e, aNil_e, dTup_e, dLst_e, dTupOf_e, dAnd_e, dOr_e, dNot_e, dIte_e, asB, outs, gNm_e, gTp_t, gsCons_c, gsNil_n, dCall_e, callV, aVal_e, aIo_e, agNil_e, isIo, slOf, back, agOk, agIo, sNew_e, dLc_e, nLc_e, dIt_e, items_l, items_t, dSl_e, dPart_n, dPart_s, sPar_e, rhv_e, rhn_e, wipeE, restE, keepF, ownL, whole_eq, q, gEqB_i], good_bool (by omega), h1⟩
    | false =>
      obtain ⟨d, o2, e2, g, h2⟩ := any_spec 1 40 (by decide) (by decide) h1
      have e3 : fn__law_any 40 [.ow o1, .fz (.int 1)] = .ret d [.ow o2, .fz (.int 1)] := e2
      exact ⟨d, o2, fun z => by simp -implicitDefEqProofs [fnOf_e, okio_e, okGo, sCons_e, sNil_e, sIf_e, sRet_e, sAsg_e, sExp_e, tst_e, bin_e, una_e, fnc_e, lift_s, dVar_e, dCon_e, dOwn_e, dRd_e, dFrz_e, aCons_e, aNil_e, dTup_e, dLst_e, dTupOf_e, dAnd_e, dOr_e, dNot_e, dIte_e, asB, outs, gNm_e, gTp_t, gsCons_c, gsNil_n, dCall_e, callV, aVal_e, aIo_e, agNil_e, isIo, slOf, back, agOk, agIo, sNew_e, dLc_e, nLc_e, dIt_e, items_l, items_t, dSl_e, dPart_n, dPart_s, sPar_e, rhv_e, rhn_e, wipeE, restE, keepF, ownL, whole_eq, q, e3], g.mono (by show 5 ≤ D + 5; omega) (by show 21046 ≤ _; omega), h2⟩
  obtain ⟨d, o2, fin, g, h2⟩ := fin
  refine ⟨d, o2, ?_, g, h2⟩
  have ew : w = 0 ∨ w = 1 ∨ (3 ≤ w ∧ w ≤ 6) ∨ w = 7 := by omega
  rcases ew with rfl | rfl | hw | rfl
  · simp -implicitDefEqProofs [fnOf_e, okio_e, okGo, sCons_e, sNil_e, sIf_e, sRet_e, sAsg_e, sExp_e, tst_e, bin_e, una_e, fnc_e, lift_s, dVar_e, dCon_e, dOwn_e, dRd_e, dFrz_e, aCons_e, aNil_e, dTup_e, dLst_e, dTupOf_e, dAnd_e, dOr_e, dNot_e, dIte_e, asB, outs, gNm_e, gTp_t, gsCons_c, gsNil_n, dCall_e, callV, aVal_e, aIo_e, agNil_e, isIo, slOf, back, agOk, agIo, sNew_e, dLc_e, nLc_e, dIt_e, items_l, items_t, dSl_e, dPart_n, dPart_s, sPar_e, rhv_e, rhn_e, wipeE, restE, keepF, ownL, -dIte_e, e1, gGt_i, gEqB_i, whole_eq, t0 rfl, fin]
  · simp -implicitDefEqProofs [fnOf_e, okio_e, okGo, sCons_e, sNil_e, sIf_e, sRet_e, sAsg_e, sExp_e, tst_e, bin_e, una_e, fnc_e, lift_s, dVar_e, dCon_e, dOwn_e, dRd_e, dFrz_e, aCons_e, aNil_e, dTup_e, dLst_e, dTupOf_e, dAnd_e, dOr_e, dNot_e, dIte_e, asB, outs, gNm_e, gTp_t, gsCons_c, gsNil_n, dCall_e, callV, aVal_e, aIo_e, agNil_e, isIo, slOf, back, agOk, agIo, sNew_e, dLc_e, nLc_e, dIt_e, items_l, items_t, dSl_e, dPart_n, dPart_s, sPar_e, rhv_e, rhn_e, wipeE, restE, keepF, ownL, -dIte_e, e1, gGt_i, gEqB_i, whole_eq, t1 rfl, fin]
  · have nt : isTy .tuple v = false := isTup_no fun xs e => ct ⟨xs, e, hw⟩
    have b0 : (w == 0) = false := by simp; omega
    have b1 : (w == 1) = false := by simp; omega
    have b2 : (w == 2) = false := by simp; omega
    have ew : w = 3 ∨ w = 4 ∨ w = 5 ∨ w = 6 := by omega
    rcases ew with rfl | rfl | rfl | rfl <;> simp -implicitDefEqProofs [fnOf_e, okio_e, okGo, sCons_e, sNil_e, sIf_e, sRet_e, sAsg_e, sExp_e, tst_e, bin_e, una_e, fnc_e, lift_s, dVar_e, dCon_e, dOwn_e, dRd_e, dFrz_e, aCons_e, aNil_e, dTup_e, dLst_e, dTupOf_e, dAnd_e, dOr_e, dNot_e, dIte_e, asB, outs, gNm_e, gTp_t, gsCons_c, gsNil_n, dCall_e, callV, aVal_e, aIo_e, agNil_e, isIo, slOf, back, agOk, agIo, sNew_e, dLc_e, nLc_e, dIt_e, items_l, items_t, dSl_e, dPart_n, dPart_s, sPar_e, rhv_e, rhn_e, wipeE, restE, keepF, ownL, -dIte_e, e1, gGt_i, gEqB_i, nt, fin]
  · simp -implicitDefEqProofs [fnOf_e, okio_e, okGo, sCons_e, sNil_e, sIf_e, sRet_e, sAsg_e, sExp_e, tst_e, bin_e, una_e, fnc_e, lift_s, dVar_e, dCon_e, dOwn_e, dRd_e, dFrz_e, aCons_e, aNil_e, dTup_e, dLst_e, dTupOf_e, dAnd_e, dOr_e, dNot_e, dIte_e, asB, outs, gNm_e, gTp_t, gsCons_c, gsNil_n, dCall_e, callV, aVal_e, aIo_e, agNil_e, isIo, slOf, back, agOk, agIo, sNew_e, dLc_e, nLc_e, dIt_e, items_l, items_t, dSl_e, dPart_n, dPart_s, sPar_e, rhv_e, rhn_e, wipeE, restE, keepF, ownL, -dIte_e, e1, gGt_i, gEqB_i, fin]


/-! ## rows of numbers as data -/
theorem eqv_int (i j : Int) : PyData.eqv (.int i) (.int j) = (i == j) := by simp [PyData.eqv]
theorem beq_flip {α : Type} [BEq α] [LawfulBEq α] (a b : α) : (a == b) = (b == a) := by
  rw [Bool.eq_iff_iff, beq_iff_eq, beq_iff_eq]
  exact eq_comm
theorem int_any (ns : List Int) (i : Int) : ((ns.map PyData.int).any fun z => PyData.eqv z (.int i)) = ns.contains i := by
  induction ns with
  | nil => rfl
  | cons n ns ih =>
    rw [List.map_cons, List.any_cons, ih, List.contains_cons, eqv_int, beq_flip]
theorem gIn_il (ns : List Int) (i : Int) : gInB (.int i) (.list (ns.map .int)) = some (.bool (ns.contains i)) := by
  rw [gIn_l (shaped_int i) fun x hx => by obtain ⟨j, _, rfl⟩ := List.mem_map.mp hx; exact shaped_int j, int_any]
theorem gIn_it (ns : List Int) (i : Int) : gInB (.int i) (.tuple (ns.map .int)) = some (.bool (ns.contains i)) := by
  rw [gIn_t (shaped_int i) fun x hx => by obtain ⟨j, _, rfl⟩ := List.mem_map.mp hx; exact shaped_int j, int_any]
theorem nd_len {n : Nat} : ∀ {ss : List Int}, ss.Nodup → (∀ s ∈ ss, 0 ≤ s ∧ s < n) → ss.length ≤ n := by
  induction n with
  | zero =>
    intro ss _ h
    cases ss with
    | nil => exact Nat.le_refl _
    | cons s ss => have := h s List.mem_cons_self; omega
  | succ n ih =>
    intro ss nd h
    by_cases hn : (n : Int) ∈ ss
    · have h1 : (ss.erase (n : Int)).length + 1 = ss.length := by
        rw [List.length_erase_of_mem hn]
        have := List.length_pos_of_mem hn
        omega
      have h2 := ih (nd.erase (n : Int)) fun s hs => by
        have := h s (List.mem_of_mem_erase hs)
        have ne : s ≠ (n : Int) := fun z => by
          subst z
          exact absurd hs (List.Nodup.not_mem_erase nd)
        omega
      omega
    · have := ih nd fun s hs => by
        have := h s hs
        have ne : s ≠ (n : Int) := fun z => hn (z ▸ hs)
        omega
      omega
theorem sorts_ints (ns : List Int) : ∃ ms : List Int, sorts (ns.map .int) = ms.map .int ∧ ms.Perm ns := by
  have hp : (sorts (ns.map PyData.int)).Perm (ns.map .int) := by rw [sorts_eq]; exact List.mergeSort_perm _ _
  obtain ⟨ms, e⟩ := ints_of fun d hd => isInt_map ns d (hp.mem_iff.mp hd)
  refine ⟨ms, e, ?_⟩
  rw [e] at hp
  have := hp.filterMap fun d => match d with
    | .int i => some i
    | _ => none
  simpa [List.filterMap_map, Function.comp_def] using this
theorem filt_ints (ns : List Int) (f : PyData → Bool) : ((ns.map PyData.int).filter f) = (ns.filter fun i => f (.int i)).map .int := by
  rw [List.filter_map]
  rfl
theorem int_inj {a b : Int} (h : PyData.int a = .int b) : a = b := by cases h; rfl
def encT (l : List Int) : PyData := .tuple (l.map .int)
def decT : PyData → Option (List Int)
  | .tuple xs => Ev.allI xs
  | _ => none
theorem decT_enc (l : List Int) : decT (encT l) = some l := allI_map l
theorem eqvAll_ints : ∀ (a b : List Int), PyData.eqvAll (a.map .int) (b.map .int) = (a == b)
  | [], [] => by simp [PyData.eqvAll]
  | [], _ :: _ => by simp [PyData.eqvAll]
  | _ :: _, [] => by simp [PyData.eqvAll]
  | x :: a, y :: b => by
    rw [List.map_cons, List.map_cons, PyData.eqvAll, eqvAll_ints a b]
    rw [eqv_int]
    rfl
theorem eqv_encT (a b : List Int) : PyData.eqv (encT a) (encT b) = (a == b) := by
  unfold encT
  rw [PyData.eqv, eqvAll_ints]
theorem any_encT (ls : List (List Int)) (l : List Int) : ((ls.map encT).any fun z => PyData.eqv z (encT l)) = ls.contains l := by
  induction ls with
  | nil => rfl
  | cons a ls ih =>
    rw [List.map_cons, List.any_cons, ih, List.contains_cons, eqv_encT, beq_flip]
theorem shaped_encT (l : List Int) : PySem.SeqAt.shaped (encT l) = true := shaped_ints l
theorem shaped_encTs (ls : List (List Int)) : ∀ x ∈ ls.map encT, PySem.SeqAt.shaped x = true := fun x hx => by
  obtain ⟨l, _, rfl⟩ := List.mem_map.mp hx
  exact shaped_encT l
theorem sorts_encT (ls : List (List Int)) : ∃ ms : List (List Int), sorts (ls.map encT) = ms.map encT ∧ ms.Perm ls := by
  have hp : (sorts (ls.map encT)).Perm (ls.map encT) := by rw [sorts_eq]; exact List.mergeSort_perm _ _
  have : ∀ ds : List PyData, (∀ d ∈ ds, ∃ l, d = encT l) → ∃ ms : List (List Int), ds = ms.map encT := by
    intro ds
    induction ds with
    | nil => exact fun _ => ⟨[], rfl⟩
    | cons d ds ih =>
      intro h
      obtain ⟨l, rfl⟩ := h d List.mem_cons_self
      obtain ⟨ms, e⟩ := ih fun x hx => h x (List.mem_cons_of_mem _ hx)
      exact ⟨l :: ms, by rw [e]; rfl⟩
  obtain ⟨ms, e⟩ := this _ fun d hd => by
    obtain ⟨l, _, rfl⟩ := List.mem_map.mp (hp.mem_iff.mp hd)
    exact ⟨l, rfl⟩
  refine ⟨ms, e, ?_⟩
  rw [e] at hp
  have := hp.filterMap decT
  simpa [List.filterMap_map, Function.comp_def, decT_enc] using this

/-! ## sorted -/
def isort (xs : List Int) : List Int := xs.mergeSort fun a b => decide (a ≤ b)
def rsort (ls : List (List Int)) : List (List Int) := ls.mergeSort fun a b => decide (a ≤ b)
theorem sorts_isort (xs : List Int) : sorts (xs.map .int) = (isort xs).map .int := by
  rw [sorts_eq]
  unfold isort
  rw [List.map_mergeSort (s := fun a b => !PySem.W.dataLt b a)]
  intro a _ b _
  rw [PySem.W.dataLt_int]
  by_cases h : a ≤ b
  · have h2 : ¬ b < a := by omega
    simp [h, h2]
  · have h2 : b < a := by omega
    simp [h, h2]
theorem lt_rows (a b : List Int) : PySem.W.dataLt (encT a) (encT b) = decide (a < b) := by
  unfold encT
  rw [PySem.W.dataLt_tuple]
  exact PySem.W.dataLt_ints a b
theorem sorts_rsort (ls : List (List Int)) : sorts (ls.map encT) = (rsort ls).map encT := by
  rw [sorts_eq]
  unfold rsort
  rw [List.map_mergeSort (s := fun a b => !PySem.W.dataLt b a)]
  intro a _ b _
  rw [lt_rows]
  by_cases h : b < a
  · have h2 : ¬ a ≤ b := fun z => z h
    simp [h, h2]
  · have h2 : a ≤ b := h
    simp [h, h2]
theorem isort_perm (xs : List Int) : (isort xs).Perm xs := List.mergeSort_perm _ _
theorem rsort_perm (xs : List (List Int)) : (rsort xs).Perm xs := List.mergeSort_perm _ _
theorem isort_le (xs : List Int) : (isort xs).Pairwise (· ≤ ·) := by
  have := List.pairwise_mergeSort (le := fun a b : Int => decide (a ≤ b)) (fun a b c h1 h2 => by simp at *; omega) (fun a b => by simp; omega) xs
  exact this.imp fun h => by simpa using h
theorem isort_uniq {xs ys : List Int} (h : xs.Perm ys) (hs : ys.Pairwise (· < ·)) : isort xs = ys :=
  List.Perm.eq_of_pairwise (le := (· ≤ ·)) (fun a b _ _ h1 h2 => by omega) (isort_le xs) (hs.imp fun h => by omega) ((isort_perm xs).trans h)
theorem isort_lt {xs : List Int} (h : xs.Nodup) : (isort xs).Pairwise (· < ·) := by
  have h2 : (isort xs).Nodup := (isort_perm xs).symm.nodup h
  exact ((isort_le xs).and h2).imp fun ⟨a, b⟩ => by omega
theorem asc_nodup {xs : List Int} (h : xs.Pairwise (· < ·)) : xs.Nodup := h.imp fun h => by omega
/-- ascending lists of the same items are the same -/
theorem asc_ext {xs ys : List Int} (h1 : xs.Pairwise (· < ·)) (h2 : ys.Pairwise (· < ·)) (h : ∀ x, x ∈ xs ↔ x ∈ ys) : xs = ys :=
  List.Perm.eq_of_pairwise (le := (· ≤ ·)) (fun a b _ _ h1 h2 => by omega) (h1.imp fun h => by omega) (h2.imp fun h => by omega) ((List.perm_ext_iff_of_nodup (asc_nodup h1) (asc_nodup h2)).mpr h)
/-! ## all items of some tuples -/
def uF : List Int → List (List Int) → List Int
  | m, [] => m
  | m, l :: ls => uF (m ++ l.filter fun x => !m.contains x) ls
theorem uF_snoc : ∀ (ls : List (List Int)) (m l : List Int), uF m (ls ++ [l]) = uF m ls ++ l.filter fun x => !(uF m ls).contains x
  | [], _, _ => rfl
  | a :: ls, m, l => by rw [List.cons_append, uF, uF_snoc ls, uF]
theorem mem_uF : ∀ {ls : List (List Int)} {m : List Int} {x : Int}, x ∈ uF m ls ↔ x ∈ m ∨ ∃ l ∈ ls, x ∈ l
  | [], m, x => by simp [uF]
  | a :: ls, m, x => by
    rw [uF, mem_uF, List.mem_append, List.mem_filter]
    constructor
    · rintro ((h | ⟨h, _⟩) | ⟨l, h1, h2⟩)
      · exact .inl h
      · exact .inr ⟨a, List.mem_cons_self, h⟩
      · exact .inr ⟨l, List.mem_cons_of_mem _ h1, h2⟩
    · rintro (h | ⟨l, h1, h2⟩)
      · exact .inl (.inl h)
      · rcases List.mem_cons.mp h1 with rfl | h1
        · by_cases c : x ∈ m
          · exact .inl (.inl c)
          · exact .inl (.inr ⟨h2, by simpa using c⟩)
        · exact .inr ⟨l, h1, h2⟩
theorem uF_nodup : ∀ {ls : List (List Int)} {m : List Int}, m.Nodup → (∀ l ∈ ls, l.Nodup) → (uF m ls).Nodup
  | [], m, h, _ => h
  | a :: ls, m, h, hl => by
    rw [uF]
    refine uF_nodup (List.nodup_append.mpr ⟨h, (hl a List.mem_cons_self).sublist List.filter_sublist, fun x hx y hy => ?_⟩) fun l hm => hl l (List.mem_cons_of_mem _ hm)
    have := (List.mem_filter.mp hy).2
    intro e
    subst e
    simp [hx] at this
theorem uF_len : ∀ {ls : List (List Int)} {m : List Int} {k : Nat}, (∀ l ∈ ls, l.length ≤ k) → (uF m ls).length ≤ m.length + k * ls.length
  | [], m, k, _ => by simp [uF]
  | a :: ls, m, k, h => by
    rw [uF]
    have h1 := uF_len (ls := ls) (m := m ++ a.filter fun x => !m.contains x) (k := k) fun l hl => h l (List.mem_cons_of_mem _ hl)
    have h2 := List.length_filter_le (fun x => !m.contains x) a
    have h3 := h a List.mem_cons_self
    rw [List.length_append] at h1
    rw [List.length_cons, Nat.mul_succ]
    omega
theorem union_eq {ls : List (List Int)} (hl : ls.length ≤ 2000) (h : ∀ l ∈ ls, l.length ≤ 1000) : fn__law_union [.fz (.list (ls.map encT))] = .ret (encT (isort (uF [] ls))) [.fz (.list (ls.map encT))] := by
  simp only [fn__law_union, b__law_union]
  simp -implicitDefEqProofs [fnOf_e, okio_e, okGo, sCons_e, sNil_e, sIf_e, sRet_e, sAsg_e, sExp_e, tst_e, bin_e, una_e, fnc_e, lift_s, dVar_e, dCon_e, dOwn_e, dRd_e, dFrz_e, aCons_e, aNil_e, dTup_e, dLst_e, dTupOf_e, dAnd_e, dOr_e, dNot_e, dIte_e, asB, outs, gNm_e, gTp_t, gsCons_c, gsNil_n, dCall_e, callV, aVal_e, aIo_e, agNil_e, isIo, slOf, back, agOk, agIo, sNew_e, dLc_e, nLc_e, dIt_e, items_l, items_t, dSl_e, dPart_n, dPart_s, sPar_e, rhv_e, rhn_e, wipeE, restE, keepF, ownL, sLp_e, sEnd_e, sCall_e, callO_e, dCallK_e, sFor_e, sApp_e, sExt_e, dEnum_e, dFix_e, nLc2_e, sRetN_e, sPar3_e, sRetO_e, sPut_e, nOp_e, pick]
  generalize e : forL _ _ _ _ = r
  obtain ⟨ρ', rfl, rfl⟩ := for_run e (fun k ρ => ρ = [.fz (.list (ls.map encT)), .ow (.lst ((uF [] (ls.take k)).map .int)), .un, .un, .un])
    rfl fun k d ρ hd hρ => by
      subst hρ
      rw [List.getElem?_map] at hd
      obtain ⟨l, hk, rfl⟩ := Option.map_eq_some_iff.mp hd
      have hm := List.mem_of_getElem? hk
      have hk2 : k < 2000 := by have := (List.getElem?_eq_some_iff.mp hk).1; omega
      have tk : ls.take (k + 1) = ls.take k ++ [l] := by rw [List.take_add_one, hk]; rfl
      have hL : (uF [] (ls.take k)).length ≤ 1000 * 2000 := by
        have := uF_len (ls := ls.take k) (m := []) (k := 1000) fun l hl => h l (List.mem_of_mem_take hl)
        rw [List.length_take] at this
        simp at this
        omega
      rw [tk, uF_snoc]
      generalize uF [] (ls.take k) = ms at *
      have es : ∀ z ∈ ms.map PyData.int, PySem.SeqAt.shaped z = true := fun z hz => by
        obtain ⟨i, _, rfl⟩ := List.mem_map.mp hz
        exact shaped_int i
      have hl2 := List.length_filter_le (fun x => !ms.contains x) l
      have hl3 := h l hm
      have ef : (l.map PyData.int).filter (fun z => !(ms.map PyData.int).any fun y => PyData.eqv y z) = (l.filter fun x => !ms.contains x).map .int := by
        rw [List.filter_map]
        congr 1
        exact List.filter_congr fun x _ => by simp only [Function.comp, int_any]
      refine ⟨_, _, rfl, ?_, rfl⟩
      simp -implicitDefEqProofs [fnOf_e, okio_e, okGo, sCons_e, sNil_e, sIf_e, sRet_e, sAsg_e, sExp_e, tst_e, bin_e, una_e, fnc_e, lift_s, dVar_e, dCon_e, dOwn_e, dRd_e, dFrz_e, aCons_e, aNil_e, dTup_e, dLst_e, dTupOf_e, dAnd_e, dOr_e, dNot_e, dIte_e, asB, outs, gNm_e, gTp_t, gsCons_c, gsNil_n, dCall_e, callV, aVal_e, aIo_e, agNil_e, isIo, slOf, back, agOk, agIo, sNew_e, dLc_e, nLc_e, dIt_e, items_l, items_t, dSl_e, dPart_n, dPart_s, sPar_e, rhv_e, rhn_e, wipeE, restE, keepF, ownL, sLp_e, sEnd_e, sCall_e, callO_e, dCallK_e, sFor_e, sApp_e, sExt_e, dEnum_e, dFix_e, nLc2_e, sRetN_e, sPar3_e, sRetO_e, sPut_e, nOp_e, pick, encT]
      rw [lc_s isInt id (fun z => !(ms.map PyData.int).any fun y => PyData.eqv y z) ?_ _ (isInt_map l)]
      rotate_left
      · rintro d ⟨i, rfl⟩
        exact ⟨_, rfl, rfl, by simp -implicitDefEqProofs [fnOf_e, okio_e, okGo, sCons_e, sNil_e, sIf_e, sRet_e, sAsg_e, sExp_e, tst_e, bin_e, una_e, fnc_e, lift_s, dVar_e, dCon_e, dOwn_e, dRd_e, dFrz_e, aCons_e, aNil_e, dTup_e, dLst_e, dTupOf_e, dAnd_e, dOr_e, dNot_e, dIte_e, asB, outs, gNm_e, gTp_t, gsCons_c, gsNil_n, dCall_e, callV, aVal_e, aIo_e, agNil_e, isIo, slOf, back, agOk, agIo, sNew_e, dLc_e, nLc_e, dIt_e, items_l, items_t, dSl_e, dPart_n, dPart_s, sPar_e, rhv_e, rhn_e, wipeE, restE, keepF, ownL, gNotIn_l (shaped_int i) es], fun _ => by simp -implicitDefEqProofs [fnOf_e, okio_e, okGo, sCons_e, sNil_e, sIf_e, sRet_e, sAsg_e, sExp_e, tst_e, bin_e, una_e, fnc_e, lift_s, dVar_e, dCon_e, dOwn_e, dRd_e, dFrz_e, aCons_e, aNil_e, dTup_e, dLst_e, dTupOf_e, dAnd_e, dOr_e, dNot_e, dIte_e, asB, outs, gNm_e, gTp_t, gsCons_c, gsNil_n, dCall_e, callV, aVal_e, aIo_e, agNil_e, isIo, slOf, back, agOk, agIo, sNew_e, dLc_e, nLc_e, dIt_e, items_l, items_t, dSl_e, dPart_n, dPart_s, sPar_e, rhv_e, rhn_e, wipeE, restE, keepF, ownL]⟩
      rw [ef]
      have q1 : ms.length + (List.filter (fun x => !decide (x ∈ ms)) l).length ≤ sizeLine := by
        have := List.length_filter_le (fun x => !decide (x ∈ ms)) l
        exact sl_small (by omega)
      simp -implicitDefEqProofs [fnOf_e, okio_e, okGo, sCons_e, sNil_e, sIf_e, sRet_e, sAsg_e, sExp_e, tst_e, bin_e, una_e, fnc_e, lift_s, dVar_e, dCon_e, dOwn_e, dRd_e, dFrz_e, aCons_e, aNil_e, dTup_e, dLst_e, dTupOf_e, dAnd_e, dOr_e, dNot_e, dIte_e, asB, outs, gNm_e, gTp_t, gsCons_c, gsNil_n, dCall_e, callV, aVal_e, aIo_e, agNil_e, isIo, slOf, back, agOk, agIo, sNew_e, dLc_e, nLc_e, dIt_e, items_l, items_t, dSl_e, dPart_n, dPart_s, sPar_e, rhv_e, rhn_e, wipeE, restE, keepF, ownL, q1]
  have hL : (uF [] ls).length ≤ 1000 * 2000 := by
    have := uF_len (ls := ls) (m := []) (k := 1000) h
    simp at this
    omega
  rw [List.length_map, List.take_of_length_le (Nat.le_refl _)]
  have et := sorts_isort (uF [] ls)
  generalize uF [] ls = ms at *
  simp -implicitDefEqProofs [fnOf_e, okio_e, okGo, sCons_e, sNil_e, sIf_e, sRet_e, sAsg_e, sExp_e, tst_e, bin_e, una_e, fnc_e, lift_s, dVar_e, dCon_e, dOwn_e, dRd_e, dFrz_e, aCons_e, aNil_e, dTup_e, dLst_e, dTupOf_e, dAnd_e, dOr_e, dNot_e, dIte_e, asB, outs, gNm_e, gTp_t, gsCons_c, gsNil_n, dCall_e, callV, aVal_e, aIo_e, agNil_e, isIo, slOf, back, agOk, agIo, sNew_e, dLc_e, nLc_e, dIt_e, items_l, items_t, dSl_e, dPart_n, dPart_s, sPar_e, rhv_e, rhn_e, wipeE, restE, keepF, ownL, sort_ints (xs := ms) (by omega), et, gTuple, encT]

/-! ## least right sets -/
def lies (a b : List Int) : Bool := a.all fun x => b.contains x
def leastL (L : List (List Int)) : List (List Int) := L.filter fun one => !(L.any fun own => !(own == one) && lies own one)
theorem gAll_map2 {α : Type} (l : List α) (f : α → Bool) : gAll [.list (l.map fun d => .bool (f d))] = some (.bool (l.all f)) := by
  have e : l.map (fun d => PyData.bool (f d)) = (l.map f).map .bool := by rw [List.map_map]; rfl
  rw [e]
  show (allB ((l.map f).map .bool)).map (fun bs => PyData.bool (bs.all id)) = _
  rw [allB_map]
  simp
theorem gAny_map2 {α : Type} (l : List α) (f : α → Bool) : gAny [.list (l.map fun d => .bool (f d))] = some (.bool (l.any f)) := by
  have e : l.map (fun d => PyData.bool (f d)) = (l.map f).map .bool := by rw [List.map_map]; rfl
  rw [e]
  show (allB ((l.map f).map .bool)).map (fun bs => PyData.bool (bs.any id)) = _
  rw [allB_map]
  simp
theorem filt_true {α : Type} (l : List α) : l.filter (fun _ => true) = l := List.filter_eq_self.mpr fun _ _ => rfl
theorem gNe_encT (a b : List Int) : gNeB (encT a) (encT b) = some (.bool (!(a == b))) := by
  have h1 := shaped_encT a
  have h2 := shaped_encT b
  unfold encT at *
  cases a with
  | nil => cases b <;> rfl
  | cons x a => cases b with
    | nil => rfl
    | cons y b =>
      have e := eqv_encT (x :: a) (y :: b)
      unfold encT at e
      simp [gNeB, gEq]
      exact ⟨⟨h1, h2⟩, e⟩
theorem lies_filter (a b : List Int) : (a.filter fun i => !b.contains i).isEmpty = lies a b := by
  unfold lies
  induction a with
  | nil => rfl
  | cons x a ih =>
    rw [List.filter_cons, List.all_cons]
    cases b.contains x with
    | true => simpa using ih
    | false => rfl
theorem none_filter {α : Type} (L : List α) (p : α → Bool) : (L.filter p).isEmpty = !(L.any p) := by
  induction L with
  | nil => rfl
  | cons x a ih =>
    rw [List.filter_cons, List.any_cons]
    cases p x with
    | true => rfl
    | false => simpa using ih
theorem gIn_et (l : List Int) (i : Int) : gInB (.int i) (encT l) = some (.bool (l.contains i)) := gIn_it l i
theorem lies_within_eq (a b : List Int) : fn_lies_within [.fz (encT a), .fz (encT b)] = .ret (.bool (lies a b)) [.fz (encT a), .fz (encT b)] := by
  simp only [fn_lies_within, b_lies_within]
  have el : lcL (gNm 3) tYesD (bin gInB (dVar 3) (dVar 1)) [2, 3] (a.map .int) [.fz (encT a), .fz (encT b), .un, .un] = .ok (a.map fun i => .bool (b.contains i)) [.fz (encT a), .fz (encT b), .un, .un] := by
    rw [lc_s isInt (fun d => match d with | .int i => .bool (b.contains i) | _ => .none) (fun _ => true) ?_ _ (isInt_map a), filt_true, List.map_map]
    · rfl
    rintro d ⟨i, rfl⟩
    exact ⟨_, rfl, rfl, rfl, fun _ => by simp -implicitDefEqProofs [fnOf_e, okio_e, okGo, sCons_e, sNil_e, sIf_e, sRet_e, sAsg_e, sExp_e, tst_e, bin_e, una_e, fnc_e, lift_s, dVar_e, dCon_e, dOwn_e, dRd_e, dFrz_e, aCons_e, aNil_e, dTup_e, dLst_e, dTupOf_e, dAnd_e, dOr_e, dNot_e, dIte_e, asB, outs, gNm_e, gTp_t, gsCons_c, gsNil_n, dCall_e, callV, aVal_e, aIo_e, agNil_e, isIo, slOf, back, agOk, agIo, sNew_e, dLc_e, nLc_e, dIt_e, items_l, items_t, dSl_e, dPart_n, dPart_s, sPar_e, rhv_e, rhn_e, wipeE, restE, keepF, ownL, gIn_et]⟩
  have ea := gAll_map2 a fun i => b.contains i
  have it : items (encT a) = some (a.map .int) := rfl
  unfold lies
  generalize (a.all fun i => b.contains i) = r at *
  generalize (a.map fun i => PyData.bool (b.contains i)) = L at *
  generalize encT a = A at *
  simp -implicitDefEqProofs [fnOf_e, okio_e, okGo, sCons_e, sNil_e, sIf_e, sRet_e, sAsg_e, sExp_e, tst_e, bin_e, una_e, fnc_e, lift_s, dVar_e, dCon_e, dOwn_e, dRd_e, dFrz_e, aCons_e, aNil_e, dTup_e, dLst_e, dTupOf_e, dAnd_e, dOr_e, dNot_e, dIte_e, asB, outs, gNm_e, gTp_t, gsCons_c, gsNil_n, dCall_e, callV, aVal_e, aIo_e, agNil_e, isIo, slOf, back, agOk, agIo, sNew_e, dLc_e, nLc_e, dIt_e, items_l, items_t, dSl_e, dPart_n, dPart_s, sPar_e, rhv_e, rhn_e, wipeE, restE, keepF, ownL, it, el, ea]
theorem law_lies_eq (a b : List Int) : fn__law_lies [.fz (encT a), .fz (encT b)] = .ret (.bool (lies a b)) [.fz (encT a), .fz (encT b)] := by
  simp only [fn__law_lies, b__law_lies]
  have el : lcL (gNm 3) (tst (bin gNotInB (dVar 3) (dVar 1))) (dVar 3) [2, 3] (a.map .int) [.fz (encT a), .fz (encT b), .un, .un] = .ok ((a.filter fun i => !b.contains i).map .int) [.fz (encT a), .fz (encT b), .un, .un] := by
    have hn : ∀ i, gNotInB (.int i) (encT b) = some (.bool (!b.contains i)) := fun i => by
      unfold encT
      rw [gNotIn_t (shaped_int i) fun x hx => by obtain ⟨j, _, rfl⟩ := List.mem_map.mp hx; exact shaped_int j, int_any]
    rw [lc_s isInt id (fun d => match d with | .int i => !b.contains i | _ => false) ?_ _ (isInt_map a), List.map_id_fun, id, List.filter_map]
    · rfl
    rintro d ⟨i, rfl⟩
    exact ⟨_, rfl, rfl, by simp -implicitDefEqProofs [fnOf_e, okio_e, okGo, sCons_e, sNil_e, sIf_e, sRet_e, sAsg_e, sExp_e, tst_e, bin_e, una_e, fnc_e, lift_s, dVar_e, dCon_e, dOwn_e, dRd_e, dFrz_e, aCons_e, aNil_e, dTup_e, dLst_e, dTupOf_e, dAnd_e, dOr_e, dNot_e, dIte_e, asB, outs, gNm_e, gTp_t, gsCons_c, gsNil_n, dCall_e, callV, aVal_e, aIo_e, agNil_e, isIo, slOf, back, agOk, agIo, sNew_e, dLc_e, nLc_e, dIt_e, items_l, items_t, dSl_e, dPart_n, dPart_s, sPar_e, rhv_e, rhn_e, wipeE, restE, keepF, ownL, hn], fun _ => by simp -implicitDefEqProofs [fnOf_e, okio_e, okGo, sCons_e, sNil_e, sIf_e, sRet_e, sAsg_e, sExp_e, tst_e, bin_e, una_e, fnc_e, lift_s, dVar_e, dCon_e, dOwn_e, dRd_e, dFrz_e, aCons_e, aNil_e, dTup_e, dLst_e, dTupOf_e, dAnd_e, dOr_e, dNot_e, dIte_e, asB, outs, gNm_e, gTp_t, gsCons_c, gsNil_n, dCall_e, callV, aVal_e, aIo_e, agNil_e, isIo, slOf, back, agOk, agIo, sNew_e, dLc_e, nLc_e, dIt_e, items_l, items_t, dSl_e, dPart_n, dPart_s, sPar_e, rhv_e, rhn_e, wipeE, restE, keepF, ownL]⟩
  have it : items (encT a) = some (a.map .int) := rfl
  have er := lies_filter a b
  have eN := gEq_nil ((a.filter fun i => !b.contains i).map PyData.int)
  rw [List.isEmpty_map, er] at eN
  generalize (a.filter fun i => !b.contains i).map PyData.int = L at *
  generalize encT a = A at *
  simp -implicitDefEqProofs [fnOf_e, okio_e, okGo, sCons_e, sNil_e, sIf_e, sRet_e, sAsg_e, sExp_e, tst_e, bin_e, una_e, fnc_e, lift_s, dVar_e, dCon_e, dOwn_e, dRd_e, dFrz_e, aCons_e, aNil_e, dTup_e, dLst_e, dTupOf_e, dAnd_e, dOr_e, dNot_e, dIte_e, asB, outs, gNm_e, gTp_t, gsCons_c, gsNil_n, dCall_e, callV, aVal_e, aIo_e, agNil_e, isIo, slOf, back, agOk, agIo, sNew_e, dLc_e, nLc_e, dIt_e, items_l, items_t, dSl_e, dPart_n, dPart_s, sPar_e, rhv_e, rhn_e, wipeE, restE, keepF, ownL, it, el, eN]
theorem law_least_eq (n : Int) (L : List (List Int)) : fn__law_least [.fz (.tuple [.int n, .tuple (L.map encT)])] = .ret (.list ((leastL L).map encT)) [.fz (.tuple [.int n, .tuple (L.map encT)])] := by
  simp only [fn__law_least, b__law_least]
  have ix : gIx (.tuple [.int n, .tuple (L.map encT)]) (.int 1) = some (.tuple (L.map encT)) := rfl
  have it : items (.tuple (L.map encT)) = some (L.map encT) := rfl
  have el : lcL (gNm 2) (tst (bin gEqB (dLc (dIt (bin gIx (dVar 0) (dCon (.int 1)))) (gNm 3) (tst (dAnd (bin gNeB (dVar 3) (dVar 2)) (dCall 2 false fn__law_lies (aVal (dVar 3) (aVal (dVar 2) agNil))))) (dVar 3) [1, 3]) (dLst aNil))) (dVar 2) [1, 2] (L.map encT) [.fz (.tuple [.int n, .tuple (L.map encT)]), .un, .un, .un] = .ok ((leastL L).map encT) [.fz (.tuple [.int n, .tuple (L.map encT)]), .un, .un, .un] := by
    rw [lc_s (fun d => ∃ l, d = encT l) id (fun d => match decT d with | some one => !(L.any fun own => !(own == one) && lies own one) | none => false) ?_ _ (fun d hd => by obtain ⟨l, _, e⟩ := List.mem_map.mp hd; exact ⟨l, e.symm⟩), List.map_id_fun, id, List.filter_map]
    · unfold leastL
      congr 2
      exact List.filter_congr fun l _ => by simp [decT_enc]
    rintro d ⟨one, rfl⟩
    refine ⟨_, rfl, rfl, ?_, fun _ => by simp -implicitDefEqProofs [fnOf_e, okio_e, okGo, sCons_e, sNil_e, sIf_e, sRet_e, sAsg_e, sExp_e, tst_e, bin_e, una_e, fnc_e, lift_s, dVar_e, dCon_e, dOwn_e, dRd_e, dFrz_e, aCons_e, aNil_e, dTup_e, dLst_e, dTupOf_e, dAnd_e, dOr_e, dNot_e, dIte_e, asB, outs, gNm_e, gTp_t, gsCons_c, gsNil_n, dCall_e, callV, aVal_e, aIo_e, agNil_e, isIo, slOf, back, agOk, agIo, sNew_e, dLc_e, nLc_e, dIt_e, items_l, items_t, dSl_e, dPart_n, dPart_s, sPar_e, rhv_e, rhn_e, wipeE, restE, keepF, ownL]⟩
    rw [decT_enc]
    have e2 : lcL (gNm 3) (tst (dAnd (bin gNeB (dVar 3) (dVar 2)) (dCall 2 false fn__law_lies (aVal (dVar 3) (aVal (dVar 2) agNil))))) (dVar 3) [1, 3] (L.map encT) [.fz (.tuple [.int n, .tuple (L.map encT)]), .un, .fz (encT one), .un] = .ok ((L.filter fun own => !(own == one) && lies own one).map encT) [.fz (.tuple [.int n, .tuple (L.map encT)]), .un, .fz (encT one), .un] := by
      rw [lc_s (fun d => ∃ l, d = encT l) id (fun d => match decT d with | some own => !(own == one) && lies own one | none => false) ?_ _ (fun d hd => by obtain ⟨l, _, e⟩ := List.mem_map.mp hd; exact ⟨l, e.symm⟩), List.map_id_fun, id, List.filter_map]
      · congr 2
        exact List.filter_congr fun l _ => by simp [decT_enc]
      rintro d ⟨own, rfl⟩
      refine ⟨_, rfl, rfl, ?_, fun _ => by simp -implicitDefEqProofs [fnOf_e, okio_e, okGo, sCons_e, sNil_e, sIf_e, sRet_e, sAsg_e, sExp_e, tst_e, bin_e, una_e, fnc_e, lift_s, dVar_e, dCon_e, dOwn_e, dRd_e, dFrz_e, aCons_e, aNil_e, dTup_e, dLst_e, dTupOf_e, dAnd_e, dOr_e, dNot_e, dIte_e, asB, outs, gNm_e, gTp_t, gsCons_c, gsNil_n, dCall_e, callV, aVal_e, aIo_e, agNil_e, isIo, slOf, back, agOk, agIo, sNew_e, dLc_e, nLc_e, dIt_e, items_l, items_t, dSl_e, dPart_n, dPart_s, sPar_e, rhv_e, rhn_e, wipeE, restE, keepF, ownL]⟩
      rw [decT_enc]
      have h1 := gNe_encT own one
      have h2 := law_lies_eq own one
      generalize encT own = O at *
      generalize encT one = N at *
      cases hb : own == one <;> simp -implicitDefEqProofs [fnOf_e, okio_e, okGo, sCons_e, sNil_e, sIf_e, sRet_e, sAsg_e, sExp_e, tst_e, bin_e, una_e, fnc_e, lift_s, dVar_e, dCon_e, dOwn_e, dRd_e, dFrz_e, aCons_e, aNil_e, dTup_e, dLst_e, dTupOf_e, dAnd_e, dOr_e, dNot_e, dIte_e, asB, outs, gNm_e, gTp_t, gsCons_c, gsNil_n, dCall_e, callV, aVal_e, aIo_e, agNil_e, isIo, slOf, back, agOk, agIo, sNew_e, dLc_e, nLc_e, dIt_e, items_l, items_t, dSl_e, dPart_n, dPart_s, sPar_e, rhv_e, rhn_e, wipeE, restE, keepF, ownL, h1, h2, hb]
    have eN := gEq_nil ((L.filter fun own => !(own == one) && lies own one).map encT)
    have er : ((L.filter fun own => !(own == one) && lies own one).map encT).isEmpty = !(L.any fun own => !(own == one) && lies own one) := by
      rw [List.isEmpty_map, none_filter]
    rw [er] at eN
    show _ = Rs.ok (!(L.any fun own => !(own == one) && lies own one)) _
    generalize ((L.filter fun own => !(own == one) && lies own one).map encT) = R at *
    generalize encT one = N at *
    generalize L.map encT = LL at *
    generalize PyData.tuple [.int n, .tuple LL] = W at *
    simp -implicitDefEqProofs [fnOf_e, okio_e, okGo, sCons_e, sNil_e, sIf_e, sRet_e, sAsg_e, sExp_e, tst_e, bin_e, una_e, fnc_e, lift_s, dVar_e, dCon_e, dOwn_e, dRd_e, dFrz_e, aCons_e, aNil_e, dTup_e, dLst_e, dTupOf_e, dAnd_e, dOr_e, dNot_e, dIte_e, asB, outs, gNm_e, gTp_t, gsCons_c, gsNil_n, dCall_e, callV, aVal_e, aIo_e, agNil_e, isIo, slOf, back, agOk, agIo, sNew_e, dLc_e, nLc_e, dIt_e, items_l, items_t, dSl_e, dPart_n, dPart_s, sPar_e, rhv_e, rhn_e, wipeE, restE, keepF, ownL, ix, it, e2, eN]
  generalize (leastL L).map encT = R at *
  generalize L.map encT = LL at *
  generalize PyData.tuple [.int n, .tuple LL] = W at *
  simp -implicitDefEqProofs [fnOf_e, okio_e, okGo, sCons_e, sNil_e, sIf_e, sRet_e, sAsg_e, sExp_e, tst_e, bin_e, una_e, fnc_e, lift_s, dVar_e, dCon_e, dOwn_e, dRd_e, dFrz_e, aCons_e, aNil_e, dTup_e, dLst_e, dTupOf_e, dAnd_e, dOr_e, dNot_e, dIte_e, asB, outs, gNm_e, gTp_t, gsCons_c, gsNil_n, dCall_e, callV, aVal_e, aIo_e, agNil_e, isIo, slOf, back, agOk, agIo, sNew_e, dLc_e, nLc_e, dIt_e, items_l, items_t, dSl_e, dPart_n, dPart_s, sPar_e, rhv_e, rhn_e, wipeE, restE, keepF, ownL, ix, it, el]
theorem least_rights_eq (n : Int) (L : List (List Int)) (hl : L.length ≤ 1000) : fn_least_rights [.fz (.tuple [.int n, .tuple (L.map encT)])] = .ret (.tuple ((leastL L).map encT)) [.fz (.tuple [.int n, .tuple (L.map encT)])] := by
  simp only [fn_least_rights, b_least_rights]
  have ix : gIx (.tuple [.int n, .tuple (L.map encT)]) (.int 1) = some (.tuple (L.map encT)) := rfl
  have it : items (.tuple (L.map encT)) = some (L.map encT) := rfl
  simp -implicitDefEqProofs [fnOf_e, okio_e, okGo, sCons_e, sNil_e, sIf_e, sRet_e, sAsg_e, sExp_e, tst_e, bin_e, una_e, fnc_e, lift_s, dVar_e, dCon_e, dOwn_e, dRd_e, dFrz_e, aCons_e, aNil_e, dTup_e, dLst_e, dTupOf_e, dAnd_e, dOr_e, dNot_e, dIte_e, asB, outs, gNm_e, gTp_t, gsCons_c, gsNil_n, dCall_e, callV, aVal_e, aIo_e, agNil_e, isIo, slOf, back, agOk, agIo, sNew_e, dLc_e, nLc_e, dIt_e, items_l, items_t, dSl_e, dPart_n, dPart_s, sPar_e, rhv_e, rhn_e, wipeE, restE, keepF, ownL, sLp_e, sEnd_e, sCall_e, callO_e, dCallK_e, sFor_e, sApp_e, sExt_e, dEnum_e, dFix_e, nLc2_e, sRetN_e, sPar3_e, sRetO_e, sPut_e, nOp_e, pick, ix]
  generalize e : forL _ _ _ _ = r
  generalize hW : PyData.tuple [.int n, .tuple (L.map encT)] = W at *
  obtain ⟨ρ', rfl, rfl⟩ := for_run e (fun k ρ => ρ = [.fz W, .fz (.tuple (L.map encT)), .ow (.lst (((L.take k).filter fun one => !(L.any fun own => !(own == one) && lies own one)).map encT)), .un, .un, .un])
    rfl fun k d ρ hd hρ => by
      subst hρ
      rw [List.getElem?_map] at hd
      obtain ⟨one, hk, rfl⟩ := Option.map_eq_some_iff.mp hd
      have tk : L.take (k + 1) = L.take k ++ [one] := by rw [List.take_add_one, hk]; rfl
      have e2 : ∀ X, lcL (gNm 5) tYesD (dAnd (bin gNeB (dVar 5) (dVar 3)) (dCall 2 false fn_lies_within (aVal (dVar 5) (aVal (dVar 3) agNil)))) [4, 5] (L.map encT) [.fz W, .fz (.tuple (L.map encT)), X, .fz (encT one), .un, .un] = .ok (L.map fun own => .bool (!(own == one) && lies own one)) [.fz W, .fz (.tuple (L.map encT)), X, .fz (encT one), .un, .un] := fun X => by
        rw [lc_s (fun d => ∃ l, d = encT l) (fun d => match decT d with | some own => .bool (!(own == one) && lies own one) | none => .none) (fun _ => true) ?_ _ (fun d hd => by obtain ⟨l, _, e⟩ := List.mem_map.mp hd; exact ⟨l, e.symm⟩), filt_true, List.map_map]
        · congr 1
          exact List.map_congr_left fun l _ => by simp [decT_enc]
        rintro d ⟨own, rfl⟩
        refine ⟨_, rfl, rfl, rfl, fun _ => ?_⟩
        rw [decT_enc]
        have h1 := gNe_encT own one
        have h2 := lies_within_eq own one
        generalize encT own = O at *
        generalize encT one = N at *
        cases hb : own == one <;> simp -implicitDefEqProofs [fnOf_e, okio_e, okGo, sCons_e, sNil_e, sIf_e, sRet_e, sAsg_e, sExp_e, tst_e, bin_e, una_e, fnc_e, lift_s, dVar_e, dCon_e, dOwn_e, dRd_e, dFrz_e, aCons_e, aNil_e, dTup_e, dLst_e, dTupOf_e, dAnd_e, dOr_e, dNot_e, dIte_e, asB, outs, gNm_e, gTp_t, gsCons_c, gsNil_n, dCall_e, callV, aVal_e, aIo_e, agNil_e, isIo, slOf, back, agOk, agIo, sNew_e, dLc_e, nLc_e, dIt_e, items_l, items_t, dSl_e, dPart_n, dPart_s, sPar_e, rhv_e, rhn_e, wipeE, restE, keepF, ownL, h1, h2, hb]
      have ea := gAny_map2 L fun own => !(own == one) && lies own one
      have q : ((L.take k).filter fun one => !(L.any fun own => !(own == one) && lies own one)).length < sizeLine := by
        have h1 := List.length_filter_le (fun one => !(L.any fun own => !(own == one) && lies own one)) (L.take k)
        rw [List.length_take] at h1
        exact sl_lt (by omega)
      rw [tk, List.filter_append, List.map_append]
      have hs : ([one].filter fun one => !(L.any fun own => !(own == one) && lies own one)) = if (L.any fun own => !(own == one) && lies own one) = true then [] else [one] := by
        rw [List.filter_cons]
        cases (L.any fun own => !(own == one) && lies own one) <;> rfl
      rw [hs]
      generalize ((L.take k).filter fun one => !(L.any fun own => !(own == one) && lies own one)) = F at *
      generalize (L.any fun own => !(own == one) && lies own one) = b at *
      generalize (L.map fun own => PyData.bool (!(own == one) && lies own one)) = B at *
      have qf : (F.map encT).length < sizeLine := by rw [List.length_map]; exact q
      generalize F.map encT = FF at *
      refine ⟨_, _, rfl, ?_, rfl⟩
      generalize L.map encT = LL at *
      cases b
      · simp -implicitDefEqProofs [fnOf_e, okio_e, okGo, sCons_e, sNil_e, sIf_e, sRet_e, sAsg_e, sExp_e, tst_e, bin_e, una_e, fnc_e, lift_s, dVar_e, dCon_e, dOwn_e, dRd_e, dFrz_e, aCons_e, aNil_e, dTup_e, dLst_e, dTupOf_e, dAnd_e, dOr_e, dNot_e, dIte_e, asB, outs, gNm_e, gTp_t, gsCons_c, gsNil_n, dCall_e, callV, aVal_e, aIo_e, agNil_e, isIo, slOf, back, agOk, agIo, sNew_e, dLc_e, nLc_e, dIt_e, items_l, items_t, dSl_e, dPart_n, dPart_s, sPar_e, rhv_e, rhn_e, wipeE, restE, keepF, ownL, sLp_e, sEnd_e, sCall_e, callO_e, dCallK_e, sFor_e, sApp_e, sExt_e, dEnum_e, dFix_e, nLc2_e, sRetN_e, sPar3_e, sRetO_e, sPut_e, nOp_e, pick, e2, ea, qf]
      · simp -implicitDefEqProofs [fnOf_e, okio_e, okGo, sCons_e, sNil_e, sIf_e, sRet_e, sAsg_e, sExp_e, tst_e, bin_e, una_e, fnc_e, lift_s, dVar_e, dCon_e, dOwn_e, dRd_e, dFrz_e, aCons_e, aNil_e, dTup_e, dLst_e, dTupOf_e, dAnd_e, dOr_e, dNot_e, dIte_e, asB, outs, gNm_e, gTp_t, gsCons_c, gsNil_n, dCall_e, callV, aVal_e, aIo_e, agNil_e, isIo, slOf, back, agOk, agIo, sNew_e, dLc_e, nLc_e, dIt_e, items_l, items_t, dSl_e, dPart_n, dPart_s, sPar_e, rhv_e, rhn_e, wipeE, restE, keepF, ownL, sLp_e, sEnd_e, sCall_e, callO_e, dCallK_e, sFor_e, sApp_e, sExt_e, dEnum_e, dFix_e, nLc2_e, sRetN_e, sPar3_e, sRetO_e, sPut_e, nOp_e, pick, e2, ea]
  have eL : ((L.take (L.map encT).length).filter fun one => !(L.any fun own => !(own == one) && lies own one)) = leastL L := by
    rw [List.length_map, List.take_of_length_le (Nat.le_refl _)]
    rfl
  rw [eL]
  generalize (leastL L).map encT = R
  simp -implicitDefEqProofs [fnOf_e, okio_e, okGo, sCons_e, sNil_e, sIf_e, sRet_e, sAsg_e, sExp_e, tst_e, bin_e, una_e, fnc_e, lift_s, dVar_e, dCon_e, dOwn_e, dRd_e, dFrz_e, aCons_e, aNil_e, dTup_e, dLst_e, dTupOf_e, dAnd_e, dOr_e, dNot_e, dIte_e, asB, outs, gNm_e, gTp_t, gsCons_c, gsNil_n, dCall_e, callV, aVal_e, aIo_e, agNil_e, isIo, slOf, back, agOk, agIo, sNew_e, dLc_e, nLc_e, dIt_e, items_l, items_t, dSl_e, dPart_n, dPart_s, sPar_e, rhv_e, rhn_e, wipeE, restE, keepF, ownL, sLp_e, sEnd_e, sCall_e, callO_e, dCallK_e, sFor_e, sApp_e, sExt_e, dEnum_e, dFix_e, nLc2_e, sRetN_e, sPar3_e, sRetO_e, sPut_e, nOp_e, pick, gTuple]

def fstP : PyData → PyData
  | .tuple (a :: _) => a
  | d => d
def sndP : PyData → PyData
  | .tuple (_ :: b :: _) => b
  | d => d

/-! ## unions -/
def rngI (n : Nat) : List Int := (List.range n).map fun k : Nat => (k : Int)
theorem rngI_asc (n : Nat) : (rngI n).Pairwise (· < ·) := List.Pairwise.map _ (fun a b h => by omega) List.pairwise_lt_range
theorem mem_rngI {n : Nat} {x : Int} : x ∈ rngI n ↔ 0 ≤ x ∧ x < n := by
  unfold rngI
  rw [List.mem_map]
  constructor
  · rintro ⟨k, hk, rfl⟩
    have := List.mem_range.mp hk
    omega
  · rintro ⟨h1, h2⟩
    exact ⟨x.toNat, List.mem_range.mpr (by omega), by omega⟩
def uni (n : Nat) (a b : List Int) : List Int := (rngI n).filter fun k => a.contains k || b.contains k
def RowL (n : Nat) (l : List Int) : Prop := l ≠ [] ∧ l.Pairwise (· < ·) ∧ ∀ x ∈ l, 0 ≤ x ∧ x < n
theorem mem_uni {n : Nat} {a b : List Int} {x : Int} : x ∈ uni n a b ↔ (0 ≤ x ∧ x < n) ∧ (x ∈ a ∨ x ∈ b) := by
  unfold uni
  rw [List.mem_filter, mem_rngI]
  simp
theorem uni_asc (n : Nat) (a b : List Int) : (uni n a b).Pairwise (· < ·) := (rngI_asc n).sublist List.filter_sublist
theorem uni_row {n : Nat} {a b : List Int} (hb : RowL n b) : RowL n (uni n a b) := by
  refine ⟨fun z => ?_, uni_asc n a b, fun x hx => (mem_uni.mp hx).1⟩
  cases b with
  | nil => exact hb.1 rfl
  | cons x b =>
    have : x ∈ uni n a (x :: b) := mem_uni.mpr ⟨hb.2.2 x List.mem_cons_self, .inr List.mem_cons_self⟩
    rw [z] at this
    cases this
theorem uni_nil {n : Nat} {b : List Int} (hb : RowL n b) : uni n [] b = b := asc_ext (uni_asc n [] b) hb.2.1 fun x => by
  rw [mem_uni]
  exact ⟨fun h => h.2.elim (fun z => by cases z) id, fun h => ⟨hb.2.2 x h, .inr h⟩⟩
theorem uni_union {n : Nat} {a b : List Int} (ha : RowL n a) (hb : RowL n b) : isort (uF [] [b, a]) = uni n a b := by
  refine isort_uniq ((List.perm_ext_iff_of_nodup (uF_nodup .nil fun l hl => ?_) (asc_nodup (uni_asc n a b))).mpr fun x => ?_) (uni_asc n a b)
  · simp only [List.mem_cons, List.not_mem_nil, or_false] at hl
    rcases hl with rfl | rfl
    · exact asc_nodup hb.2.1
    · exact asc_nodup ha.2.1
  · rw [mem_uF, mem_uni]
    constructor
    · rintro (h | ⟨l, hl, hx⟩)
      · cases h
      · simp only [List.mem_cons, List.not_mem_nil, or_false] at hl
        rcases hl with rfl | rfl
        · exact ⟨hb.2.2 x hx, .inr hx⟩
        · exact ⟨ha.2.2 x hx, .inl hx⟩
    · rintro ⟨_, h | h⟩
      · exact .inr ⟨a, by simp, h⟩
      · exact .inr ⟨b, by simp, h⟩
def addU (U : List (List Int)) (J : List Int) : List (List Int) := if U.contains J = true then U else U ++ [J]
def dedF (F : List (List Int)) : List (List Int) → List (List Int) → List (List Int)
  | _, [] => []
  | pre, x :: xs => if (F.contains x || pre.contains x) = true then dedF F (pre ++ [x]) xs else x :: dedF F (pre ++ [x]) xs
theorem dedF_mem {F : List (List Int)} : ∀ {xs pre : List (List Int)} {x : List Int}, x ∈ dedF F pre xs → x ∈ xs
  | [], _, _, h => by cases h
  | y :: xs, pre, x, h => by
    rw [dedF] at h
    split at h
    · exact List.mem_cons_of_mem _ (dedF_mem h)
    · rcases List.mem_cons.mp h with q | q
      · rw [q]; exact List.mem_cons_self
      · exact List.mem_cons_of_mem _ (dedF_mem q)
theorem dedF_len {F : List (List Int)} : ∀ (xs pre : List (List Int)), (dedF F pre xs).length ≤ xs.length
  | [], _ => Nat.le_refl _
  | y :: xs, pre => by
    rw [dedF]
    have := dedF_len (F := F) xs (pre ++ [y])
    split
    · rw [List.length_cons]; omega
    · rw [List.length_cons, List.length_cons]; omega
theorem dedF_add (F : List (List Int)) : ∀ (xs pre G : List (List Int)), (∀ x ∈ pre, x ∈ F ∨ x ∈ G) → (∀ x ∈ G, x ∈ pre) → (∀ x ∈ xs, x ≠ []) → xs.foldl addU ([] :: (F ++ G)) = [] :: (F ++ (G ++ dedF F pre xs))
  | [], pre, G, _, _, _ => by rw [dedF, List.append_nil]; rfl
  | x :: xs, pre, G, h1, h2, h3 => by
    rw [List.foldl_cons, dedF]
    have hx := h3 x List.mem_cons_self
    have h3' : ∀ y ∈ xs, y ≠ [] := fun y hy => h3 y (List.mem_cons_of_mem _ hy)
    by_cases c : x ∈ F ∨ x ∈ pre
    · have c1 : (F.contains x || pre.contains x) = true := by simpa using c
      have c2 : ([] :: (F ++ G)).contains x = true := by
        rw [List.contains_iff_mem]
        refine List.mem_cons_of_mem _ (List.mem_append.mpr ?_)
        rcases c with c | c
        · exact .inl c
        · exact h1 x c
      rw [if_pos c1, addU, if_pos c2]
      refine dedF_add F xs (pre ++ [x]) G (fun y hy => ?_) (fun y hy => List.mem_append_left _ (h2 y hy)) h3'
      rcases List.mem_append.mp hy with q | q
      · exact h1 y q
      · rw [List.mem_singleton.mp q]
        rcases c with c | c
        · exact .inl c
        · exact h1 x c
    · have c1 : ¬ (F.contains x || pre.contains x) = true := by simpa using c
      have c2 : ¬ ([] :: (F ++ G)).contains x = true := by
        rw [List.contains_iff_mem]
        intro z
        rcases List.mem_cons.mp z with z | z
        · exact hx z
        · rcases List.mem_append.mp z with z | z
          · exact c (.inl z)
          · exact c (.inr (h2 x z))
      rw [if_neg c1, addU, if_neg c2]
      have := dedF_add F xs (pre ++ [x]) (G ++ [x]) (fun y hy => ?_) (fun y hy => ?_) h3'
      · rw [show [] :: (F ++ G) ++ [x] = [] :: (F ++ (G ++ [x])) by simp, this]
        simp
      · rcases List.mem_append.mp hy with q | q
        · exact (h1 y q).imp id (List.mem_append_left _)
        · exact .inr (List.mem_append_right _ q)
      · rcases List.mem_append.mp hy with q | q
        · exact List.mem_append_left _ (h2 y q)
        · exact List.mem_append_right _ q
theorem dedF_num (F whole : List (List Int)) : ∀ (xs pre : List (List Int)), whole = pre ++ xs → ((Ev.numbered pre.length (xs.map encT)).filter fun p => match p with
      | .tuple [.int j, d] => (!(F.map encT).any fun z => PyData.eqv z d) && (!((whole.take j.toNat).map encT).any fun z => PyData.eqv z d)
      | _ => false).map sndP = (dedF F pre xs).map encT
  | [], pre, _ => rfl
  | x :: xs, pre, h => by
    have ih := dedF_num F whole xs (pre ++ [x]) (by rw [h]; simp)
    rw [List.length_append, List.length_singleton] at ih
    have et : whole.take pre.length = pre := by rw [h]; simp
    rw [List.map_cons, Ev.numbered, dedF]
    cases e1 : F.contains x with
    | true =>
      rw [List.filter_cons_of_neg (by simp only [any_encT, e1, Bool.not_true, Bool.false_and]; decide), ih, if_pos (show (true || pre.contains x) = true from rfl)]
    | false =>
      cases e : pre.contains x with
      | true =>
        rw [List.filter_cons_of_neg (by simp only [Int.toNat_natCast, et, any_encT, e, e1]; decide), ih, if_pos (show (false || true) = true from rfl)]
      | false =>
        rw [List.filter_cons_of_pos (by simp only [Int.toNat_natCast, et, any_encT, e, e1]; rfl), List.map_cons, ih, if_neg (show ¬(false || false) = true from Bool.false_ne_true)]
        rfl
def unS (n : Nat) (F : List (List Int)) (own : List Int) : List (List Int) := F ++ dedF F [] (own :: F.map fun other => uni n other own)
theorem unS_len (n : Nat) (F : List (List Int)) (own : List Int) : (unS n F own).length + 1 ≤ 2 * (F.length + 1) := by
  unfold unS
  have := dedF_len (F := F) (own :: F.map fun other => uni n other own) []
  rw [List.length_cons, List.length_map] at this
  rw [List.length_append]
  omega
theorem unS_row {n : Nat} {F : List (List Int)} {own : List Int} (h : ∀ l ∈ F, RowL n l) (ho : RowL n own) : ∀ l ∈ unS n F own, RowL n l := fun l hl => by
  rcases List.mem_append.mp hl with q | q
  · exact h l q
  · rcases List.mem_cons.mp (dedF_mem q) with rfl | q
    · exact ho
    · obtain ⟨a, _, rfl⟩ := List.mem_map.mp q
      exact uni_row ho
theorem unS_add {n : Nat} {F : List (List Int)} {own : List Int} (h : ∀ l ∈ F, RowL n l) (ho : RowL n own) : (([] :: F).map fun some => uni n some own).foldl addU ([] :: F) = [] :: unS n F own := by
  have := dedF_add F (own :: F.map fun other => uni n other own) [] [] (fun x h => by cases h) (fun x h => by cases h) (fun x hx => by
    rcases List.mem_cons.mp hx with rfl | q
    · exact ho.1
    · obtain ⟨a, _, rfl⟩ := List.mem_map.mp q
      exact (uni_row ho).1)
  rw [List.append_nil, List.nil_append] at this
  rw [List.map_cons, uni_nil ho, this]
  rfl
theorem unS_all {n : Nat} : ∀ (L : List (List Int)) (F : List (List Int)), (∀ l ∈ L, RowL n l) → (∀ l ∈ F, RowL n l) → (∀ l ∈ L.foldl (unS n) F, RowL n l) ∧ (L.foldl (unS n) F).length + 1 ≤ 2 ^ L.length * (F.length + 1)
  | [], F, _, h => ⟨h, by simp⟩
  | a :: L, F, h1, h2 => by
    have ha := h1 a List.mem_cons_self
    obtain ⟨q1, q2⟩ := unS_all L (unS n F a) (fun l hl => h1 l (List.mem_cons_of_mem _ hl)) (unS_row h2 ha)
    refine ⟨q1, Nat.le_trans q2 ?_⟩
    have := unS_len n F a
    rw [List.length_cons, Nat.pow_succ, Nat.mul_assoc]
    exact Nat.mul_le_mul_left _ this

theorem num_mem : ∀ (rs : List PyData) (k : Nat) (p : PyData), p ∈ Ev.numbered k rs → ∃ (j : Nat) (r : PyData), p = .tuple [.int (j : Int), r] ∧ r ∈ rs
  | [], _, _, h => by simp [Ev.numbered] at h
  | r :: rs, k, p, h => by
    rw [Ev.numbered] at h
    rcases List.mem_cons.mp h with q | q
    · exact ⟨k, r, q, List.mem_cons_self⟩
    · obtain ⟨j, r', e, h'⟩ := num_mem rs (k + 1) p q
      exact ⟨j, r', e, List.mem_cons_of_mem _ h'⟩

/-! ## unions, by both -/
theorem RowL.row {n : Nat} {l : List Int} (h : RowL n l) : Row n (encT l) := ⟨l, rfl, h.1, nd_len (asc_nodup h.2.1) h.2.2, h.2.2⟩
theorem rows_row {n : Nat} {F : List (List Int)} (h : ∀ l ∈ F, RowL n l) : ∀ x ∈ F.map encT, Row n x := fun x hx => by
  obtain ⟨l, hl, rfl⟩ := List.mem_map.mp hx
  exact (h l hl).row
theorem RowL.len {n : Nat} {l : List Int} (h : RowL n l) : l.length ≤ n := nd_len (asc_nodup h.2.1) h.2.2
theorem law_unions_eq {n : Nat} (n4 : n ≤ 4) (L : List (List Int)) (hL : ∀ l ∈ L, RowL n l) (hl : L.length ≤ 16) : fn__law_unions [.fz (.tuple (L.map encT))] = .ret (.list (sorts ((L.foldl (unS n) []).map encT))) [.fz (.tuple (L.map encT))] := by
  simp only [fn__law_unions, b__law_unions]
  simp -implicitDefEqProofs [fnOf_e, okio_e, okGo, sCons_e, sNil_e, sIf_e, sRet_e, sAsg_e, sExp_e, tst_e, bin_e, una_e, fnc_e, lift_s, dVar_e, dCon_e, dOwn_e, dRd_e, dFrz_e, aCons_e, aNil_e, dTup_e, dLst_e, dTupOf_e, dAnd_e, dOr_e, dNot_e, dIte_e, asB, outs, gNm_e, gTp_t, gsCons_c, gsNil_n, dCall_e, callV, aVal_e, aIo_e, agNil_e, isIo, slOf, back, agOk, agIo, sNew_e, dLc_e, nLc_e, dIt_e, items_l, items_t, dSl_e, dPart_n, dPart_s, sPar_e, rhv_e, rhn_e, wipeE, restE, keepF, ownL, sLp_e, sEnd_e, sCall_e, callO_e, dCallK_e, sFor_e, sApp_e, sExt_e, dEnum_e, dFix_e, nLc2_e, sRetN_e, sPar3_e, sRetO_e, sPut_e, nOp_e, pick]
  generalize e : forL _ _ _ _ = r
  obtain ⟨ρ', rfl, rfl⟩ := for_run e (fun k ρ => ρ = [.fz (.tuple (L.map encT)), .ow (.lst (((L.take k).foldl (unS n) []).map encT)), .un, .un, .un, .un, .un, .un])
    rfl fun k d ρ hd hρ => by
      subst hρ
      rw [List.getElem?_map] at hd
      obtain ⟨own, hk, rfl⟩ := Option.map_eq_some_iff.mp hd
      have hm := List.mem_of_getElem? hk
      have ho := hL own hm
      have tk : L.take (k + 1) = L.take k ++ [own] := by rw [List.take_add_one, hk]; rfl
      obtain ⟨hF, hFl⟩ := unS_all (n := n) (L.take k) [] (fun l hl => hL l (List.mem_of_mem_take hl)) (fun l hl => by cases hl)
      have hFl : ((L.take k).foldl (unS n) []).length ≤ 65535 := by
        have h1 : (L.take k).length ≤ 16 := by rw [List.length_take]; omega
        have h2 := Nat.pow_le_pow_right (n := 2) (by decide) h1
        simp only [List.length_nil, Nat.zero_add, Nat.mul_one] at hFl
        omega
      rw [tk, List.foldl_append, List.foldl_cons, List.foldl_nil]
      generalize (L.take k).foldl (unS n) [] = F at *
      have hU : ∀ other, RowL n other → fn__law_union [.fz (.list [encT own, encT other])] = .ret (encT (uni n other own)) [.fz (.list [encT own, encT other])] := fun other h => by
        have := union_eq (ls := [own, other]) (by simp) (fun l hl => by
          simp only [List.mem_cons, List.not_mem_nil, or_false] at hl
          rcases hl with rfl | rfl
          · have := ho.len; omega
          · have := h.len; omega)
        rw [uni_union h ho] at this
        exact this
      have e1 : ∀ ρ0, ρ0 = [.fz (.tuple (L.map encT)), .un, .fz (encT own), .un, .un, .un, .un, .un] → lcL (gNm 5) tYesD (dCall 1 false fn__law_union (aVal (dLst (aCons (dVar 2) (aCons (dVar 5) aNil))) agNil)) [4, 5] (F.map encT) ρ0 = .ok ((F.map fun other => uni n other own).map encT) ρ0 := fun ρ0 h0 => by
        subst h0
        rw [lc_s (fun d => ∃ l, d = encT l ∧ RowL n l) (fun d => match decT d with | some other => encT (uni n other own) | none => .none) (fun _ => true) ?_ _ (fun d hd => by obtain ⟨l, h1, e⟩ := List.mem_map.mp hd; exact ⟨l, e.symm, hF l h1⟩), filt_true, List.map_map, List.map_map]
        · congr 1
          exact List.map_congr_left fun l _ => by simp [decT_enc]
        rintro d ⟨other, rfl, h⟩
        refine ⟨_, rfl, rfl, rfl, fun _ => ?_⟩
        rw [decT_enc]
        have h2 := hU other h
        generalize encT own = O at *
        generalize encT other = N at *
        simp -implicitDefEqProofs [fnOf_e, okio_e, okGo, sCons_e, sNil_e, sIf_e, sRet_e, sAsg_e, sExp_e, tst_e, bin_e, una_e, fnc_e, lift_s, dVar_e, dCon_e, dOwn_e, dRd_e, dFrz_e, aCons_e, aNil_e, dTup_e, dLst_e, dTupOf_e, dAnd_e, dOr_e, dNot_e, dIte_e, asB, outs, gNm_e, gTp_t, gsCons_c, gsNil_n, dCall_e, callV, aVal_e, aIo_e, agNil_e, isIo, slOf, back, agOk, agIo, sNew_e, dLc_e, nLc_e, dIt_e, items_l, items_t, dSl_e, dPart_n, dPart_s, sPar_e, rhv_e, rhn_e, wipeE, restE, keepF, ownL, h2]
      have e1 := e1 _ rfl
      have sz : (F.map encT).length ≤ sizeLine := sl_small (by rw [List.length_map]; omega)
      have eA : gAdd (.list [encT own]) (.list ((F.map fun other => uni n other own).map encT)) = some (.list ((own :: F.map fun other => uni n other own).map encT)) := by
        rw [gAdd_l (by simp; omega)]
        rfl
      have hX : ∀ l ∈ (own :: F.map fun other => uni n other own), RowL n l := fun l hl => by
        rcases List.mem_cons.mp hl with rfl | q
        · exact ho
        · obtain ⟨a, _, rfl⟩ := List.mem_map.mp q
          exact uni_row ho
      have hXl : (own :: F.map fun other => uni n other own).length ≤ 65536 := by rw [List.length_cons, List.length_map]; omega
      have eU : unS n F own = F ++ dedF F [] (own :: F.map fun other => uni n other own) := rfl
      rw [eU]
      generalize (own :: F.map fun other => uni n other own) = X at *
      have e2 : lcL (gTp 2 (gsCons (gNm 6) (gsCons (gNm 7) gsNil))) (tst (dAnd (bin gNotInB (dVar 7) (dOwn 1)) (bin gNotInB (dVar 7) (dSl (dVar 3) none (some (dVar 6)))))) (dVar 7) [4, 6, 7] (Ev.numbered 0 (X.map encT)) [.fz (.tuple (L.map encT)), .ow (.lst (F.map encT)), .fz (encT own), .fz (.list (X.map encT)), .un, .un, .un, .un] = .ok ((dedF F [] X).map encT) [.fz (.tuple (L.map encT)), .ow (.lst (F.map encT)), .fz (encT own), .fz (.list (X.map encT)), .un, .un, .un, .un] := by
        rw [← dedF_num F X X [] rfl]
        rw [lc_s (fun p => ∃ (j : Nat) (o : PyData), p = .tuple [.int (j : Int), o] ∧ ∃ l, o = encT l) sndP (fun p => match p with
          | .tuple [.int j, d] => (!(F.map encT).any fun z => PyData.eqv z d) && (!((X.take j.toNat).map encT).any fun z => PyData.eqv z d)
          | _ => false) ?_ _ (fun p hp => by
            obtain ⟨j, r, e, hr⟩ := num_mem _ 0 p hp
            obtain ⟨l, _, e2⟩ := List.mem_map.mp hr
            exact ⟨j, r, e, l, e2.symm⟩)]
        · rfl
        rintro d ⟨j, _, rfl, l, rfl⟩
        refine ⟨_, rfl, rfl, ?_, fun _ => by simp -implicitDefEqProofs [fnOf_e, okio_e, okGo, sCons_e, sNil_e, sIf_e, sRet_e, sAsg_e, sExp_e, tst_e, bin_e, una_e, fnc_e, lift_s, dVar_e, dCon_e, dOwn_e, dRd_e, dFrz_e, aCons_e, aNil_e, dTup_e, dLst_e, dTupOf_e, dAnd_e, dOr_e, dNot_e, dIte_e, asB, outs, gNm_e, gTp_t, gsCons_c, gsNil_n, dCall_e, callV, aVal_e, aIo_e, agNil_e, isIo, slOf, back, agOk, agIo, sNew_e, dLc_e, nLc_e, dIt_e, items_l, items_t, dSl_e, dPart_n, dPart_s, sPar_e, rhv_e, rhn_e, wipeE, restE, keepF, ownL, sndP]⟩
        have q1 : gSl none (some (j : Int)) (.list (X.map encT)) = some (.list ((X.take j).map encT)) := by
          show some (PyData.list (cutD _ _ _)) = _
          rw [cut_pre, List.map_take]
        have q2 := gNotIn_l (shaped_encT l) (shaped_encTs (X.take j))
        have q3 := gNotIn_l (shaped_encT l) (shaped_encTs F)
        show _ = Rs.ok ((!(F.map encT).any fun z => PyData.eqv z (encT l)) && (!((X.take (Int.toNat (j : Int))).map encT).any fun z => PyData.eqv z (encT l))) _
        rw [Int.toNat_natCast]
        generalize (X.take j).map encT = XX at *
        generalize X.map encT = X1 at *
        generalize F.map encT = F1 at *
        generalize encT l = N at *
        cases hb : (F1.any fun z => PyData.eqv z N) <;> simp -implicitDefEqProofs [fnOf_e, okio_e, okGo, sCons_e, sNil_e, sIf_e, sRet_e, sAsg_e, sExp_e, tst_e, bin_e, una_e, fnc_e, lift_s, dVar_e, dCon_e, dOwn_e, dRd_e, dFrz_e, aCons_e, aNil_e, dTup_e, dLst_e, dTupOf_e, dAnd_e, dOr_e, dNot_e, dIte_e, asB, outs, gNm_e, gTp_t, gsCons_c, gsNil_n, dCall_e, callV, aVal_e, aIo_e, agNil_e, isIo, slOf, back, agOk, agIo, sNew_e, dLc_e, nLc_e, dIt_e, items_l, items_t, dSl_e, dPart_n, dPart_s, sPar_e, rhv_e, rhn_e, wipeE, restE, keepF, ownL, isI_i, q1, q2, q3, hb]
      have hd := dedF_len (F := F) X []
      have q9 : (F.map encT).length + ((dedF F [] X).map encT).length ≤ sizeLine := sl_small (by rw [List.length_map, List.length_map]; omega)
      have eX : Ev.numbered 0 (X.map encT) = Ev.numbered 0 (X.map encT) := rfl
      rw [List.map_append]
      refine ⟨_, _, rfl, ?_, rfl⟩
      generalize (dedF F [] X).map encT = D1 at *
      generalize (F.map fun other => uni n other own).map encT = U1 at *
      generalize X.map encT = X1 at *
      generalize F.map encT = F1 at *
      generalize encT own = O at *
      generalize L.map encT = LL at *
      simp -implicitDefEqProofs [fnOf_e, okio_e, okGo, sCons_e, sNil_e, sIf_e, sRet_e, sAsg_e, sExp_e, tst_e, bin_e, una_e, fnc_e, lift_s, dVar_e, dCon_e, dOwn_e, dRd_e, dFrz_e, aCons_e, aNil_e, dTup_e, dLst_e, dTupOf_e, dAnd_e, dOr_e, dNot_e, dIte_e, asB, outs, gNm_e, gTp_t, gsCons_c, gsNil_n, dCall_e, callV, aVal_e, aIo_e, agNil_e, isIo, slOf, back, agOk, agIo, sNew_e, dLc_e, nLc_e, dIt_e, items_l, items_t, dSl_e, dPart_n, dPart_s, sPar_e, rhv_e, rhn_e, wipeE, restE, keepF, ownL, sLp_e, sEnd_e, sCall_e, callO_e, dCallK_e, sFor_e, sApp_e, sExt_e, dEnum_e, dFix_e, nLc2_e, sRetN_e, sPar3_e, sRetO_e, sPut_e, nOp_e, pick, nLcO_e, e1, sz, eA, e2, q9]
  obtain ⟨hF, hFl⟩ := unS_all (n := n) L [] hL (fun l hl => by cases hl)
  have hFl : (L.foldl (unS n) []).length ≤ 65535 := by
    have h2 := Nat.pow_le_pow_right (n := 2) (by decide) hl
    simp only [List.length_nil, Nat.zero_add, Nat.mul_one] at hFl
    omega
  rw [List.length_map, List.take_of_length_le (Nat.le_refl _)]
  have eS := sort_rows (rows_row hF) (by rw [List.length_map]; omega)
  generalize (L.foldl (unS n) []).map encT = R at *
  simp -implicitDefEqProofs [fnOf_e, okio_e, okGo, sCons_e, sNil_e, sIf_e, sRet_e, sAsg_e, sExp_e, tst_e, bin_e, una_e, fnc_e, lift_s, dVar_e, dCon_e, dOwn_e, dRd_e, dFrz_e, aCons_e, aNil_e, dTup_e, dLst_e, dTupOf_e, dAnd_e, dOr_e, dNot_e, dIte_e, asB, outs, gNm_e, gTp_t, gsCons_c, gsNil_n, dCall_e, callV, aVal_e, aIo_e, agNil_e, isIo, slOf, back, agOk, agIo, sNew_e, dLc_e, nLc_e, dIt_e, items_l, items_t, dSl_e, dPart_n, dPart_s, sPar_e, rhv_e, rhn_e, wipeE, restE, keepF, ownL, sLp_e, sEnd_e, sCall_e, callO_e, dCallK_e, sFor_e, sApp_e, sExt_e, dEnum_e, dFix_e, nLc2_e, sRetN_e, sPar3_e, sRetO_e, sPut_e, nOp_e, pick, eS]

/-! ## is_joined -/
theorem rowsA_enc {n : Nat} : ∀ {ys : List PyData}, (∀ y ∈ ys, RowA n y) → ∃ L : List (List Int), ys = L.map encT ∧ ∀ l ∈ L, RowL n l
  | [], _ => ⟨[], rfl, fun _ h => by cases h⟩
  | y :: ys, h => by
    obtain ⟨l, rfl, h1, h2, h3⟩ := h y List.mem_cons_self
    obtain ⟨L, rfl, hL⟩ := rowsA_enc fun z hz => h z (List.mem_cons_of_mem _ hz)
    refine ⟨l :: L, rfl, fun m hm => ?_⟩
    rcases List.mem_cons.mp hm with rfl | q
    · exact ⟨h1, h2.2, h3⟩
    · exact hL m q
theorem rng_int (n : Nat) : ((List.range n).map fun k : Nat => PyData.int (0 + (k : Int))) = (rngI n).map .int := by
  unfold rngI
  rw [List.map_map]
  exact List.map_congr_left fun k _ => by simp
abbrev inJ : DenS := (sEnd [5, 6]
 (sCons (sAsg (fnc gTuple (aCons (dLc (dRng1 (dVar 1)) (gNm 8) (tst (dOr (bin gInB (dVar 8) (dVar 5)) (bin gInB (dVar 8) (dVar 4)))) (dVar 8) [7, 8]) aNil)) (gNm 6))
  (sCons (sIf (tst (bin gNotInB (dVar 6) (dOwn 3)))
 (sCons (sApp 3 (dVar 6))
  sNil)
 sNil)
  sNil)))
theorem turnJ {n : Nat} (n4 : n ≤ 4) (W LL : PyData) (own some : List Int) (U : List (List Int)) (hU : U.length ≤ 1000000) :
    turnF (gNm 5) inJ (encT some) [.fz W, .fz (.int n), .fz LL, .ow (.lst (U.map encT)), .fz (encT own), .un, .un, .un, .un] = .nx [.fz W, .fz (.int n), .fz LL, .ow (.lst ((addU U (uni n some own)).map encT)), .fz (encT own), .un, .un, .un, .un] := by
  have el : ∀ X, lcL (gNm 8) (tst (dOr (bin gInB (dVar 8) (dVar 5)) (bin gInB (dVar 8) (dVar 4)))) (dVar 8) [7, 8] ((rngI n).map .int) [.fz W, .fz (.int n), .fz LL, X, .fz (encT own), .fz (encT some), .un, .un, .un] = .ok ((uni n some own).map .int) [.fz W, .fz (.int n), .fz LL, X, .fz (encT own), .fz (encT some), .un, .un, .un] := fun X => by
    rw [lc_s isInt id (fun d => match d with | .int i => some.contains i || own.contains i | _ => false) ?_ _ (isInt_map _), List.map_id_fun, id, List.filter_map]
    · rfl
    rintro d ⟨i, rfl⟩
    refine ⟨_, rfl, rfl, ?_, fun _ => by simp -implicitDefEqProofs [fnOf_e, okio_e, okGo, sCons_e, sNil_e, sIf_e, sRet_e, sAsg_e, sExp_e, tst_e, bin_e, una_e, fnc_e, lift_s, dVar_e, dCon_e, dOwn_e, dRd_e, dFrz_e, aCons_e, aNil_e, dTup_e, dLst_e, dTupOf_e, dAnd_e, dOr_e, dNot_e, dIte_e, asB, outs, gNm_e, gTp_t, gsCons_c, gsNil_n, dCall_e, callV, aVal_e, aIo_e, agNil_e, isIo, slOf, back, agOk, agIo, sNew_e, dLc_e, nLc_e, dIt_e, items_l, items_t, dSl_e, dPart_n, dPart_s, sPar_e, rhv_e, rhn_e, wipeE, restE, keepF, ownL]⟩
    have h1 := gIn_et some i
    have h2 := gIn_et own i
    show _ = Rs.ok (some.contains i || own.contains i) _
    generalize encT some = S at *
    generalize encT own = O at *
    generalize some.contains i = b1 at *
    generalize own.contains i = b2 at *
    cases b1 <;> simp -implicitDefEqProofs [fnOf_e, okio_e, okGo, sCons_e, sNil_e, sIf_e, sRet_e, sAsg_e, sExp_e, tst_e, bin_e, una_e, fnc_e, lift_s, dVar_e, dCon_e, dOwn_e, dRd_e, dFrz_e, aCons_e, aNil_e, dTup_e, dLst_e, dTupOf_e, dAnd_e, dOr_e, dNot_e, dIte_e, asB, outs, gNm_e, gTp_t, gsCons_c, gsNil_n, dCall_e, callV, aVal_e, aIo_e, agNil_e, isIo, slOf, back, agOk, agIo, sNew_e, dLc_e, nLc_e, dIt_e, items_l, items_t, dSl_e, dPart_n, dPart_s, sPar_e, rhv_e, rhn_e, wipeE, restE, keepF, ownL, h1, h2]
  have eR : ∀ X S, dRng1 (dVar 1) [.fz W, .fz (.int n), .fz LL, X, .fz (encT own), .fz S, .un, .un, .un] = .ok ((rngI n).map .int) [.fz W, .fz (.int n), .fz LL, X, .fz (encT own), .fz S, .un, .un, .un] := fun X S => by
    rw [← rng_int]
    exact rng1_of (j := (n : Int)) (by simp -implicitDefEqProofs [fnOf_e, okio_e, okGo, sCons_e, sNil_e, sIf_e, sRet_e, sAsg_e, sExp_e, tst_e, bin_e, una_e, fnc_e, lift_s, dVar_e, dCon_e, dOwn_e, dRd_e, dFrz_e, aCons_e, aNil_e, dTup_e, dLst_e, dTupOf_e, dAnd_e, dOr_e, dNot_e, dIte_e, asB, outs, gNm_e, gTp_t, gsCons_c, gsNil_n, dCall_e, callV, aVal_e, aIo_e, agNil_e, isIo, slOf, back, agOk, agIo, sNew_e, dLc_e, nLc_e, dIt_e, items_l, items_t, dSl_e, dPart_n, dPart_s, sPar_e, rhv_e, rhn_e, wipeE, restE, keepF, ownL]) (rng2_n (n := n) (by omega) (by omega))
  have eT : gTuple [.list ((uni n some own).map .int)] = Option.some (encT (uni n some own)) := rfl
  have eN : gNotInB (encT (uni n some own)) (.list (U.map encT)) = Option.some (.bool (!U.contains (uni n some own))) := by
    rw [gNotIn_l (shaped_encT _) (shaped_encTs U), any_encT]
  have eP : ((addU U (uni n some own)).map encT) = if U.contains (uni n some own) = true then U.map encT else U.map encT ++ [encT (uni n some own)] := by
    unfold addU
    split <;> simp
  rw [eP]
  have q : (U.map encT).length < sizeLine := sl_lt (by rw [List.length_map]; omega)
  generalize U.contains (uni n some own) = b at *
  generalize encT (uni n some own) = J at *
  generalize (uni n some own).map PyData.int = J1 at *
  generalize U.map encT = U1 at *
  generalize (rngI n).map PyData.int = RR at *
  generalize encT own = O at *
  generalize encT some = S at *
  have tf : ∀ ρ, turnF (gNm 5) inJ S ρ = inJ (ρ.set 5 (.fz S)) := fun _ => rfl
  rw [tf]
  cases b <;> simp -implicitDefEqProofs [fnOf_e, okio_e, okGo, sCons_e, sNil_e, sIf_e, sRet_e, sAsg_e, sExp_e, tst_e, bin_e, una_e, fnc_e, lift_s, dVar_e, dCon_e, dOwn_e, dRd_e, dFrz_e, aCons_e, aNil_e, dTup_e, dLst_e, dTupOf_e, dAnd_e, dOr_e, dNot_e, dIte_e, asB, outs, gNm_e, gTp_t, gsCons_c, gsNil_n, dCall_e, callV, aVal_e, aIo_e, agNil_e, isIo, slOf, back, agOk, agIo, sNew_e, dLc_e, nLc_e, dIt_e, items_l, items_t, dSl_e, dPart_n, dPart_s, sPar_e, rhv_e, rhn_e, wipeE, restE, keepF, ownL, sLp_e, sEnd_e, sCall_e, callO_e, dCallK_e, sFor_e, sApp_e, sExt_e, dEnum_e, dFix_e, nLc2_e, sRetN_e, sPar3_e, sRetO_e, sPut_e, nOp_e, pick, eR, el, eT, eN, q]
theorem innerJ {n : Nat} (n4 : n ≤ 4) (W LL : PyData) (own : List Int) (F : List (List Int)) (hF : ∀ l ∈ F, RowL n l) (ho : RowL n own) (hl : F.length ≤ 65535) :
    forL (gNm 5) inJ (([] :: F).map encT) [.fz W, .fz (.int n), .fz LL, .ow (.lst (([] :: F).map encT)), .fz (encT own), .un, .un, .un, .un] = .nx [.fz W, .fz (.int n), .fz LL, .ow (.lst (([] :: unS n F own).map encT)), .fz (encT own), .un, .un, .un, .un] := by
  obtain ⟨U, e, hU, _⟩ := for_st (fun U : List (List Int) => [Sl.fz W, .fz (.int n), .fz LL, .ow (.lst (U.map encT)), .fz (encT own), .un, .un, .un, .un]) (fun k U => U = ((([] :: F).take k).map fun some => uni n some own).foldl addU ([] :: F) ∧ U.length ≤ 65536 + k) (([] :: F).map encT)
    (g := gNm 5) (f := inJ) (fun k d U hd ⟨h1, h2⟩ => by
      rw [List.getElem?_map] at hd
      obtain ⟨some, hk, rfl⟩ := Option.map_eq_some_iff.mp hd
      have hk2 : k < 65536 := by have := (List.getElem?_eq_some_iff.mp hk).1; rw [List.length_cons] at this; omega
      have tk : ([] :: F).take (k + 1) = ([] :: F).take k ++ [some] := by rw [List.take_add_one, hk]; rfl
      refine ⟨addU U (uni n some own), turnJ n4 W LL own some U (by omega), ?_, ?_⟩
      · rw [tk, List.map_append, List.foldl_append, ← h1]
        rfl
      · unfold addU
        split
        · omega
        · rw [List.length_append]; simp; omega) ([] :: F) ⟨rfl, by rw [List.length_cons]; omega⟩
  rw [List.length_map, List.take_of_length_le (Nat.le_refl _), unS_add hF ho] at hU
  rw [hU] at e
  exact e
theorem is_joined_eq {n : Nat} (n4 : n ≤ 4) (L : List (List Int)) (hL : ∀ l ∈ L, RowL n l) (hl : L.length ≤ 16) {b : Bool} (hb : gEqB (.list (sorts (((leastL L).foldl (unS n) []).map encT))) (.list (L.map encT)) = some (.bool b)) :
    fn_is_joined [.fz (.tuple [.int n, .tuple (L.map encT)])] = .ret (.bool b) [.fz (.tuple [.int n, .tuple (L.map encT)])] := by
  simp only [fn_is_joined, b_is_joined]
  have e1 := least_rights_eq n L (by omega)
  have hq : ∀ l ∈ leastL L, RowL n l := fun l h => hL l (List.mem_filter.mp h).1
  have hql : (leastL L).length ≤ 16 := Nat.le_trans (List.length_filter_le _ _) hl
  have eR : gList [.tuple (L.map encT)] = some (.list (L.map encT)) := rfl
  have eI : items (.tuple ((leastL L).map encT)) = some ((leastL L).map encT) := rfl
  have eF : forL (gNm 4) (sEnd [4, 5, 6] (sCons (sLp [5, 6] (sFor (dIt (fnc gList (aCons (dOwn 3) aNil))) (gNm 5) inJ)) sNil)) ((leastL L).map encT) [.fz (.tuple [.int n, .tuple (L.map encT)]), .fz (.int n), .fz (.tuple (L.map encT)), .ow (.lst [.tuple []]), .un, .un, .un, .un, .un]
      = .nx [.fz (.tuple [.int n, .tuple (L.map encT)]), .fz (.int n), .fz (.tuple (L.map encT)), .ow (.lst (.tuple [] :: ((leastL L).foldl (unS n) []).map encT)), .un, .un, .un, .un, .un] := by
    generalize PyData.tuple [.int n, .tuple (L.map encT)] = W
    generalize PyData.tuple (L.map encT) = LL
    generalize leastL L = M at *
    generalize e : forL _ _ _ _ = r
    obtain ⟨ρ', rfl, rfl⟩ := for_run e (fun k ρ => ρ = [.fz W, .fz (.int n), .fz LL, .ow (.lst (([] :: (M.take k).foldl (unS n) []).map encT)), .un, .un, .un, .un, .un])
      rfl fun k d ρ hd hρ => by
        subst hρ
        rw [List.getElem?_map] at hd
        obtain ⟨own, hk, rfl⟩ := Option.map_eq_some_iff.mp hd
        have hm := List.mem_of_getElem? hk
        have tk : M.take (k + 1) = M.take k ++ [own] := by rw [List.take_add_one, hk]; rfl
        obtain ⟨hF, hFl⟩ := unS_all (n := n) (M.take k) [] (fun l hl => hq l (List.mem_of_mem_take hl)) (fun l hl => by cases hl)
        have hFl : ((M.take k).foldl (unS n) []).length ≤ 65535 := by
          have h1 : (M.take k).length ≤ 16 := by rw [List.length_take]; omega
          have h2 := Nat.pow_le_pow_right (n := 2) (by decide) h1
          simp only [List.length_nil, Nat.zero_add, Nat.mul_one] at hFl
          omega
        have h5 := innerJ n4 W LL own _ hF (hq own hm) hFl
        rw [tk, List.foldl_append, List.foldl_cons, List.foldl_nil]
        generalize (M.take k).foldl (unS n) [] = F at *
        generalize unS n F own = F' at *
        have eL : ∀ xs : List PyData, gList [.list xs] = some (.list xs) := fun _ => rfl
        refine ⟨_, _, rfl, ?_, rfl⟩
        generalize ([] :: F).map encT = F1 at *
        generalize ([] :: F').map encT = F2 at *
        generalize encT own = O at *
        simp -implicitDefEqProofs [fnOf_e, okio_e, okGo, sCons_e, sNil_e, sIf_e, sRet_e, sAsg_e, sExp_e, tst_e, bin_e, una_e, fnc_e, lift_s, dVar_e, dCon_e, dOwn_e, dRd_e, dFrz_e, aCons_e, aNil_e, dTup_e, dLst_e, dTupOf_e, dAnd_e, dOr_e, dNot_e, dIte_e, asB, outs, gNm_e, gTp_t, gsCons_c, gsNil_n, dCall_e, callV, aVal_e, aIo_e, agNil_e, isIo, slOf, back, agOk, agIo, sNew_e, dLc_e, nLc_e, dIt_e, items_l, items_t, dSl_e, dPart_n, dPart_s, sPar_e, rhv_e, rhn_e, wipeE, restE, keepF, ownL, sLp_e, sEnd_e, sCall_e, callO_e, dCallK_e, sFor_e, sApp_e, sExt_e, dEnum_e, dFix_e, nLc2_e, sRetN_e, sPar3_e, sRetO_e, sPut_e, nOp_e, pick, eL, h5]
    rw [List.length_map, List.take_of_length_le (Nat.le_refl _)]
    rfl
  obtain ⟨hF, hFl⟩ := unS_all (n := n) (leastL L) [] hq (fun l hl => by cases hl)
  have hFl : ((leastL L).foldl (unS n) []).length ≤ 65535 := by
    have h2 := Nat.pow_le_pow_right (n := 2) (by decide) hql
    simp only [List.length_nil, Nat.zero_add, Nat.mul_one] at hFl
    omega
  have eS := sort_rows (rows_row hF) (by rw [List.length_map]; omega)
  have eD := sl_drop1 (.tuple []) (((leastL L).foldl (unS n) []).map encT)
  have g1 : ∀ ρ : Ens, (gTp 2 (gsCons (gNm 1) (gsCons (gNm 2) gsNil))) (.tuple [.int n, .tuple (L.map encT)]) (.fz (.tuple [.int n, .tuple (L.map encT)]) :: .un :: .un :: ρ) = some (.fz (.tuple [.int n, .tuple (L.map encT)]) :: .fz (.int n) :: .fz (.tuple (L.map encT)) :: ρ) := fun ρ => rfl
  generalize sorts (((leastL L).foldl (unS n) []).map encT) = SS at *
  generalize ((leastL L).foldl (unS n) []).map encT = R at *
  generalize (leastL L).map encT = M1 at *
  generalize PyData.tuple [.int n, .tuple (L.map encT)] = W at *
  generalize PyData.tuple (L.map encT) = LL at *
  generalize PyData.list (L.map encT) = LS at *
  simp -implicitDefEqProofs [fnOf_e, okio_e, okGo, sCons_e, sNil_e, sIf_e, sRet_e, sAsg_e, sExp_e, tst_e, bin_e, una_e, fnc_e, lift_s, dVar_e, dCon_e, dOwn_e, dRd_e, dFrz_e, aCons_e, aNil_e, dTup_e, dLst_e, dTupOf_e, dAnd_e, dOr_e, dNot_e, dIte_e, asB, outs, gNm_e, gTp_t, gsCons_c, gsNil_n, dCall_e, callV, aVal_e, aIo_e, agNil_e, isIo, slOf, back, agOk, agIo, sNew_e, dLc_e, nLc_e, dIt_e, items_l, items_t, dSl_e, dPart_n, dPart_s, sPar_e, rhv_e, rhn_e, wipeE, restE, keepF, ownL, sLp_e, sEnd_e, sCall_e, callO_e, dCallK_e, sFor_e, sApp_e, sExt_e, dEnum_e, dFix_e, nLc2_e, sRetN_e, sPar3_e, sRetO_e, sPut_e, nOp_e, pick, -gTp_t, -gsCons_c, g1, e1, eI, eF, isI_i, eD, eS, eR, hb]

/-! ## what the kernel runs -/
mutual
def eqD : PyData → PyData → Bool
  | .none, .none => true
  | .bool a, .bool b => a == b
  | .int a, .int b => decide (a = b)
  | .str a, .str b => decide (a = b)
  | .list xs, .list ys => eqDs xs ys
  | .tuple xs, .tuple ys => eqDs xs ys
  | _, _ => false
def eqDs : List PyData → List PyData → Bool
  | [], [] => true
  | x :: xs, y :: ys => eqD x y && eqDs xs ys
  | _, _ => false
end
mutual
theorem eqD_ok : ∀ (a b : PyData), eqD a b = true → a = b
  | .none, b, h => by cases b <;> first | rfl | (unfold eqD at h; cases h)
  | .bool x, b, h => by
    cases b with
    | bool y => unfold eqD at h; rw [beq_iff_eq.mp h]
    | _ => unfold eqD at h; cases h
  | .int x, b, h => by
    cases b with
    | int y => unfold eqD at h; rw [of_decide_eq_true h]
    | _ => unfold eqD at h; cases h
  | .str x, b, h => by
    cases b with
    | str y => unfold eqD at h; rw [of_decide_eq_true h]
    | _ => unfold eqD at h; cases h
  | .list xs, b, h => by
    cases b with
    | list ys => unfold eqD at h; rw [eqDs_ok xs ys h]
    | _ => unfold eqD at h; cases h
  | .tuple xs, b, h => by
    cases b with
    | tuple ys => unfold eqD at h; rw [eqDs_ok xs ys h]
    | _ => unfold eqD at h; cases h
  | .dict _, b, h => by cases b <;> (unfold eqD at h; cases h)
theorem eqDs_ok : ∀ (a b : List PyData), eqDs a b = true → a = b
  | [], [], _ => rfl
  | [], _ :: _, h => by unfold eqDs at h; cases h
  | _ :: _, [], h => by unfold eqDs at h; cases h
  | x :: xs, y :: ys, h => by
    unfold eqDs at h
    obtain ⟨h1, h2⟩ := Bool.and_eq_true_iff.mp h
    rw [eqD_ok x y h1, eqDs_ok xs ys h2]
end
def eqS : Sl → Sl → Bool
  | .fz a, .fz b => eqD a b
  | _, _ => false
theorem eqS_ok {a b : Sl} (h : eqS a b = true) : a = b := by
  cases a with
  | fz x => cases b with
    | fz y => rw [eqD_ok x y h]
    | _ => cases h
  | _ => cases h
def eqSs : List Sl → List Sl → Bool
  | [], [] => true
  | x :: xs, y :: ys => eqS x y && eqSs xs ys
  | _, _ => false
theorem eqSs_ok : ∀ {a b : List Sl}, eqSs a b = true → a = b
  | [], [], _ => rfl
  | [], _ :: _, h => by cases h
  | _ :: _, [], h => by cases h
  | x :: xs, y :: ys, h => by
    obtain ⟨h1, h2⟩ := Bool.and_eq_true_iff.mp (show (eqS x y && eqSs xs ys) = true from h)
    rw [eqS_ok h1, eqSs_ok h2]
def smallD (d : PyData) : Bool := d.showable && (decide (PyData.depth d ≤ 60) && decide (sz d ≤ 16777216))
theorem smallD_ok {d : PyData} (h : smallD d = true) : showOk d = true := by
  obtain ⟨h1, h⟩ := Bool.and_eq_true_iff.mp h
  obtain ⟨h2, h3⟩ := Bool.and_eq_true_iff.mp h
  exact showOk_of h1 (of_decide_eq_true h2) (of_decide_eq_true h3)
/-- two calls tell the same small datum and leave what they were handed -/
def twin (f g : Fn) (as bs : List Sl) : Bool := match f as, g bs with
  | .ret d as', .ret e bs' => eqD d e && (smallD d && (eqSs as as' && eqSs bs bs'))
  | _, _ => false
theorem twin_ok {f g : Fn} {as bs : List Sl} (h : twin f g as bs = true) : ∃ d, f as = .ret d as ∧ g bs = .ret d bs ∧ showOk d = true := by
  unfold twin at h
  split at h
  · rename_i d as' e bs' h1 h2
    obtain ⟨q1, h⟩ := Bool.and_eq_true_iff.mp h
    obtain ⟨q2, h⟩ := Bool.and_eq_true_iff.mp h
    obtain ⟨q3, q4⟩ := Bool.and_eq_true_iff.mp h
    have e1 := eqD_ok _ _ q1
    have e2 := eqSs_ok q3
    have e3 := eqSs_ok q4
    subst e1 e2 e3
    exact ⟨d, h1, h2, smallD_ok q2⟩
  · cases h

/-! ## raise and try, run -/
theorem sRaise_e (cn : Str) (ρ : Ens) : sRaise cn ρ = .exc ⟨cn, none⟩ ρ := rfl
theorem sTry_e (T : Tb) (cn : Str) (i : Nat) (b : DenS) (su : Str → DenS) (ρ : Ens) : sTry T cn i b su ρ = match b ρ with
  | .exc x ρ1 => if (knownX T x.cls && x.arg.isNone && decide (i < ρ1.length)) = true then (if subX T x.cls cn = true then (su x.cls (ρ1.set i .un)).suit i else .exc x ρ1) else .bad
  | o => o := rfl
theorem sTry0_e (T : Tb) (cn : Str) (b : DenS) (su : Str → DenS) (ρ : Ens) : sTry0 T cn b su ρ = match b ρ with
  | .exc x ρ1 => if (knownX T x.cls && x.arg.isNone) = true then (if subX T x.cls cn = true then (match su x.cls ρ1 with
    | .exc _ _ => .bad
    | o => o) else .exc x ρ1) else .bad
  | o => o := rfl
@[simp] theorem rt_suit (d : PyData) (e : Ens) (i : Nat) : (Out.rt d e).suit i = .rt d (e.set i .un) := rfl
@[simp] theorem nx_suit (e : Ens) (i : Nat) : (Out.nx e).suit i = .nx (e.set i .un) := rfl

theorem gAll_map (l : List PyData) (f : PyData → Bool) : gAll [.list (l.map fun d => .bool (f d))] = some (.bool (l.all f)) := gAll_map2 l f

/-! ## what is the same as itself -/
def plainD : Nat → PyData → Prop
  | 0, _ => False
  | n + 1, .tuple xs => xs.length ≤ 10000000 ∧ ∀ x ∈ xs, plainD n x
  | _ + 1, .none => True
  | _ + 1, .bool _ => True
  | _ + 1, .int _ => True
  | _ + 1, .str x => showOk (.str x) = true
  | _ + 1, _ => False
theorem zipped_self : ∀ xs : List PyData, zipped xs xs = xs.map fun x => .tuple [x, x]
  | [] => rfl
  | x :: xs => by rw [zipped, zipped_self xs]; rfl
theorem same_refl : ∀ (n : Nat) (d : PyData), plainD n d → fn__law_same n [.fz d, .fz d] = .ret (.bool true) [.fz d, .fz d]
  | 0, _, h => h.elim
  | n + 1, d, h => by
    show fnOf 5 [0, 1] (b__law_same (fn__law_same n)) _ = _
    simp only [b__law_same]
    cases d with
    | none => rfl
    | bool b => cases b <;> rfl
    | int k =>
      have q1 : gIsB (.int k) .none = some (.bool false) := rfl
      simp -implicitDefEqProofs [fnOf_e, okio_e, okGo, sCons_e, sNil_e, sIf_e, sRet_e, sAsg_e, sExp_e, tst_e, bin_e, una_e, fnc_e, lift_s, dVar_e, dCon_e, dOwn_e, dRd_e, dFrz_e, aCons_e, aNil_e, dTup_e, dLst_e, dTupOf_e, dAnd_e, dOr_e, dNot_e, dIte_e, asB, outs, gNm_e, gTp_t, gsCons_c, gsNil_n, dCall_e, callV, aVal_e, aIo_e, agNil_e, isIo, slOf, back, agOk, agIo, sNew_e, dLc_e, nLc_e, dIt_e, items_l, items_t, dSl_e, dPart_n, dPart_s, sPar_e, rhv_e, rhn_e, wipeE, restE, keepF, ownL, isTy, q1, gEqB_i]
    | str x =>
      have h : showOk (.str x) = true := h
      have q1 : gIsB (.str x) .none = some (.bool false) := rfl
      have q2 : gShow [.str x] = some (.str (PyData.shown (.str x))) := by simp [gShow, h]
      have q3 : ∀ y : Str, gEqB (.str y) (.str y) = some (.bool true) := fun y => by simp [gEqB, gEq]
      simp -implicitDefEqProofs [fnOf_e, okio_e, okGo, sCons_e, sNil_e, sIf_e, sRet_e, sAsg_e, sExp_e, tst_e, bin_e, una_e, fnc_e, lift_s, dVar_e, dCon_e, dOwn_e, dRd_e, dFrz_e, aCons_e, aNil_e, dTup_e, dLst_e, dTupOf_e, dAnd_e, dOr_e, dNot_e, dIte_e, asB, outs, gNm_e, gTp_t, gsCons_c, gsNil_n, dCall_e, callV, aVal_e, aIo_e, agNil_e, isIo, slOf, back, agOk, agIo, sNew_e, dLc_e, nLc_e, dIt_e, items_l, items_t, dSl_e, dPart_n, dPart_s, sPar_e, rhv_e, rhn_e, wipeE, restE, keepF, ownL, isTy, q1, q2, q3]
    | tuple xs =>
      obtain ⟨hl, hx⟩ := h
      have ez : dZip (dVar 0) (dVar 1) [.fz (.tuple xs), .fz (.tuple xs), .un, .un, .un] = .ok (zipped xs xs) [.fz (.tuple xs), .fz (.tuple xs), .un, .un, .un] := zip_t (ρ1 := [.fz (.tuple xs), .fz (.tuple xs), .un, .un, .un]) (by simp -implicitDefEqProofs [fnOf_e, okio_e, okGo, sCons_e, sNil_e, sIf_e, sRet_e, sAsg_e, sExp_e, tst_e, bin_e, una_e, fnc_e, lift_s, dVar_e, dCon_e, dOwn_e, dRd_e, dFrz_e, aCons_e, aNil_e, dTup_e, dLst_e, dTupOf_e, dAnd_e, dOr_e, dNot_e, dIte_e, asB, outs, gNm_e, gTp_t, gsCons_c, gsNil_n, dCall_e, callV, aVal_e, aIo_e, agNil_e, isIo, slOf, back, agOk, agIo, sNew_e, dLc_e, nLc_e, dIt_e, items_l, items_t, dSl_e, dPart_n, dPart_s, sPar_e, rhv_e, rhn_e, wipeE, restE, keepF, ownL]) (by simp -implicitDefEqProofs [fnOf_e, okio_e, okGo, sCons_e, sNil_e, sIf_e, sRet_e, sAsg_e, sExp_e, tst_e, bin_e, una_e, fnc_e, lift_s, dVar_e, dCon_e, dOwn_e, dRd_e, dFrz_e, aCons_e, aNil_e, dTup_e, dLst_e, dTupOf_e, dAnd_e, dOr_e, dNot_e, dIte_e, asB, outs, gNm_e, gTp_t, gsCons_c, gsNil_n, dCall_e, callV, aVal_e, aIo_e, agNil_e, isIo, slOf, back, agOk, agIo, sNew_e, dLc_e, nLc_e, dIt_e, items_l, items_t, dSl_e, dPart_n, dPart_s, sPar_e, rhv_e, rhn_e, wipeE, restE, keepF, ownL]) (sl_small (by rw [zipped_self, List.length_map]; omega))
      have el : lcL (gTp 2 (gsCons (gNm 3) (gsCons (gNm 4) gsNil))) tYesD (dCall 2 false (fn__law_same n) (aVal (dVar 3) (aVal (dVar 4) agNil))) [2, 3, 4] (zipped xs xs) [.fz (.tuple xs), .fz (.tuple xs), .un, .un, .un] = .ok (xs.map fun _ => .bool true) [.fz (.tuple xs), .fz (.tuple xs), .un, .un, .un] := by
        rw [zipped_self, lc_s (fun p => ∃ x, p = .tuple [x, x] ∧ plainD n x) (fun _ => .bool true) (fun _ => true) ?_ _ (fun p hp => by obtain ⟨x, h1, rfl⟩ := List.mem_map.mp hp; exact ⟨x, rfl, hx x h1⟩), filt_true, List.map_map]
        · rfl
        rintro d ⟨x, rfl, hp⟩
        exact ⟨_, rfl, rfl, rfl, fun _ => by simp -implicitDefEqProofs [fnOf_e, okio_e, okGo, sCons_e, sNil_e, sIf_e, sRet_e, sAsg_e, sExp_e, tst_e, bin_e, una_e, fnc_e, lift_s, dVar_e, dCon_e, dOwn_e, dRd_e, dFrz_e, aCons_e, aNil_e, dTup_e, dLst_e, dTupOf_e, dAnd_e, dOr_e, dNot_e, dIte_e, asB, outs, gNm_e, gTp_t, gsCons_c, gsNil_n, dCall_e, callV, aVal_e, aIo_e, agNil_e, isIo, slOf, back, agOk, agIo, sNew_e, dLc_e, nLc_e, dIt_e, items_l, items_t, dSl_e, dPart_n, dPart_s, sPar_e, rhv_e, rhn_e, wipeE, restE, keepF, ownL, same_refl n x hp]⟩
      have ea : gAll [.list (xs.map fun _ => .bool true)] = some (.bool true) := by
        rw [gAll_map xs fun _ => true]
        simp
      simp -implicitDefEqProofs [fnOf_e, okio_e, okGo, sCons_e, sNil_e, sIf_e, sRet_e, sAsg_e, sExp_e, tst_e, bin_e, una_e, fnc_e, lift_s, dVar_e, dCon_e, dOwn_e, dRd_e, dFrz_e, aCons_e, aNil_e, dTup_e, dLst_e, dTupOf_e, dAnd_e, dOr_e, dNot_e, dIte_e, asB, outs, gNm_e, gTp_t, gsCons_c, gsNil_n, dCall_e, callV, aVal_e, aIo_e, agNil_e, isIo, slOf, back, agOk, agIo, sNew_e, dLc_e, nLc_e, dIt_e, items_l, items_t, dSl_e, dPart_n, dPart_s, sPar_e, rhv_e, rhn_e, wipeE, restE, keepF, ownL, isTy, gLen_t, gNeB_i, ez]
      simp -implicitDefEqProofs [fnOf_e, okio_e, okGo, sCons_e, sNil_e, sIf_e, sRet_e, sAsg_e, sExp_e, tst_e, bin_e, una_e, fnc_e, lift_s, dVar_e, dCon_e, dOwn_e, dRd_e, dFrz_e, aCons_e, aNil_e, dTup_e, dLst_e, dTupOf_e, dAnd_e, dOr_e, dNot_e, dIte_e, asB, outs, gNm_e, gTp_t, gsCons_c, gsNil_n, dCall_e, callV, aVal_e, aIo_e, agNil_e, isIo, slOf, back, agOk, agIo, sNew_e, dLc_e, nLc_e, dIt_e, items_l, items_t, dSl_e, dPart_n, dPart_s, sPar_e, rhv_e, rhn_e, wipeE, restE, keepF, ownL, el, ea]
    | list xs => exact h.elim
    | dict kvs => exact h.elim

/-! ## at_most, by both -/
theorem gLe_i (i j : Int) : gLe (.int i) (.int j) = some (.bool (decide (i ≤ j))) := rfl
def isIntD (d : PyData) : Bool := match d with
  | .int _ => true
  | _ => false
theorem isint_eq (d : PyData) : fn_is_integer [.fz d] = .ret (.bool (isIntD d)) [.fz d] := by
  simp only [fn_is_integer, b_is_integer]
  cases d <;> simp -implicitDefEqProofs [fnOf_e, okio_e, okGo, sCons_e, sNil_e, sIf_e, sRet_e, sAsg_e, sExp_e, tst_e, bin_e, una_e, fnc_e, lift_s, dVar_e, dCon_e, dOwn_e, dRd_e, dFrz_e, aCons_e, aNil_e, dTup_e, dLst_e, dTupOf_e, dAnd_e, dOr_e, dNot_e, dIte_e, asB, outs, gNm_e, gTp_t, gsCons_c, gsNil_n, dCall_e, callV, aVal_e, aIo_e, agNil_e, isIo, slOf, back, agOk, agIo, sNew_e, dLc_e, nLc_e, dIt_e, items_l, items_t, dSl_e, dPart_n, dPart_s, sPar_e, rhv_e, rhn_e, wipeE, restE, keepF, ownL, isTy, isIntD]
def lenD (d : PyData) : Int := match d with
  | .tuple xs => xs.length
  | _ => -1
def rowD (d : PyData) : Bool := match d with
  | .tuple xs => decide (xs.length ≤ 100) && xs.all isIntD
  | _ => false
theorem rowD_plain {k : Nat} {d : PyData} (h : rowD d = true) : plainD (k + 2) d := by
  cases d with
  | tuple xs =>
    obtain ⟨h1, h2⟩ := Bool.and_eq_true_iff.mp h
    have h1 := of_decide_eq_true h1
    refine ⟨by omega, fun x hx => ?_⟩
    have := List.all_eq_true.mp h2 x hx
    cases x with
    | int i => trivial
    | _ => cases this
  | _ => cases h
/-- the world that is due -/
def chM (n s : Int) : Bool := match fn_at_most [.fz (.int n), .fz (.int s)], fn__law_sets [.fz (.int n)] with
  | .ret (.tuple [.int a, .tuple xs]) as, .ret (.list ys) bs => decide (a = n) && (eqDs xs (ys.filter fun d => decide (n - s ≤ lenD d)) && (eqSs [.fz (.int n), .fz (.int s)] as && (eqSs [.fz (.int n)] bs && (ys.all rowD && decide (ys.length ≤ 100)))))
  | _, _ => false
theorem chM_ok {n s : Int} (h : chM n s = true) : ∃ ys, fn_at_most [.fz (.int n), .fz (.int s)] = .ret (.tuple [.int n, .tuple (ys.filter fun d => decide (n - s ≤ lenD d))]) [.fz (.int n), .fz (.int s)] ∧ fn__law_sets [.fz (.int n)] = .ret (.list ys) [.fz (.int n)] ∧ (∀ y ∈ ys, rowD y = true) ∧ ys.length ≤ 100 := by
  unfold chM at h
  split at h
  · rename_i a xs as ys bs h1 h2
    obtain ⟨q1, h⟩ := Bool.and_eq_true_iff.mp h
    obtain ⟨q2, h⟩ := Bool.and_eq_true_iff.mp h
    obtain ⟨q3, h⟩ := Bool.and_eq_true_iff.mp h
    obtain ⟨q4, q5⟩ := Bool.and_eq_true_iff.mp h
    obtain ⟨q5, q6⟩ := Bool.and_eq_true_iff.mp q5
    have e1 := of_decide_eq_true q1
    have e2 := eqDs_ok _ _ q2
    have e3 := eqSs_ok q3
    have e4 := eqSs_ok q4
    subst e1 e2 e3 e4
    exact ⟨ys, h1, h2, List.all_eq_true.mp q5, of_decide_eq_true q6⟩
  · cases h
theorem m20 : chM 2 0 = true := by decide +kernel
theorem m21 : chM 2 1 = true := by decide +kernel
theorem m30 : chM 3 0 = true := by decide +kernel
theorem m31 : chM 3 1 = true := by decide +kernel
theorem m32 : chM 3 2 = true := by decide +kernel
theorem m40 : chM 4 0 = true := by decide +kernel
theorem m41 : chM 4 1 = true := by decide +kernel
theorem m42 : chM 4 2 = true := by decide +kernel
theorem m43 : chM 4 3 = true := by decide +kernel
theorem chMs (n s : Nat) (n2 : 2 ≤ n) (n4 : n ≤ 4) (sn : s < n) : chM n s = true := by
  have h : (n = 2 ∧ s = 0) ∨ (n = 2 ∧ s = 1) ∨ (n = 3 ∧ s = 0) ∨ (n = 3 ∧ s = 1) ∨ (n = 3 ∧ s = 2) ∨ (n = 4 ∧ s = 0) ∨ (n = 4 ∧ s = 1) ∨ (n = 4 ∧ s = 2) ∨ (n = 4 ∧ s = 3) := by omega
  rcases h with ⟨rfl, rfl⟩ | ⟨rfl, rfl⟩ | ⟨rfl, rfl⟩ | ⟨rfl, rfl⟩ | ⟨rfl, rfl⟩ | ⟨rfl, rfl⟩ | ⟨rfl, rfl⟩ | ⟨rfl, rfl⟩ | ⟨rfl, rfl⟩
  · exact m20
  · exact m21
  · exact m30
  · exact m31
  · exact m32
  · exact m40
  · exact m41
  · exact m42
  · exact m43
theorem k_un : knownX TBL "Unfit" = true := by decide +kernel
theorem s_uu : subX TBL "Unfit" "Unfit" = true := by decide +kernel
theorem s_us : subX TBL "Unfit" "SignError" = true := by decide +kernel
/-- what at_most tells, beside what is due -/
theorem most_two (v w : PyData) : (∃ n s : Nat, v = .int n ∧ w = .int s ∧ 2 ≤ n ∧ n ≤ 4 ∧ s < n) ∨ (inR v 2 4 = true ∧ (∃ n : Int, v = .int n ∧ inR w 0 (n - 1) = false) ∧ fn_at_most [.fz v, .fz w] = .exc ⟨"Unfit", none⟩ [.fz v, .fz w]) ∨ (inR v 2 4 = false ∧ fn_at_most [.fz v, .fz w] = .exc ⟨"Unfit", none⟩ [.fz v, .fz w]) := by
  have b1 := isint_eq v
  have b2 := isint_eq w
  cases h1 : inR v 2 4 with
  | false =>
    refine .inr (.inr ⟨rfl, ?_⟩)
    simp only [fn_at_most, b_at_most]
    cases v with
    | int i =>
      have h1 : (decide ((2 : Int) ≤ i) && decide (i ≤ 4)) = false := h1
      by_cases c : (2 : Int) ≤ i
      · have c2 : ¬ i ≤ 4 := by simpa [c] using h1
        simp -implicitDefEqProofs [fnOf_e, okio_e, okGo, sCons_e, sNil_e, sIf_e, sRet_e, sAsg_e, sExp_e, tst_e, bin_e, una_e, fnc_e, lift_s, dVar_e, dCon_e, dOwn_e, dRd_e, dFrz_e, aCons_e, aNil_e, dTup_e, dLst_e, dTupOf_e, dAnd_e, dOr_e, dNot_e, dIte_e, asB, outs, gNm_e, gTp_t, gsCons_c, gsNil_n, dCall_e, callV, aVal_e, aIo_e, agNil_e, isIo, slOf, back, agOk, agIo, sNew_e, dLc_e, nLc_e, dIt_e, items_l, items_t, dSl_e, dPart_n, dPart_s, sPar_e, rhv_e, rhn_e, wipeE, restE, keepF, ownL, sLp_e, sEnd_e, sCall_e, callO_e, dCallK_e, sFor_e, sApp_e, sExt_e, dEnum_e, dFix_e, nLc2_e, sRetN_e, sPar3_e, sRetO_e, sPut_e, nOp_e, pick, b1, isIntD, dChain_e, gLe_i, c, c2, sRaise_e]
      · simp -implicitDefEqProofs [fnOf_e, okio_e, okGo, sCons_e, sNil_e, sIf_e, sRet_e, sAsg_e, sExp_e, tst_e, bin_e, una_e, fnc_e, lift_s, dVar_e, dCon_e, dOwn_e, dRd_e, dFrz_e, aCons_e, aNil_e, dTup_e, dLst_e, dTupOf_e, dAnd_e, dOr_e, dNot_e, dIte_e, asB, outs, gNm_e, gTp_t, gsCons_c, gsNil_n, dCall_e, callV, aVal_e, aIo_e, agNil_e, isIo, slOf, back, agOk, agIo, sNew_e, dLc_e, nLc_e, dIt_e, items_l, items_t, dSl_e, dPart_n, dPart_s, sPar_e, rhv_e, rhn_e, wipeE, restE, keepF, ownL, sLp_e, sEnd_e, sCall_e, callO_e, dCallK_e, sFor_e, sApp_e, sExt_e, dEnum_e, dFix_e, nLc2_e, sRetN_e, sPar3_e, sRetO_e, sPut_e, nOp_e, pick, b1, isIntD, dChain_e, gLe_i, c, sRaise_e]
    | _ => simp -implicitDefEqProofs [fnOf_e, okio_e, okGo, sCons_e, sNil_e, sIf_e, sRet_e, sAsg_e, sExp_e, tst_e, bin_e, una_e, fnc_e, lift_s, dVar_e, dCon_e, dOwn_e, dRd_e, dFrz_e, aCons_e, aNil_e, dTup_e, dLst_e, dTupOf_e, dAnd_e, dOr_e, dNot_e, dIte_e, asB, outs, gNm_e, gTp_t, gsCons_c, gsNil_n, dCall_e, callV, aVal_e, aIo_e, agNil_e, isIo, slOf, back, agOk, agIo, sNew_e, dLc_e, nLc_e, dIt_e, items_l, items_t, dSl_e, dPart_n, dPart_s, sPar_e, rhv_e, rhn_e, wipeE, restE, keepF, ownL, sLp_e, sEnd_e, sCall_e, callO_e, dCallK_e, sFor_e, sApp_e, sExt_e, dEnum_e, dFix_e, nLc2_e, sRetN_e, sPar3_e, sRetO_e, sPut_e, nOp_e, pick, b1, isIntD, sRaise_e]
  | true =>
    obtain ⟨i, rfl, i2, i4⟩ := inR_int h1
    cases h2 : inR w 0 (i - 1) with
    | false =>
      refine .inr (.inl ⟨rfl, ⟨i, rfl, h2⟩, ?_⟩)
      simp only [fn_at_most, b_at_most]
      cases w with
      | int j =>
        have h2 : (decide ((0 : Int) ≤ j) && decide (j ≤ i - 1)) = false := h2
        by_cases c : (0 : Int) ≤ j
        · have c2 : ¬ j < i := by
            intro z
            have : j ≤ i - 1 := by omega
            simp [c, this] at h2
          simp -implicitDefEqProofs [fnOf_e, okio_e, okGo, sCons_e, sNil_e, sIf_e, sRet_e, sAsg_e, sExp_e, tst_e, bin_e, una_e, fnc_e, lift_s, dVar_e, dCon_e, dOwn_e, dRd_e, dFrz_e, aCons_e, aNil_e, dTup_e, dLst_e, dTupOf_e, dAnd_e, dOr_e, dNot_e, dIte_e, asB, outs, gNm_e, gTp_t, gsCons_c, gsNil_n, dCall_e, callV, aVal_e, aIo_e, agNil_e, isIo, slOf, back, agOk, agIo, sNew_e, dLc_e, nLc_e, dIt_e, items_l, items_t, dSl_e, dPart_n, dPart_s, sPar_e, rhv_e, rhn_e, wipeE, restE, keepF, ownL, sLp_e, sEnd_e, sCall_e, callO_e, dCallK_e, sFor_e, sApp_e, sExt_e, dEnum_e, dFix_e, nLc2_e, sRetN_e, sPar3_e, sRetO_e, sPut_e, nOp_e, pick, b1, b2, isIntD, dChain_e, gLe_i, gLt_i, i2, i4, c, c2, sRaise_e]
        · simp -implicitDefEqProofs [fnOf_e, okio_e, okGo, sCons_e, sNil_e, sIf_e, sRet_e, sAsg_e, sExp_e, tst_e, bin_e, una_e, fnc_e, lift_s, dVar_e, dCon_e, dOwn_e, dRd_e, dFrz_e, aCons_e, aNil_e, dTup_e, dLst_e, dTupOf_e, dAnd_e, dOr_e, dNot_e, dIte_e, asB, outs, gNm_e, gTp_t, gsCons_c, gsNil_n, dCall_e, callV, aVal_e, aIo_e, agNil_e, isIo, slOf, back, agOk, agIo, sNew_e, dLc_e, nLc_e, dIt_e, items_l, items_t, dSl_e, dPart_n, dPart_s, sPar_e, rhv_e, rhn_e, wipeE, restE, keepF, ownL, sLp_e, sEnd_e, sCall_e, callO_e, dCallK_e, sFor_e, sApp_e, sExt_e, dEnum_e, dFix_e, nLc2_e, sRetN_e, sPar3_e, sRetO_e, sPut_e, nOp_e, pick, b1, b2, isIntD, dChain_e, gLe_i, gLt_i, i2, i4, c, sRaise_e]
      | _ => simp -implicitDefEqProofs [fnOf_e, okio_e, okGo, sCons_e, sNil_e, sIf_e, sRet_e, sAsg_e, sExp_e, tst_e, bin_e, una_e, fnc_e, lift_s, dVar_e, dCon_e, dOwn_e, dRd_e, dFrz_e, aCons_e, aNil_e, dTup_e, dLst_e, dTupOf_e, dAnd_e, dOr_e, dNot_e, dIte_e, asB, outs, gNm_e, gTp_t, gsCons_c, gsNil_n, dCall_e, callV, aVal_e, aIo_e, agNil_e, isIo, slOf, back, agOk, agIo, sNew_e, dLc_e, nLc_e, dIt_e, items_l, items_t, dSl_e, dPart_n, dPart_s, sPar_e, rhv_e, rhn_e, wipeE, restE, keepF, ownL, sLp_e, sEnd_e, sCall_e, callO_e, dCallK_e, sFor_e, sApp_e, sExt_e, dEnum_e, dFix_e, nLc2_e, sRetN_e, sPar3_e, sRetO_e, sPut_e, nOp_e, pick, b1, b2, isIntD, dChain_e, gLe_i, i2, i4, sRaise_e]
    | true =>
      obtain ⟨j, rfl, j0, j1⟩ := inR_int h2
      exact .inl ⟨i.toNat, j.toNat, by rw [Int.toNat_of_nonneg (by omega)], by rw [Int.toNat_of_nonneg (by omega)], by omega, by omega, by omega⟩

theorem ints_good {ns : List Int} (h : ∀ x ∈ ns, x.natAbs < 1000000) : GoodL 0 (ns.length * 1923) (ns.map .int) := by
  have g2 : GoodL 0 ((ns.map PyData.int).length * (1921 + 2)) (ns.map PyData.int) := goodL_all fun x hx => by
    obtain ⟨i, hi, rfl⟩ := List.mem_map.mp hx
    have := h i hi
    exact good_small (by omega) (Nat.le_refl _)
  rw [List.length_map] at g2
  exact g2

theorem lots_good {ls : List (List Int)} {k : Nat} (h : ∀ l ∈ ls, l.length ≤ 8 ∧ ∀ x ∈ l, 0 ≤ x ∧ x < 1000) (hk : ls.length ≤ k) : Good 2 (k * 15402 + 3) (.tuple (ls.map encT)) := by
  have g : GoodL 1 ((ls.map encT).length * (15400 + 2)) (ls.map encT) := goodL_all fun d hd => by
    obtain ⟨l, hl, rfl⟩ := List.mem_map.mp hd
    obtain ⟨h1, h2⟩ := h l hl
    have g := ints_good (ns := l) fun x hx => by have := h2 x hx; omega
    have := Nat.mul_le_mul_right 1923 h1
    exact (good_tuple g).mono (Nat.le_refl _) (by omega)
  rw [List.length_map] at g
  have := Nat.mul_le_mul_right 15402 hk
  exact (good_tuple g).mono (Nat.le_refl _) (by omega)

/-! ## the law -/
theorem gShow_ok {d : PyData} (h : showOk d = true) : gShow [d] = some (.str d.shown) := by simp [gShow, h]
theorem gNe_str (x : Str) : gNeB (.str x) (.str x) = some (.bool false) := by simp [gNeB, gEq]
theorem depth_rows : ∀ L : List (List Int), PyData.depthAll (L.map encT) ≤ 1
  | [] => by simp [PyData.depthAll]
  | l :: L => by
    rw [List.map_cons, PyData.depthAll]
    refine Nat.max_le.mpr ⟨?_, depth_rows L⟩
    unfold encT
    rw [PyData.depth, PySem.W.depth_ints]
    decide
theorem shaped_rows (L : List (List Int)) : PySem.SeqAt.shaped (.list (L.map encT)) = true := by
  unfold PySem.SeqAt.shaped
  have := depth_rows L
  rw [PyData.canLay0, canAll (shaped_encTs L), PyData.depth]
  simp
  omega
theorem eq_rows (L M : List (List Int)) : ∃ b, gEqB (.list (L.map encT)) (.list (M.map encT)) = some (.bool b) := by
  have h1 := shaped_rows L
  have h2 := shaped_rows M
  cases L with
  | nil => exact ⟨_, rfl⟩
  | cons l L => cases M with
    | nil => exact ⟨_, rfl⟩
    | cons m M =>
      rw [List.map_cons, List.map_cons] at *
      exact ⟨PyData.eqv (.list (encT l :: L.map encT)) (.list (encT m :: M.map encT)), by simp [gEqB, gEq, h1, h2]⟩
theorem told_exc {v w : PyData} (h : fn_at_most [.fz v, .fz w] = .exc ⟨"Unfit", none⟩ [.fz v, .fz w]) (x : Bool) : fn__law_told_most [.fz v, .fz w, .fz (.bool x)] = .ret (.tuple [.str "unfit", .bool true]) [.fz v, .fz w, .fz (.bool x)] := by
  simp only [fn__law_told_most, b__law_told_most]
  cases x <;> simp -implicitDefEqProofs [fnOf_e, okio_e, okGo, sCons_e, sNil_e, sIf_e, sRet_e, sAsg_e, sExp_e, tst_e, bin_e, una_e, fnc_e, lift_s, dVar_e, dCon_e, dOwn_e, dRd_e, dFrz_e, aCons_e, aNil_e, dTup_e, dLst_e, dTupOf_e, dAnd_e, dOr_e, dNot_e, dIte_e, asB, outs, gNm_e, gTp_t, gsCons_c, gsNil_n, dCall_e, callV, aVal_e, aIo_e, agNil_e, isIo, slOf, back, agOk, agIo, sNew_e, dLc_e, nLc_e, dIt_e, items_l, items_t, dSl_e, dPart_n, dPart_s, sPar_e, rhv_e, rhn_e, wipeE, restE, keepF, ownL, sLp_e, sEnd_e, sCall_e, callO_e, dCallK_e, sFor_e, sApp_e, sExt_e, dEnum_e, dFix_e, nLc2_e, sRetN_e, sPar3_e, sRetO_e, sPut_e, nOp_e, pick, h, sTry_e, k_un, s_uu, s_us]
theorem told_ret {v w D : PyData} (h : fn_at_most [.fz v, .fz w] = .ret D [.fz v, .fz w]) (x : Bool) : fn__law_told_most [.fz v, .fz w, .fz (.bool x)] = .ret (.tuple [.str "told", D]) [.fz v, .fz w, .fz (.bool x)] := by
  simp only [fn__law_told_most, b__law_told_most]
  cases x <;> simp -implicitDefEqProofs [fnOf_e, okio_e, okGo, sCons_e, sNil_e, sIf_e, sRet_e, sAsg_e, sExp_e, tst_e, bin_e, una_e, fnc_e, lift_s, dVar_e, dCon_e, dOwn_e, dRd_e, dFrz_e, aCons_e, aNil_e, dTup_e, dLst_e, dTupOf_e, dAnd_e, dOr_e, dNot_e, dIte_e, asB, outs, gNm_e, gTp_t, gsCons_c, gsNil_n, dCall_e, callV, aVal_e, aIo_e, agNil_e, isIo, slOf, back, agOk, agIo, sNew_e, dLc_e, nLc_e, dIt_e, items_l, items_t, dSl_e, dPart_n, dPart_s, sPar_e, rhv_e, rhn_e, wipeE, restE, keepF, ownL, sLp_e, sEnd_e, sCall_e, callO_e, dCallK_e, sFor_e, sApp_e, sExt_e, dEnum_e, dFix_e, nLc2_e, sRetN_e, sPar3_e, sRetO_e, sPut_e, nOp_e, pick, h, sTry_e]
abbrev rest2 : DenS := (sCons (sAsg (dTup (aCons (dCon (.str "unfit")) (aCons (dCon (.bool true)) aNil))) (gNm 5))
  (sCons (sIf (tst (dAnd (dCall 3 false fn__law_whole (aVal (dVar 3) (aVal (dCon (.int 2)) (aVal (dCon (.int 4)) agNil)))) (dCall 3 false fn__law_whole (aVal (dVar 4) (aVal (dCon (.int 0)) (aVal (bin gSub (dVar 3) (dCon (.int 1))) agNil))))))
 (sCons (sAsg (dTup (aCons (dCon (.str "told")) (aCons (dTup (aCons (dVar 3) (aCons (fnc gTuple (aCons (dLc (dIt (dCall 1 false fn__law_sets (aVal (dVar 3) agNil))) (gNm 11) (tst (bin gGe (fnc gLen (aCons (dVar 11) aNil)) (bin gSub (dVar 3) (dVar 4)))) (dVar 11) [10, 11]) aNil)) aNil))) aNil))) (gNm 5))
  sNil)
 sNil)
  (sCons (sIf (tst (dNot (dCall 2 false (fn__law_same 40) (aVal (dCall 3 false fn__law_told_most (aVal (dVar 3) (aVal (dVar 4) (aVal (bin gEqB (dVar 2) (dCon (.int 3))) agNil)))) (aVal (dVar 5) agNil)))))
 (sCons (sRet (dCon (.bool false)))
  sNil)
 sNil)
  sNil)))
theorem unfit_plain : plainD 40 (.tuple [.str "unfit", .bool true]) := ⟨show 2 ≤ 10000000 by decide, fun z hz => by
  simp only [List.mem_cons, List.not_mem_nil, or_false] at hz
  rcases hz with rfl | rfl
  · exact (by decide +kernel : showOk (.str "unfit") = true)
  · trivial⟩
theorem told_plain {n : Int} {xs : List PyData} (h : ∀ x ∈ xs, rowD x = true) (hl : xs.length ≤ 100) : plainD 40 (.tuple [.str "told", .tuple [.int n, .tuple xs]]) := ⟨show 2 ≤ 10000000 by decide, fun z hz => by
  simp only [List.mem_cons, List.not_mem_nil, or_false] at hz
  rcases hz with rfl | rfl
  · exact (by decide +kernel : showOk (.str "told") = true)
  · refine ⟨show 2 ≤ 10000000 by decide, fun z hz => ?_⟩
    simp only [List.mem_cons, List.not_mem_nil, or_false] at hz
    rcases hz with rfl | rfl
    · trivial
    · exact ⟨by omega, fun x hx => rowD_plain (k := 35) (h x hx)⟩⟩
theorem rest_ok (sc : List PyData) (o : Own) (turn : Int) (v w : PyData) : ∃ due, rest2 [.sc sc, .ow o, .fz (.int turn), .fz v, .fz w, .un, .un, .un, .un, .un, .un, .un] = .nx [.sc sc, .ow o, .fz (.int turn), .fz v, .fz w, due, .un, .un, .un, .un, .un, .un] := by
  have w1 := whole_eq v 2 4
  have eq3 : gEqB (.int turn) (.int 3) = some (.bool (turn == 3)) := gEqB_i turn 3
  generalize (turn == 3) = t3 at eq3
  rcases most_two v w with ⟨n, s, rfl, rfl, n2, n4, sn⟩ | ⟨h1, ⟨n, rfl, h2⟩, h3⟩ | ⟨h1, h3⟩
  · obtain ⟨ys, e1, e2, hy, hyl⟩ := chM_ok (chMs n s n2 n4 sn)
    have h1 : inR (.int n) 2 4 = true := by simp [inR]; omega
    have h2 : inR (.int s) 0 ((n : Int) - 1) = true := by simp [inR]; omega
    have w2 := whole_eq (.int s) 0 ((n : Int) - 1)
    rw [h1] at w1
    rw [h2] at w2
    have e3 := told_ret e1 t3
    have e4 := same_refl 40 _ (told_plain (n := n) (xs := ys.filter fun d => decide ((n : Int) - s ≤ lenD d)) (fun x hx => hy x (List.mem_filter.mp hx).1) (Nat.le_trans (List.length_filter_le _ _) hyl))
    have e5 : ∀ X, lcL (gNm 11) (tst (bin gGe (fnc gLen (aCons (dVar 11) aNil)) (bin gSub (dVar 3) (dVar 4)))) (dVar 11) [10, 11] ys [.sc sc, .ow o, .fz (.int turn), .fz (.int n), .fz (.int s), X, .un, .un, .un, .un, .un, .un] = .ok (ys.filter fun d => decide ((n : Int) - s ≤ lenD d)) [.sc sc, .ow o, .fz (.int turn), .fz (.int n), .fz (.int s), X, .un, .un, .un, .un, .un, .un] := fun X => by
      rw [lc_s (fun d => rowD d = true) id (fun d => decide ((n : Int) - s ≤ lenD d)) ?_ _ hy, List.map_id_fun, id]
      intro d hd
      cases d with
      | tuple xs => exact ⟨_, rfl, rfl, by simp -implicitDefEqProofs [fnOf_e, okio_e, okGo, sCons_e, sNil_e, sIf_e, sRet_e, sAsg_e, sExp_e, tst_e, bin_e, una_e, fnc_e, lift_s, dVar_e, dCon_e, dOwn_e, dRd_e, dFrz_e, aCons_e, aNil_e, dTup_e, dLst_e, dTupOf_e, dAnd_e, dOr_e, dNot_e, dIte_e, asB, outs, gNm_e, gTp_t, gsCons_c, gsNil_n, dCall_e, callV, aVal_e, aIo_e, agNil_e, isIo, slOf, back, agOk, agIo, sNew_e, dLc_e, nLc_e, dIt_e, items_l, items_t, dSl_e, dPart_n, dPart_s, sPar_e, rhv_e, rhn_e, wipeE, restE, keepF, ownL, gLen_t, gSub_i, gGe_i, lenD]; rfl, fun _ => by simp -implicitDefEqProofs [fnOf_e, okio_e, okGo, sCons_e, sNil_e, sIf_e, sRet_e, sAsg_e, sExp_e, tst_e, bin_e, una_e, fnc_e, lift_s, dVar_e, dCon_e, dOwn_e, dRd_e, dFrz_e, aCons_e, aNil_e, dTup_e, dLst_e, dTupOf_e, dAnd_e, dOr_e, dNot_e, dIte_e, asB, outs, gNm_e, gTp_t, gsCons_c, gsNil_n, dCall_e, callV, aVal_e, aIo_e, agNil_e, isIo, slOf, back, agOk, agIo, sNew_e, dLc_e, nLc_e, dIt_e, items_l, items_t, dSl_e, dPart_n, dPart_s, sPar_e, rhv_e, rhn_e, wipeE, restE, keepF, ownL]⟩
      | _ => cases hd
    refine ⟨.fz (.tuple [.str "told", .tuple [.int n, .tuple (ys.filter fun d => decide ((n : Int) - s ≤ lenD d))]]), ?_⟩
    have it : items (.list ys) = some ys := rfl
    generalize (ys.filter fun d => decide ((n : Int) - s ≤ lenD d)) = Y at *
    have eT : gTuple [.list Y] = some (.tuple Y) := rfl
    generalize PyData.list ys = YL at *
    generalize PyData.tuple Y = YT at *
    simp -implicitDefEqProofs [fnOf_e, okio_e, okGo, sCons_e, sNil_e, sIf_e, sRet_e, sAsg_e, sExp_e, tst_e, bin_e, una_e, fnc_e, lift_s, dVar_e, dCon_e, dOwn_e, dRd_e, dFrz_e, aCons_e, aNil_e, dTup_e, dLst_e, dTupOf_e, dAnd_e, dOr_e, dNot_e, dIte_e, asB, outs, gNm_e, gTp_t, gsCons_c, gsNil_n, dCall_e, callV, aVal_e, aIo_e, agNil_e, isIo, slOf, back, agOk, agIo, sNew_e, dLc_e, nLc_e, dIt_e, items_l, items_t, dSl_e, dPart_n, dPart_s, sPar_e, rhv_e, rhn_e, wipeE, restE, keepF, ownL, sLp_e, sEnd_e, sCall_e, callO_e, dCallK_e, sFor_e, sApp_e, sExt_e, dEnum_e, dFix_e, nLc2_e, sRetN_e, sPar3_e, sRetO_e, sPut_e, nOp_e, pick, w1, w2, gSub_i, e2, it, e5, eT, eq3, e3, e4]
  · have w2 := whole_eq w 0 (n - 1)
    rw [h1] at w1
    rw [h2] at w2
    have e3 := told_exc h3 t3
    have e4 := same_refl 40 _ unfit_plain
    exact ⟨.fz (.tuple [.str "unfit", .bool true]), by simp -implicitDefEqProofs [fnOf_e, okio_e, okGo, sCons_e, sNil_e, sIf_e, sRet_e, sAsg_e, sExp_e, tst_e, bin_e, una_e, fnc_e, lift_s, dVar_e, dCon_e, dOwn_e, dRd_e, dFrz_e, aCons_e, aNil_e, dTup_e, dLst_e, dTupOf_e, dAnd_e, dOr_e, dNot_e, dIte_e, asB, outs, gNm_e, gTp_t, gsCons_c, gsNil_n, dCall_e, callV, aVal_e, aIo_e, agNil_e, isIo, slOf, back, agOk, agIo, sNew_e, dLc_e, nLc_e, dIt_e, items_l, items_t, dSl_e, dPart_n, dPart_s, sPar_e, rhv_e, rhn_e, wipeE, restE, keepF, ownL, sLp_e, sEnd_e, sCall_e, callO_e, dCallK_e, sFor_e, sApp_e, sExt_e, dEnum_e, dFix_e, nLc2_e, sRetN_e, sPar3_e, sRetO_e, sPut_e, nOp_e, pick, w1, w2, gSub_i, eq3, e3, e4]⟩
  · rw [h1] at w1
    have e3 := told_exc h3 t3
    have e4 := same_refl 40 _ unfit_plain
    exact ⟨.fz (.tuple [.str "unfit", .bool true]), by simp -implicitDefEqProofs [fnOf_e, okio_e, okGo, sCons_e, sNil_e, sIf_e, sRet_e, sAsg_e, sExp_e, tst_e, bin_e, una_e, fnc_e, lift_s, dVar_e, dCon_e, dOwn_e, dRd_e, dFrz_e, aCons_e, aNil_e, dTup_e, dLst_e, dTupOf_e, dAnd_e, dOr_e, dNot_e, dIte_e, asB, outs, gNm_e, gTp_t, gsCons_c, gsNil_n, dCall_e, callV, aVal_e, aIo_e, agNil_e, isIo, slOf, back, agOk, agIo, sNew_e, dLc_e, nLc_e, dIt_e, items_l, items_t, dSl_e, dPart_n, dPart_s, sPar_e, rhv_e, rhn_e, wipeE, restE, keepF, ownL, sLp_e, sEnd_e, sCall_e, callO_e, dCallK_e, sFor_e, sApp_e, sExt_e, dEnum_e, dFix_e, nLc2_e, sRetN_e, sPar3_e, sRetO_e, sPut_e, nOp_e, pick, w1, eq3, e3, e4]⟩

theorem int_of_rng {n i : Nat} {d : PyData} (hd : ((List.range n).map fun k : Nat => PyData.int (0 + (k : Int)))[i]? = some d) : d = .int (i : Int) := by
  rw [List.getElem?_map] at hd
  obtain ⟨i', hi', rfl⟩ := Option.map_eq_some_iff.mp hd
  obtain ⟨q1, q2⟩ := List.getElem?_eq_some_iff.mp hi'
  rw [List.getElem_range] at q2
  subst q2
  simp
theorem draws2 (sc : List PyData) {o : Own} (h : Dk o) (turn : Int) : ∃ (r : Int) (o' : Own), (dIte (bin gGt (dCall 2 false fn__law_draw (aIo 1 (aVal (dCon (.int 3)) agNil))) (dCon (.int 0))) (bin gAdd (dCon (.int 2)) (dCall 2 false fn__law_draw (aIo 1 (aVal (dCon (.int 3)) agNil)))) (bin gSub (dCall 2 false fn__law_draw (aIo 1 (aVal (dCon (.int 8)) agNil))) (dCon (.int 1)))) [.sc sc, .ow o, .fz (.int turn), .un, .un, .un, .un, .un, .un, .un, .un, .un] = .ok (.int r) [.sc sc, .ow o', .fz (.int turn), .un, .un, .un, .un, .un, .un, .un, .un, .un] ∧ Dk o' ∧ -2 ≤ r ∧ r ≤ 10 := by
  obtain ⟨r1, o1, e1, p1, q1, h1⟩ := draw_spec h (m := 3) (by decide) (by decide)
  by_cases c : 0 < r1
  · obtain ⟨r2, o2, e2, p2, q2, h2⟩ := draw_spec h1 (m := 3) (by decide) (by decide)
    exact ⟨2 + r2, o2, by simp -implicitDefEqProofs [fnOf_e, okio_e, okGo, sCons_e, sNil_e, sIf_e, sRet_e, sAsg_e, sExp_e, tst_e, bin_e, una_e, fnc_e, lift_s, dVar_e, dCon_e, dOwn_e, dRd_e, dFrz_e, aCons_e, aNil_e, dTup_e, dLst_e, dTupOf_e, dAnd_e, dOr_e, dNot_e, dIte_e, asB, outs, gNm_e, gTp_t, gsCons_c, gsNil_n, dCall_e, callV, aVal_e, aIo_e, agNil_e, isIo, slOf, back, agOk, agIo, sNew_e, dLc_e, nLc_e, dIt_e, items_l, items_t, dSl_e, dPart_n, dPart_s, sPar_e, rhv_e, rhn_e, wipeE, restE, keepF, ownL, e1, e2, gGt_i, c, gAdd_i], h2, by omega, by omega⟩
  · obtain ⟨r2, o2, e2, p2, q2, h2⟩ := draw_spec h1 (m := 8) (by decide) (by decide)
    exact ⟨r2 - 1, o2, by simp -implicitDefEqProofs [fnOf_e, okio_e, okGo, sCons_e, sNil_e, sIf_e, sRet_e, sAsg_e, sExp_e, tst_e, bin_e, una_e, fnc_e, lift_s, dVar_e, dCon_e, dOwn_e, dRd_e, dFrz_e, aCons_e, aNil_e, dTup_e, dLst_e, dTupOf_e, dAnd_e, dOr_e, dNot_e, dIte_e, asB, outs, gNm_e, gTp_t, gsCons_c, gsNil_n, dCall_e, callV, aVal_e, aIo_e, agNil_e, isIo, slOf, back, agOk, agIo, sNew_e, dLc_e, nLc_e, dIt_e, items_l, items_t, dSl_e, dPart_n, dPart_s, sPar_e, rhv_e, rhn_e, wipeE, restE, keepF, ownL, e1, e2, gGt_i, c, gSub_i], h2, by omega, by omega⟩
def rest2d : DenS := rest2
theorem rest2_fold : ((sCons (sAsg (dTup (aCons (dCon (.str "unfit")) (aCons (dCon (.bool true)) aNil))) (gNm 5))
  (sCons (sIf (tst (dAnd (dCall 3 false fn__law_whole (aVal (dVar 3) (aVal (dCon (.int 2)) (aVal (dCon (.int 4)) agNil)))) (dCall 3 false fn__law_whole (aVal (dVar 4) (aVal (dCon (.int 0)) (aVal (bin gSub (dVar 3) (dCon (.int 1))) agNil))))))
 (sCons (sAsg (dTup (aCons (dCon (.str "told")) (aCons (dTup (aCons (dVar 3) (aCons (fnc gTuple (aCons (dLc (dIt (dCall 1 false fn__law_sets (aVal (dVar 3) agNil))) (gNm 11) (tst (bin gGe (fnc gLen (aCons (dVar 11) aNil)) (bin gSub (dVar 3) (dVar 4)))) (dVar 11) [10, 11]) aNil)) aNil))) aNil))) (gNm 5))
  sNil)
 sNil)
  (sCons (sIf (tst (dNot (dCall 2 false (fn__law_same 40) (aVal (dCall 3 false fn__law_told_most (aVal (dVar 3) (aVal (dVar 4) (aVal (bin gEqB (dVar 2) (dCon (.int 3))) agNil)))) (aVal (dVar 5) agNil)))))
 (sCons (sRet (dCon (.bool false)))
  sNil)
 sNil)
  sNil))) : DenS) = rest2d := rfl
theorem law_end (ns : List Int) (h : ns.length ≤ 63) : ∃ as, fn_law [.sc (ns.map .int)] = .ret (.bool true) as := by
  simp only [fn_law, b_law]
  rw [rest2_fold]
  obtain ⟨o, as, e0, ho, rfl⟩ := deck_spec ns
  have eR : ∀ ρ, dRng1 (dCon (.int 12)) ρ = .ok ((List.range 12).map fun k : Nat => .int (0 + (k : Int))) ρ := fun ρ => rng1_of (j := 12) (by simp -implicitDefEqProofs [fnOf_e, okio_e, okGo, sCons_e, sNil_e, sIf_e, sRet_e, sAsg_e, sExp_e, tst_e, bin_e, una_e, fnc_e, lift_s, dVar_e, dCon_e, dOwn_e, dRd_e, dFrz_e, aCons_e, aNil_e, dTup_e, dLst_e, dTupOf_e, dAnd_e, dOr_e, dNot_e, dIte_e, asB, outs, gNm_e, gTp_t, gsCons_c, gsNil_n, dCall_e, callV, aVal_e, aIo_e, agNil_e, isIo, slOf, back, agOk, agIo, sNew_e, dLc_e, nLc_e, dIt_e, items_l, items_t, dSl_e, dPart_n, dPart_s, sPar_e, rhv_e, rhn_e, wipeE, restE, keepF, ownL]) (rng2_n (n := 12) (by decide) (by decide))
  have eR2 : ∀ ρ, dRng1 (dCon (.int 8)) ρ = .ok ((List.range 8).map fun k : Nat => .int (0 + (k : Int))) ρ := fun ρ => rng1_of (j := 8) (by simp -implicitDefEqProofs [fnOf_e, okio_e, okGo, sCons_e, sNil_e, sIf_e, sRet_e, sAsg_e, sExp_e, tst_e, bin_e, una_e, fnc_e, lift_s, dVar_e, dCon_e, dOwn_e, dRd_e, dFrz_e, aCons_e, aNil_e, dTup_e, dLst_e, dTupOf_e, dAnd_e, dOr_e, dNot_e, dIte_e, asB, outs, gNm_e, gTp_t, gsCons_c, gsNil_n, dCall_e, callV, aVal_e, aIo_e, agNil_e, isIo, slOf, back, agOk, agIo, sNew_e, dLc_e, nLc_e, dIt_e, items_l, items_t, dSl_e, dPart_n, dPart_s, sPar_e, rhv_e, rhn_e, wipeE, restE, keepF, ownL]) (rng2_n (n := 8) (by decide) (by decide))
  generalize hR : ((List.range 12).map fun k : Nat => PyData.int (0 + (k : Int))) = R12 at eR
  generalize hR2 : ((List.range 8).map fun k : Nat => PyData.int (0 + (k : Int))) = R8 at eR2
  simp -implicitDefEqProofs [fnOf_e, okio_e, okGo, sCons_e, sNil_e, sIf_e, sRet_e, sAsg_e, sExp_e, tst_e, bin_e, una_e, fnc_e, lift_s, dVar_e, dCon_e, dOwn_e, dRd_e, dFrz_e, aCons_e, aNil_e, dTup_e, dLst_e, dTupOf_e, dAnd_e, dOr_e, dNot_e, dIte_e, asB, outs, gNm_e, gTp_t, gsCons_c, gsNil_n, dCall_e, callV, aVal_e, aIo_e, agNil_e, isIo, slOf, back, agOk, agIo, sNew_e, dLc_e, nLc_e, dIt_e, items_l, items_t, dSl_e, dPart_n, dPart_s, sPar_e, rhv_e, rhn_e, wipeE, restE, keepF, ownL, sLp_e, sEnd_e, sCall_e, callO_e, dCallK_e, sFor_e, sApp_e, sExt_e, dEnum_e, dFix_e, nLc2_e, sRetN_e, sPar3_e, sRetO_e, sPut_e, nOp_e, pick, e0, eR]
  generalize e : forL _ _ R12 _ = r
  obtain ⟨ρ', rfl, o', rfl, ho'⟩ := for_run e (fun _ ρ => ∃ o, ρ = [.sc (ns.map .int), .ow o, .un, .un, .un, .un, .un, .un, .un, .un, .un, .un] ∧ Dk o) ⟨o, rfl, ho⟩ fun i d ρ hd ⟨o, hρ, ho⟩ => by
    subst hρ
    subst hR
    obtain rfl := int_of_rng hd
    obtain ⟨r1, o1, e1, h1, p1, q1⟩ := draws2 (ns.map .int) ho (i : Int)
    obtain ⟨r2, o2, e2, p2, q2, h2⟩ := draw_spec h1 (m := 7) (by decide) (by decide)
    refine step_of rfl ?_
    by_cases c : (8 : Int) < i
    · have gi : Good 0 3000 (.int r1) := good_small (by omega) (by decide)
      obtain ⟨v, o3, e3, _, h3⟩ := other_spec h2 gi (by decide)
      obtain ⟨w, o4, e4, _, h4⟩ := pick_l h3 (xs := [.int 1, .int 0, .bool true, .bool false, .none, .str "1", .tuple [.int 1]]) (by simp) (by simp)
      obtain ⟨due, e5⟩ := rest_ok (ns.map .int) o4 (i : Int) v w
      have e5 : rest2d _ = _ := e5
      refine ⟨_, ?_, o4, rfl, h4⟩
      generalize ns.map PyData.int = SC at *
      simp -implicitDefEqProofs [fnOf_e, okio_e, okGo, sCons_e, sNil_e, sIf_e, sRet_e, sAsg_e, sExp_e, tst_e, bin_e, una_e, fnc_e, lift_s, dVar_e, dCon_e, dOwn_e, dRd_e, dFrz_e, aCons_e, aNil_e, dTup_e, dLst_e, dTupOf_e, dAnd_e, dOr_e, dNot_e, dIte_e, asB, outs, gNm_e, gTp_t, gsCons_c, gsNil_n, dCall_e, callV, aVal_e, aIo_e, agNil_e, isIo, slOf, back, agOk, agIo, sNew_e, dLc_e, nLc_e, dIt_e, items_l, items_t, dSl_e, dPart_n, dPart_s, sPar_e, rhv_e, rhn_e, wipeE, restE, keepF, ownL, sLp_e, sEnd_e, sCall_e, callO_e, dCallK_e, sFor_e, sApp_e, sExt_e, dEnum_e, dFix_e, nLc2_e, sRetN_e, sPar3_e, sRetO_e, sPut_e, nOp_e, pick, -dIte_e, e1, e2, gSub_i, gGt_i, c, e3, e4, e5]
    · obtain ⟨due, e5⟩ := rest_ok (ns.map .int) o2 (i : Int) (.int r1) (.int (r2 - 1))
      have e5 : rest2d _ = _ := e5
      refine ⟨_, ?_, o2, rfl, h2⟩
      generalize ns.map PyData.int = SC at *
      simp -implicitDefEqProofs [fnOf_e, okio_e, okGo, sCons_e, sNil_e, sIf_e, sRet_e, sAsg_e, sExp_e, tst_e, bin_e, una_e, fnc_e, lift_s, dVar_e, dCon_e, dOwn_e, dRd_e, dFrz_e, aCons_e, aNil_e, dTup_e, dLst_e, dTupOf_e, dAnd_e, dOr_e, dNot_e, dIte_e, asB, outs, gNm_e, gTp_t, gsCons_c, gsNil_n, dCall_e, callV, aVal_e, aIo_e, agNil_e, isIo, slOf, back, agOk, agIo, sNew_e, dLc_e, nLc_e, dIt_e, items_l, items_t, dSl_e, dPart_n, dPart_s, sPar_e, rhv_e, rhn_e, wipeE, restE, keepF, ownL, sLp_e, sEnd_e, sCall_e, callO_e, dCallK_e, sFor_e, sApp_e, sExt_e, dEnum_e, dFix_e, nLc2_e, sRetN_e, sPar3_e, sRetO_e, sPut_e, nOp_e, pick, -dIte_e, e1, e2, gSub_i, gGt_i, c, e5]
  simp -implicitDefEqProofs [fnOf_e, okio_e, okGo, sCons_e, sNil_e, sIf_e, sRet_e, sAsg_e, sExp_e, tst_e, bin_e, una_e, fnc_e, lift_s, dVar_e, dCon_e, dOwn_e, dRd_e, dFrz_e, aCons_e, aNil_e, dTup_e, dLst_e, dTupOf_e, dAnd_e, dOr_e, dNot_e, dIte_e, asB, outs, gNm_e, gTp_t, gsCons_c, gsNil_n, dCall_e, callV, aVal_e, aIo_e, agNil_e, isIo, slOf, back, agOk, agIo, sNew_e, dLc_e, nLc_e, dIt_e, items_l, items_t, dSl_e, dPart_n, dPart_s, sPar_e, rhv_e, rhn_e, wipeE, restE, keepF, ownL, sLp_e, sEnd_e, sCall_e, callO_e, dCallK_e, sFor_e, sApp_e, sExt_e, dEnum_e, dFix_e, nLc2_e, sRetN_e, sPar3_e, sRetO_e, sPut_e, nOp_e, pick, eR2]
  generalize e2 : forL _ _ R8 _ = r
  obtain ⟨ρ', rfl, o'', rfl, ho''⟩ := for_run e2 (fun _ ρ => ∃ o, ρ = [.sc (ns.map .int), .ow o, .un, .un, .un, .un, .un, .un, .un, .un, .un, .un] ∧ Dk o) ⟨o', rfl, ho'⟩ fun i d ρ hd ⟨o, hρ, ho⟩ => by
    subst hρ
    subst hR2
    obtain rfl := int_of_rng hd
    obtain ⟨w, o1, e1, ⟨n, ys, rfl, n2, n4, hr, hl, yne⟩, h1⟩ := world_specA ho
    obtain ⟨L, rfl, hL⟩ := rowsA_enc hr
    rw [List.length_map] at hl
    have g1 := lots_good (ls := L) (k := 16) (fun l hm => ⟨by have := (hL l hm).len; omega, fun x hx => by have := (hL l hm).2.2 x hx; omega⟩) hl
    have gn : Good 2 1921 (.int n) := good_small (by omega) (Nat.le_refl _)
    have g2 : Good 3 260000 (.tuple [.int n, .tuple (L.map encT)]) := (good_tuple (good_cons gn (good_cons g1 (good_nil (S := 0))))).mono (Nat.le_refl _) (by omega)
    have e2 := gShow_ok (g2.show (by omega) (by omega))
    have e3 := law_least_eq n L
    have hq : ∀ l ∈ leastL L, RowL n l := fun l h => hL l (List.mem_filter.mp h).1
    have hql : (leastL L).length ≤ 16 := Nat.le_trans (List.length_filter_le _ _) hl
    have e4 := law_unions_eq n4 (leastL L) hq hql
    obtain ⟨b, hb⟩ := eq_rows (rsort ((leastL L).foldl (unS n) [])) L
    rw [← sorts_rsort] at hb
    have e5 := least_rights_eq n L (by omega)
    have e6 := is_joined_eq n4 L hL hl hb
    have e7 := same_refl 40 (.tuple ((leastL L).map encT)) ⟨by rw [List.length_map]; omega, fun x hx => by
      obtain ⟨l, hm, rfl⟩ := List.mem_map.mp hx
      refine ⟨by rw [List.length_map]; have := (hq l hm).len; omega, fun y hy => ?_⟩
      obtain ⟨z, _, rfl⟩ := List.mem_map.mp hy
      exact trivial⟩
    have e8 := same_refl 40 (.bool b) trivial
    have eq1 : gEqB (.int (i : Int)) (.int 1) = some (.bool ((i : Int) == 1)) := gEqB_i _ _
    have eq2 : gEqB (.int (i : Int)) (.int 2) = some (.bool ((i : Int) == 2)) := gEqB_i _ _
    have ix1 : gIx (.tuple [.int n, .tuple (L.map encT)]) (.int 1) = some (.tuple (L.map encT)) := rfl
    have eT : gTuple [.list ((leastL L).map encT)] = some (.tuple ((leastL L).map encT)) := rfl
    have eL : gList [.tuple (L.map encT)] = some (.list (L.map encT)) := rfl
    generalize ((i : Int) == 1) = b1 at eq1
    generalize ((i : Int) == 2) = b2 at eq2
    refine step_of rfl ?_
    refine ⟨_, ?_, o1, rfl, h1⟩
    generalize ns.map PyData.int = SC at *
    generalize sorts (((leastL L).foldl (unS n) []).map encT) = SS at *
    generalize (PyData.tuple [.int n, .tuple (L.map encT)]).shown = sh at *
    generalize PyData.tuple [.int n, .tuple (L.map encT)] = W at *
    generalize PyData.tuple ((leastL L).map encT) = M at *
    generalize PyData.list ((leastL L).map encT) = ML at *
    generalize PyData.tuple (L.map encT) = LL at *
    generalize PyData.list (L.map encT) = LS at *
    have e3 : fn__law_least [.fz W] = .ret ML [.fz W] := e3
    cases b1 <;> cases b2 <;> simp -implicitDefEqProofs [fnOf_e, okio_e, okGo, sCons_e, sNil_e, sIf_e, sRet_e, sAsg_e, sExp_e, tst_e, bin_e, una_e, fnc_e, lift_s, dVar_e, dCon_e, dOwn_e, dRd_e, dFrz_e, aCons_e, aNil_e, dTup_e, dLst_e, dTupOf_e, dAnd_e, dOr_e, dNot_e, dIte_e, asB, outs, gNm_e, gTp_t, gsCons_c, gsNil_n, dCall_e, callV, aVal_e, aIo_e, agNil_e, isIo, slOf, back, agOk, agIo, sNew_e, dLc_e, nLc_e, dIt_e, items_l, items_t, dSl_e, dPart_n, dPart_s, sPar_e, rhv_e, rhn_e, wipeE, restE, keepF, ownL, sLp_e, sEnd_e, sCall_e, callO_e, dCallK_e, sFor_e, sApp_e, sExt_e, dEnum_e, dFix_e, nLc2_e, sRetN_e, sPar3_e, sRetO_e, sPut_e, nOp_e, pick, e1, e2, e3, eT, e4, ix1, eL, hb, eq1, eq2, e5, e6, e7, e8, gNe_str]
  simp -implicitDefEqProofs [fnOf_e, okio_e, okGo, sCons_e, sNil_e, sIf_e, sRet_e, sAsg_e, sExp_e, tst_e, bin_e, una_e, fnc_e, lift_s, dVar_e, dCon_e, dOwn_e, dRd_e, dFrz_e, aCons_e, aNil_e, dTup_e, dLst_e, dTupOf_e, dAnd_e, dOr_e, dNot_e, dIte_e, asB, outs, gNm_e, gTp_t, gsCons_c, gsNil_n, dCall_e, callV, aVal_e, aIo_e, agNil_e, isIo, slOf, back, agOk, agIo, sNew_e, dLc_e, nLc_e, dIt_e, items_l, items_t, dSl_e, dPart_n, dPart_s, sPar_e, rhv_e, rhn_e, wipeE, restE, keepF, ownL]

end Lw
namespace Lw
open PySem PySem.Spec PyProof.Rows L2 Ev
def dd_is_integer : He.DefD := ⟨("is_integer", none), "is_integer", "is_integer", defArgs st_is_integer, defBody st_is_integer, defScope st_is_integer, [], []⟩
def dd_lies_within : He.DefD := ⟨("lies_within", none), "lies_within", "lies_within", defArgs st_lies_within, defBody st_lies_within, defScope st_lies_within, [], []⟩
def dd_at_most : He.DefD := ⟨("at_most", none), "at_most", "at_most", defArgs st_at_most, defBody st_at_most, defScope st_at_most, [], []⟩
def dd_least_rights : He.DefD := ⟨("least_rights", none), "least_rights", "least_rights", defArgs st_least_rights, defBody st_least_rights, defScope st_least_rights, [], []⟩
def dd_is_joined : He.DefD := ⟨("is_joined", none), "is_joined", "is_joined", defArgs st_is_joined, defBody st_is_joined, defScope st_is_joined, [], []⟩
def dd__law_deck : He.DefD := ⟨("_law_deck", none), "_law_deck", "_law_deck", defArgs st__law_deck, defBody st__law_deck, defScope st__law_deck, [], []⟩
def dd__law_draw : He.DefD := ⟨("_law_draw", none), "_law_draw", "_law_draw", defArgs st__law_draw, defBody st__law_draw, defScope st__law_draw, [], []⟩
def dd__law_pick : He.DefD := ⟨("_law_pick", none), "_law_pick", "_law_pick", defArgs st__law_pick, defBody st__law_pick, defScope st__law_pick, [], []⟩
def dd__law_some : He.DefD := ⟨("_law_some", none), "_law_some", "_law_some", defArgs st__law_some, defBody st__law_some, defScope st__law_some, [], []⟩
def dd__law_whole : He.DefD := ⟨("_law_whole", none), "_law_whole", "_law_whole", defArgs st__law_whole, defBody st__law_whole, defScope st__law_whole, [], []⟩
def dd__law_same : He.DefD := ⟨("_law_same", none), "_law_same", "_law_same", defArgs st__law_same, defBody st__law_same, defScope st__law_same, [], []⟩
def dd__law_sets : He.DefD := ⟨("_law_sets", none), "_law_sets", "_law_sets", defArgs st__law_sets, defBody st__law_sets, defScope st__law_sets, [], []⟩
def dd__law_lies : He.DefD := ⟨("_law_lies", none), "_law_lies", "_law_lies", defArgs st__law_lies, defBody st__law_lies, defScope st__law_lies, [], []⟩
def dd__law_union : He.DefD := ⟨("_law_union", none), "_law_union", "_law_union", defArgs st__law_union, defBody st__law_union, defScope st__law_union, [], []⟩
def dd__law_with_all : He.DefD := ⟨("_law_with_all", none), "_law_with_all", "_law_with_all", defArgs st__law_with_all, defBody st__law_with_all, defScope st__law_with_all, [], []⟩
def dd__law_world : He.DefD := ⟨("_law_world", none), "_law_world", "_law_world", defArgs st__law_world, defBody st__law_world, defScope st__law_world, [], []⟩
def dd__law_any : He.DefD := ⟨("_law_any", none), "_law_any", "_law_any", defArgs st__law_any, defBody st__law_any, defScope st__law_any, [], []⟩
def dd__law_other : He.DefD := ⟨("_law_other", none), "_law_other", "_law_other", defArgs st__law_other, defBody st__law_other, defScope st__law_other, [], []⟩
def dd__law_least : He.DefD := ⟨("_law_least", none), "_law_least", "_law_least", defArgs st__law_least, defBody st__law_least, defScope st__law_least, [], []⟩
def dd__law_unions : He.DefD := ⟨("_law_unions", none), "_law_unions", "_law_unions", defArgs st__law_unions, defBody st__law_unions, defScope st__law_unions, [], []⟩
def dd__law_told_most : He.DefD := ⟨("_law_told_most", none), "_law_told_most", "_law_told_most", defArgs st__law_told_most, defBody st__law_told_most, defScope st__law_told_most, [], []⟩
def dd_law : He.DefD := ⟨("law", none), "law", "law", defArgs st_law, defBody st_law, defScope st_law, [], []⟩
def dfs0 : List He.DefD := [dd_is_integer, dd_lies_within, dd_at_most, dd_least_rights, dd_is_joined, dd__law_deck, dd__law_draw, dd__law_pick, dd__law_some, dd__law_whole, dd__law_same, dd__law_sets, dd__law_lies, dd__law_union, dd__law_with_all, dd__law_world, dd__law_any, dd__law_other, dd__law_least, dd__law_unions]
def dfs1 : List He.DefD := [dd__law_told_most, dd_law]
def dfs : List He.DefD := dfs0 ++ dfs1
def fcs0 : List He.Fa := [.glo "is_integer", .glo "lies_within", .glo "at_most", .glo "least_rights", .glo "is_joined", .glo "_law_deck", .glo "_law_draw", .glo "_law_pick", .glo "_law_some", .glo "_law_whole", .glo "_law_same", .glo "_law_sets", .glo "_law_lies", .glo "_law_union", .glo "_law_with_all", .glo "_law_world", .glo "_law_any", .glo "_law_other", .glo "_law_least", .glo "_law_unions"]
def fcs1 : List He.Fa := [.glo "_law_told_most", .glo "law", .int "MAX_NODES" 4, .free "abs", .free "all", .free "any", .free "bool", .free "enumerate", .free "int", .free "isinstance", .free "len", .free "list", .free "min", .free "range", .free "repr", .free "sorted", .free "str", .free "tuple", .free "zip", .glo "SignError"]
def fcs2 : List He.Fa := [.glo "Unfit", .exc "Unfit", .exm "Unfit" "Unfit" true]
def fcs : List He.Fa := fcs0 ++ fcs1 ++ fcs2
def loose0 : List PySem.Str := ["MAX_NODES", "SignError", "Unfit", "is_integer", "lies_within", "at_most", "least_rights", "is_joined", "_law_deck", "_law_draw", "_law_pick", "_law_some", "_law_whole", "_law_same", "_law_sets", "_law_lies", "_law_union", "_law_with_all", "_law_world", "_law_any"]
def loose1 : List PySem.Str := ["_law_other", "_law_least", "_law_unions", "_law_told_most"]
def loose : List PySem.Str := loose0 ++ loose1
abbrev RR : PySem.W.OpenRow := PySem.W.OpenLaw.row PySem.Challenge.rw_lastsigns_k02_whole_worlds_by_unions
def exL (K : Frag) : List Bool := [excCB K (He.ga K "Unfit"), isB K "Unfit" "SignError" true]
def exB (K : Frag) : Bool := (exL K).all id
theorem exB_at {K : Frag} (h : exB K = true) (i : Nat) {b : Bool} (e : (exL K)[i]? = some b) : b = true := List.all_eq_true.mp h b (List.mem_of_getElem? e)
abbrev hk : PySem.W.Hook := He.hookX 4 fcs dfs [] [] exB
def ob (s : PySem.W.SharedT) : He.AlX := He.obsX 4 fcs dfs [] [] exB (HandSHeadRun.getT s)
theorem ob_eq (s : PySem.W.SharedT) : ob s = hk.obs s.abs := He.obsX_eq (HandSHeadRun.getT_eq s)
theorem run (w : PySem.World) : HandSHeadRun.RunEq RR (PySem.W.view RR.prog [27]) hk ob 2120 loose w := by
  intro os
  kernel_rfl
theorem facts {w : PySem.World} {K : Frag} {h h1 : Heap} {mg : Str → Option Value} (X : K.In h) (G : h.Ns mainGlobals mg) (c0 : He.SaysX fcs dfs [] [] exB w h1 K) : Nonempty (Facts K mg) := by
  have cx := c0.more
  have c := c0.t.d
  have T_Unfit : TbOk K mg TBL "Unfit" (.ref (He.ga K "Unfit")) := tbOk_of fun p hp => by
    simp only [TBL, List.mem_cons, List.not_mem_nil, or_false] at hp
    rcases hp with rfl
    · have e : subX TBL "Unfit" "Unfit" = true := by decide +kernel
      exact ⟨_, (He.glo_ok X G (c.fact 40 (f := .glo "Unfit") rfl)), e ▸ He.exm_ok (c.fact 42 (f := .exm "Unfit" "Unfit" true) rfl)⟩
  have E_SignError : IsE K mg TBL "SignError" (.ref (He.ga K "SignError")) := isE_of fun p hp => by
    simp only [TBL, List.mem_cons, List.not_mem_nil, or_false] at hp
    rcases hp with rfl
    · have e : subX TBL "Unfit" "SignError" = true := by decide +kernel
      exact ⟨_, (He.glo_ok X G (c.fact 40 (f := .glo "Unfit") rfl)), excCB_ok (exB_at cx 0 rfl), e ▸ isB_ok (exB_at cx 1 rfl)⟩
  obtain ⟨d0, F0⟩ := c.def_ 0 (d := dd_is_integer) rfl
  obtain ⟨d1, F1⟩ := c.def_ 1 (d := dd_lies_within) rfl
  obtain ⟨d2, F2⟩ := c.def_ 2 (d := dd_at_most) rfl
  obtain ⟨d3, F3⟩ := c.def_ 3 (d := dd_least_rights) rfl
  obtain ⟨d4, F4⟩ := c.def_ 4 (d := dd_is_joined) rfl
  obtain ⟨d5, F5⟩ := c.def_ 5 (d := dd__law_deck) rfl
  obtain ⟨d6, F6⟩ := c.def_ 6 (d := dd__law_draw) rfl
  obtain ⟨d7, F7⟩ := c.def_ 7 (d := dd__law_pick) rfl
  obtain ⟨d8, F8⟩ := c.def_ 8 (d := dd__law_some) rfl
  obtain ⟨d9, F9⟩ := c.def_ 9 (d := dd__law_whole) rfl
  obtain ⟨d10, F10⟩ := c.def_ 10 (d := dd__law_same) rfl
  obtain ⟨d11, F11⟩ := c.def_ 11 (d := dd__law_sets) rfl
  obtain ⟨d12, F12⟩ := c.def_ 12 (d := dd__law_lies) rfl
  obtain ⟨d13, F13⟩ := c.def_ 13 (d := dd__law_union) rfl
  obtain ⟨d14, F14⟩ := c.def_ 14 (d := dd__law_with_all) rfl
  obtain ⟨d15, F15⟩ := c.def_ 15 (d := dd__law_world) rfl
  obtain ⟨d16, F16⟩ := c.def_ 16 (d := dd__law_any) rfl
  obtain ⟨d17, F17⟩ := c.def_ 17 (d := dd__law_other) rfl
  obtain ⟨d18, F18⟩ := c.def_ 18 (d := dd__law_least) rfl
  obtain ⟨d19, F19⟩ := c.def_ 19 (d := dd__law_unions) rfl
  obtain ⟨d20, F20⟩ := c.def_ 20 (d := dd__law_told_most) rfl
  obtain ⟨d21, F21⟩ := c.def_ 21 (d := dd_law) rfl
  obtain ⟨t0, T0⟩ := He.int_ok X G (c.fact 22 (f := .int "MAX_NODES" 4) rfl)
  exact ⟨⟨_,
    d0,
    F0,
    He.glo_ok X G (c.fact 0 (f := .glo "is_integer") rfl),
    _,
    d1,
    F1,
    He.glo_ok X G (c.fact 1 (f := .glo "lies_within") rfl),
    _,
    d2,
    F2,
    He.glo_ok X G (c.fact 2 (f := .glo "at_most") rfl),
    _,
    d3,
    F3,
    He.glo_ok X G (c.fact 3 (f := .glo "least_rights") rfl),
    _,
    d4,
    F4,
    He.glo_ok X G (c.fact 4 (f := .glo "is_joined") rfl),
    _,
    d5,
    F5,
    He.glo_ok X G (c.fact 5 (f := .glo "_law_deck") rfl),
    _,
    d6,
    F6,
    He.glo_ok X G (c.fact 6 (f := .glo "_law_draw") rfl),
    _,
    d7,
    F7,
    He.glo_ok X G (c.fact 7 (f := .glo "_law_pick") rfl),
    _,
    d8,
    F8,
    He.glo_ok X G (c.fact 8 (f := .glo "_law_some") rfl),
    _,
    d9,
    F9,
    He.glo_ok X G (c.fact 9 (f := .glo "_law_whole") rfl),
    _,
    d10,
    F10,
    He.glo_ok X G (c.fact 10 (f := .glo "_law_same") rfl),
    _,
    d11,
    F11,
    He.glo_ok X G (c.fact 11 (f := .glo "_law_sets") rfl),
    _,
    d12,
    F12,
    He.glo_ok X G (c.fact 12 (f := .glo "_law_lies") rfl),
    _,
    d13,
    F13,
    He.glo_ok X G (c.fact 13 (f := .glo "_law_union") rfl),
    _,
    d14,
    F14,
    He.glo_ok X G (c.fact 14 (f := .glo "_law_with_all") rfl),
    _,
    d15,
    F15,
    He.glo_ok X G (c.fact 15 (f := .glo "_law_world") rfl),
    _,
    d16,
    F16,
    He.glo_ok X G (c.fact 16 (f := .glo "_law_any") rfl),
    _,
    d17,
    F17,
    He.glo_ok X G (c.fact 17 (f := .glo "_law_other") rfl),
    _,
    d18,
    F18,
    He.glo_ok X G (c.fact 18 (f := .glo "_law_least") rfl),
    _,
    d19,
    F19,
    He.glo_ok X G (c.fact 19 (f := .glo "_law_unions") rfl),
    _,
    d20,
    F20,
    He.glo_ok X G (c.fact 20 (f := .glo "_law_told_most") rfl),
    _,
    d21,
    F21,
    He.glo_ok X G (c.fact 21 (f := .glo "law") rfl),
    t0,
    T0,
    He.free_ok X G (c.fact 23 (f := .free "abs") rfl),
    He.free_ok X G (c.fact 24 (f := .free "all") rfl),
    He.free_ok X G (c.fact 25 (f := .free "any") rfl),
    He.free_ok X G (c.fact 26 (f := .free "bool") rfl),
    He.free_ok X G (c.fact 27 (f := .free "enumerate") rfl),
    He.free_ok X G (c.fact 28 (f := .free "int") rfl),
    He.free_ok X G (c.fact 29 (f := .free "isinstance") rfl),
    He.free_ok X G (c.fact 30 (f := .free "len") rfl),
    He.free_ok X G (c.fact 31 (f := .free "list") rfl),
    He.free_ok X G (c.fact 32 (f := .free "min") rfl),
    He.free_ok X G (c.fact 33 (f := .free "range") rfl),
    He.free_ok X G (c.fact 34 (f := .free "repr") rfl),
    He.free_ok X G (c.fact 35 (f := .free "sorted") rfl),
    He.free_ok X G (c.fact 36 (f := .free "str") rfl),
    He.free_ok X G (c.fact 37 (f := .free "tuple") rfl),
    He.free_ok X G (c.fact 38 (f := .free "zip") rfl),
    _,
    (He.glo_ok X G (c.fact 39 (f := .glo "SignError") rfl)),
    _,
    (He.glo_ok X G (c.fact 40 (f := .glo "Unfit") rfl)),
    ⟨(He.glo_ok X G (c.fact 40 (f := .glo "Unfit") rfl)), (He.exc_ok (c.fact 41 (f := .exc "Unfit") rfl)).1, (He.exc_ok (c.fact 41 (f := .exc "Unfit") rfl)).2.1, (He.exc_ok (c.fact 41 (f := .exc "Unfit") rfl)).2.2.1, (He.exc_ok (c.fact 41 (f := .exc "Unfit") rfl)).2.2.2⟩,
    T_Unfit,
    E_SignError⟩⟩
open PySem PySem.W PySem.Calls PyProof.Rows
theorem the_law : PySem.Challenge.rw_lastsigns_k02_whole_worlds_by_unions.Holds := by
  w_on; o_law
  refine HandSHeadRun.head_any (r := RR) (q := view RR.prog [27]) (H := hk) (ob := ob) (M := 2120) (loose := loose) (d := HandSHeadRun.topDef RR.prog 27) (kwd := []) ob_eq
    (by kernel_rfl) (fun s => by kernel_rfl) run (by kernel_rfl) (by kernel_rfl) (by kernel_rfl) (by rfl) (by first | assumption | decide +kernel) (by decide +kernel) ⟨rfl, rfl, rfl, rfl, rfl, by decide +kernel⟩ ?hw ?hc
  case hw => w_witness2
  case hc =>
    refine Ev.walk_G (l := PySem.Challenge.rw_lastsigns_k02_whole_worlds_by_unions) (n := 63) (k := 44) (x := "script") rfl (by decide) (by kernel_rfl) ⟨rfl, by decide, by decide⟩ (by kernel_rfl) ?F
    intro w mg fa h Y G hmg0
    obtain ⟨K, KX, c⟩ := Y
    have hmg : mg ("law" : PySem.Str) = some (.ref fa) := by
      have e : (HandSHeadRun.topDef RR.prog 27).name = ("law" : PySem.Str) := by kernel_rfl
      rw [← e]
      exact hmg0
    obtain ⟨c⟩ := facts KX G c
    have e := hmg.symm.trans c.m_law
    cases e
    have b := FunD.bindsA (ps := ["script"]) c.F_law fun _ _ _ _ _ _ us hl => match us, hl with | [_], _ => rfl
    exact ⟨K, c.d_law, Ev.spOf K mg 1 fn_law, KX, fun s v => b s [v] rfl, fun H a ns hl hS => Ev.law_sp hS (law_end ns hl), fun base _ _ hS => ok_law c hS⟩
end Lw
theorem PySem.Challenge.cw_lastsigns_k02_whole_worlds_by_unions_holds : PySem.Challenge.rw_lastsigns_k02_whole_worlds_by_unions.Holds :=
  Lw.the_law