import PyProof.Rows.All
import HandS.Conv
import HandS.Deep
import HandS.Defaults
import HandS.DictComp
import HandS.ForMost
import HandS.Head0
import HandS.Head1
import HandS.Head2
import HandS.HeadEnd
import HandS.HeadHook1
import HandS.HeadHook2
import HandS.IsInst
import HandS.More
import HandS.Small
import HandS.Text
import HandS.TupAny
import HandS.Wide
import HandS.WordsExc
import KE.KStateDown
import OpenK.AllK
import PyProof.CallStr
import PyProof.TwoTypesSub
import PySem.Challenge.RW_edgestack_k01_blocks_and_piles_told
import Wide.All
import Wide.FinOn
set_option Elab.async false
set_option linter.all false
set_option autoImplicit false
set_option maxRecDepth 100000
set_option Elab.async false
set_option linter.all false
set_option maxRecDepth 100000
set_option autoImplicit false
/-! Dl1: data, stores, how they are borne by the abstract heap -/
namespace Dl
open PySem PySem.Spec PyProof.Rows L2
/-- a value as data: tuples as they are, what may change by its number in the store; scr: the script -/
inductive D where
  | non | bl (b : Bool) | int (i : Int) | str (x : Str) | tup (xs : List D) | ref (n : Nat) | scr (ns : List Int) | ty (n : String)
/-- what stands in the store -/
inductive MO where
  | lst (xs : List D) | dk (kvs : List (L2.Key × D)) | dt (kvs : List (List L2.Key × D))
abbrev Store := List MO
abbrev Env1 := List (Option D)
abbrev M (α : Type) := Store → Option (α × Store)
def M.ret {α : Type} (a : α) : M α := fun st => some (a, st)
def M.bnd {α β : Type} (m : M α) (f : α → M β) : M β := fun st => match m st with
  | some (a, st') => f a st'
  | none => none
def M.bad {α : Type} : M α := fun _ => none
instance : Monad M where
  pure := M.ret
  bind := M.bnd
theorem M.bnd_some {α β : Type} {m : M α} {f : α → M β} {st st' : Store} {b : β} (h : M.bnd m f st = some (b, st')) : ∃ a st1, m st = some (a, st1) ∧ f a st1 = some (b, st') := by
  unfold M.bnd at h
  split at h
  · rename_i a st1 e
    exact ⟨a, st1, e, h⟩
  · cases h
variable {K : PySem.W.Frag} {ι ι' ι2 : List Addr} {H H' H2 : Hp}
def FzL (K : PySem.W.Frag) (H : Hp) (a : Addr) (ns : List Int) : Prop := (∃ o, H a = some (.frz o (.lst (ns.map V.int)))) ∨ ∀ H', SqL K H' a (ns.map V.int)
theorem FzL.sq {a : Addr} {ns : List Int} (h : FzL K H a ns) : SqL K H a (ns.map V.int) := by
  rcases h with ⟨o, h⟩ | h
  · exact .inl (.inr ⟨o, h⟩)
  · exact h H
mutual
inductive RepV (K : PySem.W.Frag) (ι : List Addr) (H : Hp) : V → D → Prop
  | non : RepV K ι H .non .non
  | bl (b : Bool) : RepV K ι H (.bl b) (.bl b)
  | int (i : Int) : RepV K ι H (.int i) (.int i)
  | str (x : Str) : RepV K ι H (.str x) (.str x)
  | tup {a : Addr} {vs : List V} {ds : List D} : H a = some (.tup vs) → RepVs K ι H vs ds → RepV K ι H (.ref a) (.tup ds)
  | ref {n : Nat} {a : Addr} : ι[n]? = some a → RepV K ι H (.ref a) (.ref n)
  | scr {a : Addr} {ns : List Int} : FzL K H a ns → RepV K ι H (.ref a) (.scr ns)
  | ty (n : String) : RepV K ι H (.ty n) (.ty n)
inductive RepVs (K : PySem.W.Frag) (ι : List Addr) (H : Hp) : List V → List D → Prop
  | nil : RepVs K ι H [] []
  | cons {v : V} {vs : List V} {d : D} {ds : List D} : RepV K ι H v d → RepVs K ι H vs ds → RepVs K ι H (v :: vs) (d :: ds)
end
/-- what is kept between two states -/
structure Ext (ι : List Addr) (H : Hp) (ι' : List Addr) (H' : Hp) : Prop where
  pre : ι <+: ι'
  tup : ∀ a xs, H a = some (.tup xs) → H' a = some (.tup xs)
  frz : ∀ a o u, H a = some (.frz o u) → H' a = some (.frz o u)
theorem Ext.refl (ι : List Addr) (H : Hp) : Ext ι H ι H := ⟨List.prefix_refl _, fun _ _ h => h, fun _ _ _ h => h⟩
theorem Ext.trans (a : Ext ι H ι' H') (b : Ext ι' H' ι2 H2) : Ext ι H ι2 H2 :=
  ⟨a.pre.trans b.pre, fun x xs h => b.tup x xs (a.tup x xs h), fun x o u h => b.frz x o u (a.frz x o u h)⟩
theorem Ext.fz {a : Addr} {ns : List Int} (e : Ext ι H ι' H') (h : FzL K H a ns) : FzL K H' a ns := h.imp (fun ⟨o, q⟩ => ⟨o, e.frz _ _ _ q⟩) id
theorem Ext.at_ {n : Nat} {a : Addr} (e : Ext ι H ι' H') (h : ι[n]? = some a) : ι'[n]? = some a := by
  obtain ⟨t, rfl⟩ := e.pre
  obtain ⟨hl, _⟩ := List.getElem?_eq_some_iff.mp h
  rw [List.getElem?_append_left hl]; exact h
mutual
theorem RepV.mono (e : Ext ι H ι' H') : ∀ {v : V} {d : D}, RepV K ι H v d → RepV K ι' H' v d
  | _, _, .non => .non
  | _, _, .bl b => .bl b
  | _, _, .int i => .int i
  | _, _, .str x => .str x
  | _, _, .tup h r => .tup (e.tup _ _ h) (RepVs.mono e r)
  | _, _, .ref h => .ref (e.at_ h)
  | _, _, .scr h => .scr (e.fz h)
  | _, _, .ty n => .ty n
theorem RepVs.mono (e : Ext ι H ι' H') : ∀ {vs : List V} {ds : List D}, RepVs K ι H vs ds → RepVs K ι' H' vs ds
  | _, _, .nil => .nil
  | _, _, .cons h r => .cons (RepV.mono e h) (RepVs.mono e r)
end
theorem RepVs.length : ∀ {vs : List V} {ds : List D}, RepVs K ι H vs ds → vs.length = ds.length
  | _, _, .nil => rfl
  | _, _, .cons _ r => congrArg (· + 1) (RepVs.length r)
theorem RepVs.get : ∀ {vs : List V} {ds : List D} {i : Nat} {d : D}, RepVs K ι H vs ds → ds[i]? = some d → ∃ v, vs[i]? = some v ∧ RepV K ι H v d
  | _, _, _, _, .nil, e => by simp at e
  | _, _, 0, _, .cons r _, e => by simp at e; subst e; exact ⟨_, rfl, r⟩
  | _, _, i + 1, d, .cons _ t, e => by
    obtain ⟨u, h1, h2⟩ := RepVs.get (i := i) (d := d) t (by simpa using e)
    exact ⟨u, by simpa using h1, h2⟩
theorem RepVs.app : ∀ {vs ws : List V} {ds es : List D}, RepVs K ι H vs ds → RepVs K ι H ws es → RepVs K ι H (vs ++ ws) (ds ++ es)
  | _, _, _, _, .nil, s => s
  | _, _, _, _, .cons r t, s => .cons r (RepVs.app t s)
theorem RepVs.takeN : ∀ {vs : List V} {ds : List D} (n : Nat), RepVs K ι H vs ds → RepVs K ι H (vs.take n) (ds.take n)
  | _, _, 0, _ => by simpa using RepVs.nil
  | _, _, _ + 1, .nil => .nil
  | _, _, n + 1, .cons r t => .cons r (RepVs.takeN n t)
theorem RepVs.dropN : ∀ {vs : List V} {ds : List D} (n : Nat), RepVs K ι H vs ds → RepVs K ι H (vs.drop n) (ds.drop n)
  | _, _, 0, r => by simpa using r
  | _, _, _ + 1, .nil => .nil
  | _, _, n + 1, .cons _ t => RepVs.dropN n t
theorem RepVs.setN {v : V} {d : D} (r : RepV K ι H v d) : ∀ {vs : List V} {ds : List D} (i : Nat), RepVs K ι H vs ds → RepVs K ι H (vs.set i v) (ds.set i d)
  | _, _, _, .nil => .nil
  | _, _, 0, .cons _ t => .cons r t
  | _, _, i + 1, .cons q t => .cons q (RepVs.setN r i t)
theorem RepVs.eraseN : ∀ {vs : List V} {ds : List D} (i : Nat), RepVs K ι H vs ds → RepVs K ι H (vs.eraseIdx i) (ds.eraseIdx i)
  | _, _, _, .nil => .nil
  | _, _, 0, .cons _ t => t
  | _, _, i + 1, .cons q t => .cons q (RepVs.eraseN i t)
theorem RepVs.rev {vs : List V} {ds : List D} (h : RepVs K ι H vs ds) : RepVs K ι H vs.reverse ds.reverse := by
  induction vs generalizing ds with
  | nil => cases h; exact .nil
  | cons v vs ih =>
    cases h with
    | cons r t =>
      rw [List.reverse_cons, List.reverse_cons]
      exact (ih t).app (.cons r .nil)
theorem RepVs.ints : ∀ (ns : List Int), RepVs K ι H (ns.map V.int) (ns.map D.int)
  | [] => .nil
  | n :: r => .cons (.int n) (RepVs.ints r)
theorem RepVs.of_ints : ∀ {ns : List Int} {vs : List V}, RepVs K ι H vs (ns.map D.int) → vs = ns.map V.int
  | [], _, h => by cases h; rfl
  | n :: r, _, h => by
    cases h with
    | cons r t => cases r; rw [RepVs.of_ints t]; rfl
theorem RepVs.of_strs : ∀ {ns : List Str} {vs : List V}, RepVs K ι H vs (ns.map D.str) → vs = ns.map V.str
  | [], _, h => by cases h; rfl
  | n :: r, _, h => by
    cases h with
    | cons r t => cases r; rw [RepVs.of_strs t]; rfl
theorem RepVs.of_bls : ∀ {ns : List Bool} {vs : List V}, RepVs K ι H vs (ns.map D.bl) → vs = ns.map V.bl
  | [], _, h => by cases h; rfl
  | n :: r, _, h => by
    cases h with
    | cons r t => cases r; rw [RepVs.of_bls t]; rfl
/-! ### which numbers a value names -/
mutual
def D.low (k : Nat) : D → Bool
  | .tup xs => D.lows k xs
  | .ref n => decide (n < k)
  | _ => true
def D.lows (k : Nat) : List D → Bool
  | [] => true
  | x :: xs => D.low k x && D.lows k xs
end
def MO.low (k : Nat) : MO → Bool
  | .lst xs => D.lows k xs
  | .dk kvs => D.lows k (kvs.map (·.2))
  | .dt kvs => D.lows k (kvs.map (·.2))
mutual
theorem RepV.cut (hp : ι <+: ι') : ∀ {v : V} {d : D}, RepV K ι' H v d → d.low ι.length = true → RepV K ι H v d
  | _, _, .non, _ => .non
  | _, _, .bl b, _ => .bl b
  | _, _, .int i, _ => .int i
  | _, _, .str x, _ => .str x
  | _, _, .tup h r, l => .tup h (RepVs.cut hp r (by unfold D.low at l; exact l))
  | _, _, .ref (n := n) h, l => .ref (by
      unfold D.low at l
      have l := of_decide_eq_true l
      obtain ⟨t, rfl⟩ := hp
      rw [List.getElem?_append_left l] at h; exact h)
  | _, _, .scr h, _ => .scr h
  | _, _, .ty n, _ => .ty n
theorem RepVs.cut (hp : ι <+: ι') : ∀ {vs : List V} {ds : List D}, RepVs K ι' H vs ds → D.lows ι.length ds = true → RepVs K ι H vs ds
  | _, _, .nil, _ => .nil
  | _, _, .cons h r, l => by
    unfold D.lows at l
    rw [Bool.and_eq_true] at l
    exact .cons (RepV.cut hp h l.1) (RepVs.cut hp r l.2)
end
mutual
theorem RepV.isLow : ∀ {v : V} {d : D}, RepV K ι H v d → d.low ι.length = true
  | _, _, .non => rfl
  | _, _, .bl b => rfl
  | _, _, .int i => rfl
  | _, _, .str x => rfl
  | _, _, .tup h r => by unfold D.low; exact RepVs.isLow r
  | _, _, .ref h => by
    unfold D.low
    exact decide_eq_true (List.getElem?_eq_some_iff.mp h).1
  | _, _, .scr h => rfl
  | _, _, .ty n => rfl
theorem RepVs.isLow : ∀ {vs : List V} {ds : List D}, RepVs K ι H vs ds → D.lows ι.length ds = true
  | _, _, .nil => rfl
  | _, _, .cons h r => by
    unfold D.lows
    rw [RepV.isLow h, RepVs.isLow r]; rfl
end
mutual
theorem D.low_mono {j k : Nat} (h : j ≤ k) : ∀ {d : D}, d.low j = true → d.low k = true
  | .non, _ => rfl
  | .bl _, _ => rfl
  | .int _, _ => rfl
  | .str _, _ => rfl
  | .tup xs, l => by unfold D.low at l ⊢; exact D.lows_mono h l
  | .ref n, l => by
    unfold D.low at l ⊢
    have := of_decide_eq_true l
    exact decide_eq_true (by omega)
  | .scr _, _ => rfl
  | .ty _, _ => rfl
theorem D.lows_mono {j k : Nat} (h : j ≤ k) : ∀ {ds : List D}, D.lows j ds = true → D.lows k ds = true
  | [], _ => rfl
  | x :: xs, l => by
    unfold D.lows at l ⊢
    rw [Bool.and_eq_true] at l
    rw [D.low_mono h l.1, D.lows_mono h l.2]; rfl
end
/-! ### the store -/
def RepO (K : PySem.W.Frag) (ι : List Addr) (H : Hp) (a : Addr) : MO → Prop
  | .lst ds => ∃ vs, H a = some (.lst vs) ∧ RepVs K ι H vs ds
  | .dk kvs => ∃ vs, H a = some (.dK ((kvs.map (·.1)).zip vs)) ∧ RepVs K ι H vs (kvs.map (·.2))
  | .dt kvs => ∃ vs, H a = some (.dT ((kvs.map (·.1)).zip vs)) ∧ RepVs K ι H vs (kvs.map (·.2))
structure RelH (K : PySem.W.Frag) (ι : List Addr) (H : Hp) (st : Store) : Prop where
  len : ι.length = st.length
  nd : ι.Nodup
  at_ : ∀ (n : Nat) (o : MO), st[n]? = some o → ∃ a, ι[n]? = some a ∧ RepO K ι H a o
theorem RepO.some {a : Addr} {o : MO} (h : RepO K ι H a o) : ∃ u, H a = some u ∧ Mut (some u) ∧ (∀ xs, H a ≠ some (.tup xs)) ∧ (∀ o u, H a ≠ some (.frz o u)) := by
  cases o with
  | lst ds =>
    obtain ⟨vs, e, _⟩ := h
    refine ⟨_, e, trivial, fun xs q => ?_, fun o u q => ?_⟩
    · rw [e] at q; cases q
    · rw [e] at q; cases q
  | dk kvs =>
    obtain ⟨vs, e, _⟩ := h
    refine ⟨_, e, trivial, fun xs q => ?_, fun o u q => ?_⟩
    · rw [e] at q; cases q
    · rw [e] at q; cases q
  | dt kvs =>
    obtain ⟨vs, e, _⟩ := h
    refine ⟨_, e, trivial, fun xs q => ?_, fun o u q => ?_⟩
    · rw [e] at q; cases q
    · rw [e] at q; cases q
/-- an object's bearing, in a later state where its own place is as it was -/
theorem RepO.keep {a : Addr} {o : MO} (e : Ext ι H ι' H') (h : RepO K ι H a o) (ha : H' a = H a) : RepO K ι' H' a o := by
  cases o with
  | lst ds => obtain ⟨vs, q, r⟩ := h; exact ⟨vs, by rw [ha]; exact q, r.mono e⟩
  | dk kvs => obtain ⟨vs, q, r⟩ := h; exact ⟨vs, by rw [ha]; exact q, r.mono e⟩
  | dt kvs => obtain ⟨vs, q, r⟩ := h; exact ⟨vs, by rw [ha]; exact q, r.mono e⟩
theorem RepO.cut {a : Addr} {o : MO} (hp : ι <+: ι') (h : RepO K ι' H a o) (l : o.low ι.length = true) : RepO K ι H a o := by
  cases o with
  | lst ds => obtain ⟨vs, q, r⟩ := h; exact ⟨vs, q, r.cut hp l⟩
  | dk kvs => obtain ⟨vs, q, r⟩ := h; exact ⟨vs, q, r.cut hp l⟩
  | dt kvs => obtain ⟨vs, q, r⟩ := h; exact ⟨vs, q, r.cut hp l⟩
theorem RepO.isLow {a : Addr} {o : MO} (h : RepO K ι H a o) : o.low ι.length = true := by
  cases o with
  | lst ds => obtain ⟨vs, q, r⟩ := h; exact r.isLow
  | dk kvs => obtain ⟨vs, q, r⟩ := h; exact r.isLow
  | dt kvs => obtain ⟨vs, q, r⟩ := h; exact r.isLow
variable {st : Store}
theorem RelH.nil : RelH K [] H [] := ⟨rfl, List.nodup_nil, fun n o h => by simp at h⟩
theorem RelH.get {n : Nat} {a : Addr} (R : RelH K ι H st) (h : ι[n]? = some a) : ∃ o, st[n]? = some o ∧ RepO K ι H a o := by
  obtain ⟨hl, e⟩ := List.getElem?_eq_some_iff.mp h
  have hs : n < st.length := by rw [← R.len]; exact hl
  obtain ⟨a', e1, r⟩ := R.at_ n st[n] (List.getElem?_eq_getElem hs)
  rw [h] at e1; cases e1
  exact ⟨_, List.getElem?_eq_getElem hs, r⟩
theorem RelH.fresh {p : Addr} (R : RelH K ι H st) (hp : H p = none) : p ∉ ι := fun hm => by
  obtain ⟨n, hl, e⟩ := List.getElem_of_mem hm
  obtain ⟨o, _, r⟩ := R.get (List.getElem?_eq_some_iff.mpr ⟨hl, e⟩)
  obtain ⟨u, q, _⟩ := r.some
  rw [hp] at q; cases q
theorem ext_upd {p : Addr} {o : HO} (hp : H p = none) : Ext ι H ι (upd H p o) where
  pre := List.prefix_refl _
  tup := fun a xs h => by rw [upd_ne (ne_of_none h hp)]; exact h
  frz := fun a o u h => by rw [upd_ne (ne_of_none h hp)]; exact h
theorem ext_new {p : Addr} {o : HO} (hp : H p = none) : Ext ι H (ι ++ [p]) (upd H p o) :=
  ⟨List.prefix_append _ _, (ext_upd (ι := ι) hp).tup, (ext_upd (ι := ι) hp).frz⟩
/-- a new object that the store doesn't name (a tuple) -/
theorem RelH.upd {p : Addr} {o : HO} (R : RelH K ι H st) (hp : H p = none) : RelH K ι (L2.upd H p o) st :=
  ⟨R.len, R.nd, fun n u h => by
    obtain ⟨a, e, r⟩ := R.at_ n u h
    refine ⟨a, e, r.keep (ext_upd hp) ?_⟩
    obtain ⟨w, q, _⟩ := r.some
    exact upd_ne (ne_of_none q hp)⟩
/-- a new object of the store -/
theorem RelH.new {p : Addr} {o : HO} {mo : MO} (R : RelH K ι H st) (hp : H p = none) (ho : RepO K (ι ++ [p]) (L2.upd H p o) p mo) : RelH K (ι ++ [p]) (L2.upd H p o) (st ++ [mo]) := by
  refine ⟨by simp [R.len], ?_, fun n u h => ?_⟩
  · rw [List.nodup_append]
    exact ⟨R.nd, by simp, fun a ha b hb => by
      rw [List.mem_singleton] at hb
      subst hb
      exact fun z => R.fresh hp (z ▸ ha)⟩
  · by_cases hn : n < st.length
    · rw [List.getElem?_append_left hn] at h
      obtain ⟨a, e, r⟩ := R.at_ n u h
      refine ⟨a, (ext_new (o := o) hp).at_ e, r.keep (ext_new hp) ?_⟩
      obtain ⟨w, q, _⟩ := r.some
      exact upd_ne (ne_of_none q hp)
    · rw [List.getElem?_append_right (by omega)] at h
      have hz : n = st.length := by
        have := (List.getElem?_eq_some_iff.mp h).1
        simp at this; omega
      subst hz
      simp at h
      subst h
      exact ⟨p, by rw [List.getElem?_append_right (by rw [R.len]; exact Nat.le_refl _)]; simp [R.len], ho⟩
theorem ext_set {n : Nat} {a : Addr} {o : HO} (R : RelH K ι H st) (h : ι[n]? = some a) : Ext ι H ι (L2.upd H a o) := by
  obtain ⟨u, _, r⟩ := R.get h
  obtain ⟨w, q, _, nt, nf⟩ := r.some
  refine ⟨List.prefix_refl _, fun b xs hb => ?_, fun b o u hb => ?_⟩
  · have nb : b ≠ a := fun z => nt xs (z ▸ hb)
    rw [upd_ne nb]; exact hb
  · have nb : b ≠ a := fun z => nf o u (z ▸ hb)
    rw [upd_ne nb]; exact hb
/-- an object of the store is changed -/
theorem RelH.set {n : Nat} {a : Addr} {o : HO} {mo : MO} (R : RelH K ι H st) (h : ι[n]? = some a) (ho : RepO K ι (L2.upd H a o) a mo) : RelH K ι (L2.upd H a o) (st.set n mo) := by
  refine ⟨by simp [R.len], R.nd, fun m u hm => ?_⟩
  by_cases e : n = m
  · subst e
    have hl : n < st.length := by rw [← R.len]; exact (List.getElem?_eq_some_iff.mp h).1
    rw [List.getElem?_set_self hl] at hm
    cases hm
    exact ⟨a, h, ho⟩
  · rw [List.getElem?_set_ne e] at hm
    obtain ⟨b, e1, r⟩ := R.at_ m u hm
    refine ⟨b, e1, r.keep (ext_set R h) (upd_ne fun z => ?_)⟩
    subst z
    exact e (L2.nd_ix R.nd h e1)
/-- the first numbers alone -/
theorem RelH.cut {st0 st' : Store} (R : RelH K ι' H st') (hp : ι <+: ι') (hl : st0.length = ι.length) (h : ∀ (n : Nat) (o : MO), st0[n]? = some o → st'[n]? = some o ∧ o.low ι.length = true) : RelH K ι H st0 := by
  refine ⟨hl.symm, R.nd.sublist hp.sublist, fun n o e => ?_⟩
  obtain ⟨e1, l⟩ := h n o e
  obtain ⟨a, e2, r⟩ := R.at_ n o e1
  refine ⟨a, ?_, r.cut hp l⟩
  have hn : n < ι.length := by rw [← hl]; exact (List.getElem?_eq_some_iff.mp e).1
  obtain ⟨t, rfl⟩ := hp
  rw [List.getElem?_append_left hn] at e2
  exact e2
/-! ### slots -/
structure RelE (K : PySem.W.Frag) (ι : List Addr) (H : Hp) (σ : L2.St) (ρ : Env1) : Prop where
  len : σ.length = ρ.length
  at_ : ∀ (i : Nat) (d : D), ρ[i]? = some (some d) → ∃ v, σ[i]? = some (some v) ∧ RepV K ι H v d
variable {σ : L2.St} {ρ : Env1}
theorem RelE.mono (R : RelE K ι H σ ρ) (e : Ext ι H ι' H') : RelE K ι' H' σ ρ :=
  ⟨R.len, fun i d h => let ⟨v, a, b⟩ := R.at_ i d h; ⟨v, a, b.mono e⟩⟩
theorem RelE.set {v : V} {d : D} (R : RelE K ι H σ ρ) (r : RepV K ι H v d) (i : Nat) : RelE K ι H (σ.set i (some v)) (ρ.set i (some d)) := by
  refine ⟨by simp [R.len], fun j x h => ?_⟩
  by_cases e : i = j
  · subst e
    have hl : i < ρ.length := by
      have := (List.getElem?_eq_some_iff.mp h).1
      simpa using this
    rw [List.getElem?_set_self hl] at h
    cases h
    exact ⟨v, by rw [List.getElem?_set_self (by rw [R.len]; exact hl)], r⟩
  · rw [List.getElem?_set_ne e] at h
    obtain ⟨u, a, b⟩ := R.at_ j x h
    exact ⟨u, by rw [List.getElem?_set_ne e]; exact a, b⟩
def wipeE (ρ : Env1) : List Nat → Env1
  | [] => ρ
  | v :: vs => (wipeE ρ vs).set v none
theorem RelE.unset (R : RelE K ι H σ ρ) (i : Nat) : RelE K ι H (σ.set i none) (ρ.set i none) := by
  refine ⟨by simp [R.len], fun j x h => ?_⟩
  by_cases e : i = j
  · subst e
    have hl : i < ρ.length := by
      have := (List.getElem?_eq_some_iff.mp h).1
      simpa using this
    rw [List.getElem?_set_self hl] at h
    cases h
  · rw [List.getElem?_set_ne e] at h
    obtain ⟨u, a, b⟩ := R.at_ j x h
    exact ⟨u, by rw [List.getElem?_set_ne e]; exact a, b⟩
theorem RelE.wipe (R : RelE K ι H σ ρ) : ∀ vs : List Nat, RelE K ι H (L2.wipe σ vs) (wipeE ρ vs)
  | [] => R
  | v :: vs => (RelE.wipe R vs).unset v
theorem RelE.start {vs : List V} {ds : List D} (n : Nat) (r : RepVs K ι H vs ds) : RelE K ι H (vs.map some ++ List.replicate (n - vs.length) none) (ds.map some ++ List.replicate (n - ds.length) none) := by
  have hl := r.length
  refine ⟨by simp [hl], fun i d h => ?_⟩
  by_cases hi : i < ds.length
  · rw [List.getElem?_append_left (by simpa using hi), List.getElem?_map] at h
    cases q : ds[i]? with
    | none => rw [q] at h; simp at h
    | some x =>
      rw [q] at h; simp at h; subst h
      obtain ⟨v, e, rv⟩ := r.get q
      exact ⟨v, by rw [List.getElem?_append_left (by simpa [hl] using hi), List.getElem?_map, e]; rfl, rv⟩
  · rw [List.getElem?_append_right (by simpa using hi), List.getElem?_replicate] at h
    split at h <;> cases h
end Dl
set_option Elab.async false
set_option linter.all false
set_option maxRecDepth 100000
set_option autoImplicit false
/-! Dl2: expressions as functions of data -/
namespace Dl
open PySem PySem.Spec PyProof.Rows L2
abbrev Ev := Env1 → M D
abbrev Ea := Env1 → M (List D)
abbrev Et := Env1 → M Bool
def DE (K : PySem.W.Frag) (t : TE) (f : Ev) : Prop := ∀ (ι : List Addr) (σ : L2.St) (H : Hp) (ρ : Env1) (st : Store) (d : D) (st' : Store) (Q : VK), RelH K ι H st → RelE K ι H σ ρ → f ρ st = some (d, st') →
  (∀ v H' ι', Ext ι H ι' H' → RelH K ι' H' st' → RepV K ι' H' v d → Q v H') → t σ H Q
def DA (K : PySem.W.Frag) (t : TA) (f : Ea) : Prop := ∀ (ι : List Addr) (σ : L2.St) (H : Hp) (ρ : Env1) (st : Store) (ds : List D) (st' : Store) (Q : List V → Hp → Prop), RelH K ι H st → RelE K ι H σ ρ → f ρ st = some (ds, st') →
  (∀ vs H' ι', Ext ι H ι' H' → RelH K ι' H' st' → RepVs K ι' H' vs ds → Q vs H') → t σ H Q
def DT (K : PySem.W.Frag) (t : TT) (f : Et) : Prop := ∀ (ι : List Addr) (σ : L2.St) (H : Hp) (ρ : Env1) (st : Store) (b : Bool) (st' : Store) (Q : Bool → Hp → Prop), RelH K ι H st → RelE K ι H σ ρ → f ρ st = some (b, st') →
  (∀ H' ι', Ext ι H ι' H' → RelH K ι' H' st' → Q b H') → t σ H Q
/-- the widest readings of such functions -/
def tE (K : PySem.W.Frag) (f : Ev) : TE := fun σ H Q => ∃ (ι : List Addr) (ρ : Env1) (st : Store) (d : D) (st' : Store), RelH K ι H st ∧ RelE K ι H σ ρ ∧ f ρ st = some (d, st') ∧ ∀ v H' ι', Ext ι H ι' H' → RelH K ι' H' st' → RepV K ι' H' v d → Q v H'
def tA (K : PySem.W.Frag) (f : Ea) : TA := fun σ H Q => ∃ (ι : List Addr) (ρ : Env1) (st : Store) (ds : List D) (st' : Store), RelH K ι H st ∧ RelE K ι H σ ρ ∧ f ρ st = some (ds, st') ∧ ∀ vs H' ι', Ext ι H ι' H' → RelH K ι' H' st' → RepVs K ι' H' vs ds → Q vs H'
def tT (K : PySem.W.Frag) (f : Et) : TT := fun σ H Q => ∃ (ι : List Addr) (ρ : Env1) (st : Store) (b : Bool) (st' : Store), RelH K ι H st ∧ RelE K ι H σ ρ ∧ f ρ st = some (b, st') ∧ ∀ H' ι', Ext ι H ι' H' → RelH K ι' H' st' → Q b H'
theorem tE_can (K : PySem.W.Frag) (f : Ev) : DE K (tE K f) f := fun ι σ H ρ st d st' Q R E e q => ⟨ι, ρ, st, d, st', R, E, e, q⟩
theorem tA_can (K : PySem.W.Frag) (f : Ea) : DA K (tA K f) f := fun ι σ H ρ st d st' Q R E e q => ⟨ι, ρ, st, d, st', R, E, e, q⟩
theorem tT_can (K : PySem.W.Frag) (f : Et) : DT K (tT K f) f := fun ι σ H ρ st d st' Q R E e q => ⟨ι, ρ, st, d, st', R, E, e, q⟩
theorem DE.all {K : PySem.W.Frag} {t : TE} {f : Ev} (h : DE K t f) {σ : L2.St} {H : Hp} {Q : VK} (q : tE K f σ H Q) : t σ H Q := by
  obtain ⟨ι, ρ, st, d, st', R, E, e, q⟩ := q
  exact h ι σ H ρ st d st' Q R E e q
theorem DA.all {K : PySem.W.Frag} {t : TA} {f : Ea} (h : DA K t f) {σ : L2.St} {H : Hp} {Q : List V → Hp → Prop} (q : tA K f σ H Q) : t σ H Q := by
  obtain ⟨ι, ρ, st, d, st', R, E, e, q⟩ := q
  exact h ι σ H ρ st d st' Q R E e q
theorem DT.all {K : PySem.W.Frag} {t : TT} {f : Et} (h : DT K t f) {σ : L2.St} {H : Hp} {Q : Bool → Hp → Prop} (q : tT K f σ H Q) : t σ H Q := by
  obtain ⟨ι, ρ, st, d, st', R, E, e, q⟩ := q
  exact h ι σ H ρ st d st' Q R E e q
abbrev PED (X : Cx) (e : Expr) (f : Ev) : Prop := PE X e (tE X.K f)
abbrev PAD (X : Cx) (es : List Expr) (f : Ea) : Prop := PA X es (tA X.K f)
abbrev PTD (X : Cx) (e : Expr) (f : Et) : Prop := PT X e (tT X.K f)
abbrev PWD (X : Cx) (e : Expr) (f : Et) : Prop := PW X e (tT X.K f)
theorem ped_of {X : Cx} {e : Expr} {t : TE} {f : Ev} (p : PE X e t) (h : DE X.K t f) : PED X e f := ⟨fun pins s σ H Q I q => p.run pins s σ H Q I (h.all q)⟩
theorem pad_of {X : Cx} {e : List Expr} {t : TA} {f : Ea} (p : PA X e t) (h : DA X.K t f) : PAD X e f := ⟨fun pos pins s σ H Q I q => p.run pos pins s σ H Q I (h.all q)⟩
theorem ptd_of {X : Cx} {e : Expr} {t : TT} {f : Et} (p : PT X e t) (h : DT X.K t f) : PTD X e f := ⟨fun pins s σ H Q I q => p.run pins s σ H Q I (h.all q)⟩
theorem pwd_of {X : Cx} {e : Expr} {t : TT} {f : Et} (p : PW X e t) (h : DT X.K t f) : PWD X e f := ⟨fun wh pins s σ H Q I q => p.run wh pins s σ H Q I (h.all q)⟩
/-- readings of operators, of calls by values -/
def Op2 (K : PySem.W.Frag) (r : R2) (g : D → D → M D) : Prop := ∀ (ι : List Addr) (H : Hp) (st : Store) (x y : V) (a b d : D) (st' : Store) (Q : VK), RelH K ι H st → RepV K ι H x a → RepV K ι H y b → g a b st = some (d, st') →
  (∀ v H' ι', Ext ι H ι' H' → RelH K ι' H' st' → RepV K ι' H' v d → Q v H') → r x y H Q
def CallD (K : PySem.W.Frag) (r : List V → Hp → VK → Prop) (g : List D → M D) : Prop := ∀ (ι : List Addr) (H : Hp) (st : Store) (vs : List V) (ds : List D) (d : D) (st' : Store) (Q : VK), RelH K ι H st → RepVs K ι H vs ds → g ds st = some (d, st') →
  (∀ v H' ι', Ext ι H ι' H' → RelH K ι' H' st' → RepV K ι' H' v d → Q v H') → r vs H Q
/-! ### what the functions are made of -/
def eVar (i : Nat) : Ev := fun ρ => match ρ[i]? with
  | some (some d) => M.ret d
  | _ => M.bad
def eC (d : D) : Ev := fun _ => M.ret d
def eOp2 (g : D → D → M D) (a b : Ev) : Ev := fun ρ => M.bnd (a ρ) fun x => M.bnd (b ρ) fun y => g x y
def eOp1 (g : D → M D) (a : Ev) : Ev := fun ρ => M.bnd (a ρ) g
def aNil : Ea := fun _ => M.ret []
def aCons (a : Ev) (r : Ea) : Ea := fun ρ => M.bnd (a ρ) fun x => M.bnd (r ρ) fun xs => M.ret (x :: xs)
def mTup (ds : List D) : M D := if ds.length ≤ sizeLine then M.ret (.tup ds) else M.bad
def mNew (o : MO) : M D := fun st => some (.ref st.length, st ++ [o])
def mLst (ds : List D) : M D := if ds.length ≤ sizeLine then mNew (.lst ds) else M.bad
def eTup (a : Ea) : Ev := fun ρ => M.bnd (a ρ) mTup
def eLst (a : Ea) : Ev := fun ρ => M.bnd (a ρ) mLst
def eCB (g : List D → M D) (a : Ea) : Ev := fun ρ => M.bnd (a ρ) g
def mBool : D → M Bool
  | .bl b => M.ret b
  | _ => M.bad
def tV (a : Ev) : Et := fun ρ => M.bnd (a ρ) mBool
def tAndD (a b : Et) : Et := fun ρ => M.bnd (a ρ) fun c => if c = true then b ρ else M.ret false
def tOrD (a b : Et) : Et := fun ρ => M.bnd (a ρ) fun c => if c = true then M.ret true else b ρ
def tNotD (a : Et) : Et := fun ρ => M.bnd (a ρ) fun c => M.ret (!c)
def eAnd (a b : Ev) : Ev := fun ρ => M.bnd (a ρ) fun x => match x with
  | .bl true => b ρ
  | .bl false => M.ret (.bl false)
  | _ => M.bad
def eOr (a b : Ev) : Ev := fun ρ => M.bnd (a ρ) fun x => match x with
  | .bl true => M.ret (.bl true)
  | .bl false => b ρ
  | _ => M.bad
def eNot (a : Ev) : Ev := fun ρ => M.bnd (a ρ) fun x => match x with
  | .bl c => M.ret (.bl (!c))
  | _ => M.bad
def eIf (c : Et) (a b : Ev) : Ev := fun ρ => M.bnd (c ρ) fun k => if k = true then a ρ else b ρ
section
variable {K : PySem.W.Frag}
theorem de_var (i : Nat) : DE K (tVar i) (eVar i) := by
  intro ι σ H ρ st d st' Q R E h q
  unfold eVar at h
  cases z : ρ[i]? with
  | none => rw [z] at h; cases h
  | some o =>
    rw [z] at h
    cases o with
    | none => cases h
    | some x =>
      cases h
      obtain ⟨v, e1, r⟩ := E.at_ i _ z
      exact ⟨v, e1, q v H ι (Ext.refl _ _) R r⟩
theorem de_c {v : V} {d : D} (h : ∀ ι H, RepV K ι H v d) : DE K (tC v) (eC d) := by
  intro ι σ H ρ st d' st' Q R E e q
  cases e
  exact q v H ι (Ext.refl _ _) R (h ι H)
theorem da_nil : DA K tNil aNil := by
  intro ι σ H ρ st ds st' Q R E e q
  cases e
  exact q [] H ι (Ext.refl _ _) R .nil
theorem da_cons {ta : TE} {tr : TA} {fa : Ev} {fr : Ea} (ha : DE K ta fa) (hr : DA K tr fr) : DA K (tCons ta tr) (aCons fa fr) := by
  intro ι σ H ρ st ds st' Q R E e q
  obtain ⟨x, st1, e1, e⟩ := M.bnd_some e
  obtain ⟨xs, st2, e2, e⟩ := M.bnd_some e
  cases e
  refine ha ι σ H ρ st x st1 _ R E e1 fun v H1 ι1 X1 R1 r1 => ?_
  refine hr ι1 σ H1 ρ st1 xs _ _ R1 (E.mono X1) e2 fun vs H2 ι2 X2 R2 r2 => ?_
  exact q _ H2 ι2 (X1.trans X2) R2 (.cons (r1.mono X2) r2)
theorem de_op2 {r : R2} {g : D → D → M D} {ta tb : TE} {fa fb : Ev} (hg : Op2 K r g) (ha : DE K ta fa) (hb : DE K tb fb) : DE K (tOp r ta tb) (eOp2 g fa fb) := by
  intro ι σ H ρ st d st' Q R E e q
  obtain ⟨x, st1, e1, e⟩ := M.bnd_some e
  obtain ⟨y, st2, e2, e⟩ := M.bnd_some e
  refine ha ι σ H ρ st x st1 _ R E e1 fun v H1 ι1 X1 R1 r1 => ?_
  refine hb ι1 σ H1 ρ st1 y st2 _ R1 (E.mono X1) e2 fun u H2 ι2 X2 R2 r2 => ?_
  exact hg ι2 H2 st2 v u x y d st' Q R2 (r1.mono X2) r2 e fun z H3 ι3 X3 R3 r3 => q z H3 ι3 ((X1.trans X2).trans X3) R3 r3
theorem de_op1 {r : V → Hp → VK → Prop} {g : D → M D} {ta : TE} {fa : Ev} (hg : ∀ (ι : List Addr) (H : Hp) (st : Store) (x : V) (a d : D) (st' : Store) (Q : VK), RelH K ι H st → RepV K ι H x a → g a st = some (d, st') →
    (∀ v H' ι', Ext ι H ι' H' → RelH K ι' H' st' → RepV K ι' H' v d → Q v H') → r x H Q) (ha : DE K ta fa) : DE K (tUn r ta) (eOp1 g fa) := by
  intro ι σ H ρ st d st' Q R E e q
  obtain ⟨x, st1, e1, e⟩ := M.bnd_some e
  refine ha ι σ H ρ st x st1 _ R E e1 fun v H1 ι1 X1 R1 r1 => ?_
  exact hg ι1 H1 st1 v x d st' Q R1 r1 e fun z H3 ι3 X3 R3 r3 => q z H3 ι3 (X1.trans X3) R3 r3
theorem de_cb {r : List V → Hp → VK → Prop} {g : List D → M D} {ta : TA} {fa : Ea} (hg : CallD K r g) (ha : DA K ta fa) : DE K (tCB r ta) (eCB g fa) := by
  intro ι σ H ρ st d st' Q R E e q
  obtain ⟨xs, st1, e1, e⟩ := M.bnd_some e
  refine ha ι σ H ρ st xs st1 _ R E e1 fun vs H1 ι1 X1 R1 r1 => ?_
  exact hg ι1 H1 st1 vs xs d st' Q R1 r1 e fun z H3 ι3 X3 R3 r3 => q z H3 ι3 (X1.trans X3) R3 r3
theorem new_tup {ι : List Addr} {H : Hp} {st st' : Store} {ds : List D} {d : D} {vs : List V} {Q : VK} (R : RelH K ι H st) (r : RepVs K ι H vs ds) (e : mTup ds st = some (d, st'))
    (q : ∀ v H' ι', Ext ι H ι' H' → RelH K ι' H' st' → RepV K ι' H' v d → Q v H') : vs.length ≤ sizeLine ∧ ∀ p, H p = none → Q (.ref p) (upd H p (.tup vs)) := by
  unfold mTup at e
  split at e
  · rename_i hl
    cases e
    refine ⟨by rw [r.length]; exact hl, fun p hp => ?_⟩
    exact q _ _ ι (ext_upd hp) (R.upd hp) (.tup upd_same (r.mono (ext_upd hp)))
  · cases e
theorem new_lst {ι : List Addr} {H : Hp} {st st' : Store} {ds : List D} {d : D} {vs : List V} {Q : VK} (R : RelH K ι H st) (r : RepVs K ι H vs ds) (e : mNew (.lst ds) st = some (d, st'))
    (q : ∀ v H' ι', Ext ι H ι' H' → RelH K ι' H' st' → RepV K ι' H' v d → Q v H') : ∀ p, H p = none → Q (.ref p) (upd H p (.lst vs)) := by
  cases e
  intro p hp
  have X : Ext ι H (ι ++ [p]) (upd H p (.lst vs)) := ext_new hp
  exact q _ _ (ι ++ [p]) X (R.new hp ⟨vs, upd_same, r.mono X⟩) (.ref (by rw [← R.len, List.getElem?_append_right (Nat.le_refl _)]; simp))
theorem de_tup {ta : TA} {fa : Ea} (ha : DA K ta fa) : DE K (tTup ta) (eTup fa) := by
  intro ι σ H ρ st d st' Q R E e q
  obtain ⟨xs, st1, e1, e⟩ := M.bnd_some e
  refine ha ι σ H ρ st xs st1 _ R E e1 fun vs H1 ι1 X1 R1 r1 => ?_
  exact new_tup R1 r1 e fun z H3 ι3 X3 R3 r3 => q z H3 ι3 (X1.trans X3) R3 r3
theorem de_lst {ta : TA} {fa : Ea} (ha : DA K ta fa) : DE K (tLst ta) (eLst fa) := by
  intro ι σ H ρ st d st' Q R E e q
  obtain ⟨xs, st1, e1, e⟩ := M.bnd_some e
  refine ha ι σ H ρ st xs st1 _ R E e1 fun vs H1 ι1 X1 R1 r1 => ?_
  unfold mLst at e
  split at e
  · rename_i hl
    exact ⟨by rw [r1.length]; exact hl, new_lst R1 r1 e fun z H3 ι3 X3 R3 r3 => q z H3 ι3 (X1.trans X3) R3 r3⟩
  · cases e
theorem mBool_some {d : D} {b : Bool} {st st' : Store} (h : mBool d st = some (b, st')) : d = .bl b ∧ st' = st := by
  cases d <;> first | (cases h; exact ⟨rfl, rfl⟩) | cases h
theorem dt_v {ta : TE} {fa : Ev} (ha : DE K ta fa) : DT K (tTest ta) (tV fa) := by
  intro ι σ H ρ st b st' Q R E e q
  obtain ⟨x, st1, e1, e⟩ := M.bnd_some e
  obtain ⟨rfl, rfl⟩ := mBool_some e
  refine ha ι σ H ρ st _ st' _ R E e1 fun v H1 ι1 X1 R1 r1 => ?_
  cases r1
  exact ⟨b, rfl, q H1 ι1 X1 R1⟩
theorem dt_and {ta tb : TT} {fa fb : Et} (ha : DT K ta fa) (hb : DT K tb fb) : DT K (tAnd ta tb) (tAndD fa fb) := by
  intro ι σ H ρ st b st' Q R E e q
  obtain ⟨c, st1, e1, e⟩ := M.bnd_some e
  refine ha ι σ H ρ st c st1 _ R E e1 fun H1 ι1 X1 R1 => ?_
  cases c with
  | true => exact hb ι1 σ H1 ρ st1 b st' Q R1 (E.mono X1) e fun H2 ι2 X2 R2 => q H2 ι2 (X1.trans X2) R2
  | false => cases e; exact q H1 ι1 X1 R1
theorem dt_or {ta tb : TT} {fa fb : Et} (ha : DT K ta fa) (hb : DT K tb fb) : DT K (tOr ta tb) (tOrD fa fb) := by
  intro ι σ H ρ st b st' Q R E e q
  obtain ⟨c, st1, e1, e⟩ := M.bnd_some e
  refine ha ι σ H ρ st c st1 _ R E e1 fun H1 ι1 X1 R1 => ?_
  cases c with
  | false => exact hb ι1 σ H1 ρ st1 b st' Q R1 (E.mono X1) e fun H2 ι2 X2 R2 => q H2 ι2 (X1.trans X2) R2
  | true => cases e; exact q H1 ι1 X1 R1
theorem dt_not {ta : TT} {fa : Et} (ha : DT K ta fa) : DT K (tNot ta) (tNotD fa) := by
  intro ι σ H ρ st b st' Q R E e q
  obtain ⟨c, st1, e1, e⟩ := M.bnd_some e
  cases e
  exact ha ι σ H ρ st c _ _ R E e1 fun H1 ι1 X1 R1 => q H1 ι1 X1 R1
theorem de_and {ta tb : TE} {fa fb : Ev} (ha : DE K ta fa) (hb : DE K tb fb) : DE K (tAndV ta tb) (eAnd fa fb) := by
  intro ι σ H ρ st d st' Q R E e q
  obtain ⟨x, st1, e1, e⟩ := M.bnd_some e
  refine ha ι σ H ρ st x st1 _ R E e1 fun v H1 ι1 X1 R1 r1 => ?_
  cases x with
  | bl c =>
    cases r1
    refine ⟨c, rfl, ?_⟩
    cases c with
    | true => exact hb ι1 σ H1 ρ st1 d st' Q R1 (E.mono X1) e fun v H2 ι2 X2 R2 r2 => q v H2 ι2 (X1.trans X2) R2 r2
    | false => cases e; exact q _ H1 ι1 X1 R1 (.bl false)
  | _ => cases e
theorem de_or {ta tb : TE} {fa fb : Ev} (ha : DE K ta fa) (hb : DE K tb fb) : DE K (tOrV ta tb) (eOr fa fb) := by
  intro ι σ H ρ st d st' Q R E e q
  obtain ⟨x, st1, e1, e⟩ := M.bnd_some e
  refine ha ι σ H ρ st x st1 _ R E e1 fun v H1 ι1 X1 R1 r1 => ?_
  cases x with
  | bl c =>
    cases r1
    refine ⟨c, rfl, ?_⟩
    cases c with
    | false => exact hb ι1 σ H1 ρ st1 d st' Q R1 (E.mono X1) e fun v H2 ι2 X2 R2 r2 => q v H2 ι2 (X1.trans X2) R2 r2
    | true => cases e; exact q _ H1 ι1 X1 R1 (.bl true)
  | _ => cases e
theorem de_not {ta : TE} {fa : Ev} (ha : DE K ta fa) : DE K (tNotV ta) (eNot fa) := by
  intro ι σ H ρ st d st' Q R E e q
  obtain ⟨x, st1, e1, e⟩ := M.bnd_some e
  refine ha ι σ H ρ st x st1 _ R E e1 fun v H1 ι1 X1 R1 r1 => ?_
  cases x with
  | bl c =>
    cases r1
    cases e
    exact ⟨c, rfl, q _ H1 ι1 X1 R1 (.bl _)⟩
  | _ => cases e
theorem de_if {tc : TT} {ta tb : TE} {fc : Et} {fa fb : Ev} (hc : DT K tc fc) (ha : DE K ta fa) (hb : DE K tb fb) : DE K (tIf tc ta tb) (eIf fc fa fb) := by
  intro ι σ H ρ st d st' Q R E e q
  obtain ⟨c, st1, e1, e⟩ := M.bnd_some e
  refine hc ι σ H ρ st c st1 _ R E e1 fun H1 ι1 X1 R1 => ?_
  cases c with
  | true => exact ha ι1 σ H1 ρ st1 d st' Q R1 (E.mono X1) e fun v H2 ι2 X2 R2 r2 => q v H2 ι2 (X1.trans X2) R2 r2
  | false => exact hb ι1 σ H1 ρ st1 d st' Q R1 (E.mono X1) e fun v H2 ι2 X2 R2 r2 => q v H2 ι2 (X1.trans X2) R2 r2
/-! ### operators -/
def dI2 (C : Int → Int → Prop) [∀ i j, Decidable (C i j)] (g : Int → Int → D) : D → D → M D
  | .int i, .int j => if C i j then M.ret (g i j) else M.bad
  | _, _ => M.bad
theorem op2_I {C : Int → Int → Prop} [∀ i j, Decidable (C i j)] {g : Int → Int → V} {g' : Int → Int → D} (hg : ∀ ι H i j, RepV K ι H (g i j) (g' i j)) : Op2 K (rI C g) (dI2 C g') := by
  intro ι H st x y a b d st' Q R rx ry e q
  cases a with
  | int i =>
    cases b with
    | int j =>
      cases rx; cases ry
      have e : (if C i j then M.ret (g' i j) else M.bad) st = some (d, st') := e
      split at e
      · rename_i hc
        cases e
        exact ⟨i, j, rfl, rfl, hc, q _ H ι (Ext.refl _ _) R (hg ι H i j)⟩
      · cases e
    | _ => cases e
  | _ => cases e
theorem op2_I0 {g : Int → Int → V} {g' : Int → Int → D} (hg : ∀ ι H i j, RepV K ι H (g i j) (g' i j)) : Op2 K (rI0 g) (dI2 (fun _ _ => True) g') := by
  intro ι H st x y a b d st' Q R rx ry e q
  cases a with
  | int i =>
    cases b with
    | int j =>
      cases rx; cases ry
      have e : (if True then M.ret (g' i j) else M.bad) st = some (d, st') := e
      rw [if_pos trivial] at e
      cases e
      exact ⟨i, j, rfl, rfl, q _ H ι (Ext.refl _ _) R (hg ι H i j)⟩
    | _ => cases e
  | _ => cases e
instance (i j : Int) : Decidable (CMulW i j) := inferInstanceAs (Decidable (_ < _))
instance (i j : Int) : Decidable (CDivW i j) := inferInstanceAs (Decidable (_ ∧ _))
instance (i j : Int) : Decidable (CPow i j) := inferInstanceAs (Decidable (_ ∧ _ ∧ _))
abbrev dSub := dI2 (fun _ _ => True) fun i j => .int (i - j)
abbrev dMul := dI2 CMulW fun i j => .int (i * j)
abbrev dDiv := dI2 CDivW fun i j => .int (i / j)
abbrev dMod := dI2 (fun _ j => 0 < j) fun i j => .int (i % j)
abbrev dPow := dI2 CPow fun i j => .int (i ^ j.toNat)
abbrev dLt := dI2 (fun _ _ => True) fun i j => .bl (decide (i < j))
abbrev dLe := dI2 (fun _ _ => True) fun i j => .bl (decide (i ≤ j))
abbrev dGt := dI2 (fun _ _ => True) fun i j => .bl (decide (j < i))
abbrev dGe := dI2 (fun _ _ => True) fun i j => .bl (decide (j ≤ i))
def dAdd : D → D → M D
  | .int i, .int j => M.ret (.int (i + j))
  | .str i, .str j => if i.length + j.length ≤ sizeLine then M.ret (.str (i ++ j)) else M.bad
  | .tup xs, .tup ys => if xs.length + ys.length ≤ sizeLine then M.ret (.tup (xs ++ ys)) else M.bad
  | .ref m, .ref n => fun st => match st[m]?, st[n]? with
    | some (.lst xs), some (.lst ys) => if xs.length + ys.length ≤ sizeLine then mNew (.lst (xs ++ ys)) st else none
    | _, _ => none
  | _, _ => M.bad
abbrev rAddD (K : PySem.W.Frag) : R2 := fun x y H Q => rI0 (fun i j => .int (i + j)) x y H Q ∨ (∃ i j, x = .str i ∧ y = .str j ∧ i.length + j.length ≤ sizeLine ∧ Q (.str (i ++ j)) H) ∨ rCatA K x y H Q ∨ rCat x y H Q
theorem op_addD {X : Cx} : OpR X (binaryOp .Add) (rAddD X.K) := op_add.or (op_add_str.or (op_catA.or op_cat))
theorem RelH.lst {ι : List Addr} {H : Hp} {st : Store} {a : Addr} {n : Nat} {xs : List D} (R : RelH K ι H st) (h : ι[n]? = some a) (e : st[n]? = some (.lst xs)) : ∃ vs, H a = some (.lst vs) ∧ RepVs K ι H vs xs := by
  obtain ⟨a', e1, r⟩ := R.at_ n _ e
  rw [h] at e1; cases e1
  exact r
theorem op2_add : Op2 K (rAddD K) dAdd := by
  intro ι H st x y a b d st' Q R rx ry e q
  cases a with
  | int i =>
    cases b with
    | int j =>
      cases rx; cases ry; cases e
      exact .inl ⟨i, j, rfl, rfl, q _ H ι (Ext.refl _ _) R (.int _)⟩
    | _ => cases e
  | str i =>
    cases b with
    | str j =>
      cases rx; cases ry
      have e : (if i.length + j.length ≤ sizeLine then M.ret (D.str (i ++ j)) else M.bad) st = some (d, st') := e
      split at e
      · rename_i hl
        cases e
        exact .inr (.inl ⟨i, j, rfl, rfl, hl, q _ H ι (Ext.refl _ _) R (.str _)⟩)
      · cases e
    | _ => cases e
  | tup xs =>
    cases b with
    | tup ys =>
      cases rx with
      | tup ha ra =>
        cases ry with
        | tup hb rb =>
          have e : (if xs.length + ys.length ≤ sizeLine then M.ret (D.tup (xs ++ ys)) else M.bad) st = some (d, st') := e
          split at e
          · rename_i hl
            cases e
            refine .inr (.inr (.inl ⟨_, _, _, _, rfl, rfl, .of ha, .of hb, by rw [ra.length, rb.length]; exact hl, fun z => ?_, fun _ z => ?_, fun _ _ p hp => ?_⟩))
            · subst z
              cases ra
              exact q _ H ι (Ext.refl _ _) R (.tup hb rb)
            · subst z
              cases rb
              rw [List.append_nil] at q
              exact q _ H ι (Ext.refl _ _) R (.tup ha ra)
            · exact q _ _ ι (ext_upd hp) (R.upd hp) (.tup upd_same ((ra.app rb).mono (ext_upd hp)))
          · cases e
    | _ => cases e
  | ref m =>
    cases b with
    | ref n =>
      cases rx with
      | ref ha =>
        cases ry with
        | ref hb =>
          have e : (match st[m]?, st[n]? with
            | some (.lst xs), some (.lst ys) => if xs.length + ys.length ≤ sizeLine then mNew (.lst (xs ++ ys)) st else none
            | _, _ => none) = some (d, st') := e
          split at e
          · rename_i xs ys ea eb
            split at e
            · rename_i hl
              obtain ⟨vs, h1, r1⟩ := R.lst ha ea
              obtain ⟨ws, h2, r2⟩ := R.lst hb eb
              exact .inr (.inr (.inr ⟨_, _, _, _, rfl, rfl, h1, h2, by rw [r1.length, r2.length]; exact hl, new_lst R (r1.app r2) e q⟩))
            · cases e
          · cases e
    | _ => cases e
  | _ => cases e
/-! ### == of data at any depth -/
mutual
def toPyW (f : Nat → Option PyData) : D → Option PyData
  | .non => some .none
  | .bl b => some (.bool b)
  | .int i => some (.int i)
  | .str x => some (.str x)
  | .tup xs => (toPyWs f xs).map .tuple
  | .ref n => f n
  | .scr _ => none
  | .ty _ => none
def toPyWs (f : Nat → Option PyData) : List D → Option (List PyData)
  | [] => some []
  | x :: xs => (toPyW f x).bind fun p => (toPyWs f xs).map fun ps => p :: ps
end
def toPyN (st : Store) : Nat → D → Option PyData
  | 0 => toPyW fun _ => none
  | k + 1 => toPyW fun n => match st[n]? with
    | some (.lst xs) => (xs.mapM (toPyN st k)).map .list
    | _ => none
mutual
theorem toPyW_dp {ι : List Addr} {H : Hp} {f : Nat → Option PyData} (hf : ∀ n a p, ι[n]? = some a → f n = some p → Dp K H (.ref a) p) : ∀ {d : D} {v : V} {p : PyData}, RepV K ι H v d → toPyW f d = some p → Dp K H v p
  | .non, _, _, .non, e => by cases e; exact .non
  | .bl b, _, _, .bl _, e => by cases e; exact .bl b
  | .int i, _, _, .int _, e => by cases e; exact .int i
  | .str x, _, _, .str _, e => by cases e; exact .str x
  | .tup xs, _, _, .tup h r, e => by
    have e : (toPyWs f xs).map PyData.tuple = some _ := e
    cases z : toPyWs f xs with
    | none => rw [z] at e; cases e
    | some ps =>
      rw [z] at e
      cases e
      exact .tup (.of h) (toPyWs_dp hf r z)
  | .ref n, _, _, .ref h, e => hf n _ _ h e
  | .scr _, _, _, _, e => by cases e
  | .ty _, _, _, _, e => by cases e
theorem toPyWs_dp {ι : List Addr} {H : Hp} {f : Nat → Option PyData} (hf : ∀ n a p, ι[n]? = some a → f n = some p → Dp K H (.ref a) p) : ∀ {ds : List D} {vs : List V} {ps : List PyData}, RepVs K ι H vs ds → toPyWs f ds = some ps → DpAll K H vs ps
  | [], _, _, .nil, e => by cases e; exact .nil
  | x :: xs, _, _, .cons r t, e => by
    have e : ((toPyW f x).bind fun p => (toPyWs f xs).map fun ps => p :: ps) = some _ := e
    cases z : toPyW f x with
    | none => rw [z] at e; cases e
    | some p =>
      rw [z] at e
      cases z2 : toPyWs f xs with
      | none => rw [z2] at e; cases e
      | some ps =>
        rw [z2] at e
        cases e
        exact .cons (toPyW_dp hf r z) (toPyWs_dp hf t z2)
end
theorem mapM_dp {ι : List Addr} {H : Hp} {f : D → Option PyData} (hf : ∀ d v p, RepV K ι H v d → f d = some p → Dp K H v p) : ∀ {ds : List D} {vs : List V} {ps : List PyData}, RepVs K ι H vs ds → ds.mapM f = some ps → DpAll K H vs ps
  | [], _, _, .nil, e => by
    rw [List.mapM_nil] at e
    cases e; exact .nil
  | x :: xs, _, _, .cons r t, e => by
    rw [List.mapM_cons] at e
    cases z : f x with
    | none => rw [z] at e; cases e
    | some p =>
      rw [z] at e
      cases z2 : xs.mapM f with
      | none =>
        have e : (xs.mapM f >>= fun ps => pure (p :: ps)) = some _ := e
        rw [z2] at e; cases e
      | some ps =>
        have e : (xs.mapM f >>= fun ps => pure (p :: ps)) = some _ := e
        rw [z2] at e
        cases e
        exact .cons (hf _ _ _ r z) (mapM_dp hf t z2)
theorem toPyN_dp {ι : List Addr} {H : Hp} {st : Store} (R : RelH K ι H st) : ∀ (k : Nat) (d : D) (v : V) (p : PyData), RepV K ι H v d → toPyN st k d = some p → Dp K H v p
  | 0, d, v, p, r, e => toPyW_dp (fun _ _ _ _ z => by cases z) r e
  | k + 1, d, v, p, r, e => toPyW_dp (fun n a p h z => by
      split at z
      · rename_i xs es
        obtain ⟨vs, h1, r1⟩ := R.lst h es
        cases z2 : xs.mapM (toPyN st k) with
        | none => rw [z2] at z; cases z
        | some ps =>
          rw [z2] at z
          cases z
          exact .lst (.of h1) (mapM_dp (fun d v p r e => toPyN_dp R k d v p r e) r1 z2)
      · cases z) r e
def dEqB (neg : Bool) (a b : D) : M D := fun st => match toPyN st 12 a, toPyN st 12 b with
  | some p, some q => if SeqAt.shaped p = true ∧ SeqAt.shaped q = true then some (.bl (if neg then !PyData.eqv p q else PyData.eqv p q), st) else none
  | _, _ => none
abbrev dEq := dEqB false
abbrev dNe := dEqB true
theorem op2_eq : Op2 K (rEqD K) dEq := by
  intro ι H st x y a b d st' Q R rx ry e q
  unfold dEq dEqB at e
  split at e
  · rename_i p p' e1 e2
    split at e
    · rename_i hs
      cases e
      exact ⟨p, p', toPyN_dp R _ _ _ _ rx e1, toPyN_dp R _ _ _ _ ry e2, hs.1, hs.2, q _ H ι (Ext.refl _ _) R (.bl _)⟩
    · cases e
  · cases e
theorem op2_ne : Op2 K (rNeD K) dNe := by
  intro ι H st x y a b d st' Q R rx ry e q
  unfold dNe dEqB at e
  split at e
  · rename_i p p' e1 e2
    split at e
    · rename_i hs
      cases e
      exact ⟨p, p', toPyN_dp R _ _ _ _ rx e1, toPyN_dp R _ _ _ _ ry e2, hs.1, hs.2, q _ H ι (Ext.refl _ _) R (.bl _)⟩
    · cases e
  · cases e
end
end Dl
set_option Elab.async false
set_option linter.all false
set_option maxRecDepth 100000
set_option autoImplicit false
/-! Dl3: more operators, built-ins, by values -/
namespace Dl
open PySem PySem.Spec PyProof.Rows L2
variable {K : PySem.W.Frag}
/-! ### -x, is None -/
def dNeg : D → M D
  | .int i => M.ret (.int (-i))
  | _ => M.bad
theorem op1_neg (ι : List Addr) (H : Hp) (st : Store) (x : V) (a d : D) (st' : Store) (Q : VK) (R : RelH K ι H st) (r : RepV K ι H x a) (e : dNeg a st = some (d, st'))
    (q : ∀ v H' ι', Ext ι H ι' H' → RelH K ι' H' st' → RepV K ι' H' v d → Q v H') : rU (fun i => .int (-i)) x H Q := by
  cases a with
  | int i => cases r; cases e; exact ⟨i, rfl, q _ H ι (Ext.refl _ _) R (.int _)⟩
  | _ => cases e
def D.isN : D → Bool
  | .non => true
  | _ => false
def dIsN (neg : Bool) (a : D) : M D := M.ret (.bl (if neg then !a.isN else a.isN))
theorem RepV.isN {ι : List Addr} {H : Hp} {v : V} {a : D} (r : RepV K ι H v a) : decide (v = .non) = a.isN := by
  cases r <;> rfl
theorem de_isN {ta : TE} {fa : Ev} (ha : DE K ta fa) : DE K (tIsN ta) (eOp1 (dIsN false) fa) := by
  intro ι σ H ρ st d st' Q R E e q
  obtain ⟨x, st1, e1, e⟩ := M.bnd_some e
  cases e
  refine ha ι σ H ρ st x _ _ R E e1 fun v H1 ι1 X1 R1 r1 => ?_
  show Q (.bl (decide (v = .non))) H1
  rw [r1.isN]
  exact q _ H1 ι1 X1 R1 (.bl _)
theorem de_notN {ta : TE} {fa : Ev} (ha : DE K ta fa) : DE K (tNotN ta) (eOp1 (dIsN true) fa) := by
  intro ι σ H ρ st d st' Q R E e q
  obtain ⟨x, st1, e1, e⟩ := M.bnd_some e
  cases e
  refine ha ι σ H ρ st x _ _ R E e1 fun v H1 ι1 X1 R1 r1 => ?_
  show Q (.bl (!decide (v = .non))) H1
  rw [r1.isN]
  exact q _ H1 ι1 X1 R1 (.bl _)
/-- a test by tB -/
theorem dt_b {ta : TE} {fa : Ev} (ha : DE K ta fa) : DT K (tB ta) (tV fa) := by
  intro ι σ H ρ st b st' Q R E e q
  obtain ⟨x, st1, e1, e⟩ := M.bnd_some e
  obtain ⟨rfl, rfl⟩ := mBool_some e
  refine ha ι σ H ρ st _ st' _ R E e1 fun v H1 ι1 X1 R1 r1 => ?_
  cases r1
  exact ⟨b, rfl, q H1 ι1 X1 R1⟩
/-! ### a op b op c -/
def eChain (g g' : D → D → M D) (a b c : Ev) : Ev := fun ρ => M.bnd (a ρ) fun x => M.bnd (b ρ) fun y => M.bnd (g x y) fun z => match z with
  | .bl true => M.bnd (c ρ) fun w => g' y w
  | .bl false => M.ret (.bl false)
  | _ => M.bad
theorem de_chain {r r' : R2} {g g' : D → D → M D} {ta tb tc : TE} {fa fb fc : Ev} (hg : Op2 K r g) (hg' : Op2 K r' g') (ha : DE K ta fa) (hb : DE K tb fb) (hc : DE K tc fc) : DE K (tChain r r' ta tb tc) (eChain g g' fa fb fc) := by
  intro ι σ H ρ st d st' Q R E e q
  obtain ⟨x, st1, e1, e⟩ := M.bnd_some e
  obtain ⟨y, st2, e2, e⟩ := M.bnd_some e
  obtain ⟨z, st3, e3, e⟩ := M.bnd_some e
  refine ha ι σ H ρ st x st1 _ R E e1 fun v H1 ι1 X1 R1 r1 => ?_
  refine hb ι1 σ H1 ρ st1 y st2 _ R1 (E.mono X1) e2 fun u H2 ι2 X2 R2 r2 => ?_
  refine hg ι2 H2 st2 v u x y z st3 _ R2 (r1.mono X2) r2 e3 fun w H3 ι3 X3 R3 r3 => ?_
  cases z with
  | bl k =>
    cases r3
    refine ⟨k, rfl, ?_⟩
    cases k with
    | false => cases e; exact q _ H3 ι3 ((X1.trans X2).trans X3) R3 (.bl false)
    | true =>
      obtain ⟨w, st4, e4, e⟩ := M.bnd_some e
      refine hc ι3 σ H3 ρ st3 w st4 _ R3 (E.mono ((X1.trans X2).trans X3)) e4 fun w' H4 ι4 X4 R4 r4 => ?_
      exact hg' ι4 H4 st4 u w' y w d st' Q R4 (r2.mono (X3.trans X4)) r4 e fun z H5 ι5 X5 R5 r5 => q z H5 ι5 ((((X1.trans X2).trans X3).trans X4).trans X5) R5 r5
  | _ => cases e
/-! ### xs[i] -/
def dIx : D → D → M D
  | .tup xs, .int i => fun st => (atI xs i).map fun d => (d, st)
  | .ref n, .int i => fun st => match st[n]? with
    | some (.lst xs) => (atI xs i).map fun d => (d, st)
    | _ => none
  | .scr ns, .int i => fun st => (atI ns i).map fun k => (.int k, st)
  | _, _ => M.bad
theorem RepVs.atI {ι : List Addr} {H : Hp} {vs : List V} {ds : List D} {i : Int} {d : D} (r : RepVs K ι H vs ds) (h : L2.atI ds i = some d) : ∃ v, L2.atI vs i = some v ∧ RepV K ι H v d := by
  unfold L2.atI at h ⊢
  rw [r.length]
  cases e : ixN ds.length i with
  | none => rw [e] at h; cases h
  | some j =>
    rw [e] at h
    obtain ⟨v, h1, h2⟩ := r.get (i := j) h
    exact ⟨v, h1, h2⟩
theorem atI_map {α β : Type} (f : α → β) (xs : List α) (i : Int) : L2.atI (xs.map f) i = (L2.atI xs i).map f := by
  unfold L2.atI
  rw [List.length_map]
  cases ixN xs.length i with
  | none => rfl
  | some j => exact List.getElem?_map
theorem op2_ix : Op2 K (fun x y H Q => rIxL K x y H Q ∨ rIxT K x y H Q) dIx := by
  intro ι H st x y a b d st' Q R rx ry e q
  cases a with
  | tup xs =>
    cases b with
    | int i =>
      cases rx with
      | tup ha ra =>
        cases ry
        have e : (atI xs i).map (fun d => (d, st)) = some (d, st') := e
        cases z : atI xs i with
        | none => rw [z] at e; cases e
        | some w =>
          rw [z] at e
          cases e
          obtain ⟨v, h1, h2⟩ := ra.atI z
          exact .inr ⟨_, _, i, v, rfl, rfl, .of ha, h1, q v H ι (Ext.refl _ _) R h2⟩
    | _ => cases e
  | ref n =>
    cases b with
    | int i =>
      cases rx with
      | ref ha =>
        cases ry
        have e : (match st[n]? with
          | some (.lst xs) => (atI xs i).map fun d => (d, st)
          | _ => none) = some (d, st') := e
        split at e
        · rename_i xs ex
          obtain ⟨vs, h0, ra⟩ := R.lst ha ex
          cases z : atI xs i with
          | none => rw [z] at e; cases e
          | some w =>
            rw [z] at e
            cases e
            obtain ⟨v, h1, h2⟩ := ra.atI z
            exact .inl ⟨_, _, i, v, rfl, rfl, .of h0, h1, q v H ι (Ext.refl _ _) R h2⟩
        · cases e
    | _ => cases e
  | scr ns =>
    cases b with
    | int i =>
      cases rx with
      | scr ha =>
        cases ry
        have e : (atI ns i).map (fun k => (D.int k, st)) = some (d, st') := e
        cases z : atI ns i with
        | none => rw [z] at e; cases e
        | some w =>
          rw [z] at e
          cases e
          exact .inl ⟨_, _, i, .int w, rfl, rfl, ha.sq, by rw [atI_map, z]; rfl, q _ H ι (Ext.refl _ _) R (.int w)⟩
    | _ => cases e
  | _ => cases e
/-! ### xs[a:b] -/
abbrev Eo := Env1 → M (Option Int)
def oNone : Eo := fun _ => M.ret none
def oSome (a : Ev) : Eo := fun ρ => M.bnd (a ρ) fun x => match x with
  | .int i => M.ret (some i)
  | _ => M.bad
def DO (K : PySem.W.Frag) (t : TO) (f : Eo) : Prop := ∀ (ι : List Addr) (σ : L2.St) (H : Hp) (ρ : Env1) (st : Store) (b : Option Int) (st' : Store) (Q : Option Int → Hp → Prop), RelH K ι H st → RelE K ι H σ ρ → f ρ st = some (b, st') →
  (∀ H' ι', Ext ι H ι' H' → RelH K ι' H' st' → Q b H') → t σ H Q
def tO (K : PySem.W.Frag) (f : Eo) : TO := fun σ H Q => ∃ (ι : List Addr) (ρ : Env1) (st : Store) (b : Option Int) (st' : Store), RelH K ι H st ∧ RelE K ι H σ ρ ∧ f ρ st = some (b, st') ∧ ∀ H' ι', Ext ι H ι' H' → RelH K ι' H' st' → Q b H'
theorem tO_can (K : PySem.W.Frag) (f : Eo) : DO K (tO K f) f := fun ι σ H ρ st d st' Q R E e q => ⟨ι, ρ, st, d, st', R, E, e, q⟩
theorem DO.all {t : TO} {f : Eo} (h : DO K t f) {σ : L2.St} {H : Hp} {Q : Option Int → Hp → Prop} (q : tO K f σ H Q) : t σ H Q := by
  obtain ⟨ι, ρ, st, d, st', R, E, e, q⟩ := q
  exact h ι σ H ρ st d st' Q R E e q
theorem do_none : DO K tNoPart oNone := by
  intro ι σ H ρ st b st' Q R E e q
  cases e
  exact q H ι (Ext.refl _ _) R
theorem do_some {ta : TE} {fa : Ev} (ha : DE K ta fa) : DO K (tPart ta) (oSome fa) := by
  intro ι σ H ρ st b st' Q R E e q
  obtain ⟨x, st1, e1, e⟩ := M.bnd_some e
  refine ha ι σ H ρ st x st1 _ R E e1 fun v H1 ι1 X1 R1 r1 => ?_
  cases x with
  | int i => cases r1; cases e; exact ⟨i, rfl, q H1 ι1 X1 R1⟩
  | _ => cases e
def cutD {α : Type} (xs : List α) (lo hi : Option Int) : List α := (xs.drop (HT.sIx xs.length 0 lo)).take (HT.sIx xs.length xs.length hi - HT.sIx xs.length 0 lo)
theorem RepVs.cutD {ι : List Addr} {H : Hp} {vs : List V} {ds : List D} (lo hi : Option Int) (r : RepVs K ι H vs ds) : RepVs K ι H (cutV vs lo hi) (Dl.cutD ds lo hi) := by
  unfold cutV Dl.cutD
  rw [r.length]
  exact (r.dropN _).takeN _
def dSl (lo hi : Option Int) : D → M D
  | .tup xs => M.ret (.tup (cutD xs lo hi))
  | .ref n => fun st => match st[n]? with
    | some (.lst xs) => mNew (.lst (cutD xs lo hi)) st
    | _ => none
  | .str z => if z.length ≤ sizeLine then M.ret (.str (cutS z lo hi)) else M.bad
  | _ => M.bad
def eSl (a : Ev) (lo hi : Eo) : Ev := fun ρ => M.bnd (a ρ) fun x => M.bnd (lo ρ) fun l => M.bnd (hi ρ) fun h => dSl l h x
def rSlD (K : PySem.W.Frag) : V → Option Int → Option Int → Hp → VK → Prop := fun x lo hi H Q => rSlA K x lo hi H Q ∨ rSlL K x lo hi H Q ∨ ∃ z, x = .str z ∧ z.length ≤ sizeLine ∧ Q (.str (cutS z lo hi)) H
theorem sl_D {X : Cx} : SlR X (rSlD X.K) := sl_tupA.or (sl_list.or sl_str)
theorem de_sl {ta : TE} {tl th : TO} {fa : Ev} {fl fh : Eo} (ha : DE K ta fa) (hl : DO K tl fl) (hh : DO K th fh) : DE K (tSl (rSlD K) ta tl th) (eSl fa fl fh) := by
  intro ι σ H ρ st d st' Q R E e q
  obtain ⟨x, st1, e1, e⟩ := M.bnd_some e
  obtain ⟨l, st2, e2, e⟩ := M.bnd_some e
  obtain ⟨h, st3, e3, e⟩ := M.bnd_some e
  refine ha ι σ H ρ st x st1 _ R E e1 fun v H1 ι1 X1 R1 r1 => ?_
  refine hl ι1 σ H1 ρ st1 l st2 _ R1 (E.mono X1) e2 fun H2 ι2 X2 R2 => ?_
  refine hh ι2 σ H2 ρ st2 h st3 _ R2 (E.mono (X1.trans X2)) e3 fun H3 ι3 X3 R3 => ?_
  have rx := r1.mono (X2.trans X3)
  have X : Ext ι H ι3 H3 := (X1.trans X2).trans X3
  cases x with
  | tup xs =>
    cases rx with
    | tup ha ra =>
      cases e
      refine .inl ⟨_, _, rfl, .of ha, fun hw => ?_, fun hw p hp => ?_⟩
      · have : cutD xs l h = xs := by
          unfold cutD
          rw [← ra.length, hw.1, hw.2]
          simp [ra.length]
        rw [this] at q
        exact q _ H3 ι3 X R3 (.tup ha ra)
      · exact q _ _ ι3 (X.trans (ext_upd hp)) (R3.upd hp) (.tup upd_same ((ra.cutD l h).mono (ext_upd hp)))
  | ref n =>
    cases rx with
    | ref ha =>
      have e : (match st3[n]? with
        | some (.lst xs) => mNew (.lst (cutD xs l h)) st3
        | _ => none) = some (d, st') := e
      split at e
      · rename_i xs ex
        obtain ⟨vs, h0, ra⟩ := R3.lst ha ex
        exact .inr (.inl ⟨_, _, rfl, .of h0, new_lst R3 (ra.cutD l h) e fun v H' ι' X' R' r' => q v H' ι' (X.trans X') R' r'⟩)
      · cases e
  | str z =>
    cases rx
    have e : (if z.length ≤ sizeLine then M.ret (D.str (cutS z l h)) else M.bad) st3 = some (d, st') := e
    split at e
    · rename_i hz
      cases e
      exact .inr (.inr ⟨z, rfl, hz, q _ H3 ι3 X R3 (.str _)⟩)
    · cases e
  | _ => cases e
/-! ### len, abs, min, sum, all, list, tuple -/
def bLen : List D → M D
  | [.str z] => if z.length ≤ sizeLine then M.ret (.int z.length) else M.bad
  | [.tup xs] => M.ret (.int xs.length)
  | [.scr ns] => M.ret (.int ns.length)
  | [.ref n] => fun st => match st[n]? with
    | some (.lst xs) => some (.int xs.length, st)
    | some (.dk kvs) => some (.int kvs.length, st)
    | _ => none
  | _ => M.bad
abbrev rLenD (K : PySem.W.Frag) : List V → Hp → VK → Prop := fun xs H Q => (∃ x n, xs = [x] ∧ LenV K x H n ∧ Q (.int n) H) ∨ ∃ a kvs, xs = [V.ref a] ∧ H a = some (.dK kvs) ∧ Q (.int kvs.length) H
theorem call_lenA {X : Cx} : CallR X (.builtin "len") (rLenD X.K) := call_len.or call_lenD
theorem cd_len : CallD K (rLenD K) bLen := by
  intro ι H st vs ds d st' Q R r e q
  cases ds with
  | nil => cases e
  | cons x r2 =>
    cases r2 with
    | cons _ _ => cases x <;> cases e
    | nil =>
      cases r with
      | cons rx rr =>
        cases rr
        cases x with
        | str z =>
          cases rx
          have e : (if z.length ≤ sizeLine then M.ret (D.int z.length) else M.bad) st = some (d, st') := e
          split at e
          · rename_i hz
            cases e
            exact .inl ⟨_, z.length, rfl, ⟨hz, rfl⟩, q _ H ι (Ext.refl _ _) R (.int _)⟩
          · cases e
        | tup xs =>
          cases rx with
          | tup ha ra =>
            cases e
            exact .inl ⟨_, xs.length, rfl, .inr ⟨_, .of ha, ra.length.symm⟩, q _ H ι (Ext.refl _ _) R (.int _)⟩
        | scr ns =>
          cases rx with
          | scr ha =>
            cases e
            exact .inl ⟨_, ns.length, rfl, .inl ⟨_, ha.sq, by simp⟩, q _ H ι (Ext.refl _ _) R (.int _)⟩
        | ref n =>
          cases rx with
          | ref ha =>
            have e : (match st[n]? with
              | some (.lst xs) => some (D.int xs.length, st)
              | some (.dk kvs) => some (.int kvs.length, st)
              | _ => none) = some (d, st') := e
            split at e
            · rename_i xs ex
              cases e
              obtain ⟨vs, h0, ra⟩ := R.lst ha ex
              exact .inl ⟨_, xs.length, rfl, .inl ⟨_, .of h0, ra.length.symm⟩, q _ H ι (Ext.refl _ _) R (.int _)⟩
            · rename_i kvs ex
              cases e
              obtain ⟨a', e1, vs, h1, r1⟩ := R.at_ n _ ex
              rw [ha] at e1; cases e1
              refine .inr ⟨_, _, rfl, h1, ?_⟩
              have hl : ((kvs.map (·.1)).zip vs).length = kvs.length := by
                have := r1.length
                simp at this
                simp [this]
              rw [hl]
              exact q _ H ι (Ext.refl _ _) R (.int _)
            · cases e
        | _ => cases e
def bAbs : List D → M D
  | [.int i] => M.ret (.int (if i < 0 then -i else i))
  | _ => M.bad
theorem cd_abs : CallD K (fun xs H Q => ∃ i, xs = [.int i] ∧ Q (.int (if i < 0 then -i else i)) H) bAbs := by
  intro ι H st vs ds d st' Q R r e q
  unfold bAbs at e
  split at e
  · rename_i i
    cases e
    cases r with
    | cons rx rr =>
      cases rr; cases rx
      exact ⟨i, rfl, q _ H ι (Ext.refl _ _) R (.int _)⟩
  · cases e
def bMin2 : List D → M D
  | [.int i, .int j] => M.ret (.int (if j < i then j else i))
  | _ => M.bad
theorem cd_min2 : CallD K (fun xs H Q => ∃ i j, xs = [.int i, .int j] ∧ Q (.int (if j < i then j else i)) H) bMin2 := by
  intro ι H st vs ds d st' Q R r e q
  unfold bMin2 at e
  split at e
  · rename_i i j
    cases e
    cases r with
    | cons rx rr =>
      cases rr with
      | cons ry rr =>
        cases rr; cases rx; cases ry
        exact ⟨i, j, rfl, q _ H ι (Ext.refl _ _) R (.int _)⟩
  · cases e
/-- a list of ints; of bools -/
def intsOf : List D → Option (List Int)
  | [] => some []
  | .int i :: r => (intsOf r).map (i :: ·)
  | _ => none
def blsOf : List D → Option (List Bool)
  | [] => some []
  | .bl i :: r => (blsOf r).map (i :: ·)
  | _ => none
theorem intsOf_some : ∀ {ds : List D} {ns : List Int}, intsOf ds = some ns → ds = ns.map D.int
  | [], _, h => by cases h; rfl
  | .int i :: r, _, h => by
    have h : (intsOf r).map (i :: ·) = some _ := h
    cases z : intsOf r with
    | none => rw [z] at h; cases h
    | some ms => rw [z] at h; cases h; rw [intsOf_some z]; rfl
  | .non :: _, _, h => by cases h
  | .bl _ :: _, _, h => by cases h
  | .str _ :: _, _, h => by cases h
  | .tup _ :: _, _, h => by cases h
  | .ref _ :: _, _, h => by cases h
  | .scr _ :: _, _, h => by cases h
  | .ty _ :: _, _, h => by cases h
theorem intsOf_map : ∀ ns : List Int, intsOf (ns.map D.int) = some ns
  | [] => rfl
  | n :: r => by show (intsOf (r.map D.int)).map (n :: ·) = _; rw [intsOf_map r]; rfl
theorem blsOf_some : ∀ {ds : List D} {ns : List Bool}, blsOf ds = some ns → ds = ns.map D.bl
  | [], _, h => by cases h; rfl
  | .bl i :: r, _, h => by
    have h : (blsOf r).map (i :: ·) = some _ := h
    cases z : blsOf r with
    | none => rw [z] at h; cases h
    | some ms => rw [z] at h; cases h; rw [blsOf_some z]; rfl
  | .non :: _, _, h => by cases h
  | .int _ :: _, _, h => by cases h
  | .str _ :: _, _, h => by cases h
  | .tup _ :: _, _, h => by cases h
  | .ref _ :: _, _, h => by cases h
  | .scr _ :: _, _, h => by cases h
  | .ty _ :: _, _, h => by cases h
theorem blsOf_map : ∀ ns : List Bool, blsOf (ns.map D.bl) = some ns
  | [] => rfl
  | n :: r => by show (blsOf (r.map D.bl)).map (n :: ·) = _; rw [blsOf_map r]; rfl
/-- a function of the items of a list of the store -/
def bOnL (g : List D → M D) : List D → M D
  | [.ref n] => fun st => match st[n]? with
    | some (.lst xs) => g xs st
    | _ => none
  | _ => M.bad
theorem bOnL_some {g : List D → M D} {ι : List Addr} {H : Hp} {st st' : Store} {vs : List V} {ds : List D} {d : D} (R : RelH K ι H st) (r : RepVs K ι H vs ds) (e : bOnL g ds st = some (d, st')) :
    ∃ a ws xs, vs = [.ref a] ∧ H a = some (.lst ws) ∧ RepVs K ι H ws xs ∧ g xs st = some (d, st') := by
  unfold bOnL at e
  split at e
  · rename_i n
    split at e
    · rename_i xs ex
      cases r with
      | cons rx rr =>
        cases rr
        cases rx with
        | ref ha =>
          obtain ⟨ws, h0, ra⟩ := R.lst ha ex
          exact ⟨_, ws, xs, rfl, h0, ra, e⟩
    · cases e
  · cases e
def gSum (xs : List D) : M D := fun st => (intsOf xs).map fun ns => (.int ns.sum, st)
theorem cd_sum : CallD K (rSum K) (bOnL gSum) := by
  intro ι H st vs ds d st' Q R r e q
  obtain ⟨a, ws, xs, rfl, h0, ra, e⟩ := bOnL_some R r e
  unfold gSum at e
  cases z : intsOf xs with
  | none => rw [z] at e; cases e
  | some ns =>
    rw [z] at e
    cases e
    rw [intsOf_some z] at ra
    rw [ra.of_ints] at h0
    exact ⟨a, ns, rfl, .of h0, q _ H ι (Ext.refl _ _) R (.int _)⟩
def gAll (xs : List D) : M D := fun st => (blsOf xs).map fun ns => (.bl (ns.all id), st)
theorem cd_all : CallD K (rAll K) (bOnL gAll) := by
  intro ι H st vs ds d st' Q R r e q
  obtain ⟨a, ws, xs, rfl, h0, ra, e⟩ := bOnL_some R r e
  unfold gAll at e
  cases z : blsOf xs with
  | none => rw [z] at e; cases e
  | some ns =>
    rw [z] at e
    cases e
    rw [blsOf_some z] at ra
    rw [ra.of_bls] at h0
    exact ⟨a, ns, rfl, .of h0, q _ H ι (Ext.refl _ _) R (.bl _)⟩
def minL : List Int → Int
  | [] => 0
  | [n] => n
  | n :: r => if minL r < n then minL r else n
theorem minL_mem : ∀ {ns : List Int}, ns ≠ [] → minL ns ∈ ns
  | [], h => absurd rfl h
  | [n], _ => by simp [minL]
  | n :: m :: r, _ => by
    have ih := minL_mem (ns := m :: r) (by simp)
    unfold minL
    split
    · exact List.mem_cons_of_mem _ ih
    · exact List.mem_cons_self
theorem minL_le : ∀ {ns : List Int} {y : Int}, y ∈ ns → minL ns ≤ y
  | [n], y, h => by simp at h; subst h; exact Int.le_refl _
  | n :: m :: r, y, h => by
    unfold minL
    rcases List.mem_cons.mp h with rfl | h
    · split <;> omega
    · have ih := minL_le (ns := m :: r) h
      split <;> omega
def gMin (xs : List D) : M D := fun st => match intsOf xs with
  | some (n :: r) => some (.int (minL (n :: r)), st)
  | _ => none
theorem cd_min : CallD K (rMin K) (bOnL gMin) := by
  intro ι H st vs ds d st' Q R r e q
  obtain ⟨a, ws, xs, rfl, h0, ra, e⟩ := bOnL_some R r e
  unfold gMin at e
  split at e
  · rename_i n r z
    cases e
    rw [intsOf_some z] at ra
    rw [ra.of_ints] at h0
    refine ⟨a, n :: r, rfl, .of h0, by simp, fun m hm hle => ?_⟩
    have h1 := minL_le hm
    have h2 := hle _ (minL_mem (ns := n :: r) (by simp))
    rw [show m = minL (n :: r) by omega]
    exact q _ H ι (Ext.refl _ _) R (.int _)
  · cases e
def bList : List D → M D
  | [.tup xs] => mNew (.lst xs)
  | [.ref n] => fun st => match st[n]? with
    | some (.lst xs) => mNew (.lst xs) st
    | _ => none
  | _ => M.bad
theorem cd_list : CallD K (fun xs H Q => ∃ p ys, xs = [.ref p] ∧ (SqL K H p ys ∨ SqT K H p ys) ∧ ∀ l, H l = none → Q (.ref l) (upd H l (.lst ys))) bList := by
  intro ι H st vs ds d st' Q R r e q
  unfold bList at e
  split at e
  · cases r with
    | cons rx rr =>
      cases rr
      cases rx with
      | tup ha ra => exact ⟨_, _, rfl, .inr (.of ha), new_lst R ra e q⟩
  · split at e
    · rename_i xs ex
      cases r with
      | cons rx rr =>
        cases rr
        cases rx with
        | ref ha =>
          obtain ⟨ws, h0, ra⟩ := R.lst ha ex
          exact ⟨_, _, rfl, .inl (.of h0), new_lst R ra e q⟩
    · cases e
  · cases e
def bTuple : List D → M D
  | [.tup xs] => M.ret (.tup xs)
  | [.ref n] => fun st => match st[n]? with
    | some (.lst xs) => some (.tup xs, st)
    | _ => none
  | _ => M.bad
theorem cd_tuple : CallD K (fun xs H Q => ∃ p ys, xs = [.ref p] ∧ ((SqL K H p ys ∧ ∀ l, H l = none → Q (.ref l) (upd H l (.tup ys))) ∨ (SqT K H p ys ∧ Q (.ref p) H))) bTuple := by
  intro ι H st vs ds d st' Q R r e q
  unfold bTuple at e
  split at e
  · cases r with
    | cons rx rr =>
      cases rr
      cases rx with
      | tup ha ra => cases e; exact ⟨_, _, rfl, .inr ⟨.of ha, q _ H ι (Ext.refl _ _) R (.tup ha ra)⟩⟩
  · split at e
    · rename_i xs ex
      cases r with
      | cons rx rr =>
        cases rr
        cases rx with
        | ref ha =>
          obtain ⟨ws, h0, ra⟩ := R.lst ha ex
          cases e
          exact ⟨_, _, rfl, .inl ⟨.of h0, fun p hp => q _ _ ι (ext_upd hp) (R.upd hp) (.tup upd_same (ra.mono (ext_upd hp)))⟩⟩
    · cases e
  · cases e
end Dl
set_option Elab.async false
set_option linter.all false
set_option maxRecDepth 100000
set_option autoImplicit false
/-! Dl4: statements, loops, comprehensions, defs -/
namespace Dl
open PySem PySem.Spec PyProof.Rows L2
variable {K : PySem.W.Frag}
/-! ### statements -/
inductive Fl where
  | nx (ρ : Env1) | rt (d : D) | bk (ρ : Env1) | ct (ρ : Env1)
abbrev Sx := Env1 → M Fl
abbrev Gx := D → Env1 → M Env1
abbrev Gxs := List D → Env1 → M Env1
def Post (K : PySem.W.Frag) (ι : List Addr) (H : Hp) (st' : Store) (E : Ends) : Fl → Prop
  | .nx ρ' => ∀ σ' H' ι', Ext ι H ι' H' → RelH K ι' H' st' → RelE K ι' H' σ' ρ' → E.nx σ' H'
  | .bk ρ' => ∀ σ' H' ι', Ext ι H ι' H' → RelH K ι' H' st' → RelE K ι' H' σ' ρ' → E.bk σ' H'
  | .ct ρ' => ∀ σ' H' ι', Ext ι H ι' H' → RelH K ι' H' st' → RelE K ι' H' σ' ρ' → E.ct σ' H'
  | .rt d => ∀ v H' ι', Ext ι H ι' H' → RelH K ι' H' st' → RepV K ι' H' v d → E.rt v H'
theorem Post.mono {ι ι2 : List Addr} {H H2 : Hp} {st' : Store} {E : Ends} {f : Fl} (h : Post K ι H st' E f) (X : Ext ι H ι2 H2) : Post K ι2 H2 st' E f := by
  cases f with
  | nx ρ => exact fun σ' H' ι' X' => h σ' H' ι' (X.trans X')
  | bk ρ => exact fun σ' H' ι' X' => h σ' H' ι' (X.trans X')
  | ct ρ => exact fun σ' H' ι' X' => h σ' H' ι' (X.trans X')
  | rt d => exact fun v H' ι' X' => h v H' ι' (X.trans X')
def DS (K : PySem.W.Frag) (t : TS) (f : Sx) : Prop := ∀ (ι : List Addr) (σ : L2.St) (H : Hp) (ρ : Env1) (st : Store) (r : Fl) (st' : Store) (E : Ends), RelH K ι H st → RelE K ι H σ ρ → f ρ st = some (r, st') → Post K ι H st' E r → t E σ H
def tS (K : PySem.W.Frag) (f : Sx) : TS := fun E σ H => ∃ (ι : List Addr) (ρ : Env1) (st : Store) (r : Fl) (st' : Store), RelH K ι H st ∧ RelE K ι H σ ρ ∧ f ρ st = some (r, st') ∧ Post K ι H st' E r
theorem tS_can (K : PySem.W.Frag) (f : Sx) : DS K (tS K f) f := fun ι σ H ρ st d st' E R e q p => ⟨ι, ρ, st, d, st', R, e, q, p⟩
theorem DS.all {t : TS} {f : Sx} (h : DS K t f) {σ : L2.St} {H : Hp} {E : Ends} (q : tS K f E σ H) : t E σ H := by
  obtain ⟨ι, ρ, st, d, st', R, e, q, p⟩ := q
  exact h ι σ H ρ st d st' E R e q p
abbrev PSD (X : Cx) (s : Stmt) (f : Sx) : Prop := PS X s (tS X.K f)
abbrev PSsD (X : Cx) (s : List Stmt) (f : Sx) : Prop := PSs X s (tS X.K f)
theorem psd_of {X : Cx} {s : Stmt} {t : TS} {f : Sx} (p : PS X s t) (h : DS X.K t f) : PSD X s f := ⟨fun pins s σ H E I q => p.run pins s σ H E I (h.all q)⟩
theorem pssd_of {X : Cx} {s : List Stmt} {t : TS} {f : Sx} (p : PSs X s t) (h : DS X.K t f) : PSsD X s f := ⟨fun pins s σ H E I q => p.run pins s σ H E I (h.all q)⟩
/-- targets: vs holds the slots that are stored -/
def DG (K : PySem.W.Frag) (vs : List Nat) (t : TG) (g : Gx) : Prop := ∀ (ι : List Addr) (σ : L2.St) (H : Hp) (ρ : Env1) (st : Store) (v : V) (d : D) (ρ' : Env1) (st' : Store) (Q : L2.St → Hp → Prop), RelH K ι H st → RelE K ι H σ ρ → RepV K ι H v d → g d ρ st = some (ρ', st') →
  (∀ σ' H' ι', Ext ι H ι' H' → RelH K ι' H' st' → RelE K ι' H' σ' ρ' → (∀ us : List Nat, (∀ i ∈ vs, i ∈ us) → L2.wipe σ' us = L2.wipe σ us) → Q σ' H') → t v σ H Q
def DGs (K : PySem.W.Frag) (vs : List Nat) (t : TGs) (g : Gxs) : Prop := ∀ (ι : List Addr) (σ : L2.St) (H : Hp) (ρ : Env1) (st : Store) (v : List V) (d : List D) (ρ' : Env1) (st' : Store) (Q : L2.St → Hp → Prop), RelH K ι H st → RelE K ι H σ ρ → RepVs K ι H v d → g d ρ st = some (ρ', st') →
  (∀ σ' H' ι', Ext ι H ι' H' → RelH K ι' H' st' → RelE K ι' H' σ' ρ' → (∀ us : List Nat, (∀ i ∈ vs, i ∈ us) → L2.wipe σ' us = L2.wipe σ us) → Q σ' H') → t v σ H Q
def tG (K : PySem.W.Frag) (vs : List Nat) (g : Gx) : TG := fun v σ H Q => ∃ (ι : List Addr) (ρ : Env1) (st : Store) (d : D) (ρ' : Env1) (st' : Store), RelH K ι H st ∧ RelE K ι H σ ρ ∧ RepV K ι H v d ∧ g d ρ st = some (ρ', st') ∧
  ∀ σ' H' ι', Ext ι H ι' H' → RelH K ι' H' st' → RelE K ι' H' σ' ρ' → (∀ us : List Nat, (∀ i ∈ vs, i ∈ us) → L2.wipe σ' us = L2.wipe σ us) → Q σ' H'
def tGs (K : PySem.W.Frag) (vs : List Nat) (g : Gxs) : TGs := fun v σ H Q => ∃ (ι : List Addr) (ρ : Env1) (st : Store) (d : List D) (ρ' : Env1) (st' : Store), RelH K ι H st ∧ RelE K ι H σ ρ ∧ RepVs K ι H v d ∧ g d ρ st = some (ρ', st') ∧
  ∀ σ' H' ι', Ext ι H ι' H' → RelH K ι' H' st' → RelE K ι' H' σ' ρ' → (∀ us : List Nat, (∀ i ∈ vs, i ∈ us) → L2.wipe σ' us = L2.wipe σ us) → Q σ' H'
theorem tG_can (K : PySem.W.Frag) (vs : List Nat) (g : Gx) : DG K vs (tG K vs g) g := fun ι σ H ρ st v d ρ' st' Q R E r e q => ⟨ι, ρ, st, d, ρ', st', R, E, r, e, q⟩
theorem tGs_can (K : PySem.W.Frag) (vs : List Nat) (g : Gxs) : DGs K vs (tGs K vs g) g := fun ι σ H ρ st v d ρ' st' Q R E r e q => ⟨ι, ρ, st, d, ρ', st', R, E, r, e, q⟩
theorem DG.all {vs : List Nat} {t : TG} {g : Gx} (h : DG K vs t g) {v : V} {σ : L2.St} {H : Hp} {Q : L2.St → Hp → Prop} (q : tG K vs g v σ H Q) : t v σ H Q := by
  obtain ⟨ι, ρ, st, d, ρ', st', R, E, r, e, q⟩ := q
  exact h ι σ H ρ st v d ρ' st' Q R E r e q
theorem DGs.all {vs : List Nat} {t : TGs} {g : Gxs} (h : DGs K vs t g) {v : List V} {σ : L2.St} {H : Hp} {Q : L2.St → Hp → Prop} (q : tGs K vs g v σ H Q) : t v σ H Q := by
  obtain ⟨ι, ρ, st, d, ρ', st', R, E, r, e, q⟩ := q
  exact h ι σ H ρ st v d ρ' st' Q R E r e q
abbrev PGD (X : Cx) (vs : List Nat) (e : Expr) (g : Gx) : Prop := PG X e (tG X.K vs g)
abbrev PGsD (X : Cx) (vs : List Nat) (e : List Expr) (g : Gxs) : Prop := PGs X e (tGs X.K vs g)
theorem pgd_of {X : Cx} {vs : List Nat} {e : Expr} {t : TG} {g : Gx} (p : PG X e t) (h : DG X.K vs t g) : PGD X vs e g := ⟨fun pins s σ H v u Q I r q => p.run pins s σ H v u Q I r (h.all q)⟩
theorem pgsd_of {X : Cx} {vs : List Nat} {e : List Expr} {t : TGs} {g : Gxs} (p : PGs X e t) (h : DGs X.K vs t g) : PGsD X vs e g := ⟨fun pins s σ H v u Q I r q => p.run pins s σ H v u Q I r (h.all q)⟩
def xName (i : Nat) : Gx := fun d ρ => M.ret (ρ.set i (some d))
def xNil : Gxs := fun ds ρ => match ds with
  | [] => M.ret ρ
  | _ => M.bad
def xCons (g : Gx) (r : Gxs) : Gxs := fun ds ρ => match ds with
  | d :: ds => M.bnd (g d ρ) fun ρ' => r ds ρ'
  | _ => M.bad
def xTup (n : Nat) (r : Gxs) : Gx := fun d ρ => match d with
  | .tup ds => if ds.length = n then r ds ρ else M.bad
  | _ => M.bad
theorem wipe_get (σ : L2.St) : ∀ (us : List Nat) (i : Nat), (L2.wipe σ us)[i]? = if i ∈ us then (if i < σ.length then some none else none) else σ[i]?
  | [], i => by simp [L2.wipe]
  | u :: us, i => by
    unfold L2.wipe
    by_cases e : u = i
    · subst e
      by_cases hl : u < σ.length
      · rw [List.getElem?_set_self (by rw [L2.wipe_length]; exact hl)]; simp [hl]
      · rw [List.getElem?_eq_none (by simp [L2.wipe_length]; omega)]; simp [hl]
    · rw [List.getElem?_set_ne e, wipe_get σ us i]
      by_cases hi : i ∈ us
      · rw [if_pos hi, if_pos (List.mem_cons_of_mem _ hi)]
      · rw [if_neg hi, if_neg (by simp [Ne.symm e, hi])]
theorem wipe_set {σ : L2.St} {i : Nat} {x : Option V} {us : List Nat} (h : i ∈ us) : L2.wipe (σ.set i x) us = L2.wipe σ us := by
  apply List.ext_getElem?
  intro j
  rw [wipe_get, wipe_get, List.length_set]
  by_cases e : i = j
  · subst e
    rw [if_pos h, if_pos h]
  · rw [List.getElem?_set_ne e]
theorem dg_name (i : Nat) : DG K [i] (gName i) (xName i) := by
  intro ι σ H ρ st v d ρ' st' Q R E r e q
  cases e
  exact q _ H ι (Ext.refl _ _) R (E.set r i) fun us h => wipe_set (h i (by simp))
theorem dgs_nil : DGs K [] gNil xNil := by
  intro ι σ H ρ st v d ρ' st' Q R E r e q
  cases d with
  | nil => cases r; cases e; exact ⟨rfl, q σ H ι (Ext.refl _ _) R E fun us h => rfl⟩
  | cons _ _ => cases e
theorem dgs_cons {vs ws : List Nat} {t : TG} {u : TGs} {g : Gx} {gr : Gxs} (h1 : DG K vs t g) (h2 : DGs K ws u gr) : DGs K (vs ++ ws) (gCons t u) (xCons g gr) := by
  intro ι σ H ρ st v d ρ' st' Q R E r e q
  cases d with
  | nil => cases e
  | cons d ds =>
    cases r with
    | cons r1 r2 =>
      obtain ⟨ρ1, st1, e1, e⟩ := M.bnd_some e
      refine ⟨_, _, rfl, h1 ι σ H ρ st _ d ρ1 st1 _ R E r1 e1 fun σ1 H1 ι1 X1 R1 E1 w1 => ?_⟩
      refine h2 ι1 σ1 H1 ρ1 st1 _ ds ρ' st' _ R1 E1 (r2.mono X1) e fun σ2 H2 ι2 X2 R2 E2 w2 => ?_
      exact q σ2 H2 ι2 (X1.trans X2) R2 E2 fun us h => (w2 us fun i hi => h i (List.mem_append_right _ hi)).trans (w1 us fun i hi => h i (List.mem_append_left _ hi))
theorem dg_tup {vs : List Nat} {n : Nat} {t : TGs} {g : Gxs} (h : DGs K vs t g) : DG K vs (gTup K n t) (xTup n g) := by
  intro ι σ H ρ st v d ρ' st' Q R E r e q
  cases d with
  | tup ds =>
    cases r with
    | tup ha ra =>
      have e : (if ds.length = n then g ds ρ else M.bad) st = some (ρ', st') := e
      split at e
      · rename_i hl
        exact ⟨_, _, rfl, .of ha, by rw [ra.length]; exact hl, h ι σ H ρ st _ ds ρ' st' Q R E ra e q⟩
      · cases e
  | _ => cases e
def sSeq (f g : Sx) : Sx := fun ρ => M.bnd (f ρ) fun r => match r with
  | .nx ρ' => g ρ'
  | .rt d => M.ret (.rt d)
  | .bk ρ' => M.ret (.bk ρ')
  | .ct ρ' => M.ret (.ct ρ')
def sNext : Sx := fun ρ => M.ret (.nx ρ)
def sRet (e : Ev) : Sx := fun ρ => M.bnd (e ρ) fun d => M.ret (.rt d)
def sDrop (e : Ev) : Sx := fun ρ => M.bnd (e ρ) fun _ => M.ret (.nx ρ)
def sIf (c : Et) (f g : Sx) : Sx := fun ρ => M.bnd (c ρ) fun b => if b = true then f ρ else g ρ
def sAsg (e : Ev) (g : Gx) : Sx := fun ρ => M.bnd (e ρ) fun d => M.bnd (g d ρ) fun ρ' => M.ret (.nx ρ')
def sPar (i j : Nat) (a : Ea) : Sx := fun ρ => M.bnd (a ρ) fun ds => match ds with
  | [x, y] => M.ret (.nx ((ρ.set i (some x)).set j (some y)))
  | _ => M.bad
theorem ds_seq {t u : TS} {f g : Sx} (hf : DS K t f) (hg : DS K u g) : DS K (tSeq t u) (sSeq f g) := by
  intro ι σ H ρ st r st' E R E0 e q
  obtain ⟨fl, st1, e1, e⟩ := M.bnd_some e
  refine hf ι σ H ρ st fl st1 _ R E0 e1 ?_
  cases fl with
  | nx ρ1 => exact fun σ1 H1 ι1 X1 R1 E1 => hg ι1 σ1 H1 ρ1 st1 r st' E R1 E1 e (q.mono X1)
  | rt d => cases e; exact q
  | bk ρ1 => cases e; exact q
  | ct ρ1 => cases e; exact q
theorem ds_next : DS K tNext sNext := by
  intro ι σ H ρ st r st' E R E0 e q
  cases e
  exact q σ H ι (Ext.refl _ _) R E0
theorem ds_ret {ta : TE} {fa : Ev} (ha : DE K ta fa) : DS K (tRet ta) (sRet fa) := by
  intro ι σ H ρ st r st' E R E0 e q
  obtain ⟨d, st1, e1, e⟩ := M.bnd_some e
  cases e
  exact ha ι σ H ρ st d _ _ R E0 e1 q
theorem ds_drop {ta : TE} {fa : Ev} (ha : DE K ta fa) : DS K (tDrop ta) (sDrop fa) := by
  intro ι σ H ρ st r st' E R E0 e q
  obtain ⟨d, st1, e1, e⟩ := M.bnd_some e
  cases e
  exact ha ι σ H ρ st d _ _ R E0 e1 fun v H1 ι1 X1 R1 _ => q σ H1 ι1 X1 R1 (E0.mono X1)
theorem ds_if {tc : TT} {t u : TS} {c : Et} {f g : Sx} (hc : DT K tc c) (hf : DS K t f) (hg : DS K u g) : DS K (tIfS tc t u) (sIf c f g) := by
  intro ι σ H ρ st r st' E R E0 e q
  obtain ⟨b, st1, e1, e⟩ := M.bnd_some e
  refine hc ι σ H ρ st b st1 _ R E0 e1 fun H1 ι1 X1 R1 => ?_
  cases b with
  | true => exact hf ι1 σ H1 ρ st1 r st' E R1 (E0.mono X1) e (q.mono X1)
  | false => exact hg ι1 σ H1 ρ st1 r st' E R1 (E0.mono X1) e (q.mono X1)
theorem ds_asg {ta : TE} {fa : Ev} {vs : List Nat} {t : TG} {g : Gx} (ha : DE K ta fa) (hg : DG K vs t g) : DS K (tAsg ta t) (sAsg fa g) := by
  intro ι σ H ρ st r st' E R E0 e q
  obtain ⟨d, st1, e1, e⟩ := M.bnd_some e
  obtain ⟨ρ', st2, e2, e⟩ := M.bnd_some e
  cases e
  refine ha ι σ H ρ st d st1 _ R E0 e1 fun v H1 ι1 X1 R1 r1 => ?_
  exact hg ι1 σ H1 ρ st1 v d ρ' _ _ R1 (E0.mono X1) r1 e2 fun σ2 H2 ι2 X2 R2 E2 _ => q σ2 H2 ι2 (X1.trans X2) R2 E2
theorem ds_par {i j : Nat} {ta : TA} {fa : Ea} (ha : DA K ta fa) : DS K (tPar i j ta) (sPar i j fa) := by
  intro ι σ H ρ st r st' E R E0 e q
  obtain ⟨ds, st1, e1, e⟩ := M.bnd_some e
  refine ha ι σ H ρ st ds st1 _ R E0 e1 fun vs H1 ι1 X1 R1 r1 => ?_
  split at e
  · cases e
    cases r1 with
    | cons rx rr =>
      cases rr with
      | cons ry rr =>
        cases rr
        exact ⟨_, _, rfl, q _ H1 ι1 X1 R1 (((E0.mono X1).set rx i).set ry j)⟩
  · cases e
/-! ### what is walked -/
structure Src where
  ds : List D
  chk : Option Nat
def Src.ok (s : Src) (st : Store) : Prop := ∀ n, s.chk = some n → st[n]? = some (.lst s.ds)
abbrev Ei := Env1 → M Src
structure Gives (K : PySem.W.Frag) (J : It) (ι : List Addr) (H : Hp) (s : Src) : Prop where
  go : ∀ (ι' : List Addr) (H' : Hp) (st' : Store) (i : Nat) (d : D), Ext ι H ι' H' → RelH K ι' H' st' → s.ok st' → s.ds[i]? = some d → J.go i H' ∧ ∀ x H2, J.yld i H' x H2 → Ext ι' H' ι' H2 ∧ RelH K ι' H2 st' ∧ RepV K ι' H2 x d
  stop : ∀ (ι' : List Addr) (H' : Hp) (st' : Store), Ext ι H ι' H' → RelH K ι' H' st' → s.ok st' → J.stop s.ds.length H'
def DI (K : PySem.W.Frag) (t : TI) (f : Ei) : Prop := ∀ (ι : List Addr) (σ : L2.St) (H : Hp) (ρ : Env1) (st : Store) (s : Src) (st' : Store) (Q : It → Hp → Prop), RelH K ι H st → RelE K ι H σ ρ → f ρ st = some (s, st') →
  (∀ J H' ι', Ext ι H ι' H' → RelH K ι' H' st' → Gives K J ι' H' s → Q J H') → t σ H Q
def tI (K : PySem.W.Frag) (f : Ei) : TI := fun σ H Q => ∃ (ι : List Addr) (ρ : Env1) (st : Store) (s : Src) (st' : Store), RelH K ι H st ∧ RelE K ι H σ ρ ∧ f ρ st = some (s, st') ∧ ∀ J H' ι', Ext ι H ι' H' → RelH K ι' H' st' → Gives K J ι' H' s → Q J H'
theorem tI_can (K : PySem.W.Frag) (f : Ei) : DI K (tI K f) f := fun ι σ H ρ st d st' Q R E e q => ⟨ι, ρ, st, d, st', R, E, e, q⟩
theorem DI.all {t : TI} {f : Ei} (h : DI K t f) {σ : L2.St} {H : Hp} {Q : It → Hp → Prop} (q : tI K f σ H Q) : t σ H Q := by
  obtain ⟨ι, ρ, st, d, st', R, E, e, q⟩ := q
  exact h ι σ H ρ st d st' Q R E e q
abbrev PID (X : Cx) (tg e : Expr) (f : Ei) : Prop := PI X tg e (tI X.K f)
theorem pid_of {X : Cx} {tg e : Expr} {t : TI} {f : Ei} (p : PI X tg e t) (h : DI X.K t f) : PID X tg e f := ⟨fun pins s σ H Q I q => p.run pins s σ H Q I (h.all q)⟩
/-- a list or a tuple -/
def mSrc : D → M Src
  | .tup xs => M.ret ⟨xs, none⟩
  | .ref n => fun st => match st[n]? with
    | some (.lst xs) => some (⟨xs, some n⟩, st)
    | _ => none
  | _ => M.bad
def iSeq (a : Ev) : Ei := fun ρ => M.bnd (a ρ) mSrc
def iTupS (a : Ev) : Ei := fun ρ => M.bnd (a ρ) fun d => match d with
  | .tup xs => M.ret ⟨xs, none⟩
  | _ => M.bad
def iLstS (a : Ev) : Ei := fun ρ => M.bnd (a ρ) fun d => match d with
  | .ref n => fun st => match st[n]? with
    | some (.lst xs) => some (⟨xs, some n⟩, st)
    | _ => none
  | _ => M.bad
theorem gives_tup {ι : List Addr} {H : Hp} {a : Addr} {vs : List V} {ds : List D} (ha : H a = some (.tup vs)) (ra : RepVs K ι H vs ds) : Gives K (Itt K a) ι H ⟨ds, none⟩ where
  go := fun ι' H' st' i d X R _ hd => by
    obtain ⟨v, hv, rv⟩ := ra.get hd
    have h' := X.tup _ _ ha
    refine ⟨⟨vs, v, .of h', hv⟩, fun x H2 y => ?_⟩
    obtain ⟨rfl, y⟩ := y
    have hx := y vs (.of h')
    rw [hv] at hx
    cases hx
    exact ⟨Ext.refl _ _, R, rv.mono X⟩
  stop := fun ι' H' st' X R _ => ⟨vs, .of (X.tup _ _ ha), by rw [ra.length]; exact Nat.le_refl _⟩
theorem gives_lst {ι : List Addr} {H : Hp} {a : Addr} {n : Nat} {ds : List D} (ha : ι[n]? = some a) : Gives K (Itl K a) ι H ⟨ds, some n⟩ where
  go := fun ι' H' st' i d X R ok hd => by
    obtain ⟨vs, h0, ra⟩ := R.lst (X.at_ ha) (ok n rfl)
    obtain ⟨v, hv, rv⟩ := ra.get hd
    refine ⟨⟨vs, v, .of h0, hv⟩, fun x H2 y => ?_⟩
    obtain ⟨rfl, y⟩ := y
    have hx := y vs (.of h0)
    rw [hv] at hx
    cases hx
    exact ⟨Ext.refl _ _, R, rv⟩
  stop := fun ι' H' st' X R ok => by
    obtain ⟨vs, h0, ra⟩ := R.lst (X.at_ ha) (ok n rfl)
    exact ⟨vs, .of h0, by rw [ra.length]; exact Nat.le_refl _⟩
theorem di_tup {ta : TE} {fa : Ev} (ha : DE K ta fa) : DI K (iTup K ta) (iTupS fa) := by
  intro ι σ H ρ st s st' Q R E e q
  obtain ⟨x, st1, e1, e⟩ := M.bnd_some e
  refine ha ι σ H ρ st x st1 _ R E e1 fun v H1 ι1 X1 R1 r1 => ?_
  cases x with
  | tup xs =>
    cases r1 with
    | tup h0 ra => cases e; exact ⟨_, rfl, ⟨_, .of h0⟩, q _ H1 ι1 X1 R1 (gives_tup h0 ra)⟩
  | _ => cases e
theorem di_lst {ta : TE} {fa : Ev} (ha : DE K ta fa) : DI K (iList K ta) (iLstS fa) := by
  intro ι σ H ρ st s st' Q R E e q
  obtain ⟨x, st1, e1, e⟩ := M.bnd_some e
  refine ha ι σ H ρ st x st1 _ R E e1 fun v H1 ι1 X1 R1 r1 => ?_
  cases x with
  | ref n =>
    cases r1 with
    | ref h0 =>
      have e : (match st1[n]? with
        | some (.lst xs) => some ((⟨xs, some n⟩ : Src), st1)
        | _ => none) = some (s, st') := e
      split at e
      · rename_i xs ex
        cases e
        obtain ⟨vs, h1, ra⟩ := R1.lst h0 ex
        exact ⟨_, rfl, ⟨_, .of h1⟩, q _ H1 ι1 X1 R1 (gives_lst h0)⟩
      · cases e
  | _ => cases e
def rngD (lo : Int) (n : Nat) : List D := (List.range n).map fun (i : Nat) => .int (lo + (i : Int))
theorem gives_rng {ι : List Addr} {H : Hp} (lo : Int) (n : Nat) : Gives K (Itr lo n) ι H ⟨rngD lo n, none⟩ where
  go := fun ι' H' st' i d X R ok hd => by
    have hd : (rngD lo n)[i]? = some d := hd
    unfold rngD at hd
    rw [List.getElem?_map] at hd
    by_cases hi : i < n
    · rw [List.getElem?_range hi] at hd
      cases hd
      refine ⟨hi, fun x H2 y => ?_⟩
      obtain ⟨rfl, rfl⟩ := y
      exact ⟨Ext.refl _ _, R, .int _⟩
    · rw [List.getElem?_eq_none (by simp; omega)] at hd
      cases hd
  stop := fun ι' H' st' X R ok => by
    show n ≤ (rngD lo n).length
    unfold rngD
    simp
def iR1 (a : Ea) : Ei := fun ρ => M.bnd (a ρ) fun ds => match ds with
  | [.int j] => if -(2 ^ 62) ≤ j ∧ j < 2 ^ 62 then M.ret ⟨rngD 0 j.toNat, none⟩ else M.bad
  | _ => M.bad
def iR2 (a : Ea) : Ei := fun ρ => M.bnd (a ρ) fun ds => match ds with
  | [.int i, .int j] => if -(2 ^ 62) ≤ i ∧ i < 2 ^ 62 ∧ -(2 ^ 62) ≤ j ∧ j < 2 ^ 62 then M.ret ⟨rngD i (j - i).toNat, none⟩ else M.bad
  | _ => M.bad
theorem di_r1 {ta : TA} {fa : Ea} (ha : DA K ta fa) : DI K (iRng1 ta) (iR1 fa) := by
  intro ι σ H ρ st s st' Q R E e q
  obtain ⟨x, st1, e1, e⟩ := M.bnd_some e
  refine ha ι σ H ρ st x st1 _ R E e1 fun v H1 ι1 X1 R1 r1 => ?_
  split at e
  · rename_i j
    split at e
    · rename_i hj
      cases e
      cases r1 with
      | cons rx rr => cases rr; cases rx; exact ⟨j, rfl, hj.1, hj.2, q _ H1 ι1 X1 R1 (gives_rng 0 _)⟩
    · cases e
  · cases e
theorem di_r2 {ta : TA} {fa : Ea} (ha : DA K ta fa) : DI K (iRng2 ta) (iR2 fa) := by
  intro ι σ H ρ st s st' Q R E e q
  obtain ⟨x, st1, e1, e⟩ := M.bnd_some e
  refine ha ι σ H ρ st x st1 _ R E e1 fun v H1 ι1 X1 R1 r1 => ?_
  split at e
  · rename_i i j
    split at e
    · rename_i hj
      cases e
      cases r1 with
      | cons rx rr => cases rr with
        | cons ry rr => cases rr; cases rx; cases ry; exact ⟨i, j, rfl, hj, q _ H1 ι1 X1 R1 (gives_rng i _)⟩
    · cases e
  · cases e
def sgnD (x : Str) : List D := x.cps.toList.map fun c => .str ⟨#[c]⟩
theorem gives_str {ι : List Addr} {H : Hp} (x : Str) : Gives K (Its x) ι H ⟨sgnD x, none⟩ where
  go := fun ι' H' st' i d X R ok hd => by
    have hd : (sgnD x)[i]? = some d := hd
    unfold sgnD at hd
    rw [List.getElem?_map, Array.getElem?_toList] at hd
    cases z : x.cps[i]? with
    | none => rw [z] at hd; cases hd
    | some c =>
      rw [z] at hd
      cases hd
      have hi : i < x.cps.size := (Array.getElem?_eq_some_iff.mp z).1
      refine ⟨hi, fun y H2 h => ?_⟩
      obtain ⟨rfl, c', z', rfl⟩ := h
      rw [z] at z'; cases z'
      exact ⟨Ext.refl _ _, R, .str _⟩
  stop := fun ι' H' st' X R ok => by
    show x.cps.size ≤ (sgnD x).length
    unfold sgnD
    simp
def iStrS (a : Ev) : Ei := fun ρ => M.bnd (a ρ) fun d => match d with
  | .str x => M.ret ⟨sgnD x, none⟩
  | _ => M.bad
theorem di_str {ta : TE} {fa : Ev} (ha : DE K ta fa) : DI K (L2.iStr ta) (iStrS fa) := by
  intro ι σ H ρ st s st' Q R E e q
  obtain ⟨x, st1, e1, e⟩ := M.bnd_some e
  refine ha ι σ H ρ st x st1 _ R E e1 fun v H1 ι1 X1 R1 r1 => ?_
  cases x with
  | str z => cases r1; cases e; exact ⟨z, rfl, q _ H1 ι1 X1 R1 (gives_str z)⟩
  | _ => cases e
/-! ### for, while -/
open Classical in
noncomputable def forL (s : Src) (g : Gx) (b : Sx) : List D → Env1 → M Fl
  | [], ρ => fun st => if s.ok st then some (.nx ρ, st) else none
  | x :: xs, ρ => fun st => if s.ok st then (M.bnd (g x ρ) fun ρ1 => M.bnd (b ρ1) fun r => match r with
    | .nx ρ2 => forL s g b xs ρ2
    | .ct ρ2 => forL s g b xs ρ2
    | .bk ρ2 => M.ret (.nx ρ2)
    | .rt d => M.ret (.rt d)) st else none
noncomputable def sFor (it : Ei) (g : Gx) (b : Sx) : Sx := fun ρ => M.bnd (it ρ) fun s => forL s g b s.ds ρ
theorem ds_for {ti : TI} {vs : List Nat} {t : TG} {tb : TS} {it : Ei} {g : Gx} {b : Sx} (hi : DI K ti it) (hg : DG K vs t g) (hb : DS K tb b) : DS K (tFor ti t tb) (sFor it g b) := by
  intro ι σ H ρ st r st' E R E0 e q
  obtain ⟨s, st1, e1, e⟩ := M.bnd_some e
  refine hi ι σ H ρ st s st1 _ R E0 e1 fun J H1 ι1 X1 R1 G1 => ?_
  refine ⟨fun i m σ2 H2 => ∃ (ι2 : List Addr) (ρ2 : Env1) (st2 : Store), i + m = s.ds.length ∧ Ext ι1 H1 ι2 H2 ∧ RelH K ι2 H2 st2 ∧ RelE K ι2 H2 σ2 ρ2 ∧ forL s g b (s.ds.drop i) ρ2 st2 = some (r, st') ∧ Post K ι2 H2 st' E r,
    ⟨s.ds.length, ι1, ρ, st1, by omega, Ext.refl _ _, R1, E0.mono X1, by rw [List.drop_zero]; exact e, q.mono X1⟩, ?_⟩
  rintro i m σ2 H2 ⟨ι2, ρ2, st2, him, X2, R2, E2, e2, q2⟩
  cases z : s.ds.drop i with
  | nil =>
    rw [z] at e2
    unfold forL at e2
    split at e2
    · rename_i ok
      cases e2
      have hil : i = s.ds.length := by
        have := congrArg List.length z
        simp at this; omega
      refine .inl ⟨by rw [hil]; exact G1.stop ι2 H2 _ X2 R2 ok, q2 σ2 H2 ι2 (Ext.refl _ _) R2 E2⟩
    · cases e2
  | cons d ds =>
    rw [z] at e2
    unfold forL at e2
    split at e2
    · rename_i ok
      have hd : s.ds[i]? = some d := by
        have : (s.ds.drop i)[0]? = some d := by rw [z]; rfl
        rw [List.getElem?_drop] at this
        simpa using this
      have hds : s.ds.drop (i + 1) = ds := by
        have : (s.ds.drop i).drop 1 = ds := by rw [z]; rfl
        rw [List.drop_drop] at this
        exact this
      have hlt : i < s.ds.length := (List.getElem?_eq_some_iff.mp hd).1
      obtain ⟨hgo, hy⟩ := G1.go ι2 H2 st2 i d X2 R2 ok hd
      obtain ⟨ρ3, st3, e3, e2⟩ := M.bnd_some e2
      obtain ⟨fl, st4, e4, e2⟩ := M.bnd_some e2
      refine .inr ⟨hgo, fun σ' H' => ∃ (ι2 : List Addr) (ρ2 : Env1) (st2 : Store), Ext ι1 H1 ι2 H' ∧ RelH K ι2 H' st2 ∧ RelE K ι2 H' σ' ρ2 ∧ forL s g b ds ρ2 st2 = some (r, st') ∧ Post K ι2 H' st' E r, ?_, ?_⟩
      · rintro σ' H' ⟨ι5, ρ5, st5, X5, R5, E5, e5, q5⟩
        exact ⟨m - 1, by omega, ι5, ρ5, st5, by omega, X5, R5, E5, by rw [hds]; exact e5, q5⟩
      · intro x H3 y
        obtain ⟨Xa, Ra, ra⟩ := hy x H3 y
        refine hg ι2 σ2 H3 ρ2 st2 x d ρ3 st3 _ Ra (E2.mono Xa) ra e3 fun σ4 H4 ι4 X4 R4 E4 _ => ?_
        refine hb ι4 σ4 H4 ρ3 st3 fl st4 _ R4 E4 e4 ?_
        have XX : Ext ι2 H2 ι4 H4 := Xa.trans X4
        cases fl with
        | nx ρ5 => exact fun σ5 H5 ι5 X5 R5 E5 => ⟨ι5, ρ5, st4, (X2.trans XX).trans X5, R5, E5, e2, q2.mono (XX.trans X5)⟩
        | ct ρ5 => exact fun σ5 H5 ι5 X5 R5 E5 => ⟨ι5, ρ5, st4, (X2.trans XX).trans X5, R5, E5, e2, q2.mono (XX.trans X5)⟩
        | bk ρ5 =>
          cases e2
          exact fun σ5 H5 ι5 X5 R5 E5 => q2 σ5 H5 ι5 (XX.trans X5) R5 E5
        | rt d5 =>
          cases e2
          exact fun v5 H5 ι5 X5 R5 r5 => q2 v5 H5 ι5 (XX.trans X5) R5 r5
    · cases e2
def whileL (c : Et) (b : Sx) : Nat → Env1 → M Fl
  | 0, _ => M.bad
  | n + 1, ρ => M.bnd (c ρ) fun k => if k = true then (M.bnd (b ρ) fun r => match r with
    | .nx ρ2 => whileL c b n ρ2
    | .ct ρ2 => whileL c b n ρ2
    | .bk ρ2 => M.ret (.nx ρ2)
    | .rt d => M.ret (.rt d)) else M.ret (.nx ρ)
def sWhile (fuel : Env1 → Nat) (c : Et) (b : Sx) : Sx := fun ρ => whileL c b (fuel ρ) ρ
theorem ds_while {tc : TT} {tb : TS} {c : Et} {b : Sx} {fuel : Env1 → Nat} (hc : DT K tc c) (hb : DS K tb b) : DS K (tWhile tc tb) (sWhile fuel c b) := by
  intro ι σ H ρ st r st' E R E0 e q
  refine ⟨fun m σ2 H2 => ∃ (ι2 : List Addr) (ρ2 : Env1) (st2 : Store), RelH K ι2 H2 st2 ∧ RelE K ι2 H2 σ2 ρ2 ∧ whileL c b m ρ2 st2 = some (r, st') ∧ Post K ι2 H2 st' E r, ⟨fuel ρ, ι, ρ, st, R, E0, e, q⟩, ?_⟩
  rintro m σ2 H2 ⟨ι2, ρ2, st2, R2, E2, e2, q2⟩
  cases m with
  | zero => cases e2
  | succ m =>
    unfold whileL at e2
    obtain ⟨k, st3, e3, e2⟩ := M.bnd_some e2
    refine hc ι2 σ2 H2 ρ2 st2 k st3 _ R2 E2 e3 fun H3 ι3 X3 R3 => ?_
    cases k with
    | false =>
      cases e2
      exact q2 σ2 H3 ι3 X3 R3 (E2.mono X3)
    | true =>
      rw [if_pos rfl] at e2 ⊢
      obtain ⟨fl, st4, e4, e2⟩ := M.bnd_some e2
      refine ⟨fun σ' H' => ∃ (ι2 : List Addr) (ρ2 : Env1) (st2 : Store), RelH K ι2 H' st2 ∧ RelE K ι2 H' σ' ρ2 ∧ whileL c b m ρ2 st2 = some (r, st') ∧ Post K ι2 H' st' E r, fun σ' H' h => ⟨m, Nat.lt_succ_self m, h⟩, ?_⟩
      refine hb ι3 σ2 H3 ρ2 st3 fl st4 _ R3 (E2.mono X3) e4 ?_
      cases fl with
      | nx ρ5 => exact fun σ5 H5 ι5 X5 R5 E5 => ⟨ι5, ρ5, st4, R5, E5, e2, q2.mono (X3.trans X5)⟩
      | ct ρ5 => exact fun σ5 H5 ι5 X5 R5 E5 => ⟨ι5, ρ5, st4, R5, E5, e2, q2.mono (X3.trans X5)⟩
      | bk ρ5 =>
        cases e2
        exact fun σ5 H5 ι5 X5 R5 E5 => q2 σ5 H5 ι5 (X3.trans X5) R5 E5
      | rt d5 =>
        cases e2
        exact fun v5 H5 ι5 X5 R5 r5 => q2 v5 H5 ι5 (X3.trans X5) R5 r5
/-! ### comprehensions -/
def mApp (n : Nat) (y : D) : M Unit := fun st => match st[n]? with
  | some (.lst xs) => if xs.length < sizeLine then some ((), st.set n (.lst (xs ++ [y]))) else none
  | _ => none
open Classical in
noncomputable def lcL (s : Src) (n : Nat) (g : Gx) (t : Et) (e : Ev) (ρ : Env1) : List D → M Unit
  | [] => fun st => if s.ok st then some ((), st) else none
  | x :: xs => fun st => if s.ok st then (M.bnd (g x ρ) fun ρ1 => M.bnd (t ρ1) fun k => M.bnd (if k = true then M.bnd (e ρ1) (mApp n) else M.ret ()) fun _ => lcL s n g t e ρ xs) st else none
noncomputable def eLc (it : Ei) (g : Gx) (t : Et) (e : Ev) (vs : List Nat) : Ev := fun ρ => M.bnd (it ρ) fun s => fun st => M.bnd (lcL s st.length g t e (wipeE ρ vs) s.ds) (fun _ => M.ret (.ref st.length)) (st ++ [.lst []])
def tYesD : Et := fun _ => M.ret true
theorem dt_yes : DT K tYes tYesD := by
  intro ι σ H ρ st b st' Q R E e q
  cases e
  exact q H ι (Ext.refl _ _) R
theorem new_id {ι : List Addr} {H : Hp} {st : Store} {p : Addr} (R : RelH K ι H st) : (ι ++ [p])[st.length]? = some p := by
  rw [← R.len, List.getElem?_append_right (Nat.le_refl _)]; simp
theorem de_lc {ti : TI} {vs ws : List Nat} {t : TG} {tt : TT} {te : TE} {it : Ei} {g : Gx} {c : Et} {f : Ev} (hi : DI K ti it) (hg : DG K vs t g) (hc : DT K tt c) (he : DE K te f) (hv : ∀ i ∈ vs, i ∈ ws) : DE K (tLc ti t tt te ws) (eLc it g c f ws) := by
  intro ι σ H ρ st d st' Q R E e q
  obtain ⟨s, st1, e1, e⟩ := M.bnd_some e
  obtain ⟨_, st2, e2, e⟩ := M.bnd_some e
  cases e
  refine hi ι σ H ρ st s st1 _ R E e1 fun J H1 ι1 X1 R1 G1 => ?_
  intro D hD
  have XD : Ext ι1 H1 (ι1 ++ [D]) (upd H1 D (.lst [])) := ext_new hD
  have RD : RelH K (ι1 ++ [D]) (upd H1 D (.lst [])) (st1 ++ [.lst []]) := R1.new hD ⟨[], upd_same, .nil⟩
  refine ⟨fun i m H2 => ∃ (ι2 : List Addr) (st2' : Store), i + m = s.ds.length ∧ Ext (ι1 ++ [D]) (upd H1 D (.lst [])) ι2 H2 ∧ RelH K ι2 H2 st2' ∧ lcL s st1.length g c f (wipeE ρ ws) (s.ds.drop i) st2' = some ((), st'),
    ⟨s.ds.length, ι1 ++ [D], _, by omega, Ext.refl _ _, RD, by rw [List.drop_zero]; exact e2⟩, ?_⟩
  rintro i m H2 ⟨ι2, st2', him, X2, R2, e2⟩
  have hid : ι2[st1.length]? = some D := X2.at_ (new_id R1)
  cases z : s.ds.drop i with
  | nil =>
    rw [z] at e2
    unfold lcL at e2
    split at e2
    · rename_i ok
      cases e2
      have hil : i = s.ds.length := by
        have := congrArg List.length z
        simp at this; omega
      exact .inl ⟨by rw [hil]; exact G1.stop ι2 H2 _ (XD.trans X2) R2 ok, q _ H2 ι2 (X1.trans (XD.trans X2)) R2 (.ref hid)⟩
    · cases e2
  | cons d ds =>
    rw [z] at e2
    unfold lcL at e2
    split at e2
    · rename_i ok
      have hd : s.ds[i]? = some d := by
        have : (s.ds.drop i)[0]? = some d := by rw [z]; rfl
        rw [List.getElem?_drop] at this
        simpa using this
      have hds : s.ds.drop (i + 1) = ds := by
        have : (s.ds.drop i).drop 1 = ds := by rw [z]; rfl
        rw [List.drop_drop] at this
        exact this
      have hlt : i < s.ds.length := (List.getElem?_eq_some_iff.mp hd).1
      obtain ⟨hgo, hy⟩ := G1.go ι2 H2 st2' i d (XD.trans X2) R2 ok hd
      obtain ⟨ρ3, st3, e3, e2⟩ := M.bnd_some e2
      obtain ⟨k, st4, e4, e2⟩ := M.bnd_some e2
      obtain ⟨_, st5, e5, e2⟩ := M.bnd_some e2
      refine .inr ⟨hgo, fun H' => ∃ (ι2 : List Addr) (st2' : Store), Ext (ι1 ++ [D]) (upd H1 D (.lst [])) ι2 H' ∧ RelH K ι2 H' st2' ∧ lcL s st1.length g c f (wipeE ρ ws) ds st2' = some ((), st'), ?_, ?_⟩
      · rintro H' ⟨ι5, st6, X5, R5, e6⟩
        exact ⟨m - 1, by omega, ι5, st6, by omega, X5, R5, by rw [hds]; exact e6⟩
      · intro x H3 y
        obtain ⟨Xa, Ra, ra⟩ := hy x H3 y
        have Ew : RelE K ι2 H3 (L2.wipe σ ws) (wipeE ρ ws) := (E.mono ((X1.trans (XD.trans X2)).trans Xa)).wipe ws
        refine hg ι2 (L2.wipe σ ws) H3 (wipeE ρ ws) st2' x d ρ3 st3 _ Ra Ew ra e3 fun σ4 H4 ι4 X4 R4 E4 w4 => ⟨?_, ?_⟩
        · rw [w4 ws hv]
          apply List.ext_getElem?
          intro j
          rw [wipe_get, wipe_get, L2.wipe_length]
          by_cases hj : j ∈ ws
          · rw [if_pos hj, if_pos hj]
          · rw [if_neg hj]
        · refine hc ι4 σ4 H4 ρ3 st3 k st4 _ R4 E4 e4 fun H5 ι5 X5 R5 => ?_
          have XX : Ext ι2 H2 ι5 H5 := (Xa.trans X4).trans X5
          cases k with
          | false =>
            cases e5
            exact ⟨ι5, _, X2.trans XX, R5, e2⟩
          | true =>
            rw [if_pos rfl] at e5 ⊢
            obtain ⟨w, st6, e6, e5⟩ := M.bnd_some e5
            refine he ι5 σ4 H5 ρ3 st4 w st6 _ R5 (E4.mono X5) e6 fun v H6 ι6 X6 R6 r6 => ?_
            have XY : Ext ι2 H2 ι6 H6 := XX.trans X6
            have hid6 := XY.at_ hid
            unfold mApp at e5
            split at e5
            · rename_i xs ex
              split at e5
              · rename_i hz
                cases e5
                obtain ⟨vs, h0, rv⟩ := R6.lst hid6 ex
                have Xs : Ext ι6 H6 ι6 (upd H6 D (.lst (vs ++ [v]))) := ext_set R6 hid6
                exact ⟨vs, h0, by rw [rv.length]; exact hz, ι6, _, (X2.trans XY).trans Xs, R6.set (mo := .lst (xs ++ [w])) hid6 ⟨_, upd_same, (rv.app (.cons r6 .nil)).mono Xs⟩, e2⟩
              · cases e5
            · cases e5
    · cases e2
end Dl
set_option Elab.async false
set_option linter.all false
set_option maxRecDepth 100000
set_option autoImplicit false
/-! Dl5: the rules by syntax; defs -/
namespace Dl
open PySem PySem.Spec PyProof.Rows L2
section
variable {X : Cx} {a b c e : Expr} {es : List Expr} {pos : Pos} {fa fb fc f : Ev} {ga : Ea} {x : Str}
theorem ped_var (i : Nat) (hN : X.N[i]? = some x := by rfl) (hv : Vis X.env.scope x := by first | exact Or.inl rfl | exact Or.inr (Or.inl rfl) | exact Or.inr (Or.inr rfl)) (hd : (x == ("__debug__" : Str)) = false := by decide)
    (hcd : (x == ("__classdict__" : Str)) = false := by decide) : PED X (.Name x pos) (eVar i) := ped_of (pe_var hN hv hd hcd) (de_var i)
theorem ped_int {i j} : PED X (.Constant (.int i) j pos) (eC (.int i)) := ped_of pe_int (de_c fun _ _ => .int i)
theorem ped_str {i j} : PED X (.Constant (.str i) j pos) (eC (.str i)) := ped_of pe_str (de_c fun _ _ => .str i)
theorem ped_bl {i j} : PED X (.Constant (.bool i) j pos) (eC (.bl i)) := ped_of pe_bl (de_c fun _ _ => .bl i)
theorem ped_non {j} : PED X (.Constant .none j pos) (eC .non) := ped_of pe_non (de_c fun _ _ => .non)
theorem ped_glob {d : D} {v : V} {u : Value} (hg : Gl X x) (hm : X.mg x = some u) (r : RelV v u) (h : ∀ ι H, RepV X.K ι H v d) (hd : (x == ("__debug__" : Str)) = false := by decide) : PED X (.Name x pos) (eC d) := ped_of (pe_glob hg hm r hd) (de_c h)
theorem ped_ty {T : String} (hg : Gl X x) (hm : X.mg x = none) (hv : bootBuiltins x = some (.type T)) (hn : x ≠ "__name__" := by decide) (hd : (x == ("__debug__" : Str)) = false := by decide) : PED X (.Name x pos) (eC (.ty T)) :=
  ped_of (pe_bltn (v := .ty T) hg hm hv rfl hn hd) (de_c fun _ _ => .ty T)
theorem pad_nil : PAD X [] aNil := pad_of pa_nil da_nil
theorem pad_cons (ha : PED X e f) (hr : PAD X es ga) (hs : starEach (e :: es) X.env = (false, eval e X.env) :: starEach es X.env := by rfl) : PAD X (e :: es) (aCons f ga) := pad_of (pa_cons ha hr hs) (da_cons (tE_can _ _) (tA_can _ _))
theorem ped_op {op : Operator} {r : R2} {g : D → D → M D} (ho : OpR X (binaryOp op) r) (hg : Op2 X.K r g) (ha : PED X a fa) (hb : PED X b fb) : PED X (.BinOp a op b pos) (eOp2 g fa fb) := ped_of (pe_op ho ha hb) (de_op2 hg (tE_can _ _) (tE_can _ _))
theorem ped_add (ha : PED X a fa) (hb : PED X b fb) : PED X (.BinOp a .Add b pos) (eOp2 dAdd fa fb) := ped_op op_addD op2_add ha hb
theorem ped_sub (ha : PED X a fa) (hb : PED X b fb) : PED X (.BinOp a .Sub b pos) (eOp2 dSub fa fb) := ped_op op_sub (op2_I0 fun _ _ _ _ => .int _) ha hb
theorem ped_mul (ha : PED X a fa) (hb : PED X b fb) : PED X (.BinOp a .Mult b pos) (eOp2 dMul fa fb) := ped_op op_mulW (op2_I fun _ _ _ _ => .int _) ha hb
theorem ped_div (ha : PED X a fa) (hb : PED X b fb) : PED X (.BinOp a .FloorDiv b pos) (eOp2 dDiv fa fb) := ped_op op_fdivW (op2_I fun _ _ _ _ => .int _) ha hb
theorem ped_mod (ha : PED X a fa) (hb : PED X b fb) : PED X (.BinOp a .Mod b pos) (eOp2 dMod fa fb) := ped_op op_mod (op2_I fun _ _ _ _ => .int _) ha hb
theorem ped_pow (ha : PED X a fa) (hb : PED X b fb) : PED X (.BinOp a .Pow b pos) (eOp2 dPow fa fb) := ped_op op_pow (op2_I fun _ _ _ _ => .int _) ha hb
theorem ped_neg (ha : PED X a fa) : PED X (.UnaryOp .USub a pos) (eOp1 dNeg fa) := ped_of (pe_un un_neg ha) (de_op1 op1_neg (tE_can _ _))
theorem ped_cmp {op : CmpOp} {r : R2} {g : D → D → M D} (ho : OpR X (compareOp op) r) (hg : Op2 X.K r g) (ha : PED X a fa) (hb : PED X b fb) (hm : behindInMarks op b = false) : PED X (.Compare a [op] [b] pos) (eOp2 g fa fb) := ped_of (pe_cmpR ho ha hb hm) (de_op2 hg (tE_can _ _) (tE_can _ _))
theorem ptd_cmp {op : CmpOp} {r : R2} {g : D → D → M D} (ho : OpR X (compareOp op) r) (hg : Op2 X.K r g) (ha : PED X a fa) (hb : PED X b fb) (hm : behindInMarks op b = false) : PTD X (.Compare a [op] [b] pos) (tV (eOp2 g fa fb)) :=
  ptd_of (pt_cmpR ho ha hb hm) (dt_v (de_op2 hg (tE_can _ _) (tE_can _ _)))
/-- an operator of comparison -/
structure Cmp (X : Cx) (op : CmpOp) (g : D → D → M D) : Prop where
  ex : ∃ r : R2, OpR X (compareOp op) r ∧ Op2 X.K r g
  nm : op ≠ .In ∧ op ≠ .NotIn
theorem cmp_lt : Cmp X .Lt dLt := ⟨⟨_, op_lt, op2_I0 fun _ _ _ _ => .bl _⟩, by decide, by decide⟩
theorem cmp_le : Cmp X .LtE dLe := ⟨⟨_, op_le, op2_I0 fun _ _ _ _ => .bl _⟩, by decide, by decide⟩
theorem cmp_gt : Cmp X .Gt dGt := ⟨⟨_, op_gt, op2_I0 fun _ _ _ _ => .bl _⟩, by decide, by decide⟩
theorem cmp_ge : Cmp X .GtE dGe := ⟨⟨_, op_ge, op2_I0 fun _ _ _ _ => .bl _⟩, by decide, by decide⟩
theorem cmp_eq {k : Nat} (hr : Room k X.A) : Cmp X .Eq dEq := ⟨⟨_, op_eqD hr.units, op2_eq⟩, by decide, by decide⟩
theorem cmp_ne {k : Nat} (hr : Room k X.A) : Cmp X .NotEq dNe := ⟨⟨_, op_neD hr.units, op2_ne⟩, by decide, by decide⟩
theorem ped_c {op : CmpOp} {g : D → D → M D} (h : Cmp X op g) (ha : PED X a fa) (hb : PED X b fb) : PED X (.Compare a [op] [b] pos) (eOp2 g fa fb) := by
  obtain ⟨⟨r, h1, h2⟩, n1, n2⟩ := h
  exact ped_cmp h1 h2 ha hb (nomark _ n1 n2)
theorem ptd_c {op : CmpOp} {g : D → D → M D} (h : Cmp X op g) (ha : PED X a fa) (hb : PED X b fb) : PTD X (.Compare a [op] [b] pos) (tV (eOp2 g fa fb)) := by
  obtain ⟨⟨r, h1, h2⟩, n1, n2⟩ := h
  exact ptd_cmp h1 h2 ha hb (nomark _ n1 n2)
theorem ped_ch {op op' : CmpOp} {g g' : D → D → M D} (h : Cmp X op g) (h' : Cmp X op' g') (ha : PED X a fa) (hb : PED X b fb) (hc : PED X c fc) (hm : lastMarks [op, op'] [b, c] = false := by with_unfolding_all rfl) :
    PED X (.Compare a [op, op'] [b, c] pos) (eChain g g' fa fb fc) := by
  obtain ⟨⟨r, h1, h2⟩, n1, n2⟩ := h
  obtain ⟨⟨r', h1', h2'⟩, n1', n2'⟩ := h'
  exact ped_of (pe_chain h1 h1' ha hb hc hm) (de_chain h2 h2' (tE_can _ _) (tE_can _ _) (tE_can _ _))
theorem ptd_ch {op op' : CmpOp} {g g' : D → D → M D} (h : Cmp X op g) (h' : Cmp X op' g') (ha : PED X a fa) (hb : PED X b fb) (hc : PED X c fc) (hm : lastMarks [op, op'] [b, c] = false := by with_unfolding_all rfl) :
    PTD X (.Compare a [op, op'] [b, c] pos) (tV (eChain g g' fa fb fc)) := by
  obtain ⟨⟨r, h1, h2⟩, n1, n2⟩ := h
  obtain ⟨⟨r', h1', h2'⟩, n1', n2'⟩ := h'
  exact ptd_of (pt_chain h1 h1' ha hb hc hm) (dt_v (de_chain h2 h2' (tE_can _ _) (tE_can _ _) (tE_can _ _)))
theorem ped_isN {j p'} (ha : PED X a fa) : PED X (.Compare a [.Is] [.Constant .none j p'] pos) (eOp1 (dIsN false) fa) := ped_of (pe_cmp (pc_isN ha) rfl) (de_isN (tE_can _ _))
theorem ped_notN {j p'} (ha : PED X a fa) : PED X (.Compare a [.IsNot] [.Constant .none j p'] pos) (eOp1 (dIsN true) fa) := ped_of (pe_cmp (pc_notN ha) rfl) (de_notN (tE_can _ _))
theorem ptd_isN {j p'} (ha : PED X a fa) : PTD X (.Compare a [.Is] [.Constant .none j p'] pos) (tV (eOp1 (dIsN false) fa)) := ptd_of (pt_cmp (pc_isN ha) rfl) (dt_b (de_isN (tE_can _ _)))
theorem ptd_notN {j p'} (ha : PED X a fa) : PTD X (.Compare a [.IsNot] [.Constant .none j p'] pos) (tV (eOp1 (dIsN true) fa)) := ptd_of (pt_cmp (pc_notN ha) rfl) (dt_b (de_notN (tE_can _ _)))
/-- an expression that gives a bool, as a test -/
theorem ptd_v (ha : PED X a fa) (he : ∀ whole, isTrue a X.env whole = (do let v ← whole; standAt a.pos; holding [v] (truthy v)) := by intro _; rfl) : PTD X a (tV fa) := ptd_of (pt_val ha he) (dt_b (tE_can _ _))
theorem ped_tup {k} (h : PAD X es ga) : PED X (.Tuple es k pos) (eTup ga) := ped_of (pe_tup h) (de_tup (tA_can _ _))
theorem ped_lst (h : PAD X es ga) : PED X (.List es pos) (eLst ga) := ped_of (pe_lst h) (de_lst (tA_can _ _))
theorem ped_ix (ha : PED X a fa) (hb : PED X b fb) (hs : PlainIx b := by intro _ _; rfl) : PED X (.Subscript a b pos) (eOp2 dIx fa fb) := ped_of (pe_ix (ix_list.or ix_tup) ha hb hs) (de_op2 op2_ix (tE_can _ _) (tE_can _ _))
abbrev POD (X : Cx) (e : Option Expr) (f : Eo) : Prop := PO X e (tO X.K f)
theorem pod_none : POD X none oNone := ⟨fun pins s σ H Q I q => po_none.run pins s σ H Q I (DO.all do_none q)⟩
theorem pod_some (h : PED X e f) : POD X (some e) (oSome f) := ⟨fun pins s σ H Q I q => (po_some h).run pins s σ H Q I (DO.all (do_some (tE_can _ _)) q)⟩
theorem ped_sl {lo hi : Option Expr} {fl fh : Eo} {p2 : Pos} (ha : PED X a fa) (hl : POD X lo fl) (hh : POD X hi fh) : PED X (.Subscript a (.Slice lo hi none p2) pos) (eSl fa fl fh) := ped_of (pe_slice sl_D ha hl hh) (de_sl (tE_can _ _) (tO_can _ _) (tO_can _ _))
theorem ped_ifx {t : Et} (hc : PTD X c t) (ha : PED X a fa) (hb : PED X b fb) : PED X (.IfExp c a b pos) (eIf t fa fb) := ped_of (pe_ifExp hc ha hb) (de_if (tT_can _ _) (tE_can _ _) (tE_can _ _))
theorem ped_one {op} (h : PED X a f) : PED X (.BoolOp op [a] pos) f := pe_one h
theorem ped_and {rest : List Expr} (ha : PED X a fa) (hb : PED X (.BoolOp .And (b :: rest) pos) fb) : PED X (.BoolOp .And (a :: b :: rest) pos) (eAnd fa fb) := ped_of (pe_and ha hb) (de_and (tE_can _ _) (tE_can _ _))
theorem ped_or {rest : List Expr} (ha : PED X a fa) (hb : PED X (.BoolOp .Or (b :: rest) pos) fb) : PED X (.BoolOp .Or (a :: b :: rest) pos) (eOr fa fb) := ped_of (pe_or ha hb) (de_or (tE_can _ _) (tE_can _ _))
theorem ped_not (ha : PED X a fa) : PED X (.UnaryOp .Not a pos) (eNot fa) := ped_of (pe_not ha) (de_not (tE_can _ _))
variable {ta tb : Et}
theorem pwd_and1 (ha : PTD X a ta) : PWD X (.BoolOp .And [a] pos) ta := pw_and1 ha
theorem pwd_or1 (ha : PTD X a ta) : PWD X (.BoolOp .Or [a] pos) ta := pw_or1 ha
theorem pwd_and {rest : List Expr} (ha : PTD X a ta) (hb : PWD X (.BoolOp .And (b :: rest) pos) tb) : PWD X (.BoolOp .And (a :: b :: rest) pos) (tAndD ta tb) := pwd_of (pw_and ha hb) (dt_and (tT_can _ _) (tT_can _ _))
theorem pwd_or {rest : List Expr} (ha : PTD X a ta) (hb : PWD X (.BoolOp .Or (b :: rest) pos) tb) : PWD X (.BoolOp .Or (a :: b :: rest) pos) (tOrD ta tb) := pwd_of (pw_or ha hb) (dt_or (tT_can _ _) (tT_can _ _))
theorem ptd_w (h : PWD X a ta) : PTD X a ta := h.pt
theorem ptd_not (ha : PTD X a ta) : PTD X (.UnaryOp .Not a pos) (tNotD ta) := ptd_of (pt_not ha) (dt_not (tT_can _ _))
/-! ### calls of built-ins -/
theorem ped_cb {id : String} {p : Pos} {r : List V → Hp → VK → Prop} {g : List D → M D} (hc : CallR X (.builtin id) r) (hd : CallD X.K r g) (hg : Gl X x) (hm : X.mg x = none) (hv : bootBuiltins x = some (.builtin id)) (ha : PAD X (e :: es) ga) (hn : x ≠ "__name__" := by decide) (hdb : (x == ("__debug__" : Str)) = false := by decide)
    (he : starEach (e :: es) X.env = (false, eval e X.env) :: starEach es X.env := by rfl) (hpl : (backTo pos (starEach es X.env)).any (·.1) = false := by rfl) : PED X (.Call (.Name x p) (e :: es) [] pos) (eCB g ga) := ped_of (pe_callB hc hg hm hv ha hn hdb he hpl) (de_cb hd (tA_can _ _))
theorem ped_ct {T : String} {p : Pos} {r : List V → Hp → VK → Prop} {g : List D → M D} (hc : CallR X (.type T) r) (hd : CallD X.K r g) (hg : Gl X x) (hm : X.mg x = none) (hv : bootBuiltins x = some (.type T)) (ha : PAD X (e :: es) ga) (hn : x ≠ "__name__" := by decide) (hdb : (x == ("__debug__" : Str)) = false := by decide)
    (he : starEach (e :: es) X.env = (false, eval e X.env) :: starEach es X.env := by rfl) (hpl : (backTo pos (starEach es X.env)).any (·.1) = false := by rfl) : PED X (.Call (.Name x p) (e :: es) [] pos) (eCB g ga) := ped_of (pe_callTy hc hg hm hv ha hn hdb he hpl) (de_cb hd (tA_can _ _))
/-! ### comprehensions -/
theorem ped_lc {elt tg iter : Expr} {ifs : List Expr} {scope : Scope} {own : List (Str × Nat)} {vs : List Nat} {it : Ei} {g : Gx} {t : Et} (hc : X.calm = true) (hN : X.N.Nodup) (hi : PID X tg iter it) (ok : BlkOk X.N X.env.scope scope own)
    (hg : ∀ (s : Shared) (H : Hp) (C : Addr) (cl : List (Str × Addr)) (fp : List Addr), PGD (X.blk s H scope (compEnvC scope cl C X.env) fp) vs tg g) (ht : ∀ (s : Shared) (H : Hp) (C : Addr) (cl : List (Str × Addr)) (fp : List Addr), PTs (X.blk s H scope (compEnvC scope cl C X.env) fp) ifs (tT X.K t))
    (he : ∀ (s : Shared) (H : Hp) (C : Addr) (cl : List (Str × Addr)) (fp : List Addr), PED (X.blk s H scope (compEnvC scope cl C X.env) fp) elt f) (hv : ∀ i ∈ vs, i ∈ own.map (·.2) := by decide) (hs : ∀ x, foldedSetIterable iter X.env x = pure x := by intro _; rfl) :
    PED X (.ListComp elt [⟨tg, iter, ifs, 0⟩] scope pos) (eLc it g t f (own.map (·.2))) :=
  ped_of (pe_lc hc hN hi ok hg ht he hs) (de_lc (tI_can _ _) (tG_can _ _ _) (tT_can _ _) (tE_can _ _) hv)
theorem ptsd_nil : PTs X [] (tT X.K tYesD) := ⟨fun pins s σ H Q I q => pts_nil.run pins s σ H Q I (DT.all dt_yes q)⟩
theorem ptsd_one {t : Et} (h : PTD X c t) : PTs X [c] (tT X.K t) := pts_one h
theorem psd_lc {i : Nat} {y : Str} {py spos : Pos} {elt tg iter : Expr} {ifs : List Expr} {scope : Scope} {own : List (Str × Nat)} {vs : List Nat} {it : Ei} {g : Gx} {t : Et} (hc : X.calm = true) (hN : X.N.Nodup) (hy : X.N[i]? = some y) (hyl : X.env.scope.names.lookup y = some .local)
    (hsw : swapsWith (.ListComp elt [⟨tg, iter, ifs, 0⟩] scope pos) (some (.Name y py)) spos.line X.env = pure true) (hi : PID X tg iter it) (ok : BlkOk X.N X.env.scope scope own)
    (hg : ∀ (s : Shared) (H : Hp) (C : Addr) (cl : List (Str × Addr)) (fp : List Addr), PGD (X.blk s H scope (compEnvC scope cl C X.env) fp) vs tg g) (ht : ∀ (s : Shared) (H : Hp) (C : Addr) (cl : List (Str × Addr)) (fp : List Addr), PTs (X.blk s H scope (compEnvC scope cl C X.env) fp) ifs (tT X.K t))
    (he : ∀ (s : Shared) (H : Hp) (C : Addr) (cl : List (Str × Addr)) (fp : List Addr), PED (X.blk s H scope (compEnvC scope cl C X.env) fp) elt f) (hv : ∀ i ∈ vs, i ∈ own.map (·.2) := by decide) (hs : ∀ x, foldedSetIterable iter X.env x = pure x := by intro _; rfl) :
    PSD X (.Assign [.Name y py] (.ListComp elt [⟨tg, iter, ifs, 0⟩] scope pos) spos) (sAsg (eLc it g t f (own.map (·.2))) (xName i)) :=
  psd_of (ps_setLc hc hN hy hyl hsw hi ok hg ht he hs) (ds_asg (de_lc (tI_can _ _) (tG_can _ _ _) (tT_can _ _) (tE_can _ _) hv) (dg_name i))
/-! ### statements -/
variable {st : Stmt} {rest : List Stmt} {s1 s2 : Sx}
theorem pssd_nil : PSsD X [] sNext := pssd_of pss_nil ds_next
theorem pssd_one (h : PSD X st s1) : PSsD X [st] s1 := pss_one h
theorem pssd_cons (h : PSD X st s1) (h2 : PSsD X rest s2) : PSsD X (st :: rest) (sSeq s1 s2) := pssd_of (pss_cons h h2) (ds_seq (tS_can _ _) (tS_can _ _))
theorem psd_ret (h : PED X e f) : PSD X (.Return (some e) pos) (sRet f) := psd_of (ps_ret h) (ds_ret (tE_can _ _))
theorem psd_drop (h : PED X e f) (hs : swapsWith e none pos.line X.env = pure false := by rfl) : PSD X (.Expr e pos) (sDrop f) := psd_of (ps_expr h hs) (ds_drop (tE_can _ _))
theorem psd_doc {y j p'} : PSD X (.Expr (.Constant (.str y) j pos) p') sNext := psd_of ps_doc ds_next
theorem psd_if {t : Et} {bt be : List Stmt} (hc : PTD X c t) (h1 : PSsD X bt s1) (h2 : PSsD X be s2) : PSD X (.If c bt be pos) (sIf t s1 s2) := psd_of (ps_if hc h1 h2) (ds_if (tT_can _ _) (tS_can _ _) (tS_can _ _))
theorem pgd_name (i : Nat) (hN : X.N.Nodup) (hi : X.N[i]? = some x := by rfl) (hx : Loc X.env.scope x := by first | exact Or.inl rfl | exact Or.inr rfl) (hf : X.fn x = true ∨ X.env.scope.names.lookup x = some .local := by first | exact .inl rfl | exact .inr rfl) : PGD X [i] (.Name x pos) (xName i) := pgd_of (pg_name hN hi hx hf) (dg_name i)
theorem pgsd_nil : PGsD X [] [] xNil := pgsd_of pgs_nil dgs_nil
theorem pgsd_cons {vs ws : List Nat} {g : Gx} {gr : Gxs} (h1 : PGD X vs e g) (h2 : PGsD X ws es gr) (hs : (assignEach (e :: es) X.env).map (·.2) = assign e X.env :: (assignEach es X.env).map (·.2) := by rfl) : PGsD X (vs ++ ws) (e :: es) (xCons g gr) :=
  pgsd_of (pgs_cons h1 h2 hs) (dgs_cons (tG_can _ _ _) (tGs_can _ _ _))
theorem pgd_tup {vs : List Nat} {k n : Nat} {gr : Gxs} (hc : X.calm = true) (h : PGsD X vs es gr) (hn : (assignEach es X.env).length = n := by rfl) (hst : (assignEach es X.env).findIdx? (·.1) = none := by rfl) : PGD X vs (.Tuple es k pos) (xTup n gr) :=
  pgd_of (pg_tup hc h hn hst) (dg_tup (tGs_can _ _ _))
theorem psd_set {i : Nat} {p' : Pos} (hN : X.N.Nodup) (h : PED X e f) (hi : X.N[i]? = some x := by rfl) (hx : Loc X.env.scope x := by first | exact Or.inl rfl | exact Or.inr rfl) (hs : swapsWith e (some (.Name x p')) pos.line X.env = pure false := by rfl) (hf : X.fn x = true ∨ X.env.scope.names.lookup x = some .local := by first | exact .inl rfl | exact .inr rfl) :
    PSD X (.Assign [.Name x p'] e pos) (sAsg f (xName i)) := psd_of (ps_set hN hi hx h hs hf) (ds_asg (tE_can _ _) (dg_name i))
theorem psd_asg {tg : Expr} {vs : List Nat} {g : Gx} (h : PED X e f) (hg : PGD X vs tg g) (hs : swapsWithSole [tg] e pos.line X.env = pure false := by rfl) (hw : swappedStores [tg] e X.env = pure none := by rfl)
    (h1 : (assignEach [tg] X.env).map (·.2) = [assign tg X.env] := by rfl) : PSD X (.Assign [tg] e pos) (sAsg f g) := psd_of (ps_asg h hg hs hw h1) (ds_asg (tE_can _ _) (tG_can _ _ _))
theorem psd_par {i j : Nat} {y : Str} {px py pt : Pos} {kt k2 pt2} (hc : X.calm = true) (hN : X.N.Nodup) (ha : PAD X [a, b] ga) (hi : X.N[i]? = some x := by rfl) (hj : X.N[j]? = some y := by rfl) (hij : i ≠ j := by decide)
    (hx : X.env.scope.names.lookup x = some .local := by rfl) (hy : X.env.scope.names.lookup y = some .local := by rfl)
    (hw : swappedStores [.Tuple [.Name x px, .Name y py] kt pt] (.Tuple [a, b] k2 pt2) X.env = pure (some [x, y]) := by rfl)
    (hs : swapsWithSole [.Tuple [.Name x px, .Name y py] kt pt] (.Tuple [a, b] k2 pt2) pos.line X.env = pure false := by rfl) :
    PSD X (.Assign [.Tuple [.Name x px, .Name y py] kt pt] (.Tuple [a, b] k2 pt2) pos) (sPar i j ga) := psd_of (ps_par hc hN hi hj hij hx hy ha hw hs) (ds_par (tA_can _ _))
theorem psd_for {tg iter : Expr} {body : List Stmt} {vs : List Nat} {it : Ei} {g : Gx} (hp : PassesOwn (model X.prog X.w) X.A X.env X.xe) (hc : X.calm = true) (hi : PID X tg iter it) (hg : PGD X vs tg g) (hb : PSsD X body s1)
    (hs : ∀ x, foldedSetIterable iter X.env x = pure x := by intro _; rfl) : PSD X (.For tg iter body [] pos) (sFor it g s1) := psd_of (ps_for hp hc hi hg hb hs) (ds_for (tI_can _ _) (tG_can _ _ _) (tS_can _ _))
theorem psd_while {body : List Stmt} {t : Et} (fuel : Env1 → Nat) (hp : PassesOwn (model X.prog X.w) X.A X.env X.xe) (hc : PTD X c t) (hb : PSsD X body s1) : PSD X (.While c body [] pos) (sWhile fuel t s1) := psd_of (ps_while hp hc hb) (ds_while (tT_can _ _) (tS_can _ _))
/-! ### what is walked -/
variable {tg : Expr}
theorem pid_tup (h : PED X e f) : PID X tg e (iTupS f) := pid_of (pi_tup h) (di_tup (tE_can _ _))
theorem pid_lst (h : PED X e f) : PID X tg e (iLstS f) := pid_of (pi_list h) (di_lst (tE_can _ _))
theorem pid_str (h : PED X e f) : PID X tg e (iStrS f) := pid_of (pi_str h) (di_str (tE_can _ _))
theorem pid_r1 {p : Pos} (hg : Gl X "range") (hm : X.mg "range" = none) (ha : PAD X [a] ga) (hs : starEach [a] X.env = [(false, eval a X.env)] := by rfl) : PID X tg (.Call (.Name "range" p) [a] [] pos) (iR1 ga) := pid_of (pi_range1 hg hm ha hs) (di_r1 (tA_can _ _))
theorem pid_r2 {p : Pos} (hg : Gl X "range") (hm : X.mg "range" = none) (ha : PAD X [a, b] ga) (hs : starEach [a, b] X.env = [(false, eval a X.env), (false, eval b X.env)] := by rfl) (hs2 : starEach [b] X.env = [(false, eval b X.env)] := by rfl) :
    PID X tg (.Call (.Name "range" p) [a, b] [] pos) (iR2 ga) := pid_of (pi_range2 hg hm ha hs hs2) (di_r2 (tA_can _ _))
end
/-! ### methods that change a list -/
section
variable {K : PySem.W.Frag}
def mIsL : D → M Unit
  | .ref n => fun st => match st[n]? with
    | some (.lst _) => some ((), st)
    | _ => none
  | _ => M.bad
def eBM (g : D → List D → M D) (o : Ev) (a : Ea) : Ev := fun ρ => M.bnd (o ρ) fun x => M.bnd (mIsL x) fun _ => M.bnd (a ρ) fun ys => g x ys
def MetD (K : PySem.W.Frag) (r : V → List V → Hp → VK → Prop) (g : D → List D → M D) : Prop := ∀ (ι : List Addr) (H : Hp) (st : Store) (x : V) (dx : D) (vs : List V) (ds : List D) (d : D) (st' : Store) (Q : VK), RelH K ι H st → RepV K ι H x dx → RepVs K ι H vs ds → g dx ds st = some (d, st') →
  (∀ v H' ι', Ext ι H ι' H' → RelH K ι' H' st' → RepV K ι' H' v d → Q v H') → r x vs H Q
theorem de_bm {r : V → List V → Hp → VK → Prop} {g : D → List D → M D} {to : TE} {ta : TA} {fo : Ev} {fa : Ea} (hg : MetD K r g) (ho : DE K to fo) (ha : DA K ta fa) : DE K (tBM K "list" r to ta) (eBM g fo fa) := by
  intro ι σ H ρ st d st' Q R E e q
  obtain ⟨x, st1, e1, eA⟩ := M.bnd_some e
  obtain ⟨_, st2, e2, eB⟩ := M.bnd_some eA
  obtain ⟨ys, st3, e3, eC⟩ := M.bnd_some eB
  clear e eA eB
  refine ho ι σ H ρ st x st1 _ R E e1 fun v H1 ι1 X1 R1 r1 => ?_
  cases x with
  | ref n =>
    have e2 : (match st1[n]? with
      | some (.lst _) => some ((), st1)
      | _ => none) = some (_, st2) := e2
    split at e2
    · rename_i xs ex
      cases e2
      cases r1 with
      | ref h0 =>
        obtain ⟨vs, h1, ra⟩ := R1.lst h0 ex
        refine ⟨.inl ⟨rfl, _, .of h1⟩, ?_⟩
        refine ha ι1 σ H1 ρ _ ys st3 _ R1 (E.mono X1) e3 fun ws H2 ι2 X2 R2 r2 => ?_
        exact hg ι2 H2 st3 _ (.ref n) ws ys d st' Q R2 (.ref (X2.at_ h0)) r2 eC fun u H3 ι3 X3 R3 r3 => q u H3 ι3 ((X1.trans X2).trans X3) R3 r3
    · cases e2
  | _ => cases e2
def dApp : D → List D → M D
  | .ref n, [y] => fun st => match st[n]? with
    | some (.lst xs) => if xs.length < sizeLine then some (.non, st.set n (.lst (xs ++ [y]))) else none
    | _ => none
  | _, _ => M.bad
theorem md_app : MetD K rAppend dApp := by
  intro ι H st x dx vs ds d st' Q R rx rv e q
  unfold dApp at e
  split at e
  · rename_i n y
    split at e
    · rename_i xs ex
      split at e
      · rename_i hz
        cases e
        cases rx with
        | ref h0 =>
          cases rv with
          | @cons vy _ _ _ ry rr =>
            cases rr
            obtain ⟨ws, h1, ra⟩ := R.lst h0 ex
            have Xs : Ext ι H ι (upd H _ (.lst (ws ++ [vy]))) := ext_set R h0
            exact ⟨_, ws, _, rfl, rfl, h1, by rw [ra.length]; exact hz, q _ _ ι Xs (R.set (mo := .lst (xs ++ [y])) h0 ⟨_, upd_same, (ra.app (.cons ry .nil)).mono Xs⟩) .non⟩
      · cases e
    · cases e
  · cases e
def dIns : D → List D → M D
  | .ref n, [.int i, y] => fun st => match st[n]? with
    | some (.lst xs) => if xs.length < sizeLine ∧ 0 ≤ i ∧ i < 2 ^ 63 then some (.non, st.set n (.lst (xs.take i.toNat ++ [y] ++ xs.drop i.toNat))) else none
    | _ => none
  | _, _ => M.bad
theorem md_ins : MetD K (fun x vs H Q => ∃ (l : Addr) (xs : List V) (i : Int) (y : V), x = .ref l ∧ vs = [.int i, y] ∧ H l = some (.lst xs) ∧ xs.length < sizeLine ∧ 0 ≤ i ∧ i < 2 ^ 63 ∧
    Q .non (upd H l (.lst (xs.take i.toNat ++ [y] ++ xs.drop i.toNat)))) dIns := by
  intro ι H st x dx vs ds d st' Q R rx rv e q
  unfold dIns at e
  split at e
  · rename_i n i y
    split at e
    · rename_i xs ex
      split at e
      · rename_i hz
        cases e
        cases rx with
        | ref h0 =>
          cases rv with
          | cons ri rr =>
            cases rr with
            | @cons vy _ _ _ ry rr =>
              cases rr
              cases ri
              obtain ⟨ws, h1, ra⟩ := R.lst h0 ex
              have Xs : Ext ι H ι (upd H _ (.lst (ws.take i.toNat ++ [vy] ++ ws.drop i.toNat))) := ext_set R h0
              exact ⟨_, ws, i, _, rfl, rfl, h1, by rw [ra.length]; exact hz.1, hz.2.1, hz.2.2, q _ _ ι Xs (R.set (mo := .lst (xs.take i.toNat ++ [y] ++ xs.drop i.toNat)) h0 ⟨_, upd_same, (((ra.takeN _).app (.cons ry .nil)).app (ra.dropN _)).mono Xs⟩) .non⟩
      · cases e
    · cases e
  · cases e
/-- o[i] = .. of a list -/
def mSetI : D → D → D → M Unit
  | .ref n, .int k, y => fun st => match st[n]? with
    | some (.lst xs) => (ixN xs.length k).map fun j => ((), st.set n (.lst (xs.set j y)))
    | _ => none
  | _, _, _ => M.bad
def xSub (o i : Ev) : Gx := fun d ρ => M.bnd (o ρ) fun x => M.bnd (i ρ) fun y => M.bnd (mSetI x y d) fun _ => M.ret ρ
theorem dg_sub {to ti : TE} {fo fi : Ev} (ho : DE K to fo) (hi : DE K ti fi) : DG K [] (gSub to ti rSetL) (xSub fo fi) := by
  intro ι σ H ρ st v d ρ' st' Q R E r e q
  obtain ⟨x, st1, e1, eA⟩ := M.bnd_some e
  obtain ⟨y, st2, e2, eB⟩ := M.bnd_some eA
  obtain ⟨_, st3, e3, eC⟩ := M.bnd_some eB
  clear e eA eB
  cases eC
  refine ho ι σ H ρ st x st1 _ R E e1 fun vx H1 ι1 X1 R1 r1 => ?_
  refine hi ι1 σ H1 ρ st1 y st2 _ R1 (E.mono X1) e2 fun vy H2 ι2 X2 R2 r2 => ?_
  unfold mSetI at e3
  split at e3
  · rename_i n k
    split at e3
    · rename_i xs ex
      cases r1 with
      | ref h0 =>
        cases r2
        have h0' := X2.at_ h0
        obtain ⟨ws, h1, ra⟩ := R2.lst h0' ex
        cases z : ixN xs.length k with
        | none => rw [z] at e3; cases e3
        | some j =>
          rw [z] at e3
          cases e3
          have Xs : Ext ι2 H2 ι2 (upd H2 _ (.lst (ws.set j v))) := ext_set R2 h0'
          have XX := X1.trans X2
          exact ⟨_, ws, k, j, rfl, rfl, h1, by rw [ra.length]; exact z, q σ _ ι2 (XX.trans Xs) (R2.set (mo := .lst (xs.set j d)) h0' ⟨_, upd_same, (RepVs.setN (r.mono XX) j ra).mono Xs⟩) (E.mono (XX.trans Xs)) fun us _ => rfl⟩
    · cases e3
  · cases e3
end
section
variable {X : Cx} {o e : Expr} {es : List Expr} {pos : Pos} {fo fi : Ev} {ga : Ea}
theorem ped_app {apos : Pos} (ho : PED X o fo) (ha : PAD X (e :: es) ga) (hbase : attributeBase o "append" X.env (eval o X.env) = eval o X.env := by rfl)
    (hfew : ((backTo pos (starEach (e :: es) X.env)).all (fun x => !x.1) && (backToKw pos (keywordEach [] X.env)).all (fun x => x.1.isSome) && decide ((e :: es).length + ([] : List Keyword).length + (if ([] : List Keyword).isEmpty then 0 else 1) < 30)) = true := by rfl)
    (hline : (apos.endLine == pos.line) = true := by rfl) (hs : starEach (e :: es) X.env = (false, eval e X.env) :: starEach es X.env := by rfl) (hplain : (backTo pos (starEach es X.env)).any (·.1) = false := by rfl) :
    PED X (.Call (.Attribute o "append" apos) (e :: es) [] pos) (eBM dApp fo ga) :=
  ped_of (pe_bm PySem.F.plainAttrs_list PySem.F.slot_list_append PySem.F.type_list_append mt_append ho ha hbase hfew hline hs hplain) (de_bm md_app (tE_can _ _) (tA_can _ _))
theorem ped_ins {apos : Pos} (ho : PED X o fo) (ha : PAD X (e :: es) ga) (hbase : attributeBase o "insert" X.env (eval o X.env) = eval o X.env := by rfl)
    (hfew : ((backTo pos (starEach (e :: es) X.env)).all (fun x => !x.1) && (backToKw pos (keywordEach [] X.env)).all (fun x => x.1.isSome) && decide ((e :: es).length + ([] : List Keyword).length + (if ([] : List Keyword).isEmpty then 0 else 1) < 30)) = true := by rfl)
    (hline : (apos.endLine == pos.line) = true := by rfl) (hs : starEach (e :: es) X.env = (false, eval e X.env) :: starEach es X.env := by rfl) (hplain : (backTo pos (starEach es X.env)).any (·.1) = false := by rfl) :
    PED X (.Call (.Attribute o "insert" apos) (e :: es) [] pos) (eBM dIns fo ga) :=
  ped_of (pe_bm PySem.F.plainAttrs_list PySem.F.slot_list_insert PySem.F.type_list_insert mt_insert ho ha hbase hfew hline hs hplain) (de_bm md_ins (tE_can _ _) (tA_can _ _))
theorem pgd_sub {i : Expr} (ho : PED X o fo) (hi : PED X i fi)
    (ha : ∀ v, assign (.Subscript o i pos) X.env v = (do
      let ov ← holding [v] (eval o X.env)
      let iv ← holding [v, ov] (eval i X.env)
      standAt pos
      holding [v, ov, iv] (setItem ov iv v)
      release [v, ov, iv] []) := by intro _; rfl) : PGD X [] (.Subscript o i pos) (xSub fo fi) := pgd_of (pg_sub ho hi set_list ha) (dg_sub (tE_can _ _) (tE_can _ _))
end
/-! ### defs -/
def SpOf (K : PySem.W.Frag) (n : Nat) (F : List D → M D) : Sp := fun vs H Q _ => vs.length = n ∧ ∃ (ι : List Addr) (ds : List D) (st : Store) (d : D) (st' : Store), RelH K ι H st ∧ RepVs K ι H vs ds ∧ F ds st = some (d, st') ∧
  ∀ v H' ι', Ext ι H ι' H' → RelH K ι' H' st' → RepV K ι' H' v d → Q v H'
def defX (n : Nat) (b : Sx) (ds : List D) : M D := fun st => match b (ds.map some ++ List.replicate (n - ds.length) none) st with
  | some (.rt d, st') => some (d, st')
  | some (.nx _, st') => some (.non, st')
  | _ => none
def oldOk (st st' : Store) : Prop := ∀ (i : Nat) (o : MO), i < st.length → st'[i]? = some o → st[i]? = some o ∨ o.low 0 = true
def mCall (n : Nat) (F : List D → M D) (ds : List D) : M D := if ds.length = n then F ds else M.bad
/-- how long a while may run: by the number in a slot -/
def fuelAt (i : Nat) (ρ : Env1) : Nat := match ρ[i]? with
  | some (some (.int j)) => j.natAbs + 2
  | _ => 0
open Classical in
/-- the answer has no references: what was made within is let go -/
noncomputable def gcF (F : List D → M D) (ds : List D) : M D := fun st => match F ds st with
  | some (d, st') => if d.low 0 = true ∧ oldOk st st' ∧ st.length ≤ st'.length then some (d, st'.take st.length) else none
  | none => none
open Classical in
/-- the answer is a new object without references -/
noncomputable def gcL (F : List D → M D) (ds : List D) : M D := fun st => match F ds st with
  | some (.ref m, st') => match st'[m]? with
    | some o => if o.low 0 = true ∧ oldOk st st' ∧ st.length ≤ m then some (.ref st.length, st'.take st.length ++ [o]) else none
    | none => none
  | _ => none
structure Ok (P : Program) (w : World) (K : PySem.W.Frag) (mg : Str → Option Value) (base : Heap) (k : Nat) (x : Str) (ps : List Str) (F : List D → M D) : Prop where
  ex : ∃ (f : Addr) (fd : FuncData), mg x = some (.ref f) ∧ PySem.W.keepIn K (.ref f) = true ∧ Binds K fd ps [] ∧ FnOk P w K mg base CX0 k f fd ps (SpOf K ps.length F)
section
variable {P : Program} {w : World} {K : PySem.W.Frag} {mg : Str → Option Value} {base : Heap} {k : Nat} {x : Str} {ps : List Str} {F : List D → M D}
theorem Ok.imp {F' : List D → M D} (h : Ok P w K mg base k x ps F) (hi : ∀ vs H Q E, SpOf K ps.length F' vs H Q E → SpOf K ps.length F vs H Q E) : Ok P w K mg base k x ps F' := by
  obtain ⟨f, fd, h1, h2, h3, h4⟩ := h.ex
  exact ⟨f, fd, h1, h2, h3, h4.imp hi⟩
theorem Ok.mono {j : Nat} (h : Ok P w K mg base k x ps F) (hj : k ≤ j) : Ok P w K mg base j x ps F := by
  obtain ⟨f, fd, h1, h2, h3, h4⟩ := h.ex
  exact ⟨f, fd, h1, h2, h3, h4.mono hj⟩
theorem Ok.gcF (h : Ok P w K mg base k x ps F) : Ok P w K mg base k x ps (gcF F) := by
  refine h.imp fun vs H Q E hs => ?_
  obtain ⟨hl, ι, ds, st, d, st', R, r, e, q⟩ := hs
  unfold Dl.gcF at e
  split at e
  · rename_i d0 st0 e0
    split at e
    · rename_i hc
      cases e
      refine ⟨hl, ι, ds, st, _, st0, R, r, e0, fun v H' ι' X' R' r' => ?_⟩
      have ht : (st0.take st.length).length = ι.length := by
        rw [R.len, List.length_take]
        omega
      have hlow : (D.low ι.length d) = true := D.low_mono (Nat.zero_le _) hc.1
      refine q v H' ι ⟨List.prefix_refl _, X'.tup, X'.frz⟩ (R'.cut X'.pre ht fun n o hn => ?_) (r'.cut X'.pre hlow)
      have hn' : n < st.length := by
        have := (List.getElem?_eq_some_iff.mp hn).1
        rw [List.length_take] at this
        omega
      rw [List.getElem?_take_of_lt hn'] at hn
      refine ⟨hn, ?_⟩
      rcases hc.2.1 n o hn' hn with z | z
      · obtain ⟨a, _, ro⟩ := R.at_ n o z
        exact ro.isLow
      · cases o with
        | lst xs => exact D.lows_mono (Nat.zero_le _) z
        | dk xs => exact D.lows_mono (Nat.zero_le _) z
        | dt xs => exact D.lows_mono (Nat.zero_le _) z
    · cases e
  · cases e
theorem MO.low_mono {j k : Nat} (h : j ≤ k) {o : MO} (l : o.low j = true) : o.low k = true := by
  cases o with
  | lst xs => exact D.lows_mono h l
  | dk xs => exact D.lows_mono h l
  | dt xs => exact D.lows_mono h l
theorem Ok.gcL (h : Ok P w K mg base k x ps F) : Ok P w K mg base k x ps (gcL F) := by
  refine h.imp fun vs H Q E hs => ?_
  obtain ⟨hl, ι, ds, st, d, st', R, r, e, q⟩ := hs
  unfold Dl.gcL at e
  split at e
  · rename_i m st0 e0
    split at e
    · rename_i o eo
      split at e
      · rename_i hc
        cases e
        refine ⟨hl, ι, ds, st, _, st0, R, r, e0, fun v H' ι' X' R' r' => ?_⟩
        cases r' with
        | ref ha =>
          rename_i a
          have hm : m < st0.length := (List.getElem?_eq_some_iff.mp eo).1
          have ht : (st0.take st.length).length = ι.length := by
            rw [R.len, List.length_take]
            omega
          obtain ⟨o', e', ro⟩ := R'.get ha
          rw [eo] at e'; cases e'
          obtain ⟨t, rfl⟩ := X'.pre
          have hna : a ∉ ι := fun hin => by
            obtain ⟨j, hj, ej⟩ := List.getElem_of_mem hin
            have ej' : (ι ++ t)[j]? = some a := by rw [List.getElem?_append_left hj]; exact List.getElem?_eq_some_iff.mpr ⟨hj, ej⟩
            have := L2.nd_ix R'.nd ej' ha
            rw [R.len] at hj
            omega
          have Rc : RelH K ι H' (st0.take st.length) := R'.cut (List.prefix_append _ _) ht fun n o2 hn => by
            have hn' : n < st.length := by
              have := (List.getElem?_eq_some_iff.mp hn).1
              rw [List.length_take] at this
              omega
            rw [List.getElem?_take_of_lt hn'] at hn
            refine ⟨hn, ?_⟩
            rcases hc.2.1 n o2 hn' hn with z | z
            · obtain ⟨a, _, ro⟩ := R.at_ n o2 z
              exact ro.isLow
            · exact MO.low_mono (Nat.zero_le _) z
          have roc : RepO K ι H' a o := ro.cut (List.prefix_append _ _) (MO.low_mono (Nat.zero_le _) hc.1)
          have Xn : Ext ι H' (ι ++ [a]) H' := ⟨List.prefix_append _ _, fun _ _ h => h, fun _ _ _ h => h⟩
          have Rn : RelH K (ι ++ [a]) H' (st0.take st.length ++ [o]) := by
            refine ⟨by simp [ht], ?_, fun n u hn => ?_⟩
            · rw [List.nodup_append]
              exact ⟨Rc.nd, by simp, fun b hb c hc' => by
                rw [List.mem_singleton] at hc'
                subst hc'
                exact fun z => hna (z ▸ hb)⟩
            · by_cases hn2 : n < (st0.take st.length).length
              · rw [List.getElem?_append_left hn2] at hn
                obtain ⟨b, e1, r1⟩ := Rc.at_ n u hn
                exact ⟨b, Xn.at_ e1, r1.keep Xn rfl⟩
              · rw [List.getElem?_append_right (by omega)] at hn
                have hz : n = (st0.take st.length).length := by
                  have := (List.getElem?_eq_some_iff.mp hn).1
                  simp at this
                  simp at hn2 ⊢
                  omega
                subst hz
                simp at hn
                subst hn
                exact ⟨a, by rw [List.getElem?_append_right (by omega)]; simp [ht], roc.keep Xn rfl⟩
          refine q _ H' (ι ++ [a]) ⟨List.prefix_append _ _, X'.tup, X'.frz⟩ Rn (.ref ?_)
          rw [← R.len, List.getElem?_append_right (Nat.le_refl _)]
          simp
      · cases e
    · cases e
  · cases e
/-- a def by its body -/
theorem Ok.of {qual : Str} {params : Arguments} {body : List Stmt} {scope : Scope} {f : Addr} {fd : FuncData} {N : List Str} {b : Sx} (Fd : FunD K x qual params body scope [] [] f fd) (S : FnScope N ps scope) (hg : mg x = some (.ref f)) (hb : Binds K fd ps [])
    (hbody : ∀ (cdv : Value) (A : Around) (outer : List Env) (s : Shared) (H : Hp) (E : XK), Room k (A.deeper (envOfC qual scope s.heap.objs.size f cdv)) → PSsD (cxOf CX0 P w K mg base N qual scope f cdv A outer s H E).nox body b) :
    Ok P w K mg base (k + 1) x ps (defX N.length b) := by
  refine ⟨f, fd, hg, Fd.kp, hb, Fd.ok S (fun vs H Q E h => h.1) fun cdv A outer s H vs Q E hr h => ?_⟩
  refine ⟨_, PSs.nox (hbody cdv A outer s H E hr), ?_⟩
  obtain ⟨hl, ι, ds, st, d, st', R, r, e, q⟩ := h
  unfold defX at e
  split at e
  · rename_i d0 st0 e0
    cases e
    exact ⟨ι, _, st, _, _, R, RelE.start N.length r, e0, q⟩
  · rename_i ρ0 st0 e0
    cases e
    exact ⟨ι, _, st, _, _, R, RelE.start N.length r, e0, fun σ' H' ι' X' R' _ => q .non H' ι' X' R' .non⟩
  · cases e
end
section
variable {X : Cx} {x : Str} {p pos : Pos} {e : Expr} {es : List Expr} {ga : Ea} {F : List D → M D} {k j : Nat} {ps : List Str}
theorem ped_call (h : Ok X.prog X.w X.K X.mg X.base k x ps F) (hr : Room j X.A) (ha : PAD X (e :: es) ga) (hk : k ≤ j := by decide) (hl : (e :: es).length = ps.length := by rfl) (hg : Gl X x := by rfl) (hdb : (x == ("__debug__" : Str)) = false := by decide)
    (he : starEach (e :: es) X.env = (false, eval e X.env) :: starEach es X.env := by rfl) (hpl : (backTo pos (starEach es X.env)).any (·.1) = false := by rfl) : PED X (.Call (.Name x p) (e :: es) [] pos) (eCB (mCall ps.length F) ga) := by
  obtain ⟨f, fd, h1, h2, h3, h4⟩ := h.ex
  refine ped_of (pe_call h4 (hr.mono hk) hg h1 h2 h3 .nil pass0 ha hdb he hpl) ?_
  intro ι σ H ρ st d st' Q R E e q
  obtain ⟨xs, st1, e1, e⟩ := M.bnd_some e
  refine tA_can _ _ ι σ H ρ st xs st1 _ R E e1 fun vs H1 ι1 X1 R1 r1 => ?_
  unfold mCall at e
  split at e
  · rename_i hl
    rw [List.append_nil]
    exact ⟨by rw [r1.length]; exact hl, ι1, xs, st1, d, st', R1, r1, e, fun v H2 ι2 X2 R2 r2 => q v H2 ι2 (X1.trans X2) R2 r2⟩
  · cases e
end
end Dl
set_option Elab.async false
set_option linter.all false
set_option maxRecDepth 100000
set_option autoImplicit false
/-! Dl6: walks over a list or a tuple, ranges as lists, a law's start -/
namespace Dl
open PySem PySem.Spec PyProof.Rows L2
section
variable {X : Cx} {tg l : Expr} {tl : TE} {K : PySem.W.Frag}
def iAnyT (K : PySem.W.Frag) (tl : TE) : TI := fun σ H R => tl σ H fun x H1 => (∃ a, x = .ref a ∧ (∃ xs, SqL K H1 a xs) ∧ R (Itl K a) H1) ∨ ∃ a, x = .ref a ∧ (∃ xs, SqT K H1 a xs) ∧ R (Itt K a) H1
theorem pi_anyT (hl : PE X l tl) : PI X tg l (iAnyT X.K tl) := by
  refine ⟨fun pins s σ H R I h => thn (hl.run pins s σ H _ I h) fun v s1 hq => ?_⟩
  obtain ⟨x, H1, J, r1, q1⟩ := hq
  have nw : ∀ b ∈ [s1.heap.objs.size], FpOk X pins H1 b := fun b hb => by
    rw [List.mem_singleton] at hb
    subst hb
    exact J.fpOk (Nat.le_refl _) (J.hok.fresh (Nat.le_refl _))
  rcases q1 with ⟨a, rfl, ⟨xs, hs⟩, q⟩ | ⟨a, rfl, ⟨xs, hs⟩, q⟩
  · cases r1
    obtain ⟨its, _, pl, _⟩ := J.list hs
    refine wpAny_pyIter_list pl.isList ⟨_, [s1.heap.objs.size], _, _, H1, rfl, J.kept (t' := s1.toks) (fun b o e => Heap.get?_push_of_some _ e), turn_list a _, ?_, nw, q⟩
    exact ⟨_, Heap.get?_push_size _ rfl, rfl, rfl⟩
  · cases r1
    obtain ⟨its, _, pt, _⟩ := J.tuple hs
    have pt' : s1.heap.IsTuple a its.toArray := pt
    refine wpAny_pyIter_tuple pt' ⟨_, [s1.heap.objs.size], _, _, H1, rfl, J.kept (t' := s1.toks) (fun b o e => Heap.get?_push_of_some _ e), turn_tuple a _, ?_, nw, q⟩
    exact ⟨_, Heap.get?_push_size _ rfl, rfl, rfl⟩
theorem mSrc_gives {ι : List Addr} {H : Hp} {st st' : Store} {v : V} {d : D} {s : Src} (R : RelH K ι H st) (r : RepV K ι H v d) (e : mSrc d st = some (s, st')) :
    st' = st ∧ ((∃ a, v = .ref a ∧ (∃ xs, SqL K H a xs) ∧ Gives K (Itl K a) ι H s) ∨ ∃ a, v = .ref a ∧ (∃ xs, SqT K H a xs) ∧ Gives K (Itt K a) ι H s) := by
  cases d with
  | tup xs =>
    cases r with
    | tup h0 ra => cases e; exact ⟨rfl, .inr ⟨_, rfl, ⟨_, .of h0⟩, gives_tup h0 ra⟩⟩
  | ref n =>
    cases r with
    | ref h0 =>
      have e : (match st[n]? with
        | some (.lst xs) => some ((⟨xs, some n⟩ : Src), st)
        | _ => none) = some (s, st') := e
      split at e
      · rename_i xs ex
        cases e
        obtain ⟨vs, h1, ra⟩ := R.lst h0 ex
        exact ⟨rfl, .inl ⟨_, rfl, ⟨_, .of h1⟩, gives_lst h0⟩⟩
      · cases e
  | _ => cases e
theorem di_any {ta : TE} {fa : Ev} (ha : DE K ta fa) : DI K (iAnyT K ta) (iSeq fa) := by
  intro ι σ H ρ st s st' Q R E e q
  obtain ⟨x, st1, e1, e2⟩ := M.bnd_some e
  clear e
  refine ha ι σ H ρ st x st1 _ R E e1 fun v H1 ι1 X1 R1 r1 => ?_
  obtain ⟨rfl, h⟩ := mSrc_gives R1 r1 e2
  rcases h with ⟨a, rfl, hs, g⟩ | ⟨a, rfl, hs, g⟩
  · exact .inl ⟨a, rfl, hs, q _ H1 ι1 X1 R1 g⟩
  · exact .inr ⟨a, rfl, hs, q _ H1 ι1 X1 R1 g⟩
theorem pid_any {e : Expr} {f : Ev} (h : PED X e f) : PID X tg e (iSeq f) := pid_of (pi_anyT h) (di_any (tE_can _ _))
/-! ### list(range(n)) -/
instance (a b : Int) : Decidable (RgOk a b) := inferInstanceAs (Decidable (_ ∧ _ ∧ _ ∧ _ ∧ _))
def eLrg (a : Ev) : Ev := fun ρ => M.bnd (a ρ) fun d => match d with
  | .int n => if RgOk 0 n then mNew (.lst (rngD 0 (n - 0).toNat)) else M.bad
  | _ => M.bad
theorem rgV_rep {ι : List Addr} {H : Hp} (n : Int) : RepVs K ι H (rgV 0 n) (rngD 0 (n - 0).toNat) := by
  unfold rgV rngD
  have : ∀ l : List Nat, RepVs K ι H (l.map fun i => V.int (0 + (i : Nat))) (l.map fun (i : Nat) => D.int (0 + (i : Int))) := by
    intro l
    induction l with
    | nil => exact .nil
    | cons x r ih => exact .cons (.int _) ih
  exact this _
theorem ped_lrg {e : Expr} {f : Ev} {p p2 pos pos2 : Pos} (hc : X.calm = true) (hg : Gl X "list") (hm : X.mg "list" = none) (hg2 : Gl X "range") (hm2 : X.mg "range" = none) (he : PED X e f)
    (na : starEach [(Expr.Call (.Name "range" p2) [e] [] pos2)] X.env = (false, eval (Expr.Call (.Name "range" p2) [e] [] pos2) X.env) :: starEach [] X.env := by rfl) (nb : starEach [e] X.env = (false, eval e X.env) :: starEach [] X.env := by rfl) :
    PED X (.Call (.Name "list" p) [.Call (.Name "range" p2) [e] [] pos2] [] pos) (eLrg f) := by
  refine ped_of (pe_listRg hc hg hm (prg_1 hg2 hm2 he nb) na) ?_
  intro ι σ H ρ st d st' Q R E e q
  obtain ⟨x, st1, e1, e2⟩ := M.bnd_some e
  clear e
  refine tE_can _ _ ι σ H ρ st x st1 _ R E e1 fun v H1 ι1 X1 R1 r1 => ?_
  cases x with
  | int n =>
    cases r1
    have e2 : (if RgOk 0 n then mNew (.lst (rngD 0 (n - 0).toNat)) else M.bad) st1 = some (d, st') := e2
    split at e2
    · rename_i ok
      exact ⟨n, rfl, ok, new_lst R1 (rgV_rep n) e2 fun v H' ι' X' R' r' => q v H' ι' (X1.trans X') R' r'⟩
    · cases e2
  | _ => cases e2
end
section
variable {P : Program} {w : World} {K : PySem.W.Frag} {mg : Str → Option Value} {base : Heap} {k : Nat} {x : Str} {ps : List Str} {F : List D → M D}
theorem fn_body {qual : Str} {params : Arguments} {body : List Stmt} {scope : Scope} {f : Addr} {fd : FuncData} {N : List Str} {b : Sx} (Fd : FunD K x qual params body scope [] [] f fd) (S : FnScope N ps scope)
    (hbody : ∀ (cdv : Value) (A : Around) (outer : List Env) (s : Shared) (H : Hp) (E : XK), Room k (A.deeper (envOfC qual scope s.heap.objs.size f cdv)) → PSsD (cxOf CX0 P w K mg base N qual scope f cdv A outer s H E).nox body b) :
    FnOk P w K mg base CX0 (k + 1) f fd ps (SpOf K ps.length (defX N.length b)) := by
  refine Fd.ok S (fun vs H Q E h => h.1) fun cdv A outer s H vs Q E hr h => ?_
  refine ⟨_, PSs.nox (hbody cdv A outer s H E hr), ?_⟩
  obtain ⟨hl, ι, ds, st, d, st', R, r, e, q⟩ := h
  unfold defX at e
  split at e
  · rename_i d0 st0 e0
    cases e
    exact ⟨ι, _, st, _, _, R, RelE.start N.length r, e0, q⟩
  · rename_i ρ0 st0 e0
    cases e
    exact ⟨ι, _, st, _, _, R, RelE.start N.length r, e0, fun σ' H' ι' X' R' _ => q .non H' ι' X' R' .non⟩
  · cases e
theorem Ok.never {f : Addr} {fd : FuncData} (hg : mg x = some (.ref f)) (hk : PySem.W.keepIn K (.ref f) = true) (hb : Binds K fd ps []) : Ok P w K mg base k x ps (fun _ => M.bad) :=
  ⟨f, fd, hg, hk, hb, ⟨fun vs H Q E h => h.1, fun A outer s H args us vs Q E hr he hbd hv h => by
    obtain ⟨_, ι, ds, st, d, st', _, _, e, _⟩ := h
    cases e⟩⟩
theorem law_start {H : Hp} {a : Addr} {ns : List Int} {E : XK} (hO : Only H) (hS : SqL K H a (ns.map V.int)) (h : ∃ st', F [.scr ns] [] = some (.bl true, st')) : SpOf K 1 F [.ref a] H (fun v _ => v = .bl true) E := by
  obtain ⟨st', e⟩ := h
  have fz : FzL K H a ns := by
    rcases hS with (h | ⟨o, h⟩) | h
    · rcases hO a with z | ⟨o, xs, z⟩ <;> (rw [h] at z; cases z)
    · exact .inl ⟨o, h⟩
    · exact .inr fun _ => .inr h
  refine ⟨rfl, [], [.scr ns], [], .bl true, st', RelH.nil, .cons (.scr fz) .nil, e, fun v H' ι' _ _ r => ?_⟩
  cases r
  rfl
end
/-! ### isinstance -/
section
variable {K : PySem.W.Frag}
def tyName (st : Store) : D → Option String
  | .non => some "NoneType"
  | .bl _ => some "bool"
  | .int _ => some "int"
  | .str _ => some "str"
  | .tup _ => some "tuple"
  | .ref n => match st[n]? with
    | some (.lst _) => some "list"
    | some (.dk _) => some "dict"
    | some (.dt _) => some "dict"
    | none => none
  | _ => none
theorem tyName_ty {ι : List Addr} {H : Hp} {st : Store} {v : V} {d : D} {a : String} (R : RelH K ι H st) (r : RepV K ι H v d) (e : tyName st d = some a) : TyX K H v (.type a) := by
  cases r with
  | non => cases e; exact .base .non
  | bl b => cases e; exact .base (.bl b)
  | int i => cases e; exact .base (.int i)
  | str x => cases e; exact .base (.str x)
  | tup h _ => cases e; exact .base (.tup h)
  | @ref n p h =>
    have e : (match st[n]? with
      | some (.lst _) => some "list"
      | some (.dk _) => some "dict"
      | some (.dt _) => some "dict"
      | none => none) = some a := e
    obtain ⟨o, eo, ro⟩ := R.get h
    rw [eo] at e
    cases o with
    | lst xs => obtain ⟨vs, h0, _⟩ := ro; cases e; exact .base (.lst h0)
    | dk xs => obtain ⟨vs, h0, _⟩ := ro; cases e; exact .base (.dK h0)
    | dt xs => obtain ⟨vs, h0, _⟩ := ro; cases e; exact .base (.dT h0)
  | scr h => cases e
  | ty n => cases e
def kitAnyB (a : String) : List String → Option Bool
  | [] => some false
  | t :: r => match kitB a t with
    | some true => some true
    | some false => kitAnyB a r
    | none => none
theorem kitAnyB_ok {a : String} : ∀ {ts : List String} {b : Bool}, kitAnyB a ts = some b → PySem.W.kitAny K (.type a) (ts.map Value.type) = some b
  | [], _, h => by cases h; exact kitAny_nil
  | t :: r, b, h => by
    have h : (match kitB a t with
      | some true => some true
      | some false => kitAnyB a r
      | none => none) = some b := h
    cases z : kitB a t with
    | none => rw [z] at h; cases h
    | some k =>
      rw [z] at h
      cases k with
      | true =>
        cases h
        cases z2 : PySem.W.kitAny K (.type a) (r.map Value.type) with
        | none =>
          show PySem.W.kitAny K (.type a) (Value.type t :: r.map Value.type) = some true
          unfold PySem.W.kitAny
          rw [kit_ty z]
        | some b2 =>
          show PySem.W.kitAny K (.type a) (Value.type t :: r.map Value.type) = some true
          unfold PySem.W.kitAny
          rw [kit_ty z]
      | false => exact kitAny_cons (b := false) (kit_ty z) (fun _ => kitAnyB_ok h) fun q => nomatch q
def tysOf : List D → Option (List String)
  | [] => some []
  | .ty t :: r => (tysOf r).map (t :: ·)
  | _ => none
theorem tysOf_some {ι : List Addr} {H : Hp} : ∀ {ds : List D} {ts : List String} {vs : List V}, tysOf ds = some ts → RepVs K ι H vs ds → Paired ClsV vs (ts.map Value.type)
  | [], _, _, h, .nil => by cases h; exact .nil
  | .ty t :: r, _, _, h, .cons (.ty _) rr => by
    have h : (tysOf r).map (t :: ·) = some _ := h
    cases z : tysOf r with
    | none => rw [z] at h; cases h
    | some ts => rw [z] at h; cases h; exact .cons (.ty t) (tysOf_some z rr)
  | .non :: _, _, _, h, _ => by cases h
  | .bl _ :: _, _, _, h, _ => by cases h
  | .int _ :: _, _, _, h, _ => by cases h
  | .str _ :: _, _, _, h, _ => by cases h
  | .tup _ :: _, _, _, h, _ => by cases h
  | .ref _ :: _, _, _, h, _ => by cases h
  | .scr _ :: _, _, _, h, _ => by cases h
def bIsi : List D → M D
  | [x, .ty t] => fun st => match tyName st x with
    | some a => (kitB a t).map fun b => (.bl b, st)
    | none => none
  | [x, .tup ts] => fun st => match tyName st x, tysOf ts with
    | some a, some ns => (kitAnyB a ns).map fun b => (.bl b, st)
    | _, _ => none
  | _ => M.bad
theorem call_isiA {X : Cx} : CallR X (.builtin "isinstance") (fun xs H Q => rIsi X.K xs H Q ∨ rIsiT X.K xs H Q) := call_isi.or call_isiT
theorem cd_isi : CallD K (fun xs H Q => rIsi K xs H Q ∨ rIsiT K xs H Q) bIsi := by
  intro ι H st vs ds d st' Q R r e q
  unfold bIsi at e
  split at e
  · rename_i x t
    cases r with
    | cons rx rr =>
      cases rr with
      | cons ry rr =>
        cases rr
        cases ry
        split at e
        · rename_i a ea
          cases z : kitB a t with
          | none => rw [z] at e; cases e
          | some b =>
            rw [z] at e
            cases e
            exact .inl ⟨_, _, _, _, b, rfl, .ty t, tyName_ty R rx ea, kit_ty z, q _ H ι (Ext.refl _ _) R (.bl b)⟩
        · cases e
  · rename_i x ts
    cases r with
    | cons rx rr =>
      cases rr with
      | cons ry rr =>
        cases rr
        cases ry with
        | tup h0 ra =>
          split at e
          · rename_i a ns ea en
            cases z : kitAnyB a ns with
            | none => rw [z] at e; cases e
            | some b =>
              rw [z] at e
              cases e
              exact .inr ⟨_, _, _, _, _, b, rfl, h0, tysOf_some en ra, tyName_ty R rx ea, kitAnyB_ok z, q _ H ι (Ext.refl _ _) R (.bl b)⟩
          · cases e
  · cases e
end
end Dl
set_option Elab.async false
set_option linter.all false
set_option maxRecDepth 100000
set_option autoImplicit false
/-! Dl7: in, str, upper -/
namespace Dl
open PySem PySem.Spec PyProof.Rows L2
section
variable {K : PySem.W.Frag}
def bN (neg k : Bool) : Bool := match neg with
  | true => !k
  | false => k
def dInL (neg : Bool) (x : D) (n : Nat) : M D := fun st => match toPyN st 12 x, toPyN st 12 (.ref n) with
  | some d, some (.list ds) => if SeqAt.shaped d = true ∧ SeqAt.shaped (.list ds) = true then some (.bl (bN neg (ds.any fun z => PyData.eqv z d)), st) else none
  | _, _ => none
/-- x in y: a sign of a text, an item of a list -/
def dIn (neg : Bool) : D → D → M D
  | .str i, .str j => if i.cps.size = 1 then M.ret (.bl (bN neg (decide (i.cps.toList.headD 0 ∈ j.cps.toList)))) else M.bad
  | x, .ref n => dInL neg x n
  | _, _ => M.bad
abbrev rInA (K : PySem.W.Frag) : R2 := fun x y H Q => (∃ (c : Nat) (z : Str), x = .str ⟨#[c]⟩ ∧ y = .str z ∧ Q (.bl (decide (c ∈ z.cps.toList))) H) ∨ rInD K x y H Q
abbrev rNotInA (K : PySem.W.Frag) : R2 := fun x y H Q => (∃ (c : Nat) (z : Str), x = .str ⟨#[c]⟩ ∧ y = .str z ∧ Q (.bl (!decide (c ∈ z.cps.toList))) H) ∨ rNotInD K x y H Q
theorem one_sign {i : Str} (h : i.cps.size = 1) : i = ⟨#[i.cps.toList.headD 0]⟩ := by
  obtain ⟨a⟩ := i
  obtain ⟨l⟩ := a
  match l, h with
  | [c], _ => rfl
theorem op2_in : Op2 K (rInA K) (dIn false) := by
  intro ι H st x y a b d st' Q R rx ry e q
  unfold dIn at e
  split at e
  · rename_i i j
    split at e
    · rename_i hs
      cases e
      cases rx
      cases ry
      exact .inl ⟨i.cps.toList.headD 0, j, congrArg V.str (one_sign hs), rfl, q _ H ι (Ext.refl _ _) R (.bl _)⟩
    · cases e
  · unfold dInL at e
    split at e
    · rename_i p ds e1 e2
      split at e
      · rename_i hs
        cases e
        exact .inr ⟨p, ds, toPyN_dp R _ _ _ _ rx e1, toPyN_dp R _ _ _ _ ry e2, hs.1, hs.2, q _ H ι (Ext.refl _ _) R (.bl _)⟩
      · cases e
    · cases e
  · cases e
theorem op2_notIn : Op2 K (rNotInA K) (dIn true) := by
  intro ι H st x y a b d st' Q R rx ry e q
  unfold dIn at e
  split at e
  · rename_i i j
    split at e
    · rename_i hs
      cases e
      cases rx
      cases ry
      exact .inl ⟨i.cps.toList.headD 0, j, congrArg V.str (one_sign hs), rfl, q _ H ι (Ext.refl _ _) R (.bl _)⟩
    · cases e
  · unfold dInL at e
    split at e
    · rename_i p ds e1 e2
      split at e
      · rename_i hs
        cases e
        exact .inr ⟨p, ds, toPyN_dp R _ _ _ _ rx e1, toPyN_dp R _ _ _ _ ry e2, hs.1, hs.2, q _ H ι (Ext.refl _ _) R (.bl _)⟩
      · cases e
    · cases e
  · cases e
/-- str of a whole number -/
def bStr : List D → M D
  | [.int i] => if i.natAbs.log2 < 1920 then M.ret (.str (toString i)) else M.bad
  | _ => M.bad
theorem cd_str : CallD K (fun xs H Q => ∃ i, xs = [.int i] ∧ i.natAbs.log2 < 1920 ∧ Q (.str (toString i)) H) bStr := by
  intro ι H st vs ds d st' Q R r e q
  unfold bStr at e
  split at e
  · rename_i i
    cases r with
    | cons rx rr =>
      cases rr
      cases rx
      split at e
      · rename_i hz
        cases e
        exact ⟨i, rfl, hz, q _ H ι (Ext.refl _ _) R (.str _)⟩
      · cases e
  · cases e
/-- x.upper() -/
def dUp : D → M D
  | .str a => if a.length ≤ 5592405 then M.ret (.str (Txt.upper a)) else M.bad
  | _ => M.bad
end
section
variable {X : Cx} {a b o : Expr} {fa fb fo : Ev} {pos : Pos}
theorem ped_in {k : Nat} (hr : Room k X.A) (ha : PED X a fa) (hb : PED X b fb) (hm : behindInMarks .In b = false := by with_unfolding_all rfl) : PED X (.Compare a [.In] [b] pos) (eOp2 (dIn false) fa fb) :=
  ped_cmp (op_in_sign.or (op_inD (by have := hr.un; omega))) op2_in ha hb hm
theorem ped_inn {k : Nat} (hr : Room k X.A) (ha : PED X a fa) (hb : PED X b fb) (hm : behindInMarks .NotIn b = false := by with_unfolding_all rfl) : PED X (.Compare a [.NotIn] [b] pos) (eOp2 (dIn true) fa fb) :=
  ped_cmp (op_notIn_sign.or (op_notInD (by have := hr.un; omega))) op2_notIn ha hb hm
theorem ptd_in {k : Nat} (hr : Room k X.A) (ha : PED X a fa) (hb : PED X b fb) (hm : behindInMarks .In b = false := by with_unfolding_all rfl) : PTD X (.Compare a [.In] [b] pos) (tV (eOp2 (dIn false) fa fb)) :=
  ptd_cmp (op_in_sign.or (op_inD (by have := hr.un; omega))) op2_in ha hb hm
theorem ptd_inn {k : Nat} (hr : Room k X.A) (ha : PED X a fa) (hb : PED X b fb) (hm : behindInMarks .NotIn b = false := by with_unfolding_all rfl) : PTD X (.Compare a [.NotIn] [b] pos) (tV (eOp2 (dIn true) fa fb)) :=
  ptd_cmp (op_notIn_sign.or (op_notInD (by have := hr.un; omega))) op2_notIn ha hb hm
theorem de_up {to : TE} (ho : DE X.K to fo) : DE X.K (tM0 (fun x xs H Q => ∃ a, x = .str a ∧ xs = [] ∧ a.length ≤ 5592405 ∧ Q (.str (Txt.upper a)) H) to) (eOp1 dUp fo) := by
  intro ι σ H ρ st d st' Q R E e q
  obtain ⟨x, st1, e1, e⟩ := M.bnd_some e
  refine ho ι σ H ρ st x st1 _ R E e1 fun v H1 ι1 X1 R1 r1 => ?_
  unfold dUp at e
  split at e
  · rename_i a
    split at e
    · rename_i hl
      cases e
      cases r1
      exact ⟨⟨_, rfl⟩, _, rfl, rfl, hl, q _ H1 ι1 X1 R1 (.str _)⟩
    · cases e
  · cases e
theorem ped_up {apos : Pos} (ho : PED X o fo) (hbase : attributeBase o "upper" X.env (eval o X.env) = eval o X.env := by rfl) (hline : (apos.endLine == pos.line) = true := by rfl) :
    PED X (.Call (.Attribute o "upper" apos) [] [] pos) (eOp1 dUp fo) := ped_of (pe_upper ho hbase hline) (de_up (tE_can _ _))
end
end Dl
set_option Elab.async false
set_option linter.all false
set_option maxRecDepth 100000
set_option autoImplicit false
/-! Dl8: dicts made by comprehension -/
namespace Dl
open PySem PySem.Spec PyProof.Rows L2
section
variable {K : PySem.W.Frag}
def keyOf : D → Option Key
  | .int i => some (.inl i)
  | .str x => some (.inr x)
  | _ => none
def putD (kvs : List (Key × D)) (k : Key) (d : D) : List (Key × D) :=
  if (kvs.any fun kv => decide (kv.1 = k)) = true then kvs.map (fun kv => if kv.1 = k then (kv.1, d) else kv) else kvs ++ [(k, d)]
theorem zip_any {ι : List Addr} {H : Hp} (k : Key) : ∀ {kvs : List (Key × D)} {vs : List V}, RepVs K ι H vs (kvs.map (·.2)) → (((kvs.map (·.1)).zip vs).any fun kv => decide (kv.1 = k)) = kvs.any fun kv => decide (kv.1 = k)
  | [], vs, r => by cases r; rfl
  | (a, b) :: kvs, vs, r => by
    cases r with
    | cons rx rr =>
      simp only [List.map_cons, List.zip_cons_cons, List.any_cons]
      rw [zip_any k rr]
theorem zip_map {ι : List Addr} {H : Hp} (k : Key) {v : V} {d : D} (rv : RepV K ι H v d) : ∀ {kvs : List (Key × D)} {vs : List V}, RepVs K ι H vs (kvs.map (·.2)) →
    ∃ ws, ((kvs.map (·.1)).zip vs).map (fun kv => if kv.1 = k then (kv.1, v) else kv) = ((kvs.map fun kv => if kv.1 = k then (kv.1, d) else kv).map (·.1)).zip ws ∧ RepVs K ι H ws ((kvs.map fun kv => if kv.1 = k then (kv.1, d) else kv).map (·.2))
  | [], vs, r => by cases r; exact ⟨[], rfl, .nil⟩
  | (a, b) :: kvs, vs, r => by
    cases r with
    | @cons u us _ _ rx rr =>
      obtain ⟨ws, e, rw'⟩ := zip_map k rv rr
      by_cases h : a = k
      · refine ⟨v :: ws, ?_, ?_⟩
        · simp only [List.map_cons, List.zip_cons_cons, if_pos h]
          rw [e]
        · simp only [List.map_cons, if_pos h]
          exact .cons rv rw'
      · refine ⟨u :: ws, ?_, ?_⟩
        · simp only [List.map_cons, List.zip_cons_cons, if_neg h]
          rw [e]
        · simp only [List.map_cons, if_neg h]
          exact .cons rx rw'
theorem zip_app {ι : List Addr} {H : Hp} (k : Key) {v : V} {d : D} (rv : RepV K ι H v d) : ∀ {kvs : List (Key × D)} {vs : List V}, RepVs K ι H vs (kvs.map (·.2)) →
    ∃ ws, ((kvs.map (·.1)).zip vs) ++ [(k, v)] = ((kvs ++ [(k, d)]).map (·.1)).zip ws ∧ RepVs K ι H ws ((kvs ++ [(k, d)]).map (·.2))
  | [], vs, r => by cases r; exact ⟨[v], rfl, .cons rv .nil⟩
  | (a, b) :: kvs, vs, r => by
    cases r with
    | @cons u us _ _ rx rr =>
      obtain ⟨ws, e, rw'⟩ := zip_app k rv rr
      refine ⟨u :: ws, ?_, ?_⟩
      · simp only [List.map_cons, List.zip_cons_cons, List.cons_append]
        rw [e]
      · simp only [List.map_cons, List.cons_append]
        exact .cons rx rw'
theorem put_rep {ι : List Addr} {H : Hp} {k : Key} {v : V} {d : D} (rv : RepV K ι H v d) {kvs : List (Key × D)} {vs : List V} (r : RepVs K ι H vs (kvs.map (·.2))) :
    ∃ ws, putK ((kvs.map (·.1)).zip vs) k v = ((putD kvs k d).map (·.1)).zip ws ∧ RepVs K ι H ws ((putD kvs k d).map (·.2)) := by
  unfold putK putD
  rw [zip_any k r]
  split
  · exact zip_map k rv r
  · exact zip_app k rv r
def mPut (n : Nat) (y z : D) : M Unit := fun st => match keyOf y, st[n]? with
  | some k, some (.dk kvs) => if kvs.length < sizeLine then some ((), st.set n (.dk (putD kvs k z))) else none
  | _, _ => none
open Classical in
noncomputable def dcL (s : Src) (n : Nat) (g : Gx) (t : Et) (e f : Ev) (ρ : Env1) : List D → M Unit
  | [] => fun st => if s.ok st then some ((), st) else none
  | x :: xs => fun st => if s.ok st then (M.bnd (g x ρ) fun ρ1 => M.bnd (t ρ1) fun k => M.bnd (if k = true then M.bnd (e ρ1) (fun y => M.bnd (f ρ1) fun z => mPut n y z) else M.ret ()) fun _ => dcL s n g t e f ρ xs) st else none
noncomputable def eDc (it : Ei) (g : Gx) (t : Et) (e f : Ev) (vs : List Nat) : Ev := fun ρ => M.bnd (it ρ) fun s => fun st => M.bnd (dcL s st.length g t e f (wipeE ρ vs) s.ds) (fun _ => M.ret (.ref st.length)) (st ++ [.dk []])
theorem key_rep {ι : List Addr} {H : Hp} {v : V} {d : D} {k : Key} (r : RepV K ι H v d) (h : keyOf d = some k) : v = kV k := by
  cases d with
  | int i => cases h; cases r; rfl
  | str x => cases h; cases r; rfl
  | _ => cases h
theorem RelH.dk {ι : List Addr} {H : Hp} {st : Store} {n : Nat} {a : Addr} {kvs : List (Key × D)} (R : RelH K ι H st) (hi : ι[n]? = some a) (hn : st[n]? = some (.dk kvs)) : ∃ vs, H a = some (.dK ((kvs.map (·.1)).zip vs)) ∧ RepVs K ι H vs (kvs.map (·.2)) := by
  obtain ⟨u, hu, r⟩ := R.get hi
  rw [hn] at hu
  cases hu
  exact r
theorem de_dc {ti : TI} {vs ws : List Nat} {t : TG} {tt : TT} {te tf : TE} {it : Ei} {g : Gx} {c : Et} {f f2 : Ev} (hi : DI K ti it) (hg : DG K vs t g) (hc : DT K tt c) (he : DE K te f) (hf : DE K tf f2) (hv : ∀ i ∈ vs, i ∈ ws) : DE K (tDc ti t tt te tf ws) (eDc it g c f f2 ws) := by
  intro ι σ H ρ st d st' Q R E e q
  obtain ⟨s, st1, e1, e⟩ := M.bnd_some e
  obtain ⟨_, st2, e2, e⟩ := M.bnd_some e
  cases e
  refine hi ι σ H ρ st s st1 _ R E e1 fun J H1 ι1 X1 R1 G1 => ?_
  intro D hD
  have XD : Ext ι1 H1 (ι1 ++ [D]) (upd H1 D (.dK [])) := ext_new hD
  have RD : RelH K (ι1 ++ [D]) (upd H1 D (.dK [])) (st1 ++ [.dk []]) := R1.new hD ⟨[], upd_same, .nil⟩
  refine ⟨fun i m H2 => ∃ (ι2 : List Addr) (st2' : Store), i + m = s.ds.length ∧ Ext (ι1 ++ [D]) (upd H1 D (.dK [])) ι2 H2 ∧ RelH K ι2 H2 st2' ∧ dcL s st1.length g c f f2 (wipeE ρ ws) (s.ds.drop i) st2' = some ((), st'),
    ⟨s.ds.length, ι1 ++ [D], _, by omega, Ext.refl _ _, RD, by rw [List.drop_zero]; exact e2⟩, ?_⟩
  rintro i m H2 ⟨ι2, st2', him, X2, R2, e2⟩
  have hid : ι2[st1.length]? = some D := X2.at_ (new_id R1)
  cases z : s.ds.drop i with
  | nil =>
    rw [z] at e2
    unfold dcL at e2
    split at e2
    · rename_i ok
      cases e2
      have hil : i = s.ds.length := by
        have := congrArg List.length z
        simp at this; omega
      exact .inl ⟨by rw [hil]; exact G1.stop ι2 H2 _ (XD.trans X2) R2 ok, q _ H2 ι2 (X1.trans (XD.trans X2)) R2 (.ref hid)⟩
    · cases e2
  | cons d ds =>
    rw [z] at e2
    unfold dcL at e2
    split at e2
    · rename_i ok
      have hd : s.ds[i]? = some d := by
        have : (s.ds.drop i)[0]? = some d := by rw [z]; rfl
        rw [List.getElem?_drop] at this
        simpa using this
      have hds : s.ds.drop (i + 1) = ds := by
        have : (s.ds.drop i).drop 1 = ds := by rw [z]; rfl
        rw [List.drop_drop] at this
        exact this
      have hlt : i < s.ds.length := (List.getElem?_eq_some_iff.mp hd).1
      obtain ⟨hgo, hy⟩ := G1.go ι2 H2 st2' i d (XD.trans X2) R2 ok hd
      obtain ⟨ρ3, st3, e3, e2⟩ := M.bnd_some e2
      obtain ⟨k, st4, e4, e2⟩ := M.bnd_some e2
      obtain ⟨_, st5, e5, e2⟩ := M.bnd_some e2
      refine .inr ⟨hgo, fun H' => ∃ (ι2 : List Addr) (st2' : Store), Ext (ι1 ++ [D]) (upd H1 D (.dK [])) ι2 H' ∧ RelH K ι2 H' st2' ∧ dcL s st1.length g c f f2 (wipeE ρ ws) ds st2' = some ((), st'), ?_, ?_⟩
      · rintro H' ⟨ι5, st6, X5, R5, e6⟩
        exact ⟨m - 1, by omega, ι5, st6, by omega, X5, R5, by rw [hds]; exact e6⟩
      · intro x H3 y
        obtain ⟨Xa, Ra, ra⟩ := hy x H3 y
        have Ew : RelE K ι2 H3 (L2.wipe σ ws) (wipeE ρ ws) := (E.mono ((X1.trans (XD.trans X2)).trans Xa)).wipe ws
        refine hg ι2 (L2.wipe σ ws) H3 (wipeE ρ ws) st2' x d ρ3 st3 _ Ra Ew ra e3 fun σ4 H4 ι4 X4 R4 E4 w4 => ⟨?_, ?_⟩
        · rw [w4 ws hv]
          apply List.ext_getElem?
          intro j
          rw [wipe_get, wipe_get, L2.wipe_length]
          by_cases hj : j ∈ ws
          · rw [if_pos hj, if_pos hj]
          · rw [if_neg hj]
        · refine hc ι4 σ4 H4 ρ3 st3 k st4 _ R4 E4 e4 fun H5 ι5 X5 R5 => ?_
          have XX : Ext ι2 H2 ι5 H5 := (Xa.trans X4).trans X5
          cases k with
          | false =>
            cases e5
            exact ⟨ι5, _, X2.trans XX, R5, e2⟩
          | true =>
            rw [if_pos rfl] at e5 ⊢
            obtain ⟨w, st6, e6, e5⟩ := M.bnd_some e5
            obtain ⟨w2, st7, e7, e5⟩ := M.bnd_some e5
            refine he ι5 σ4 H5 ρ3 st4 w st6 _ R5 (E4.mono X5) e6 fun v H6 ι6 X6 R6 r6 => ?_
            refine hf ι6 σ4 H6 ρ3 st6 w2 st7 _ R6 ((E4.mono X5).mono X6) e7 fun v2 H7 ι7 X7 R7 r7 => ?_
            have XY : Ext ι2 H2 ι7 H7 := (XX.trans X6).trans X7
            have hid6 := XY.at_ hid
            unfold mPut at e5
            split at e5
            · rename_i kk kvs ek ex
              split at e5
              · rename_i hz
                cases e5
                obtain ⟨vs, h0, rv⟩ := R7.dk hid6 ex
                obtain ⟨us, eu, ru⟩ := put_rep (k := kk) r7 rv
                have Xs : Ext ι7 H7 ι7 (upd H7 D (.dK (putK ((kvs.map (·.1)).zip vs) kk v2))) := ext_set R7 hid6
                have hl : ((kvs.map (·.1)).zip vs).length < sizeLine := by
                  have e1 := rv.length
                  rw [List.length_map] at e1
                  rw [List.length_zip, List.length_map, e1, Nat.min_self]
                  exact hz
                refine ⟨_, kk, key_rep (r6.mono X7) ek, h0, hl, ι7, _, (X2.trans XY).trans Xs, R7.set (mo := .dk (putD kvs kk w2)) hid6 ⟨us, ?_, ru.mono Xs⟩, e2⟩
                rw [upd_same, eu]
              · cases e5
            · cases e5
    · cases e2
end
section
variable {X : Cx} {pos : Pos}
theorem ped_dc {kx vx tg iter : Expr} {ifs : List Expr} {scope : Scope} {own : List (Str × Nat)} {vs : List Nat} {it : Ei} {g : Gx} {t : Et} {f f2 : Ev} (hc : X.calm = true) (hN : X.N.Nodup) (hi : PID X tg iter it) (ok : BlkOk X.N X.env.scope scope own)
    (hg : ∀ (s : Shared) (H : Hp) (C : Addr) (cl : List (Str × Addr)) (fp : List Addr), PGD (X.blk s H scope (compEnvC scope cl C X.env) fp) vs tg g) (ht : ∀ (s : Shared) (H : Hp) (C : Addr) (cl : List (Str × Addr)) (fp : List Addr), PTs (X.blk s H scope (compEnvC scope cl C X.env) fp) ifs (tT X.K t))
    (hk : ∀ (s : Shared) (H : Hp) (C : Addr) (cl : List (Str × Addr)) (fp : List Addr), PED (X.blk s H scope (compEnvC scope cl C X.env) fp) kx f) (he : ∀ (s : Shared) (H : Hp) (C : Addr) (cl : List (Str × Addr)) (fp : List Addr), PED (X.blk s H scope (compEnvC scope cl C X.env) fp) vx f2)
    (hv : ∀ i ∈ vs, i ∈ own.map (·.2) := by decide) (hs : ∀ x, foldedSetIterable iter X.env x = pure x := by intro _; rfl) :
    PED X (.DictComp kx vx [⟨tg, iter, ifs, 0⟩] scope pos) (eDc it g t f f2 (own.map (·.2))) :=
  ped_of (pe_dc hc hN hi ok hg ht hk he hs) (de_dc (tI_can _ _) (tG_can _ _ _) (tT_can _ _) (tE_can _ _) (tE_can _ _) hv)
theorem ped_callN {k j m : Nat} {x : Str} {ps : List Str} {F : List D → M D} {e : Expr} {es : List Expr} {ga : Ea} {p : Pos} (h : Ok X.prog X.w X.K X.mg X.base k x ps F) (hr : Room j X.A) (ha : PAD X (e :: es) ga) (hk : k ≤ j := by decide) (hm : ps.length = m := by rfl) (hl : (e :: es).length = ps.length := by rfl) (hg : Gl X x := by rfl) (hdb : (x == ("__debug__" : Str)) = false := by decide)
    (he : starEach (e :: es) X.env = (false, eval e X.env) :: starEach es X.env := by rfl) (hpl : (backTo pos (starEach es X.env)).any (·.1) = false := by rfl) : PED X (.Call (.Name x p) (e :: es) [] pos) (eCB (mCall m F) ga) := by
  subst hm
  exact ped_call h hr ha hk hl hg hdb he hpl
end
end Dl
set_option linter.all false
set_option maxRecDepth 100000
namespace PySem
open Sem (wp)
theorem g_add_bi (b : Bool) (a : Int) (t : Tok) : Gives (Builtin.«int.__add__» ⟨[.bool b, .int a t], []⟩) (.int ((if b = true then (1 : Int) else 0) + a)) :=
  .of_wp fun M A E s Q h => by obtain ⟨hp, g, d, tk, os⟩ := s; wp_walk; exact ⟨_, rfl, h⟩
theorem g_sub_bi (b : Bool) (a : Int) (t : Tok) : Gives (Builtin.«int.__sub__» ⟨[.bool b, .int a t], []⟩) (.int ((if b = true then (1 : Int) else 0) - a)) :=
  .of_wp fun M A E s Q h => by obtain ⟨hp, g, d, tk, os⟩ := s; wp_walk; exact ⟨_, rfl, h⟩
theorem g_neg_b (b : Bool) : Gives (Builtin.«int.__neg__» ⟨[.bool b], []⟩) (.int (-(if b = true then (1 : Int) else 0))) :=
  .of_wp fun M A E s Q h => by obtain ⟨hp, g, d, tk, os⟩ := s; wp_walk; exact ⟨_, rfl, h⟩
end PySem
namespace PySem
section
variable {prog : Program} {w : World} {A : Around} {E : Value → Shared → Prop} {s : Shared} {a : Int} {t : Tok} {b : Bool}
theorem add_bi {Q : Value → Shared → Prop} (h : Q (.int ((if b = true then (1 : Int) else 0) + a) s.toks) { s with toks := s.toks + 1 }) : wpAny (model prog w) A (binaryOp .Add (.bool b) (.int a t)) Q E s :=
  binaryOp_left_gives (op := .Add) (T := "bool") (U := "int") (by decide) rfl (fun s' => typeIs_int s' a t) F.fills_bool_add F.fills_int_add (by rw [isSubtype_type]; kernel_rfl) F.slot_bool_add F.slot_int_radd F.entry_int_add (F.args_int_add_2 _ _) (g_add_bi b a t) trivial h
theorem sub_bi {Q : Value → Shared → Prop} (h : Q (.int ((if b = true then (1 : Int) else 0) - a) s.toks) { s with toks := s.toks + 1 }) : wpAny (model prog w) A (binaryOp .Sub (.bool b) (.int a t)) Q E s :=
  binaryOp_left_gives (op := .Sub) (T := "bool") (U := "int") (by decide) rfl (fun s' => typeIs_int s' a t) F.fills_bool_sub F.fills_int_sub (by rw [isSubtype_type]; kernel_rfl) F.slot_bool_sub F.slot_int_rsub F.entry_int_sub (F.args_int_sub_2 _ _) (g_sub_bi b a t) trivial h
theorem neg_b {Q : Value → Shared → Prop} (h : Q (.int (-(if b = true then (1 : Int) else 0)) s.toks) { s with toks := s.toks + 1 }) : wpAny (model prog w) A (unaryOp .USub (.bool b)) Q E s :=
  unaryOp_gives (op := .USub) (T := "bool") rfl rfl F.slot_bool_neg F.entry_int_neg (F.args_int_neg_1 _) (g_neg_b b) h
theorem str_b {Q : Value → Shared → Prop} (h : Q (.str (if b = true then Str.ofString "True" else Str.ofString "False") s.toks) { s with toks := s.toks + 1 }) : wpAny (model prog w) A (call (.type "str") [.bool b]) Q E s :=
  callType_new F.called_str (by decide) (F.typeCall_str_1 _) (F.newCall_str_1 _) (fun obj => F.args_object_init_2 obj _) F.entry_str_new
    (meets_str_new (S := fun _ R s => R (.ok (.ret (.str (if b = true then Str.ofString "True" else Str.ofString "False") s.toks))) { s with toks := s.toks + 1 }) fun _ _ _ _ s hq =>
      wpAny_strOf_gives (T := "bool") rfl rfl F.slot_bool_str F.slot_bool_repr F.entry_bool_repr (F.args_bool_repr_1 _) (AutoBoolG0.bool___repr___bool_0 b) hq (hsz := by cases b <;> decide +kernel)) ⟨typeIs_str _ _ _, h⟩
end
end PySem
set_option Elab.async false
set_option linter.all false
set_option maxRecDepth 100000
set_option autoImplicit false
/-! Dl9: bools as numbers -/
namespace Dl
open PySem PySem.Spec PyProof.Rows L2
section
variable {X : Cx}
theorem op_add_bi : OpR X (binaryOp .Add) (fun x y H Q => ∃ k j, x = .bl k ∧ y = .int j ∧ Q (.int ((if k = true then (1 : Int) else 0) + j)) H) := by
  intro pins s σ H x y v u Q I rx ry h
  obtain ⟨k, j, rfl, rfl, q⟩ := h
  cases rx
  obtain ⟨t, rfl⟩ := ry
  exact add_bi ⟨.int ((if k = true then (1 : Int) else 0) + j), H, I.tok _, ⟨_, rfl⟩, q⟩
theorem op_sub_bi : OpR X (binaryOp .Sub) (fun x y H Q => ∃ k j, x = .bl k ∧ y = .int j ∧ Q (.int ((if k = true then (1 : Int) else 0) - j)) H) := by
  intro pins s σ H x y v u Q I rx ry h
  obtain ⟨k, j, rfl, rfl, q⟩ := h
  cases rx
  obtain ⟨t, rfl⟩ := ry
  exact sub_bi ⟨.int ((if k = true then (1 : Int) else 0) - j), H, I.tok _, ⟨_, rfl⟩, q⟩
theorem un_neg_x : UnR X (unaryOp .USub) (fun x H Q => (∃ i, x = .int i ∧ Q (.int (-i)) H) ∨ ∃ k, x = .bl k ∧ Q (.int (-(if k = true then (1 : Int) else 0))) H) := by
  intro pins s σ H x v Q I rx h
  rcases h with ⟨i, rfl, q⟩ | ⟨k, rfl, q⟩
  · obtain ⟨t, rfl⟩ := rx
    exact neg_int ⟨.int (-i), H, I.tok _, ⟨_, rfl⟩, q⟩
  · cases rx
    exact neg_b ⟨.int (-(if k = true then (1 : Int) else 0)), H, I.tok _, ⟨_, rfl⟩, q⟩
theorem call_str_b : CallR X (.type "str") (fun xs H Q => ∃ k, xs = [.bl k] ∧ Q (.str (if k = true then Str.ofString "True" else Str.ofString "False")) H) := by
  intro pins s σ H xs us Q I r h
  obtain ⟨k, rfl, q⟩ := h
  obtain ⟨u, rfl, r1⟩ := vals1 r
  cases r1
  exact str_b ⟨.str _, H, I.tok _, ⟨_, rfl⟩, q⟩
end
section
variable {K : PySem.W.Frag}
def dBi (k : Bool) : Int := if k = true then (1 : Int) else 0
def dAddX : D → D → M D
  | .bl k, .int j => M.ret (.int (dBi k + j))
  | x, y => dAdd x y
def dSubX : D → D → M D
  | .bl k, .int j => M.ret (.int (dBi k - j))
  | x, y => dSub x y
def dNegX : D → M D
  | .int i => M.ret (.int (-i))
  | .bl k => M.ret (.int (-(dBi k)))
  | _ => M.bad
def bStrX : List D → M D
  | [.bl k] => M.ret (.str (if k = true then Str.ofString "True" else Str.ofString "False"))
  | xs => bStr xs
theorem op2_addX : Op2 K (fun x y H Q => rAddD K x y H Q ∨ ∃ k j, x = .bl k ∧ y = .int j ∧ Q (.int ((if k = true then (1 : Int) else 0) + j)) H) dAddX := by
  intro ι H st x y a b d st' Q R rx ry e q
  unfold dAddX at e
  split at e
  · cases rx
    cases ry
    cases e
    exact .inr ⟨_, _, rfl, rfl, q _ H ι (Ext.refl _ _) R (.int _)⟩
  · exact .inl (op2_add ι H st x y _ _ d st' Q R rx ry e q)
theorem op2_subX : Op2 K (fun x y H Q => rI0 (fun i j => .int (i - j)) x y H Q ∨ ∃ k j, x = .bl k ∧ y = .int j ∧ Q (.int ((if k = true then (1 : Int) else 0) - j)) H) dSubX := by
  intro ι H st x y a b d st' Q R rx ry e q
  unfold dSubX at e
  split at e
  · cases rx
    cases ry
    cases e
    exact .inr ⟨_, _, rfl, rfl, q _ H ι (Ext.refl _ _) R (.int _)⟩
  · exact .inl (op2_I0 (fun _ _ _ _ => .int _) ι H st x y _ _ d st' Q R rx ry e q)
theorem op1_negX (ι : List Addr) (H : Hp) (st : Store) (x : V) (a d : D) (st' : Store) (Q : VK) (R : RelH K ι H st) (r : RepV K ι H x a) (e : dNegX a st = some (d, st'))
    (q : ∀ v H' ι', Ext ι H ι' H' → RelH K ι' H' st' → RepV K ι' H' v d → Q v H') : (∃ i, x = .int i ∧ Q (.int (-i)) H) ∨ ∃ k, x = .bl k ∧ Q (.int (-(if k = true then (1 : Int) else 0))) H := by
  unfold dNegX at e
  split at e
  · cases r; cases e; exact .inl ⟨_, rfl, q _ H ι (Ext.refl _ _) R (.int _)⟩
  · cases r; cases e; exact .inr ⟨_, rfl, q _ H ι (Ext.refl _ _) R (.int _)⟩
  · cases e
theorem cd_strX : CallD K (fun xs H Q => (∃ i, xs = [.int i] ∧ i.natAbs.log2 < 1920 ∧ Q (.str (toString i)) H) ∨ ∃ k, xs = [.bl k] ∧ Q (.str (if k = true then Str.ofString "True" else Str.ofString "False")) H) bStrX := by
  intro ι H st vs ds d st' Q R r e q
  unfold bStrX at e
  split at e
  · rename_i k
    cases r with
    | cons rx rr =>
      cases rr
      cases rx
      cases e
      exact .inr ⟨k, rfl, q _ H ι (Ext.refl _ _) R (.str _)⟩
  · exact .inl (cd_str ι H st vs _ d st' Q R r e q)
end
section
variable {X : Cx} {a b : Expr} {fa fb : Ev} {pos : Pos}
theorem call_strX : CallR X (.type "str") (fun xs H Q => (∃ i, xs = [.int i] ∧ i.natAbs.log2 < 1920 ∧ Q (.str (toString i)) H) ∨ ∃ k, xs = [.bl k] ∧ Q (.str (if k = true then Str.ofString "True" else Str.ofString "False")) H) := call_str_int.or call_str_b
theorem ped_addX (ha : PED X a fa) (hb : PED X b fb) : PED X (.BinOp a .Add b pos) (eOp2 dAddX fa fb) := ped_op (op_addD.or op_add_bi) op2_addX ha hb
theorem ped_subX (ha : PED X a fa) (hb : PED X b fb) : PED X (.BinOp a .Sub b pos) (eOp2 dSubX fa fb) := ped_op (op_sub.or op_sub_bi) op2_subX ha hb
theorem ped_negX (ha : PED X a fa) : PED X (.UnaryOp .USub a pos) (eOp1 dNegX fa) := ped_of (pe_un un_neg_x ha) (de_op1 op1_negX (tE_can _ _))
end
end Dl
set_option linter.all false
set_option autoImplicit false
/-! M1: how the functions are reckoned -/
namespace Dl
open PySem PySem.Spec PyProof.Rows L2
local macro_rules | `(tactic| walk_at "dl") => `(tactic| simp only [sRet, sSeq, sNext, sAsg, sPar, sIf, sDrop, eCB, eC, eTup, mTup, eIf, eOp1, tV, tNotD, tAndD, tOrD, eAnd, eOr, eNot, mBool, aCons, aNil, eOp2, eVar, M.bnd, M.ret, mCall, xName, xNil, xCons, xTup, List.getElem?_cons_zero, List.getElem?_cons_succ, Option.map_some, List.length_cons, List.length_nil, if_true, Nat.reduceAdd, List.set_cons_zero, List.set_cons_succ])
section
variable {F : List D → M D} {ds : List D} {st st' g : Store} {d : D} {o : MO}
theorem gcF_eq (h : F ds st = some (d, st ++ g)) (hd : d.low 0 = true) : gcF F ds st = some (d, st) := by
  unfold gcF
  rw [h]
  have ok : oldOk st (st ++ g) := fun i o hi e => by
    rw [List.getElem?_append_left hi] at e
    exact .inl e
  simp only
  rw [if_pos ⟨hd, ok, by simp⟩]
  simp
theorem gcF_eq0 (h : F ds st = some (d, st)) (hd : d.low 0 = true) : gcF F ds st = some (d, st) := gcF_eq (g := []) (by rw [List.append_nil]; exact h) hd
theorem gcF_set {i : Nat} (h : F ds st = some (d, st.set i o ++ g)) (ho : o.low 0 = true) (hd : d.low 0 = true) : gcF F ds st = some (d, st.set i o) := by
  unfold gcF
  rw [h]
  have ok : oldOk st (st.set i o ++ g) := fun j u hj e => by
    rw [List.getElem?_append_left (by simpa using hj)] at e
    by_cases q : i = j
    · subst q
      rw [List.getElem?_set_self hj] at e
      cases e
      exact .inr ho
    · rw [List.getElem?_set_ne q] at e
      exact .inl e
  simp only
  rw [if_pos ⟨hd, ok, by simp⟩]
  have hl : st.length = (st.set i o).length := by simp
  rw [hl, List.take_left]
theorem gcF_set0 {i : Nat} (h : F ds st = some (d, st.set i o)) (ho : o.low 0 = true) (hd : d.low 0 = true) : gcF F ds st = some (d, st.set i o) := gcF_set (g := []) (by rw [List.append_nil]; exact h) ho hd
theorem gcL_at {m : Nat} (h : F ds st = some (.ref m, st ++ g)) (hm : st.length ≤ m) (hg : g[m - st.length]? = some o) (ho : o.low 0 = true) : gcL F ds st = some (.ref st.length, st ++ [o]) := by
  unfold gcL
  rw [h]
  have ok : oldOk st (st ++ g) := fun i o hi e => by
    rw [List.getElem?_append_left hi] at e
    exact .inl e
  have e : (st ++ g)[m]? = some o := by rw [List.getElem?_append_right hm]; exact hg
  simp only [e]
  rw [if_pos ⟨ho, ok, hm⟩]
  simp
theorem gcL_eq (h : F ds st = some (.ref st.length, st ++ o :: g)) (ho : o.low 0 = true) : gcL F ds st = some (.ref st.length, st ++ [o]) := gcL_at h (Nat.le_refl _) (by simp) ho
theorem gcL_set {m i : Nat} {u : MO} (h : F ds st = some (.ref m, st.set i u ++ g)) (hm : st.length ≤ m) (hg : g[m - st.length]? = some o) (hu : u.low 0 = true) (ho : o.low 0 = true) : gcL F ds st = some (.ref st.length, st.set i u ++ [o]) := by
  unfold gcL
  rw [h]
  have ok : oldOk st (st.set i u ++ g) := fun j v hj e => by
    rw [List.getElem?_append_left (by simpa using hj)] at e
    by_cases q : i = j
    · subst q
      rw [List.getElem?_set_self hj] at e
      cases e
      exact .inr hu
    · rw [List.getElem?_set_ne q] at e
      exact .inl e
  have e : (st.set i u ++ g)[m]? = some o := by rw [List.getElem?_append_right (by simpa using hm)]; simpa using hg
  simp only [e]
  rw [if_pos ⟨ho, ok, hm⟩]
  have hl : st.length = (st.set i u).length := by simp
  conv => lhs; rw [hl, List.take_left]
  rw [List.length_set]
theorem defX_rt {n : Nat} {b : Sx} {env : Env1} (he : ds.map some ++ List.replicate (n - ds.length) none = env) (h : b env st = some (.rt d, st')) : defX n b ds st = some (d, st') := by
  unfold defX
  rw [he, h]
end
/-! ### loops -/
section
variable {s : Src} {g : Gx} {b : Sx} {ρ ρ1 ρ2 : Env1} {st st1 st2 : Store} {x : D} {xs : List D} {d : D}
theorem Src.ok_none {ds : List D} : (⟨ds, none⟩ : Src).ok st := fun n h => by cases h
theorem Src.ok_some {ds : List D} {n : Nat} (h : st[n]? = some (.lst ds)) : (⟨ds, some n⟩ : Src).ok st := fun m e => by cases e; exact h
theorem forL_nil (ok : s.ok st) : forL s g b [] ρ st = some (.nx ρ, st) := by
  unfold forL
  rw [if_pos ok]
theorem forL_nx (ok : s.ok st) (hg : g x ρ st = some (ρ1, st1)) (hb : b ρ1 st1 = some (.nx ρ2, st2)) : forL s g b (x :: xs) ρ st = forL s g b xs ρ2 st2 := by
  conv => lhs; unfold forL
  rw [if_pos ok]
  simp only [M.bnd, hg, hb]
theorem forL_rt (ok : s.ok st) (hg : g x ρ st = some (ρ1, st1)) (hb : b ρ1 st1 = some (.rt d, st2)) : forL s g b (x :: xs) ρ st = some (.rt d, st2) := by
  unfold forL
  rw [if_pos ok]
  simp only [M.bnd, hg, hb, M.ret]
variable {t : Et} {e : Ev} {n : Nat}
theorem lcL_nil (ok : s.ok st) : lcL s n g t e ρ [] st = some ((), st) := by
  unfold lcL
  rw [if_pos ok]
theorem lcL_add {st3 : Store} {y : D} {acc : List D} (ok : s.ok st) (hg : g x ρ st = some (ρ1, st1)) (ht : t ρ1 st1 = some (true, st2)) (he : e ρ1 st2 = some (y, st3)) (hn : st3[n]? = some (.lst acc)) (hl : acc.length < sizeLine) :
    lcL s n g t e ρ (x :: xs) st = lcL s n g t e ρ xs (st3.set n (.lst (acc ++ [y]))) := by
  conv => lhs; unfold lcL
  rw [if_pos ok]
  simp only [M.bnd, hg, ht, he, if_true, mApp, hn]
  rw [if_pos hl]
theorem lcL_skip (ok : s.ok st) (hg : g x ρ st = some (ρ1, st1)) (ht : t ρ1 st1 = some (false, st2)) : lcL s n g t e ρ (x :: xs) st = lcL s n g t e ρ xs st2 := by
  conv => lhs; unfold lcL
  rw [if_pos ok]
  simp only [M.bnd, hg, ht, M.ret]
  rfl
end
/-- a source as it stands behind more objects -/
def Src.In (s : Src) (st : Store) : Prop := s.chk = none ∨ ∃ n, s.chk = some n ∧ n < st.length ∧ st[n]? = some (.lst s.ds)
theorem Src.In.ok {s : Src} {st : Store} (h : s.In st) (g : Store) : s.ok (st ++ g) := by
  rcases h with h | ⟨n, h, hl, e⟩
  · intro m q; rw [h] at q; cases q
  · intro m q; rw [h] at q; cases q
    rw [List.getElem?_append_left hl]; exact e
theorem set_app {st g : Store} {o u : MO} : (st ++ o :: g).set st.length u = st ++ u :: g := by
  rw [List.set_append_right _ _ (Nat.le_refl _)]; simp
theorem get_app {st g : Store} {o : MO} : (st ++ o :: g)[st.length]? = some o := by
  rw [List.getElem?_append_right (Nat.le_refl _)]; simp
/-- a comprehension whose items are told by a function; what is made within is left behind -/
theorem eLc_map {it : Ei} {g : Gx} {e : Ev} {vs : List Nat} {ρ : Env1} {st st1 : Store} {s : Src} (f : D → D) (hi : it ρ st = some (s, st1)) (hin : s.In st1)
    (h : ∀ x ∈ s.ds, ∀ z : Store, ∃ ρ1 z', g x (wipeE ρ vs) (st1 ++ z) = some (ρ1, st1 ++ z) ∧ e ρ1 (st1 ++ z) = some (f x, st1 ++ z ++ z')) (hl : s.ds.length ≤ sizeLine) :
    ∃ z, eLc it g tYesD e vs ρ st = some (.ref st1.length, st1 ++ .lst (s.ds.map f) :: z) := by
  have key : ∀ (xs pre : List D) (z : Store), pre ++ xs = s.ds → ∃ z', lcL s st1.length g tYesD e (wipeE ρ vs) xs (st1 ++ .lst (pre.map f) :: z) = some ((), st1 ++ .lst (s.ds.map f) :: z') := by
    intro xs
    induction xs with
    | nil =>
      intro pre z hp
      rw [List.append_nil] at hp
      subst hp
      exact ⟨z, lcL_nil (hin.ok _)⟩
    | cons x xs ih =>
      intro pre z hp
      have hx : x ∈ s.ds := by rw [← hp]; simp
      obtain ⟨ρ1, z1, e1, e2⟩ := h x hx (.lst (pre.map f) :: z)
      have hlen : (pre.map f).length < sizeLine := by
        have : pre.length + (x :: xs).length = s.ds.length := by rw [← hp, List.length_append]
        simp at this ⊢
        omega
      obtain ⟨z', e3⟩ := ih (pre ++ [x]) (z ++ z1) (by rw [← hp]; simp)
      refine ⟨z', ?_⟩
      refine (lcL_add (y := f x) (acc := pre.map f) (st2 := st1 ++ .lst (pre.map f) :: z) (st3 := st1 ++ .lst (pre.map f) :: (z ++ z1)) (hin.ok _) e1 rfl (by rw [e2]; simp) get_app hlen).trans ?_
      rw [set_app]
      rw [List.map_append] at e3
      exact e3
  obtain ⟨z, e1⟩ := key s.ds [] [] rfl
  refine ⟨z, ?_⟩
  unfold eLc
  simp only [M.bnd, hi]
  rw [show st1 ++ [MO.lst []] = st1 ++ .lst (([] : List D).map f) :: [] from rfl, e1]
  rfl
/-- .. with a test -/
theorem eLc_filter {it : Ei} {g : Gx} {t : Et} {e : Ev} {vs : List Nat} {ρ : Env1} {st st1 : Store} {s : Src} (p : D → Bool) (f : D → D) (hi : it ρ st = some (s, st1)) (hin : s.In st1)
    (h : ∀ x ∈ s.ds, ∀ z : Store, ∃ ρ1 z1, g x (wipeE ρ vs) (st1 ++ z) = some (ρ1, st1 ++ z) ∧ t ρ1 (st1 ++ z) = some (p x, st1 ++ z ++ z1) ∧ (p x = true → ∀ z : Store, ∃ z2, e ρ1 (st1 ++ z) = some (f x, st1 ++ z ++ z2))) (hl : s.ds.length ≤ sizeLine) :
    ∃ z, eLc it g t e vs ρ st = some (.ref st1.length, st1 ++ .lst ((s.ds.filter p).map f) :: z) := by
  have key : ∀ (xs pre : List D) (z : Store), pre ++ xs = s.ds → ∃ z', lcL s st1.length g t e (wipeE ρ vs) xs (st1 ++ .lst ((pre.filter p).map f) :: z) = some ((), st1 ++ .lst ((s.ds.filter p).map f) :: z') := by
    intro xs
    induction xs with
    | nil =>
      intro pre z hp
      rw [List.append_nil] at hp
      subst hp
      exact ⟨z, lcL_nil (hin.ok _)⟩
    | cons x xs ih =>
      intro pre z hp
      have hx : x ∈ s.ds := by rw [← hp]; simp
      obtain ⟨ρ1, z1, e1, e2, e3⟩ := h x hx (.lst ((pre.filter p).map f) :: z)
      have hlen : ((pre.filter p).map f).length < sizeLine := by
        have : pre.length + (x :: xs).length = s.ds.length := by rw [← hp, List.length_append]
        have h2 := List.length_filter_le p pre
        simp at this ⊢
        omega
      cases hpx : p x with
      | false =>
        obtain ⟨z', e4⟩ := ih (pre ++ [x]) (z ++ z1) (by rw [← hp]; simp)
        refine ⟨z', ?_⟩
        refine (lcL_skip (st2 := st1 ++ .lst ((pre.filter p).map f) :: (z ++ z1)) (hin.ok _) e1 (by rw [e2, hpx]; simp)).trans ?_
        rw [List.filter_append, List.filter_cons_of_neg (by rw [hpx]; decide), List.filter_nil, List.append_nil] at e4
        exact e4
      | true =>
        obtain ⟨z2, e5⟩ := e3 hpx (.lst ((pre.filter p).map f) :: (z ++ z1))
        obtain ⟨z', e4⟩ := ih (pre ++ [x]) (z ++ z1 ++ z2) (by rw [← hp]; simp)
        refine ⟨z', ?_⟩
        refine (lcL_add (y := f x) (acc := (pre.filter p).map f) (st2 := st1 ++ .lst ((pre.filter p).map f) :: (z ++ z1)) (st3 := st1 ++ .lst ((pre.filter p).map f) :: (z ++ z1 ++ z2)) (hin.ok _) e1 (by rw [e2, hpx]; simp) (by rw [e5]; simp) get_app hlen).trans ?_
        rw [set_app]
        rw [List.filter_append, List.filter_cons_of_pos hpx, List.filter_nil, List.map_append] at e4
        exact e4
  obtain ⟨z, e1⟩ := key s.ds [] [] rfl
  refine ⟨z, ?_⟩
  unfold eLc
  simp only [M.bnd, hi]
  rw [show st1 ++ [MO.lst []] = st1 ++ .lst ((([] : List D).filter p).map f) :: [] from rfl, e1]
  rfl
/-! ### numbers -/
theorem atI_n {α : Type} {xs : List α} {i : Int} {j : Nat} {v : α} (hi : i = (j : Int)) (h : xs[j]? = some v) : atI xs i = some v := by subst hi; exact atI_nat h
theorem atI0 {α : Type} (x : α) (r : List α) : atI (x :: r) 0 = some x := atI_n (j := 0) rfl rfl
theorem atI1 {α : Type} (x y : α) (r : List α) : atI (x :: y :: r) 1 = some y := atI_n (j := 1) rfl rfl
theorem atI2 {α : Type} (x y z : α) (r : List α) : atI (x :: y :: z :: r) 2 = some z := atI_n (j := 2) rfl rfl
theorem atI3 {α : Type} (x y z w : α) (r : List α) : atI (x :: y :: z :: w :: r) 3 = some w := atI_n (j := 3) rfl rfl
theorem dMul_int {a b : Int} (h : CMulW a b) (st : Store) : dMul (.int a) (.int b) st = some (.int (a * b), st) := by
  show (if CMulW a b then M.ret (D.int (a * b)) else M.bad) st = _
  rw [if_pos h]; rfl
theorem dDiv_int {a b : Int} (h : CDivW a b) (st : Store) : dDiv (.int a) (.int b) st = some (.int (a / b), st) := by
  show (if CDivW a b then M.ret (D.int (a / b)) else M.bad) st = _
  rw [if_pos h]; rfl
theorem dMod_int {a b : Int} (h : 0 < b) (st : Store) : dMod (.int a) (.int b) st = some (.int (a % b), st) := by
  show (if 0 < b then M.ret (D.int (a % b)) else M.bad) st = _
  rw [if_pos h]; rfl
theorem dT_int {g : Int → Int → D} {a b : Int} (st : Store) : dI2 (fun _ _ => True) g (.int a) (.int b) st = some (g a b, st) := by
  show (if True then M.ret (g a b) else M.bad) st = _
  rw [if_pos trivial]; rfl
theorem dSub_int {a b : Int} (st : Store) : dSub (.int a) (.int b) st = some (.int (a - b), st) := dT_int st
theorem dLt_int {a b : Int} (st : Store) : dLt (.int a) (.int b) st = some (.bl (decide (a < b)), st) := dT_int st
theorem dLe_int {a b : Int} (st : Store) : dLe (.int a) (.int b) st = some (.bl (decide (a ≤ b)), st) := dT_int st
theorem dGt_int {a b : Int} (st : Store) : dGt (.int a) (.int b) st = some (.bl (decide (b < a)), st) := dT_int st
theorem dGe_int {a b : Int} (st : Store) : dGe (.int a) (.int b) st = some (.bl (decide (b ≤ a)), st) := dT_int st
theorem dAdd_int {a b : Int} (st : Store) : dAdd (.int a) (.int b) st = some (.int (a + b), st) := rfl
theorem dIx_tup {xs : List D} {i : Int} (st : Store) : dIx (.tup xs) (.int i) st = (atI xs i).map fun d => (d, st) := rfl
/-- a size that all numbers here keep below -/
def big : Nat := 2 ^ 2000
def SzI (i : Int) : Prop := i.natAbs < 2 ^ 2000
theorem SzI.mul {a b : Int} (ha : SzI a) (hb : SzI b) : CMulW a b := wide_mul ha hb (by decide) (by decide) (by decide)
/-! ### one step each -/
section
variable {ρ : Env1} {st st1 st2 : Store} {a b c : Ev} {x y : D} {ds : List D} {A : Ea}
theorem eOp2_at {g : D → D → M D} (ha : a ρ st = some (x, st1)) (hb : b ρ st1 = some (y, st2)) : eOp2 g a b ρ st = g x y st2 := by simp only [eOp2, M.bnd, ha, hb]
theorem eOp1_at {g : D → M D} (ha : a ρ st = some (x, st1)) : eOp1 g a ρ st = g x st1 := by simp only [eOp1, M.bnd, ha]
theorem aCons_at (ha : a ρ st = some (x, st1)) (hb : A ρ st1 = some (ds, st2)) : aCons a A ρ st = some (x :: ds, st2) := by simp only [aCons, M.bnd, M.ret, ha, hb]
theorem aNil_at : aNil ρ st = some ([], st) := rfl
theorem eCB_at {g : List D → M D} (ha : A ρ st = some (ds, st1)) : eCB g A ρ st = g ds st1 := by simp only [eCB, M.bnd, ha]
theorem mCall_at {n : Nat} {F : List D → M D} (h : ds.length = n) : mCall n F ds = F ds := by unfold mCall; rw [if_pos h]
theorem mCall1 {F : List D → M D} : mCall 1 F [x] = F [x] := rfl
theorem mCall2 {F : List D → M D} : mCall 2 F [x, y] = F [x, y] := rfl
theorem mCall3 {F : List D → M D} {z : D} : mCall 3 F [x, y, z] = F [x, y, z] := rfl
theorem eVar_at {i : Nat} (h : ρ[i]? = some (some x)) : eVar i ρ st = some (x, st) := by simp only [eVar, h, M.ret]
theorem eC_at : eC x ρ st = some (x, st) := rfl
theorem eTup_at (ha : A ρ st = some (ds, st1)) (h : ds.length ≤ sizeLine) : eTup A ρ st = some (.tup ds, st1) := by simp only [eTup, M.bnd, ha, mTup, if_pos h, M.ret]
theorem eLst_at (ha : A ρ st = some (ds, st1)) (h : ds.length ≤ sizeLine) : eLst A ρ st = some (.ref st1.length, st1 ++ [.lst ds]) := by simp only [eLst, M.bnd, ha, mLst, if_pos h, mNew]
theorem eIf_at {t : Et} {k : Bool} (ht : t ρ st = some (k, st1)) : eIf t a b ρ st = if k = true then a ρ st1 else b ρ st1 := by simp only [eIf, M.bnd, ht]; split <;> rfl
theorem tV_at {k : Bool} (ha : a ρ st = some (.bl k, st1)) : tV a ρ st = some (k, st1) := by simp only [tV, M.bnd, ha, mBool, M.ret]
variable {S T : Sx} {ρ1 ρ2 : Env1} {r : Option (Fl × Store)} {G : Gx}
theorem sSeq_at (hs : S ρ st = some (.nx ρ1, st1)) : sSeq S T ρ st = T ρ1 st1 := by simp only [sSeq, M.bnd, hs]
theorem sSeq_rt (hs : S ρ st = some (.rt x, st1)) : sSeq S T ρ st = some (.rt x, st1) := by simp only [sSeq, M.bnd, hs, M.ret]
theorem sAsg_at (ha : a ρ st = some (x, st1)) (hg : G x ρ st1 = some (ρ1, st2)) : sAsg a G ρ st = some (.nx ρ1, st2) := by simp only [sAsg, M.bnd, ha, hg, M.ret]
theorem sSet_at {i : Nat} (ha : a ρ st = some (x, st1)) : sAsg a (xName i) ρ st = some (.nx (ρ.set i (some x)), st1) := by simp only [sAsg, M.bnd, ha, xName, M.ret]
theorem sPar_at {i j : Nat} (ha : A ρ st = some ([x, y], st1)) : sPar i j A ρ st = some (.nx ((ρ.set i (some x)).set j (some y)), st1) := by simp only [sPar, M.bnd, ha, M.ret]
theorem sRet_at (ha : a ρ st = some (x, st1)) : sRet a ρ st = some (.rt x, st1) := by simp only [sRet, M.bnd, ha, M.ret]
theorem sDrop_at (ha : a ρ st = some (x, st1)) : sDrop a ρ st = some (.nx ρ, st1) := by simp only [sDrop, M.bnd, ha, M.ret]
theorem sIf_at {t : Et} {k : Bool} (ht : t ρ st = some (k, st1)) : sIf t S T ρ st = if k = true then S ρ st1 else T ρ st1 := by simp only [sIf, M.bnd, ht]; split <;> rfl
theorem sFor_at {it : Ei} {g : Gx} {s : Src} (hi : it ρ st = some (s, st1)) : sFor it g S ρ st = forL s g S s.ds ρ st1 := by simp only [sFor, M.bnd, hi]
end
theorem get_off (st g : Store) (j : Nat) : (st ++ g)[st.length + j]? = g[j]? := by
  rw [List.getElem?_append_right (by omega)]; congr 1; omega
theorem set_off (st g : Store) (j : Nat) (u : MO) : (st ++ g).set (st.length + j) u = st ++ g.set j u := by
  rw [List.set_append_right _ _ (by omega)]; congr 2; omega
theorem app_at {o : Ev} {A : Ea} {ρ : Env1} {st st1 : Store} {n : Nat} {xs : List D} {y : D} (ho : o ρ st = some (.ref n, st)) (hn : st[n]? = some (.lst xs)) (ha : A ρ st = some ([y], st1)) (hn1 : st1[n]? = some (.lst xs)) (hl : xs.length < sizeLine) :
    eBM dApp o A ρ st = some (.non, st1.set n (.lst (xs ++ [y]))) := by
  simp only [eBM, M.bnd, ho, mIsL, hn, ha, dApp, hn1, if_pos hl]
theorem lst_ix {st : Store} {n : Nat} {xs : List D} (h : st[n]? = some (.lst xs)) (i : Int) : dIx (.ref n) (.int i) st = (atI xs i).map fun d => (d, st) := by
  show (match st[n]? with
    | some (.lst xs) => (atI xs i).map fun d => (d, st)
    | _ => none) = _
  rw [h]
theorem atI_m1 {α : Type} (xs : List α) (x : α) : atI (xs ++ [x]) (-1) = some x := atI_last xs x
theorem cut_drop {α : Type} (xs : List α) (k : Nat) : cutD xs (some (k : Int)) none = xs.drop k := by
  unfold cutD
  rw [HT.sIx_nat, HT.sIx_none]
  by_cases h : k ≤ xs.length
  · rw [Nat.min_eq_left h]
    exact List.take_of_length_le (by simp)
  · rw [Nat.min_eq_right (by omega)]
    simp only [List.drop_length, List.take_nil]
    exact (List.drop_eq_nil_iff.mpr (by omega)).symm
theorem cut_take {α : Type} (xs : List α) (k : Nat) : cutD xs none (some (k : Int)) = xs.take k := by
  unfold cutD
  rw [HT.sIx_nat, HT.sIx_none]
  simp
/-- k, k + 1, .. -/
def rgs : Nat → Nat → List D
  | _, 0 => []
  | k, n + 1 => .int (k : Int) :: rgs (k + 1) n
theorem rngD_rgs (k n : Nat) : rngD (k : Int) n = rgs k n := by
  induction n generalizing k with
  | zero => rfl
  | succ n ih =>
    have e : rngD (k : Int) (n + 1) = .int (k : Int) :: rngD ((k + 1 : Nat) : Int) n := by
      unfold rngD
      rw [List.range_succ_eq_map, List.map_cons, List.map_map]
      refine List.cons_eq_cons.mpr ⟨by simp, ?_⟩
      · apply List.map_congr_left
        intro i _
        show D.int ((k : Int) + ((i + 1 : Nat) : Int)) = D.int (((k + 1 : Nat) : Int) + (i : Int))
        rw [show (k : Int) + ((i + 1 : Nat) : Int) = ((k + 1 : Nat) : Int) + (i : Int) by omega]
    rw [e, ih (k + 1)]
    rfl
theorem rng_at {A : Ea} {ρ : Env1} {st : Store} {n : Nat} (ha : A ρ st = some ([.int (n : Int)], st)) (hn : n < 2 ^ 60) : iR1 A ρ st = some (⟨rgs 0 n, none⟩, st) := by
  have h1 : (2 : Nat) ^ 60 = 1152921504606846976 := by decide
  simp only [iR1, M.bnd, ha]
  rw [if_pos (by omega)]
  show some ((⟨rngD 0 (n : Int).toNat, none⟩ : Src), st) = _
  rw [Int.toNat_natCast, show (0 : Int) = ((0 : Nat) : Int) from rfl, rngD_rgs]
end Dl
set_option linter.all false
set_option autoImplicit false
/-! M2: fractions -/
noncomputable section
namespace Dl
open PySem PySem.Spec PyProof.Rows L2
/-! ### sizes -/
/-- below 2 ^ n -/
def Bt (n : Nat) (i : Int) : Prop := i.natAbs < 2 ^ n
theorem Bt.mono {m n : Nat} {i : Int} (h : Bt m i) (hm : m ≤ n) : Bt n i := Nat.lt_of_lt_of_le h (Nat.pow_le_pow_right (by decide) hm)
theorem Bt.mulW {m n : Nat} {a b : Int} (ha : Bt m a) (hb : Bt n b) (h : m + n ≤ 900000) : CMulW a b :=
  wide_mul (ha.mono (Nat.le_succ m)) (hb.mono (Nat.le_succ n)) (by omega) (by omega) (by omega)
theorem Bt.mul {m n : Nat} {a b : Int} (ha : Bt m a) (hb : Bt n b) : Bt (m + n) (a * b) := wide_lt ha hb
theorem Bt.add {m n : Nat} {a b : Int} (ha : Bt m a) (hb : Bt n b) (h : m ≤ n) : Bt (n + 1) (a + b) := by
  have h1 : a.natAbs < 2 ^ n := ha.mono h
  have h2 : b.natAbs < 2 ^ n := hb
  have h3 : (a + b).natAbs ≤ a.natAbs + b.natAbs := Int.natAbs_add_le a b
  show (a + b).natAbs < 2 ^ (n + 1)
  rw [Nat.pow_succ]; omega
theorem Bt.neg {n : Nat} {a : Int} (h : Bt n a) : Bt n (-a) := by
  show (-a).natAbs < 2 ^ n
  rw [Int.natAbs_neg]; exact h
theorem Bt.divW {n : Nat} {a b : Int} (h : 0 < b) (hb : Bt n b) (hn : n ≤ 8999) : CDivW a b := wide_div h (hb.mono (Nat.le_succ n)) (by omega) (by omega)
/-! ### the greatest common divisor by the program's while -/
def cGcd : Et := tV (eOp2 dGt (eVar 3) (eC (.int 0)))
def bGcd : Sx := sPar 2 3 (aCons (eVar 3) (aCons (eOp2 dMod (eVar 2) (eVar 3)) aNil))
theorem gcd_loop (a b : Option D) (st : Store) : ∀ (n one other : Nat), other < n → whileL cGcd bGcd n [a, b, some (.int one), some (.int other)] st = some (.nx [a, b, some (.int (Nat.gcd one other)), some (.int 0)], st)
  | 0, _, _, h => by omega
  | n + 1, one, 0, _ => by
    unfold whileL
    simp only [cGcd, tV, eOp2, eVar, eC, M.bnd, M.ret, List.getElem?_cons_zero, List.getElem?_cons_succ, dT_int, mBool]
    simp
    rfl
  | n + 1, one, other + 1, h => by
    have hp : (0 : Int) < ((other + 1 : Nat) : Int) := by omega
    have ih := gcd_loop a b st n (other + 1) (one % (other + 1)) (by
      have : one % (other + 1) < other + 1 := Nat.mod_lt one (Nat.succ_pos other)
      omega)
    unfold whileL
    simp only [cGcd, tV, eOp2, eVar, eC, M.bnd, M.ret, List.getElem?_cons_zero, List.getElem?_cons_succ, dT_int, mBool, decide_eq_true hp, if_true]
    simp only [bGcd, sPar, aCons, aNil, eOp2, eVar, M.bnd, M.ret, List.getElem?_cons_zero, List.getElem?_cons_succ, dMod_int hp, List.set_cons_zero, List.set_cons_succ]
    have e : ((one : Int) % ((other + 1 : Nat) : Int)) = ((one % (other + 1) : Nat) : Int) := by simp
    rw [e, Nat.gcd_comm one, Nat.gcd_rec (other + 1) one, Nat.gcd_comm (one % (other + 1))]
    exact ih
def b_low : Sx := (sSeq (sPar 2 3 (aCons (eCB bAbs (aCons (eVar 0) aNil)) (aCons (eVar 1) aNil)))
  (sSeq (sWhile (fuelAt 3) cGcd bGcd)
  (sRet (eTup (aCons (eOp2 dDiv (eVar 0) (eVar 2)) (aCons (eOp2 dDiv (eVar 1) (eVar 2)) aNil))))))
def fr (q : Rat) : D := .tup [.int q.num, .int q.den]
theorem fr_low (q : Rat) (k : Nat) : (fr q).low k = true := rfl
theorem natAbs_if (t : Int) : (if t < 0 then -t else t) = (t.natAbs : Int) := by split <;> omega
theorem low_body {t b : Int} (st : Store) (hb : 0 < b) (h : Bt 8999 b) : b_low [some (.int t), some (.int b), none, none] st = some (.rt (fr (Rat.divInt t b)), st) := by
  obtain ⟨n, rfl⟩ : ∃ n : Nat, b = n := ⟨b.toNat, by omega⟩
  have hn : 0 < n := by omega
  have hg : 0 < Nat.gcd t.natAbs n := Nat.gcd_pos_of_pos_right _ hn
  have hgn : Nat.gcd t.natAbs n ≤ n := Nat.gcd_le_right _ hn
  have hg' : (0 : Int) < ((Nat.gcd t.natAbs n : Nat) : Int) := by omega
  have hd : CDivW t ((Nat.gcd t.natAbs n : Nat) : Int) := Bt.divW hg' (show Bt 8999 _ from Nat.lt_of_le_of_lt (by simpa using hgn) h) (Nat.le_refl _)
  have hd2 : CDivW (n : Int) ((Nat.gcd t.natAbs n : Nat) : Int) := Bt.divW hg' (show Bt 8999 _ from Nat.lt_of_le_of_lt (by simpa using hgn) h) (Nat.le_refl _)
  have hl := gcd_loop (some (.int t)) (some (.int n)) st (n + 2) t.natAbs n (by omega)
  simp only [b_low, sSeq, sPar, sWhile, sRet, eTup, eCB, bAbs, aCons, aNil, eVar, M.bnd, M.ret, List.getElem?_cons_zero, List.getElem?_cons_succ, List.set_cons_zero, List.set_cons_succ, natAbs_if, fuelAt, Int.natAbs_natCast, hl, eOp2, dDiv_int hd, dDiv_int hd2, mTup, List.length_cons, List.length_nil]
  rw [if_pos (by decide)]
  have e1 : (Rat.divInt t (n : Int)).num = t / ((Nat.gcd t.natAbs n : Nat) : Int) := by
    rw [Rat.divInt_ofNat, Rat.num_mkRat, if_neg (by omega), Nat.gcd_comm]
  have e2 : (((Rat.divInt t (n : Int)).den : Nat) : Int) = (n : Int) / ((Nat.gcd t.natAbs n : Nat) : Int) := by
    rw [Rat.divInt_ofNat, Rat.den_mkRat, if_neg (by omega), Nat.gcd_comm]; simp
  simp only [fr, e1, e2]
  rfl
noncomputable def F_low : List D → M D := gcF (defX 4 b_low)
theorem low_eq {t b : Int} (st : Store) (hb : 0 < b) (h : Bt 8999 b) : F_low [.int t, .int b] st = some (fr (Rat.divInt t b), st) :=
  gcF_eq0 (defX_rt (env := [some (.int t), some (.int b), none, none]) rfl (low_body st hb h)) (fr_low _ _)
/-! ### sums, products, order -/
/-- a fraction whose numbers are below 2 ^ 2000 -/
def Sz (q : Rat) : Prop := Bt 2000 q.num ∧ Bt 2000 (q.den : Int)
theorem den_pos (q : Rat) : (0 : Int) < (q.den : Int) := by have := q.den_pos; omega
def b_pl : Sx := (sRet (eCB (mCall 2 F_low) (aCons (eOp2 dAdd (eOp2 dMul (eOp2 dIx (eVar 0) (eC (.int 0))) (eOp2 dIx (eVar 1) (eC (.int 1)))) (eOp2 dMul (eOp2 dIx (eVar 1) (eC (.int 0))) (eOp2 dIx (eVar 0) (eC (.int 1))))) (aCons (eOp2 dMul (eOp2 dIx (eVar 0) (eC (.int 1))) (eOp2 dIx (eVar 1) (eC (.int 1)))) aNil))))
noncomputable def F_pl : List D → M D := gcF (defX 2 b_pl)
theorem pl_pair {a b c d : Int} (st : Store) (ha : Bt 4000 a) (hb : Bt 4000 b) (hc : Bt 4000 c) (hd : Bt 4000 d) (b0 : 0 < b) (d0 : 0 < d) : F_pl [.tup [.int a, .int b], .tup [.int c, .int d]] st = some (fr (Rat.divInt (a * d + c * b) (b * d)), st) := by
  have h1 : CMulW a d := ha.mulW hd (by decide)
  have h2 : CMulW c b := hc.mulW hb (by decide)
  have h3 : CMulW b d := hb.mulW hd (by decide)
  have h4 : F_low [.int (a * d + c * b), .int (b * d)] st = some (fr (Rat.divInt (a * d + c * b) (b * d)), st) := low_eq st (Int.mul_pos b0 d0) ((hb.mul hd).mono (by decide))
  refine gcF_eq0 (defX_rt rfl ?_) (fr_low _ _)
  simp only [List.map_cons, List.map_nil, List.length_cons, List.length_nil, List.cons_append, List.nil_append, b_pl, sRet, eCB, mCall, aCons, aNil, eOp2, eVar, eC, M.bnd, M.ret, List.getElem?_cons_zero, List.getElem?_cons_succ, dIx_tup, atI0, atI1, Option.map_some, dMul_int h1, dMul_int h2, dMul_int h3, dAdd, if_true, Nat.reduceAdd, h4]
theorem fr_pair (q : Rat) : fr q = .tup [.int q.num, .int q.den] := rfl
theorem Sz.num {q : Rat} (h : Sz q) : Bt 4000 q.num := h.1.mono (by decide)
theorem Sz.den {q : Rat} (h : Sz q) : Bt 4000 (q.den : Int) := h.2.mono (by decide)
theorem pl_eq {p q : Rat} (st : Store) (hp : Sz p) (hq : Sz q) : F_pl [fr p, fr q] st = some (fr (p + q), st) := by
  rw [fr_pair p, fr_pair q, pl_pair st hp.num hp.den hq.num hq.den (den_pos p) (den_pos q), Rat.add_def', ← Rat.divInt_ofNat]
  simp
/-- a fraction and a pair that stands for one -/
theorem pl_eq2 {p q : Rat} {c d : Int} (st : Store) (hp : Sz p) (hc : Bt 4000 c) (hd : Bt 4000 d) (d0 : 0 < d) (e : Rat.divInt c d = q) : F_pl [fr p, .tup [.int c, .int d]] st = some (fr (p + q), st) := by
  rw [fr_pair p, pl_pair st hp.num hp.den hc hd (den_pos p) d0, ← e]
  have h := Rat.divInt_add_divInt p.num c (d₁ := (p.den : Int)) (d₂ := d) (by have := den_pos p; omega) (by omega)
  rw [Rat.num_divInt_den] at h
  rw [h]
theorem divInt_one (a : Int) : Rat.divInt a 1 = (a : Rat) := by
  rw [Rat.divInt_eq_div, Rat.div_def, show ((1 : Int) : Rat)⁻¹ = 1 from Rat.inv_eq_of_mul_eq_one (by simp), Rat.mul_one]
def b_tm : Sx := (sRet (eCB (mCall 2 F_low) (aCons (eOp2 dMul (eOp2 dIx (eVar 0) (eC (.int 0))) (eVar 1)) (aCons (eOp2 dMul (eOp2 dIx (eVar 0) (eC (.int 1))) (eVar 2)) aNil))))
noncomputable def F_tm : List D → M D := gcF (defX 3 b_tm)
theorem tm_eq {p : Rat} {t b : Int} (st : Store) (hp : Sz p) (ht : Bt 4000 t) (hb : Bt 4000 b) (b0 : 0 < b) : F_tm [fr p, .int t, .int b] st = some (fr (p * (t : Rat) / (b : Rat)), st) := by
  have h1 : CMulW p.num t := hp.num.mulW ht (by decide)
  have h2 : CMulW (p.den : Int) b := hp.den.mulW hb (by decide)
  have h4 : F_low [.int (p.num * t), .int (p.den * b)] st = some (fr (Rat.divInt (p.num * t) (p.den * b)), st) := low_eq st (Int.mul_pos (den_pos p) b0) ((hp.den.mul hb).mono (by decide))
  have e : Rat.divInt (p.num * t) (p.den * b) = p * (t : Rat) / (b : Rat) := by
    have h := Rat.divInt_mul_divInt p.num t (d₁ := (p.den : Int)) (d₂ := b)
    rw [Rat.num_divInt_den, Rat.divInt_eq_div t b] at h
    rw [← h, Rat.div_def, Rat.div_def, Rat.mul_assoc]
  rw [e] at h4
  refine gcF_eq0 (defX_rt rfl ?_) (fr_low _ _)
  simp only [List.map_cons, List.map_nil, List.length_cons, List.length_nil, List.cons_append, List.nil_append, b_tm, fr_pair p, sRet, eCB, mCall, aCons, aNil, eOp2, eVar, eC, M.bnd, M.ret, List.getElem?_cons_zero, List.getElem?_cons_succ, dIx_tup, atI0, atI1, Option.map_some, dMul_int h1, dMul_int h2, if_true, Nat.reduceAdd, h4]
def b_ls : Sx := (sRet (eOp2 dLt (eOp2 dMul (eOp2 dIx (eVar 0) (eC (.int 0))) (eOp2 dIx (eVar 1) (eC (.int 1)))) (eOp2 dMul (eOp2 dIx (eVar 1) (eC (.int 0))) (eOp2 dIx (eVar 0) (eC (.int 1))))))
noncomputable def F_ls : List D → M D := gcF (defX 2 b_ls)
theorem ls_eq {p q : Rat} (st : Store) (hp : Sz p) (hq : Sz q) : F_ls [fr p, fr q] st = some (.bl (decide (p < q)), st) := by
  have h1 : CMulW p.num (q.den : Int) := hp.num.mulW hq.den (by decide)
  have h2 : CMulW q.num (p.den : Int) := hq.num.mulW hp.den (by decide)
  refine gcF_eq0 (defX_rt rfl ?_) rfl
  simp only [List.map_cons, List.map_nil, List.length_cons, List.length_nil, List.cons_append, List.nil_append, b_ls, fr_pair p, fr_pair q, sRet, eCB, mCall, aCons, aNil, eOp2, eVar, eC, M.bnd, M.ret, List.getElem?_cons_zero, List.getElem?_cons_succ, dIx_tup, atI0, atI1, Option.map_some, dMul_int h1, dMul_int h2, dT_int, Rat.lt_iff]
/-! ### the greatest, the least of some -/
def maxR : Rat → List Rat → Rat
  | f, [] => f
  | f, q :: r => maxR (if f < q then q else f) r
def minR : Rat → List Rat → Rat
  | f, [] => f
  | f, q :: r => minR (if q < f then q else f) r
def b_gr : Sx := (sSeq (sAsg (eOp2 dIx (eVar 0) (eC (.int 0))) (xName 1))
  (sSeq (sFor (iSeq (eVar 0)) (xName 2) (sAsg (eIf (tV (eCB (mCall 2 F_ls) (aCons (eVar 1) (aCons (eVar 2) aNil)))) (eVar 2) (eVar 1)) (xName 1)))
  (sRet (eVar 1))))
noncomputable def F_gr : List D → M D := gcF (defX 3 b_gr)
def frs (qs : List Rat) : List D := qs.map fr
theorem gr_loop (some_ : Option D) (s : Src) (st : Store) (ok : s.ok st) : ∀ (qs : List Rat) (f : Rat) (o : Option D), Sz f → (∀ q ∈ qs, Sz q) →
    ∃ o', forL s (xName 2) (sAsg (eIf (tV (eCB (mCall 2 F_ls) (aCons (eVar 1) (aCons (eVar 2) aNil)))) (eVar 2) (eVar 1)) (xName 1)) (frs qs) [some_, some (fr f), o] st = some (.nx [some_, some (fr (maxR f qs)), o'], st)
  | [], f, o, _, _ => ⟨o, forL_nil ok⟩
  | q :: r, f, o, hf, hq => by
    have hq0 : Sz q := hq q (by simp)
    obtain ⟨o', h⟩ := gr_loop some_ s st ok r (if f < q then q else f) (some (fr q)) (by split <;> assumption) (fun x hx => hq x (by simp [hx]))
    refine ⟨o', (forL_nx ok (x := fr q) (st1 := st) (st2 := st) (ρ1 := [some_, some (fr f), some (fr q)]) (ρ2 := [some_, some (fr (if f < q then q else f)), some (fr q)]) rfl ?_).trans h⟩
    simp only [sAsg, eIf, tV, eCB, mCall, aCons, aNil, eVar, M.bnd, M.ret, List.getElem?_cons_zero, List.getElem?_cons_succ, List.length_cons, List.length_nil, if_true, Nat.reduceAdd, ls_eq st hf hq0, mBool, xName]
    by_cases h : f < q
    · simp only [decide_eq_true h, h, if_true]; rfl
    · simp only [decide_eq_false h, h, if_false]; rfl
def b_lr : Sx := (sSeq (sAsg (eOp2 dIx (eVar 0) (eC (.int 0))) (xName 1))
  (sSeq (sFor (iSeq (eVar 0)) (xName 2) (sAsg (eIf (tV (eCB (mCall 2 F_ls) (aCons (eVar 2) (aCons (eVar 1) aNil)))) (eVar 2) (eVar 1)) (xName 1)))
  (sRet (eVar 1))))
def F_lr : List D → M D := gcF (defX 3 b_lr)
theorem lr_loop (some_ : Option D) (s : Src) (st : Store) (ok : s.ok st) : ∀ (qs : List Rat) (f : Rat) (o : Option D), Sz f → (∀ q ∈ qs, Sz q) →
    ∃ o', forL s (xName 2) (sAsg (eIf (tV (eCB (mCall 2 F_ls) (aCons (eVar 2) (aCons (eVar 1) aNil)))) (eVar 2) (eVar 1)) (xName 1)) (frs qs) [some_, some (fr f), o] st = some (.nx [some_, some (fr (minR f qs)), o'], st)
  | [], f, o, _, _ => ⟨o, forL_nil ok⟩
  | q :: r, f, o, hf, hq => by
    have hq0 : Sz q := hq q (by simp)
    obtain ⟨o', h⟩ := lr_loop some_ s st ok r (if q < f then q else f) (some (fr q)) (by split <;> assumption) (fun x hx => hq x (by simp [hx]))
    refine ⟨o', (forL_nx ok (x := fr q) (st1 := st) (st2 := st) (ρ1 := [some_, some (fr f), some (fr q)]) (ρ2 := [some_, some (fr (if q < f then q else f)), some (fr q)]) rfl ?_).trans h⟩
    simp only [sAsg, eIf, tV, eCB, mCall, aCons, aNil, eVar, M.bnd, M.ret, List.getElem?_cons_zero, List.getElem?_cons_succ, List.length_cons, List.length_nil, if_true, Nat.reduceAdd, ls_eq st hq0 hf, mBool, xName]
    by_cases h : q < f
    · simp only [decide_eq_true h, h, if_true]; rfl
    · simp only [decide_eq_false h, h, if_false]; rfl
/-- a sequence, as an argument -/
def IsSeq (st : Store) (d : D) (ds : List D) : Prop := d = .tup ds ∨ ∃ n, d = .ref n ∧ st[n]? = some (.lst ds)
theorem IsSeq.src {st : Store} {d : D} {ds : List D} (h : IsSeq st d ds) : ∃ s : Src, mSrc d st = some (s, st) ∧ s.ds = ds ∧ s.ok st := by
  rcases h with rfl | ⟨n, rfl, e⟩
  · exact ⟨⟨ds, none⟩, rfl, rfl, Src.ok_none⟩
  · refine ⟨⟨ds, some n⟩, ?_, rfl, Src.ok_some e⟩
    show (match st[n]? with
      | some (.lst xs) => some ((⟨xs, some n⟩ : Src), st)
      | _ => none) = _
    rw [e]
theorem IsSeq.ix {st : Store} {d : D} {ds : List D} (h : IsSeq st d ds) (i : Int) : dIx d (.int i) st = (atI ds i).map fun d => (d, st) := by
  rcases h with rfl | ⟨n, rfl, e⟩
  · rfl
  · show (match st[n]? with
      | some (.lst xs) => (atI xs i).map fun d => (d, st)
      | _ => none) = _
    rw [e]
theorem IsSeq.app {st : Store} {d : D} {ds : List D} (h : IsSeq st d ds) (g : Store) : IsSeq (st ++ g) d ds := by
  rcases h with rfl | ⟨n, rfl, e⟩
  · exact .inl rfl
  · refine .inr ⟨n, rfl, ?_⟩
    rw [List.getElem?_append_left (List.getElem?_eq_some_iff.mp e).1]; exact e
theorem gr_eq {q : Rat} {qs : List Rat} {d : D} (st : Store) (h : IsSeq st d (frs (q :: qs))) (hq : ∀ x ∈ q :: qs, Sz x) : F_gr [d] st = some (fr (maxR q qs), st) := by
  obtain ⟨s, e1, e2, ok⟩ := h.src
  have hq0 : Sz q := hq q (by simp)
  obtain ⟨o', e3⟩ := gr_loop (some d) s st ok (q :: qs) q none hq0 hq
  have e4 : maxR q (q :: qs) = maxR q qs := by
    show maxR (if q < q then q else q) qs = maxR q qs
    simp
  rw [e4] at e3
  refine gcF_eq0 (defX_rt rfl ?_) (fr_low _ _)
  have hx := h.ix 0
  rw [show frs (q :: qs) = fr q :: frs qs from rfl, atI0, Option.map_some] at hx
  simp only [List.map_cons, List.map_nil, List.length_cons, List.length_nil, List.cons_append, List.nil_append, List.replicate, b_gr, sSeq, sAsg, sFor, sRet, iSeq, eOp2, eVar, eC, M.bnd, M.ret, List.getElem?_cons_zero, List.getElem?_cons_succ, hx, xName, List.set_cons_zero, List.set_cons_succ, e1, e2, e3]
theorem lr_eq {q : Rat} {qs : List Rat} {d : D} (st : Store) (h : IsSeq st d (frs (q :: qs))) (hq : ∀ x ∈ q :: qs, Sz x) : F_lr [d] st = some (fr (minR q qs), st) := by
  obtain ⟨s, e1, e2, ok⟩ := h.src
  have hq0 : Sz q := hq q (by simp)
  obtain ⟨o', e3⟩ := lr_loop (some d) s st ok (q :: qs) q none hq0 hq
  have e4 : minR q (q :: qs) = minR q qs := by
    show minR (if q < q then q else q) qs = minR q qs
    simp
  rw [e4] at e3
  refine gcF_eq0 (defX_rt rfl ?_) (fr_low _ _)
  have hx := h.ix 0
  rw [show frs (q :: qs) = fr q :: frs qs from rfl, atI0, Option.map_some] at hx
  simp only [List.map_cons, List.map_nil, List.length_cons, List.length_nil, List.cons_append, List.nil_append, List.replicate, b_lr, sSeq, sAsg, sFor, sRet, iSeq, eOp2, eVar, eC, M.bnd, M.ret, List.getElem?_cons_zero, List.getElem?_cons_succ, hx, xName, List.set_cons_zero, List.set_cons_succ, e1, e2, e3]
end Dl
end
set_option linter.all false
set_option autoImplicit false
/-! M3: sizes of fractions, rows, piles, middles -/
noncomputable section
namespace Dl
open PySem PySem.Spec PyProof.Rows L2
/-! ### fractions with a known common divisor, between known bounds -/
structure Gd (N M : Nat) (q : Rat) : Prop where
  pos : 0 < N
  int : ∃ z : Int, q * (N : Rat) = (z : Rat)
  lo : -(M : Rat) ≤ q
  hi : q ≤ (M : Rat)
theorem natC (n : Nat) : ((n : Int) : Rat) = (n : Rat) := rfl
theorem Gd.bts {N M : Nat} {q : Rat} (h : Gd N M q) : q.den ≤ N ∧ q.num.natAbs ≤ M * N := by
  obtain ⟨z, hz⟩ := h.int
  have hN : (0 : Rat) < (N : Rat) := Rat.natCast_pos.mpr h.pos
  have hN0 : (N : Rat) ≠ 0 := fun e => by rw [e] at hN; exact Rat.lt_irrefl hN
  have e : q = mkRat z N := by
    rw [Rat.mkRat_eq_div, ← hz, Rat.mul_div_cancel hN0]
  have hg : 0 < Nat.gcd N z.natAbs := Nat.gcd_pos_of_pos_left _ h.pos
  have hz2 : z.natAbs ≤ M * N := by
    have h1 : (z : Rat) ≤ (((M * N : Nat) : Int) : Rat) := by
      rw [← hz, natC, Rat.natCast_mul]
      exact Rat.mul_le_mul_of_nonneg_right h.hi (Rat.le_of_lt hN)
    have h2 : (((-(M * N : Nat) : Int)) : Rat) ≤ (z : Rat) := by
      rw [← hz, Rat.intCast_neg, natC, Rat.natCast_mul, ← Rat.neg_mul]
      exact Rat.mul_le_mul_of_nonneg_right h.lo (Rat.le_of_lt hN)
    rw [Rat.intCast_le_intCast] at h1 h2
    omega
  constructor
  · rw [e, Rat.den_mkRat, if_neg (by have := h.pos; omega)]
    exact Nat.div_le_self _ _
  · rw [e, Rat.num_mkRat, if_neg (by have := h.pos; omega)]
    refine Nat.le_trans ?_ hz2
    exact Int.natAbs_ediv_le_natAbs _ _
theorem Gd.sz {N M : Nat} {q : Rat} (h : Gd N M q) (a b : Nat) (hN : N < 2 ^ a) (hM : M < 2 ^ b) (hab : a + b ≤ 2000) : Sz q := by
  obtain ⟨h1, h2⟩ := h.bts
  have h3 : 2 ^ (a + b) ≤ 2 ^ 2000 := Nat.pow_le_pow_right (by decide) hab
  have h4 : 2 ^ a ≤ 2 ^ (a + b) := Nat.pow_le_pow_right (by decide) (by omega)
  constructor
  · show q.num.natAbs < 2 ^ 2000
    have : M * N < 2 ^ (a + b) := by
      rw [Nat.add_comm, Nat.pow_add]; exact Nat.mul_lt_mul'' hM hN
    omega
  · show ((q.den : Int)).natAbs < 2 ^ 2000
    simp; omega
theorem Gd.mono {N M M' : Nat} {q : Rat} (h : Gd N M q) (hM : M ≤ M') : Gd N M' q := by
  have e : (M : Rat) ≤ (M' : Rat) := Rat.natCast_le_natCast.mpr hM
  exact ⟨h.pos, h.int, by have := h.lo; grind, by have := h.hi; grind⟩
theorem Gd.mulN {N M : Nat} {q : Rat} (h : Gd N M q) (k : Nat) (hk : 0 < k) : Gd (N * k) M q := by
  obtain ⟨z, hz⟩ := h.int
  refine ⟨Nat.mul_pos h.pos hk, ⟨z * k, ?_⟩, h.lo, h.hi⟩
  rw [Rat.natCast_mul, ← Rat.mul_assoc, hz, Rat.intCast_mul]; rfl
theorem Gd.add {N M M' : Nat} {p q : Rat} (h : Gd N M p) (h' : Gd N M' q) : Gd N (M + M') (p + q) := by
  obtain ⟨z, hz⟩ := h.int
  obtain ⟨y, hy⟩ := h'.int
  refine ⟨h.pos, ⟨z + y, ?_⟩, ?_, ?_⟩
  · rw [Rat.add_mul, hz, hy, Rat.intCast_add]
  · have := h.lo; have := h'.lo; rw [Rat.natCast_add]; grind
  · have := h.hi; have := h'.hi; rw [Rat.natCast_add]; grind
theorem Gd.neg {N M : Nat} {p : Rat} (h : Gd N M p) : Gd N M (-p) := by
  obtain ⟨z, hz⟩ := h.int
  refine ⟨h.pos, ⟨-z, ?_⟩, ?_, ?_⟩
  · rw [Rat.neg_mul, hz, Rat.intCast_neg]
  · have := h.hi; grind
  · have := h.lo; grind
theorem Gd.int' {N M : Nat} (hN : 0 < N) {i : Int} (h : i.natAbs ≤ M) : Gd N M (i : Rat) := by
  refine ⟨hN, ⟨i * N, by rw [Rat.intCast_mul]; rfl⟩, ?_, ?_⟩
  · rw [← natC, ← Rat.intCast_neg, Rat.intCast_le_intCast]; omega
  · rw [← natC, Rat.intCast_le_intCast]; omega
/-- so many times, above nought -/
theorem Gd.mulI {N M : Nat} {p : Rat} (h : Gd N M p) (k : Nat) : Gd N (M * k) (p * (k : Rat)) := by
  obtain ⟨z, hz⟩ := h.int
  have hk : (0 : Rat) ≤ (k : Rat) := Rat.natCast_nonneg
  refine ⟨h.pos, ⟨z * k, ?_⟩, ?_, ?_⟩
  · rw [Rat.intCast_mul, ← hz, natC]; grind
  · have := Rat.mul_le_mul_of_nonneg_right h.lo hk
    rw [Rat.natCast_mul]; grind
  · have := Rat.mul_le_mul_of_nonneg_right h.hi hk
    rw [Rat.natCast_mul]; grind
theorem Gd.divN {N M : Nat} {p : Rat} (h : Gd N M p) (k : Nat) (hk : 0 < k) : Gd (N * k) M (p / (k : Rat)) := by
  obtain ⟨z, hz⟩ := h.int
  have hk0 : (0 : Rat) < (k : Rat) := Rat.natCast_pos.mpr hk
  have hk1 : (1 : Rat) ≤ (k : Rat) := by
    have : ((1 : Nat) : Rat) ≤ (k : Rat) := Rat.natCast_le_natCast.mpr hk
    simpa using this
  have hne : (k : Rat) ≠ 0 := fun e => by rw [e] at hk0; exact Rat.lt_irrefl hk0
  have e : p / (k : Rat) * (k : Rat) = p := Rat.div_mul_cancel hne
  have hM : (0 : Rat) ≤ (M : Rat) := Rat.natCast_nonneg
  refine ⟨Nat.mul_pos h.pos hk, ⟨z, ?_⟩, ?_, ?_⟩
  · rw [Rat.natCast_mul]
    have : p / (k : Rat) * ((N : Rat) * (k : Rat)) = p / (k : Rat) * (k : Rat) * (N : Rat) := by grind
    rw [this, e, hz]
  · apply Rat.le_of_mul_le_mul_right (c := (k : Rat)) _ hk0
    rw [e]
    have h1 := h.lo
    have h2 := Rat.mul_le_mul_of_nonneg_left hk1 hM
    grind
  · apply Rat.le_of_mul_le_mul_right (c := (k : Rat)) _ hk0
    rw [e]
    have h1 := h.hi
    have h2 := Rat.mul_le_mul_of_nonneg_left hk1 hM
    grind
theorem Gd.sub {N M M' : Nat} {p q : Rat} (h : Gd N M p) (h' : Gd N M' q) : Gd N (M + M') (p - q) := by
  rw [Rat.sub_eq_add_neg]; exact h.add h'.neg
/-! ### rows -/
structure Row where
  name : Str
  long : Int
  heavy : Int
  at_ : Rat
def dRow (r : Row) : D := .tup [.str r.name, .int r.long, .int r.heavy, fr r.at_]
abbrev Pile := List Row
def dRows (p : Pile) : List D := p.map dRow
def dPile (p : Pile) : D := .tup (dRows p)
def Row.rgt (r : Row) : Rat := r.at_ + (r.long : Rat)
def wt (p : Pile) : Int := (p.map Row.heavy).sum
/-- what a row adds to the sum of a lot -/
def Row.ctr (r : Row) : Rat := (r.at_ + (r.long : Rat) / 2) * (r.heavy : Rat)
def tot : Rat → Pile → Rat
  | t, [] => t
  | t, r :: p => tot (t + r.ctr) p
def mid (p : Pile) : Rat := tot 0 p / (wt p : Rat)
structure RowOk (N M : Nat) (r : Row) : Prop where
  l0 : 1 ≤ r.long
  l1 : r.long ≤ 10000
  h0 : 1 ≤ r.heavy
  h1 : r.heavy ≤ 10000
  gd : Gd N M r.at_
/-- rows whose numbers are small enough -/
structure RowsOk (p : Pile) (N M : Nat) : Prop where
  N9 : N < 2 ^ 900
  M9 : M < 2 ^ 900
  rows : ∀ r ∈ p, RowOk N M r
  len : p.length ≤ 8
  pos : 0 < N
theorem RowOk.btl {N M : Nat} {r : Row} (h : RowOk N M r) : Bt 14 r.long := by
  have := h.l0; have := h.l1
  show r.long.natAbs < 2 ^ 14
  omega
theorem RowOk.bth {N M : Nat} {r : Row} (h : RowOk N M r) : Bt 14 r.heavy := by
  have := h.h0; have := h.h1
  show r.heavy.natAbs < 2 ^ 14
  omega
theorem RowOk.rgt {N M : Nat} {r : Row} (h : RowOk N M r) : Gd N (M + 10000) r.rgt := by
  refine h.gd.add (Gd.int' h.gd.pos ?_)
  have := h.l0; have := h.l1
  omega
theorem RowOk.half {N M : Nat} {r : Row} (h : RowOk N M r) : Gd (N * 2) (M + 10000) (r.at_ + (r.long : Rat) / 2) := by
  have h1 : Gd N 10000 (r.long : Rat) := Gd.int' h.gd.pos (by have := h.l0; have := h.l1; omega)
  have h2 := h1.divN 2 (by decide)
  exact (h.gd.mulN 2 (by decide)).add h2
theorem RowOk.ctr {N M : Nat} {r : Row} (h : RowOk N M r) : Gd (N * 2) ((M + 10000) * 10000) r.ctr := by
  obtain ⟨k, hk⟩ : ∃ k : Nat, r.heavy = k := ⟨r.heavy.toNat, by have := h.h0; omega⟩
  have h1 := h.half.mulI k
  unfold Row.ctr
  rw [hk, natC]
  refine h1.mono (Nat.mul_le_mul_left _ ?_)
  have := h.h1
  omega
theorem tot_gd {N M B : Nat} (p : Pile) : ∀ (t : Rat) (k : Nat), (∀ r ∈ p, Gd N B r.ctr) → Gd N (k * B) t → Gd N ((k + p.length) * B) (tot t p) := by
  induction p with
  | nil => intro t k _ ht; exact ht
  | cons r p ih =>
    intro t k h ht
    have h1 := ht.add (h r (by simp))
    have e : k * B + B = (k + 1) * B := by rw [Nat.add_mul, Nat.one_mul]
    rw [e] at h1
    have h2 := ih (t + r.ctr) (k + 1) (fun x hx => h x (by simp [hx])) h1
    rw [List.length_cons, show k + (p.length + 1) = k + 1 + p.length by omega]
    exact h2
theorem tot_split : ∀ (p : Pile) (t : Rat), tot t p = t + tot 0 p
  | [], t => by show t = t + 0; rw [Rat.add_zero]
  | r :: p, t => by
    show tot (t + r.ctr) p = t + tot (0 + r.ctr) p
    rw [tot_split p (t + r.ctr), tot_split p (0 + r.ctr)]
    grind
theorem wt_pos {N M : Nat} : ∀ (p : Pile), (∀ r ∈ p, RowOk N M r) → (p.length : Int) ≤ wt p ∧ wt p ≤ 10000 * p.length
  | [], _ => by simp [wt]
  | r :: p, h => by
    have ih := wt_pos p fun x hx => h x (by simp [hx])
    have h1 := h r (by simp)
    have := h1.h0
    have := h1.h1
    simp only [wt, List.map_cons, List.sum_cons, List.length_cons] at ih ⊢
    omega
theorem zero_gd {N M : Nat} (h : 0 < N) : Gd N M 0 := by
  have := Gd.int' (M := M) h (i := 0) (by simp)
  simpa using this
/-- sums of some rows are small -/
theorem RowsOk.tot_gd {p : Pile} {N M : Nat} (h : RowsOk p N M) (q : Pile) (hq : ∀ r ∈ q, r ∈ p) (hl : q.length ≤ 8) : Gd (N * 2) (8 * ((M + 10000) * 10000)) (tot 0 q) := by
  have h1 := Dl.tot_gd (M := M) q 0 0 (fun r hr => (h.rows r (hq r hr)).ctr) (by
    have := h.pos
    exact zero_gd (by omega))
  exact h1.mono (Nat.mul_le_mul_right _ (by omega))
theorem small_tot {N M : Nat} (hN : N < 2 ^ 900) (hM : M < 2 ^ 900) : N * 2 < 2 ^ 901 ∧ 8 * ((M + 10000) * 10000) < 2 ^ 920 ∧ N * 2 * 80000 < 2 ^ 920 ∧ M + 10000 < 2 ^ 901 ∧ (M + 10000) * 10000 < 2 ^ 917 := by
  have e1 : (2 : Nat) ^ 901 = 2 ^ 900 * 2 := by rw [← Nat.pow_succ]
  have e2 : (2 : Nat) ^ 920 = 2 ^ 900 * 2 ^ 20 := by rw [← Nat.pow_add]
  have e3 : (2 : Nat) ^ 917 = 2 ^ 900 * 2 ^ 17 := by rw [← Nat.pow_add]
  have e4 : (2 : Nat) ^ 20 = 1048576 := by decide
  have e5 : (2 : Nat) ^ 17 = 131072 := by decide
  have e6 : (2 : Nat) ^ 20 ≤ 2 ^ 900 := Nat.pow_le_pow_right (by decide) (by decide)
  rw [e1, e2, e3, e4, e5]
  rw [e4] at e6
  generalize (2 : Nat) ^ 900 = B at *
  omega
theorem Gd.sz' {N M : Nat} {q : Rat} (h : Gd N M q) (hN : N < 2 ^ 950) (hM : M < 2 ^ 950) : Sz q := h.sz 950 950 hN hM (by decide)
theorem pow_lt950 {n a : Nat} (h : n < 2 ^ a) (ha : a ≤ 950) : n < 2 ^ 950 := Nat.lt_of_lt_of_le h (Nat.pow_le_pow_right (by decide) ha)
theorem RowsOk.mid_gd {p : Pile} {N M : Nat} (h : RowsOk p N M) (q : Pile) (hq : ∀ r ∈ q, r ∈ p) (hl : q.length ≤ 8) (h0 : q ≠ []) : Gd (N * 2 * (wt q).toNat) (8 * ((M + 10000) * 10000)) (mid q) ∧ 0 < wt q ∧ wt q ≤ 80000 := by
  have h1 := wt_pos q fun r hr => h.rows r (hq r hr)
  have h2 : 1 ≤ q.length := by
    cases q with
    | nil => exact absurd rfl h0
    | cons _ _ => simp
  have h3 : 0 < wt q := by omega
  have h4 := (h.tot_gd q hq hl).divN (wt q).toNat (by omega)
  have e : (((wt q).toNat : Nat) : Rat) = (wt q : Rat) := by
    rw [← natC]; congr 1; omega
  rw [e] at h4
  exact ⟨h4, h3, by omega⟩
theorem RowsOk.mid_sz {p : Pile} {N M : Nat} (h : RowsOk p N M) (q : Pile) (hq : ∀ r ∈ q, r ∈ p) (hl : q.length ≤ 8) (h0 : q ≠ []) : Sz (mid q) := by
  obtain ⟨h1, h2, h3⟩ := h.mid_gd q hq hl h0
  obtain ⟨_, s2, s3, _⟩ := small_tot h.N9 h.M9
  refine h1.sz' (pow_lt950 (a := 920) ?_ (by decide)) (pow_lt950 s2 (by decide))
  refine Nat.lt_of_le_of_lt (Nat.mul_le_mul_left _ ?_) s3
  omega
theorem RowsOk.at_sz {p : Pile} {N M : Nat} (h : RowsOk p N M) {r : Row} (hr : r ∈ p) : Sz r.at_ := (h.rows r hr).gd.sz' (pow_lt950 h.N9 (by decide)) (pow_lt950 h.M9 (by decide))
theorem RowsOk.rgt_sz {p : Pile} {N M : Nat} (h : RowsOk p N M) {r : Row} (hr : r ∈ p) : Sz r.rgt := by
  obtain ⟨_, _, _, s4, _⟩ := small_tot h.N9 h.M9
  exact (h.rows r hr).rgt.sz' (pow_lt950 h.N9 (by decide)) (pow_lt950 s4 (by decide))
/-! ### the program's: right ends, weights, middles -/
def b_rg : Sx := (sRet (eCB (mCall 2 F_pl) (aCons (eOp2 dIx (eVar 0) (eC (.int 3))) (aCons (eTup (aCons (eOp2 dIx (eVar 0) (eC (.int 1))) (aCons (eC (.int 1)) aNil))) aNil))))
def F_rg : List D → M D := gcF (defX 1 b_rg)
theorem dRow_ix (r : Row) (st : Store) : dIx (dRow r) (.int 0) st = some (.str r.name, st) ∧ dIx (dRow r) (.int 1) st = some (.int r.long, st) ∧ dIx (dRow r) (.int 2) st = some (.int r.heavy, st) ∧ dIx (dRow r) (.int 3) st = some (fr r.at_, st) :=
  ⟨by rw [dRow, dIx_tup, atI0]; rfl, by rw [dRow, dIx_tup, atI1]; rfl, by rw [dRow, dIx_tup, atI2]; rfl, by rw [dRow, dIx_tup, atI3]; rfl⟩
theorem bt_one : Bt 4000 1 := Bt.mono (m := 1) (by unfold Bt; decide) (by decide)
theorem two_le : (2 : Nat) ≤ sizeLine := by decide
theorem rg_eq {r : Row} (st : Store) (ha : Sz r.at_) (hl : Bt 14 r.long) : F_rg [dRow r] st = some (fr r.rgt, st) := by
  obtain ⟨_, x1, _, x3⟩ := dRow_ix r st
  have h1 : F_pl [fr r.at_, .tup [.int r.long, .int 1]] st = some (fr r.rgt, st) := pl_eq2 st ha (hl.mono (by decide)) bt_one (by decide) (divInt_one _)
  refine gcF_eq0 (defX_rt rfl ?_) (fr_low _ _)
  simp only [List.map_cons, List.map_nil, List.length_cons, List.length_nil, List.cons_append, List.nil_append, b_rg, sRet, eCB, mCall, eTup, mTup, aCons, aNil, eOp2, eVar, eC, Dl.M.bnd, Dl.M.ret, List.getElem?_cons_zero, List.getElem?_cons_succ, x1, x3, if_true, Nat.reduceAdd, if_pos two_le, h1]
def b_hv : Sx := (sRet (eCB (bOnL gSum) (aCons (eLc (iSeq (eVar 0)) (xName 1) tYesD (eOp2 dIx (eVar 1) (eC (.int 2))) [1]) aNil)))
def F_hv : List D → M D := gcF (defX 2 b_hv)
theorem IsSeq.iSeq {st : Store} {d : D} {ds : List D} (h : IsSeq st d ds) : ∃ s : Src, mSrc d st = some (s, st) ∧ s.ds = ds ∧ s.In st := by
  rcases h with rfl | ⟨n, rfl, e⟩
  · exact ⟨⟨ds, none⟩, rfl, rfl, .inl rfl⟩
  · refine ⟨⟨ds, some n⟩, ?_, rfl, .inr ⟨n, rfl, (List.getElem?_eq_some_iff.mp e).1, e⟩⟩
    show (match st[n]? with
      | some (.lst xs) => some ((⟨xs, some n⟩ : Src), st)
      | _ => none) = _
    rw [e]
/-- an item of a row, by its place -/
def rowIx : D → D
  | .tup [_, _, h, _] => h
  | _ => .non
theorem wipe1 (ρ : Env1) (i : Nat) (o : Option D) (h : i < ρ.length) : ((wipeE ρ [i]).set i o)[i]? = some o := by
  show ((ρ.set i none).set i o)[i]? = some o
  rw [List.getElem?_set_self (by simpa using h)]
theorem hv_list {ρ : Env1} (i j : Nat) {d : D} {p : Pile} (st : Store) (h : IsSeq st d (dRows p)) (hρ : ρ[j]? = some (some d)) (hi : i < ρ.length) (hl : p.length ≤ 8) :
    ∃ z, eLc (iSeq (eVar j)) (xName i) tYesD (eOp2 dIx (eVar i) (eC (.int 2))) [i] ρ st = some (.ref st.length, st ++ .lst (p.map fun r => D.int r.heavy) :: z) := by
  obtain ⟨s, e1, e2, hin⟩ := h.iSeq
  have key := eLc_map (it := iSeq (eVar j)) (g := xName i) (e := eOp2 dIx (eVar i) (eC (.int 2))) (vs := [i]) (ρ := ρ) (st := st) (st1 := st) (s := s) rowIx
    (by simp only [iSeq, eVar, Dl.M.bnd, Dl.M.ret, hρ, e1]) hin (fun x hxm z => by
      rw [e2] at hxm
      obtain ⟨r, _, rfl⟩ := List.mem_map.mp hxm
      refine ⟨_, [], rfl, ?_⟩
      simp only [eOp2, eVar, eC, Dl.M.bnd, Dl.M.ret, wipe1 ρ i _ hi, (dRow_ix r _).2.2.1, List.append_nil]
      rfl) (by
      rw [e2]
      simp only [dRows, List.length_map]
      exact Nat.le_trans hl (by decide))
  obtain ⟨z, e⟩ := key
  refine ⟨z, ?_⟩
  rw [e, e2, dRows, List.map_map]
  rfl
theorem heavies (p : Pile) : intsOf (p.map fun r => D.int r.heavy) = some (p.map Row.heavy) := by
  rw [show (p.map fun r => D.int r.heavy) = (p.map Row.heavy).map D.int by rw [List.map_map]; rfl, intsOf_map]
theorem hv_sum {ρ : Env1} (i j : Nat) {d : D} {p : Pile} (st : Store) (h : IsSeq st d (dRows p)) (hρ : ρ[j]? = some (some d)) (hi : i < ρ.length) (hl : p.length ≤ 8) :
    ∃ z, eCB (bOnL gSum) (aCons (eLc (iSeq (eVar j)) (xName i) tYesD (eOp2 dIx (eVar i) (eC (.int 2))) [i]) aNil) ρ st = some (.int (wt p), st ++ z) := by
  obtain ⟨z, e⟩ := hv_list i j st h hρ hi hl
  refine ⟨.lst (p.map fun r => D.int r.heavy) :: z, ?_⟩
  simp only [eCB, aCons, aNil, Dl.M.bnd, Dl.M.ret, e, bOnL, get_app, gSum, heavies, Option.map_some, wt]
theorem hv_eq {d : D} {p : Pile} (st : Store) (h : IsSeq st d (dRows p)) (hl : p.length ≤ 8) : F_hv [d] st = some (.int (wt p), st) := by
  obtain ⟨z, e⟩ := hv_sum (ρ := [some d, none]) 1 0 st h rfl (by simp) hl
  refine gcF_eq (g := z) (defX_rt rfl ?_) rfl
  show sRet (eCB (bOnL gSum) (aCons (eLc (iSeq (eVar 0)) (xName 1) tYesD (eOp2 dIx (eVar 1) (eC (.int 2))) [1]) aNil)) [some d, none] st = _
  simp only [sRet, M.bnd, e, Dl.M.ret]
/-! ### the program's middle -/
def bMid : Sx := (sAsg (eCB (mCall 2 F_pl) (aCons (eVar 1) (aCons (eCB (mCall 3 F_tm) (aCons (eCB (mCall 2 F_pl) (aCons (eVar 5) (aCons (eCB (mCall 2 F_low) (aCons (eVar 3) (aCons (eC (.int 2)) aNil))) aNil))) (aCons (eVar 4) (aCons (eC (.int 1)) aNil)))) aNil))) (xName 1))
def gMid : Gx := (xTup 4 (xCons (xName 2) (xCons (xName 3) (xCons (xName 4) (xCons (xName 5) xNil)))))
def b_md : Sx := (sSeq (sAsg (eTup (aCons (eC (.int 0)) (aCons (eC (.int 1)) aNil))) (xName 1))
  (sSeq (sFor (iSeq (eVar 0)) gMid bMid)
  (sRet (eCB (mCall 3 F_tm) (aCons (eVar 1) (aCons (eC (.int 1)) (aCons (eCB (mCall 1 F_hv) (aCons (eVar 0) aNil)) aNil)))))))
def F_md : List D → M D := gcF (defX 6 b_md)
theorem div_one (q : Rat) : q / ((1 : Int) : Rat) = q := by
  rw [Rat.div_def, show ((1 : Int) : Rat)⁻¹ = 1 from Rat.inv_eq_of_mul_eq_one (by simp), Rat.mul_one]
theorem bt_two : Bt 4000 2 := Bt.mono (m := 2) (by unfold Bt; decide) (by decide)
theorem mid_turn {N M : Nat} (hN : N < 2 ^ 900) (hM : M < 2 ^ 900) {r : Row} (h : RowOk N M r) {t : Rat} (ht : Sz t) (d : Option D) (o2 o3 o4 o5 : Option D) (st : Store) :
    gMid (dRow r) [d, some (fr t), o2, o3, o4, o5] st = some ([d, some (fr t), some (.str r.name), some (.int r.long), some (.int r.heavy), some (fr r.at_)], st) ∧
    bMid [d, some (fr t), some (.str r.name), some (.int r.long), some (.int r.heavy), some (fr r.at_)] st = some (.nx [d, some (fr (t + r.ctr)), some (.str r.name), some (.int r.long), some (.int r.heavy), some (fr r.at_)], st) := by
  obtain ⟨s1, s2, s3, s4, s5⟩ := small_tot hN hM
  refine ⟨rfl, ?_⟩
  have h1 : F_low [.int r.long, .int 2] st = some (fr ((r.long : Rat) / 2), st) := by
    rw [low_eq st (by decide) (Bt.mono bt_two (by decide)), Rat.divInt_eq_div]; rfl
  have sa : Sz r.at_ := h.gd.sz' (pow_lt950 hN (by decide)) (pow_lt950 hM (by decide))
  have sh : Sz ((r.long : Rat) / 2) := by
    have h1 : Gd N 10000 (r.long : Rat) := Gd.int' h.gd.pos (by have := h.l0; have := h.l1; omega)
    refine (h1.divN 2 (by decide)).sz' (pow_lt950 s1 (by decide)) (Nat.lt_of_le_of_lt ?_ (pow_lt950 s4 (by decide)))
    omega
  have h2 := pl_eq st sa sh
  have s6 : Sz (r.at_ + (r.long : Rat) / 2) := h.half.sz' (pow_lt950 s1 (by decide)) (pow_lt950 s4 (by decide))
  have h3 := tm_eq st s6 (h.bth.mono (by decide) : Bt 4000 r.heavy) bt_one (by decide)
  rw [div_one] at h3
  have s7 : Sz r.ctr := h.ctr.sz' (pow_lt950 s1 (by decide)) (pow_lt950 s5 (by decide))
  have h4 := pl_eq st ht s7
  simp only [bMid, sAsg, eCB, mCall, aCons, aNil, eVar, eC, Dl.M.bnd, Dl.M.ret, List.getElem?_cons_zero, List.getElem?_cons_succ, List.length_cons, List.length_nil, if_true, Nat.reduceAdd, h1, h2, h3, show (r.at_ + (r.long : Rat) / 2) * (r.heavy : Rat) = r.ctr from rfl, h4, xName, List.set_cons_zero, List.set_cons_succ]
theorem RowsOk.tot_sz {p : Pile} {N M : Nat} (h : RowsOk p N M) (q : Pile) (hq : ∀ r ∈ q, r ∈ p) (hl : q.length ≤ 8) : Sz (tot 0 q) := by
  obtain ⟨s1, s2, _⟩ := small_tot h.N9 h.M9
  exact (h.tot_gd q hq hl).sz' (pow_lt950 s1 (by decide)) (pow_lt950 s2 (by decide))
theorem tot_app (p q : Pile) : ∀ t : Rat, tot t (p ++ q) = tot (tot t p) q := by
  induction p with
  | nil => intro t; rfl
  | cons r p ih => intro t; exact ih (t + r.ctr)
theorem mid_loop {P : Pile} {N M : Nat} (H : RowsOk P N M) (d : Option D) (s : Src) (st : Store) (ok : s.ok st) : ∀ (q pre : Pile) (o2 o3 o4 o5 : Option D), (∀ r ∈ pre ++ q, r ∈ P) → (pre ++ q).length ≤ 8 →
    ∃ o2' o3' o4' o5', forL s gMid bMid (dRows q) [d, some (fr (tot 0 pre)), o2, o3, o4, o5] st = some (.nx [d, some (fr (tot 0 (pre ++ q))), o2', o3', o4', o5'], st) := by
  intro q
  induction q with
  | nil =>
    intro pre o2 o3 o4 o5 _ _
    rw [List.append_nil]
    exact ⟨_, _, _, _, forL_nil ok⟩
  | cons r q ih =>
    intro pre o2 o3 o4 o5 hm hl
    have hr : r ∈ P := hm r (by simp)
    have ht : Sz (tot 0 pre) := H.tot_sz pre (fun x hx => hm x (by simp [hx])) (by simp at hl; omega)
    obtain ⟨e1, e2⟩ := mid_turn H.N9 H.M9 (H.rows r hr) ht d o2 o3 o4 o5 st
    have e : tot 0 pre + r.ctr = tot 0 (pre ++ [r]) := by rw [tot_app]; rfl
    rw [e] at e2
    obtain ⟨a, b, c, f, e3⟩ := ih (pre ++ [r]) (some (.str r.name)) (some (.int r.long)) (some (.int r.heavy)) (some (fr r.at_)) (by simpa using hm) (by simpa using hl)
    refine ⟨a, b, c, f, (forL_nx ok e1 e2).trans ?_⟩
    refine e3.trans ?_
    rw [List.append_assoc]
    rfl
theorem md_eq {d : D} {p : Pile} {N M : Nat} (st : Store) (h : IsSeq st d (dRows p)) (H : RowsOk p N M) (h0 : p ≠ []) : F_md [d] st = some (fr (mid p), st) := by
  obtain ⟨s, e1, e2, ok⟩ := h.src
  obtain ⟨a, b, c, f, e3⟩ := mid_loop H (some d) s st ok p [] none none none none (fun r hr => hr) (by simpa using H.len)
  rw [List.nil_append] at e3
  obtain ⟨m1, m2, m3⟩ := H.mid_gd p (fun r hr => hr) H.len h0
  have hw : Bt 4000 (wt p) := Bt.mono (m := 17) (show (wt p).natAbs < 2 ^ 17 by
    have : (2 : Nat) ^ 17 = 131072 := by decide
    omega) (by decide)
  have e4 := tm_eq st (H.tot_sz p (fun r hr => hr) H.len) bt_one hw m2
  have e5 := hv_eq st h H.len
  have e6 : tot 0 p * ((1 : Int) : Rat) / (wt p : Rat) = mid p := by
    rw [show ((1 : Int) : Rat) = 1 from rfl, Rat.mul_one]; rfl
  rw [e6] at e4
  refine gcF_eq0 (defX_rt rfl ?_) (fr_low _ _)
  have e0 : mTup [.int 0, .int 1] st = some (fr 0, st) := by
    unfold mTup
    rw [if_pos (by decide)]; rfl
  rw [show tot 0 [] = 0 from rfl] at e3
  simp only [List.map_cons, List.map_nil, List.length_cons, List.length_nil, List.cons_append, List.nil_append, List.replicate, b_md, sSeq, sAsg, eTup, sFor, sRet, iSeq, eCB, mCall, aCons, aNil, eVar, eC, Dl.M.bnd, Dl.M.ret, List.getElem?_cons_zero, List.getElem?_cons_succ, xName, List.set_cons_zero, List.set_cons_succ, e0, e1, e2, e3, e5, e4, if_true, Nat.reduceAdd]
end Dl
end
set_option linter.all false
set_option autoImplicit false
set_option maxRecDepth 100000
/-! M4: the law's middle, right ends; ends of joints, joints -/
noncomputable section
namespace Dl
open PySem PySem.Spec PyProof.Rows L2
/-! ### the law's right end -/
def b_lrg : Sx := (sRet (eCB (mCall 2 F_low) (aCons (eOp2 dAdd (eOp2 dIx (eOp2 dIx (eVar 0) (eC (.int 3))) (eC (.int 0))) (eOp2 dMul (eOp2 dIx (eVar 0) (eC (.int 1))) (eOp2 dIx (eOp2 dIx (eVar 0) (eC (.int 3))) (eC (.int 1))))) (aCons (eOp2 dIx (eOp2 dIx (eVar 0) (eC (.int 3))) (eC (.int 1))) aNil))))
def F_lrg : List D → M D := gcF (defX 1 b_lrg)
theorem fr_ix (q : Rat) (st : Store) : dIx (fr q) (.int 0) st = some (.int q.num, st) ∧ dIx (fr q) (.int 1) st = some (.int q.den, st) := ⟨rfl, rfl⟩
theorem add_int_div (q : Rat) (l : Int) : Rat.divInt (q.num + l * q.den) q.den = q + (l : Rat) := by
  have h0 : (q.den : Int) ≠ 0 := by have := den_pos q; omega
  have h := Rat.divInt_add_divInt q.num l (d₁ := (q.den : Int)) (d₂ := 1) h0 (by decide)
  rw [Rat.num_divInt_den, divInt_one, Int.mul_one, Int.mul_one] at h
  exact h.symm
theorem lrg_eq {r : Row} (st : Store) (ha : Sz r.at_) (hl : Bt 14 r.long) : F_lrg [dRow r] st = some (fr r.rgt, st) := by
  obtain ⟨_, x1, _, x3⟩ := dRow_ix r st
  obtain ⟨y0, y1⟩ := fr_ix r.at_ st
  have h1 : CMulW r.long (r.at_.den : Int) := (hl.mono (by decide) : Bt 4000 r.long).mulW ha.den (by decide)
  have h2 := low_eq (t := r.at_.num + r.long * r.at_.den) st (den_pos r.at_) (ha.den.mono (by decide))
  rw [add_int_div] at h2
  refine gcF_eq0 (defX_rt rfl ?_) (fr_low _ _)
  simp only [List.map_cons, List.map_nil, List.length_cons, List.length_nil, List.cons_append, List.nil_append, b_lrg, sRet, eCB, mCall, aCons, aNil, eOp2, eVar, eC, M.bnd, M.ret, List.getElem?_cons_zero, List.getElem?_cons_succ, x1, x3, y0, y1, dMul_int h1, dAdd, if_true, Nat.reduceAdd, h2]
  rfl
/-! ### the law's middle -/
/-- twice what a row adds -/
def Row.ctr2 (r : Row) : Rat := (r.heavy : Rat) * (2 * r.at_ + (r.long : Rat))
theorem ctr2_eq (r : Row) : r.ctr2 = 2 * r.ctr := by
  unfold Row.ctr2 Row.ctr
  have : (r.long : Rat) = 2 * ((r.long : Rat) / 2) := by grind
  grind
def gLm : Gx := (xTup 4 (xCons (xName 3) (xCons (xName 4) (xCons (xName 5) (xCons (xName 6) xNil)))))
def bLm : Sx := (sSeq (sAsg (eOp2 dMul (eVar 5) (eOp2 dAdd (eOp2 dMul (eC (.int 2)) (eOp2 dIx (eVar 6) (eC (.int 0)))) (eOp2 dMul (eVar 4) (eOp2 dIx (eVar 6) (eC (.int 1)))))) (xName 7))
  (sAsg (eCB (mCall 2 F_low) (aCons (eOp2 dAdd (eOp2 dMul (eVar 1) (eOp2 dIx (eVar 6) (eC (.int 1)))) (eOp2 dMul (eVar 7) (eVar 2))) (aCons (eOp2 dMul (eVar 2) (eOp2 dIx (eVar 6) (eC (.int 1)))) aNil))) (xTup 2 (xCons (xName 1) (xCons (xName 2) xNil)))))
def b_lmd : Sx := (sSeq (sAsg (eTup (aCons (eC (.int 0)) (aCons (eC (.int 1)) aNil))) (xTup 2 (xCons (xName 1) (xCons (xName 2) xNil))))
  (sSeq (sFor (iSeq (eVar 0)) gLm bLm)
  (sRet (eCB (mCall 2 F_low) (aCons (eVar 1) (aCons (eOp2 dMul (eOp2 dMul (eVar 2) (eC (.int 2))) (eCB (bOnL gSum) (aCons (eLc (iSeq (eVar 0)) (xName 8) tYesD (eOp2 dIx (eVar 8) (eC (.int 2))) [8]) aNil))) aNil))))))
def F_lmd : List D → M D := gcF (defX 9 b_lmd)
theorem more_eq (t : Rat) (r : Row) : Rat.divInt (t.num * r.at_.den + r.heavy * (2 * r.at_.num + r.long * r.at_.den) * t.den) (t.den * r.at_.den) = t + r.ctr2 := by
  have h0 : (t.den : Int) ≠ 0 := by have := den_pos t; omega
  have h1 : (r.at_.den : Int) ≠ 0 := by have := den_pos r.at_; omega
  have h := Rat.divInt_add_divInt t.num (r.heavy * (2 * r.at_.num + r.long * r.at_.den)) h0 h1
  rw [Rat.num_divInt_den] at h
  rw [← h]
  congr 1
  have h2 : r.at_ = (r.at_.num : Rat) / ((r.at_.den : Int) : Rat) := by rw [← Rat.divInt_eq_div, Rat.num_divInt_den]
  have h3 : ((r.at_.den : Int) : Rat) ≠ 0 := fun e => h1 (Rat.intCast_eq_zero_iff.mp e)
  rw [Rat.divInt_eq_div]
  unfold Row.ctr2
  have e1 : ((r.heavy * (2 * r.at_.num + r.long * r.at_.den) : Int) : Rat) = (r.heavy : Rat) * (2 * (r.at_.num : Rat) + (r.long : Rat) * ((r.at_.den : Int) : Rat)) := by
    simp only [Rat.intCast_mul, Rat.intCast_add]; rfl
  rw [e1]
  generalize ((r.at_.den : Int) : Rat) = dn at *
  generalize (r.at_.num : Rat) = nm at *
  rw [h2]
  grind
theorem Bt.sz4 {q : Rat} (h : Sz q) : Bt 2000 q.num ∧ Bt 2000 (q.den : Int) := h
theorem lm_turn {r : Row} (hl : Bt 14 r.long) (hh : Bt 14 r.heavy) (ha : Sz r.at_) {t : Rat} (ht : Sz t) (d : Option D) (o3 o4 o5 o6 o7 o8 : Option D) (st : Store) :
    gLm (dRow r) [d, some (.int t.num), some (.int t.den), o3, o4, o5, o6, o7, o8] st = some ([d, some (.int t.num), some (.int t.den), some (.str r.name), some (.int r.long), some (.int r.heavy), some (fr r.at_), o7, o8], st) ∧
    ∃ o7', bLm [d, some (.int t.num), some (.int t.den), some (.str r.name), some (.int r.long), some (.int r.heavy), some (fr r.at_), o7, o8] st = some (.nx [d, some (.int (t + r.ctr2).num), some (.int (t + r.ctr2).den), some (.str r.name), some (.int r.long), some (.int r.heavy), some (fr r.at_), o7', o8], st) := by
  refine ⟨rfl, some (.int (r.heavy * (2 * r.at_.num + r.long * r.at_.den))), ?_⟩
  obtain ⟨y0, y1⟩ := fr_ix r.at_ st
  have b2 : Bt 2 2 := by unfold Bt; decide
  have h1 : CMulW 2 r.at_.num := b2.mulW ha.1 (by decide)
  have h2 : CMulW r.long (r.at_.den : Int) := hl.mulW ha.2 (by decide)
  have h3 : Bt 2015 (2 * r.at_.num + r.long * r.at_.den) := (b2.mul ha.1).add (hl.mul ha.2) (by decide)
  have h4 : CMulW r.heavy (2 * r.at_.num + r.long * r.at_.den) := hh.mulW h3 (by decide)
  have h5 : CMulW t.num (r.at_.den : Int) := ht.1.mulW ha.2 (by decide)
  have h6 : Bt 2029 (r.heavy * (2 * r.at_.num + r.long * r.at_.den)) := hh.mul h3
  have h7 : CMulW (r.heavy * (2 * r.at_.num + r.long * r.at_.den)) (t.den : Int) := h6.mulW ht.2 (by decide)
  have h8 : CMulW (t.den : Int) (r.at_.den : Int) := ht.2.mulW ha.2 (by decide)
  have h9 := low_eq (t := t.num * r.at_.den + r.heavy * (2 * r.at_.num + r.long * r.at_.den) * t.den) st (Int.mul_pos (den_pos t) (den_pos r.at_)) ((ht.2.mul ha.2).mono (by decide))
  rw [more_eq] at h9
  have e : xTup 2 (xCons (xName 1) (xCons (xName 2) xNil)) (fr (t + r.ctr2)) [d, some (.int t.num), some (.int t.den), some (.str r.name), some (.int r.long), some (.int r.heavy), some (fr r.at_), some (.int (r.heavy * (2 * r.at_.num + r.long * r.at_.den))), o8] st = some ([d, some (.int (t + r.ctr2).num), some (.int (t + r.ctr2).den), some (.str r.name), some (.int r.long), some (.int r.heavy), some (fr r.at_), some (.int (r.heavy * (2 * r.at_.num + r.long * r.at_.den))), o8], st) := rfl
  simp only [bLm, sSeq, sAsg, eCB, mCall, aCons, aNil, eOp2, eVar, eC, M.bnd, M.ret, List.getElem?_cons_zero, List.getElem?_cons_succ, List.length_cons, List.length_nil, if_true, Nat.reduceAdd, y0, y1, dMul_int h1, dMul_int h2, dMul_int h4, dMul_int h5, dMul_int h7, dMul_int h8, dAdd, xName, List.set_cons_zero, List.set_cons_succ, h9, e]
def tot2 : Rat → Pile → Rat
  | t, [] => t
  | t, r :: p => tot2 (t + r.ctr2) p
theorem tot2_app (p q : Pile) : ∀ t : Rat, tot2 t (p ++ q) = tot2 (tot2 t p) q := by
  induction p with
  | nil => intro t; rfl
  | cons r p ih => intro t; exact ih (t + r.ctr2)
theorem tot2_eq : ∀ (p : Pile) (t : Rat), tot2 (2 * t) p = 2 * tot t p
  | [], t => rfl
  | r :: p, t => by
    show tot2 (2 * t + r.ctr2) p = 2 * tot (t + r.ctr) p
    rw [ctr2_eq, ← Rat.mul_add]
    exact tot2_eq p _
theorem tot2_tot (p : Pile) : tot2 0 p = 2 * tot 0 p := by
  have := tot2_eq p 0
  rwa [Rat.mul_zero] at this
theorem tw {x n : Nat} (h : x < 2 ^ n) : x * 2 < 2 ^ (n + 1) := by
  rw [Nat.pow_succ]; omega
theorem RowsOk.tot2_sz {p : Pile} {N B : Nat} (h : RowsOk p N B) (q : Pile) (hq : ∀ r ∈ q, r ∈ p) (hl : q.length ≤ 8) : Sz (tot2 0 q) := by
  obtain ⟨s1, s2, _⟩ := small_tot h.N9 h.M9
  rw [tot2_tot, Rat.mul_comm]
  have h1 := (h.tot_gd q hq hl).mulI 2
  have h2 := tw s2
  exact h1.sz' (pow_lt950 s1 (by decide)) (pow_lt950 h2 (by decide))
theorem lm_loop {P : Pile} {N B : Nat} (H : RowsOk P N B) (d : Option D) (s : Src) (st : Store) (ok : s.ok st) : ∀ (q pre : Pile) (o3 o4 o5 o6 o7 o8 : Option D), (∀ r ∈ pre ++ q, r ∈ P) → (pre ++ q).length ≤ 8 →
    ∃ o3' o4' o5' o6' o7', forL s gLm bLm (dRows q) [d, some (.int (tot2 0 pre).num), some (.int (tot2 0 pre).den), o3, o4, o5, o6, o7, o8] st = some (.nx [d, some (.int (tot2 0 (pre ++ q)).num), some (.int (tot2 0 (pre ++ q)).den), o3', o4', o5', o6', o7', o8], st) := by
  intro q
  induction q with
  | nil =>
    intro pre o3 o4 o5 o6 o7 o8 _ _
    rw [List.append_nil]
    exact ⟨_, _, _, _, _, forL_nil ok⟩
  | cons r q ih =>
    intro pre o3 o4 o5 o6 o7 o8 hm hl
    have hr : r ∈ P := hm r (by simp)
    have ht : Sz (tot2 0 pre) := H.tot2_sz pre (fun x hx => hm x (by simp [hx])) (by simp at hl; omega)
    obtain ⟨e1, o7', e2⟩ := lm_turn (H.rows r hr).btl (H.rows r hr).bth (H.at_sz hr) ht d o3 o4 o5 o6 o7 o8 st
    have e : tot2 0 pre + r.ctr2 = tot2 0 (pre ++ [r]) := by rw [tot2_app]; rfl
    rw [e] at e2
    obtain ⟨a, b, c, f, g, e3⟩ := ih (pre ++ [r]) (some (.str r.name)) (some (.int r.long)) (some (.int r.heavy)) (some (fr r.at_)) o7' o8 (by simpa using hm) (by simpa using hl)
    refine ⟨a, b, c, f, g, (forL_nx ok e1 e2).trans ?_⟩
    refine e3.trans ?_
    rw [List.append_assoc]
    rfl
theorem lmd_eq {d : D} {p : Pile} {N B : Nat} (st : Store) (h : IsSeq st d (dRows p)) (H : RowsOk p N B) (h0 : p ≠ []) : F_lmd [d] st = some (fr (mid p), st) := by
  obtain ⟨s, e1, e2, ok⟩ := h.src
  obtain ⟨a, b, c, f, g, e3⟩ := lm_loop H (some d) s st ok p [] none none none none none none (fun r hr => hr) (by simpa using H.len)
  rw [List.nil_append] at e3
  obtain ⟨m1, m2, m3⟩ := H.mid_gd p (fun r hr => hr) H.len h0
  have hw : Bt 17 (wt p) := show (wt p).natAbs < 2 ^ 17 by
    have : (2 : Nat) ^ 17 = 131072 := by decide
    omega
  have ht := H.tot2_sz p (fun r hr => hr) H.len
  have b2 : Bt 2 2 := by unfold Bt; decide
  have h1 : CMulW ((tot2 0 p).den : Int) 2 := ht.2.mulW b2 (by decide)
  have h2 : CMulW (((tot2 0 p).den : Int) * 2) (wt p) := (ht.2.mul b2).mulW hw (by decide)
  have dp := den_pos (tot2 0 p)
  have e4 := low_eq (t := (tot2 0 p).num) (b := ((tot2 0 p).den : Int) * 2 * wt p) st (Int.mul_pos (Int.mul_pos dp (by decide)) m2) (((ht.2.mul b2).mul hw).mono (by decide))
  have e6 : Rat.divInt (tot2 0 p).num (((tot2 0 p).den : Int) * 2 * wt p) = mid p := by
    rw [Rat.divInt_eq_div]
    have q1 : tot2 0 p = ((tot2 0 p).num : Rat) / (((tot2 0 p).den : Int) : Rat) := by rw [← Rat.divInt_eq_div, Rat.num_divInt_den]
    have q2 : (((tot2 0 p).den : Int) : Rat) ≠ 0 := fun e => by
      have := Rat.intCast_eq_zero_iff.mp e
      omega
    have q3 : (wt p : Rat) ≠ 0 := fun e => by
      have := Rat.intCast_eq_zero_iff.mp e
      omega
    have q4 := tot2_tot p
    unfold mid
    rw [Rat.intCast_mul, Rat.intCast_mul]
    rw [q4] at q1
    rw [q4]
    rw [q4] at q2
    show _ / ((((2 * tot 0 p).den : Int) : Rat) * (2 : Rat) * (wt p : Rat)) = _
    generalize (((2 * tot 0 p).den : Int) : Rat) = dn at *
    generalize ((2 * tot 0 p).num : Rat) = nm at *
    generalize tot 0 p = tt at *
    generalize (wt p : Rat) = ww at *
    grind
  rw [e6] at e4
  have e0 : mTup [.int 0, .int 1] st = some (fr 0, st) := by
    unfold mTup
    rw [if_pos (by decide)]; rfl
  obtain ⟨z, e5⟩ := hv_sum (ρ := [some d, some (.int (tot2 0 p).num), some (.int (tot2 0 p).den), a, b, c, f, g, none]) 8 0 st h rfl (by simp) H.len
  refine gcF_eq (g := z) (defX_rt rfl ?_) (fr_low _ _)
  have e7 : xTup 2 (xCons (xName 1) (xCons (xName 2) xNil)) (fr 0) [some d, none, none, none, none, none, none, none, none] st = some ([some d, some (.int (tot2 0 []).num), some (.int (tot2 0 []).den), none, none, none, none, none, none], st) := rfl
  have e8 := low_eq (t := (tot2 0 p).num) (b := ((tot2 0 p).den : Int) * 2 * wt p) (st ++ z) (Int.mul_pos (Int.mul_pos dp (by decide)) m2) (((ht.2.mul b2).mul hw).mono (by decide))
  rw [e6] at e8
  show (sSeq (sAsg (eTup (aCons (eC (.int 0)) (aCons (eC (.int 1)) aNil))) (xTup 2 (xCons (xName 1) (xCons (xName 2) xNil))))
    (sSeq (sFor (iSeq (eVar 0)) gLm bLm) (sRet (eCB (mCall 2 F_low) (aCons (eVar 1) (aCons (eOp2 dMul (eOp2 dMul (eVar 2) (eC (.int 2))) (eCB (bOnL gSum) (aCons (eLc (iSeq (eVar 0)) (xName 8) tYesD (eOp2 dIx (eVar 8) (eC (.int 2))) [8]) aNil))) aNil))))))
    [some d, none, none, none, none, none, none, none, none] st = _
  have e9 : eOp2 dMul (eOp2 dMul (eVar 2) (eC (.int 2))) (eCB (bOnL gSum) (aCons (eLc (iSeq (eVar 0)) (xName 8) tYesD (eOp2 dIx (eVar 8) (eC (.int 2))) [8]) aNil)) [some d, some (.int (tot2 0 p).num), some (.int (tot2 0 p).den), a, b, c, f, g, none] st = some (.int (((tot2 0 p).den : Int) * 2 * wt p), st ++ z) := by
    rw [eOp2_at (x := .int (((tot2 0 p).den : Int) * 2)) (st1 := st) (by rw [eOp2_at (eVar_at rfl) eC_at, dMul_int h1]) e5, dMul_int h2]
  refine (sSeq_at (sAsg_at (eTup_at (aCons_at eC_at (aCons_at eC_at aNil_at)) (by decide)) e7)).trans ?_
  refine (sSeq_at (ρ1 := [some d, some (.int (tot2 0 p).num), some (.int (tot2 0 p).den), a, b, c, f, g, none]) (st1 := st) ?_).trans ?_
  · refine (sFor_at (s := s) (st1 := st) ?_).trans ?_
    · simp only [iSeq, eVar, M.bnd, M.ret, List.getElem?_cons_zero, e1]
    · rw [e2]; exact e3
  · refine sRet_at ?_
    rw [eCB_at (aCons_at (eVar_at rfl) (aCons_at e9 aNil_at)), mCall2, e8]
end Dl
end
set_option linter.all false
set_option autoImplicit false
set_option maxRecDepth 100000
/-! M5: == of data, ends of joints, joints -/
noncomputable section
namespace Dl
open PySem PySem.Spec PyProof.Rows L2
/-! ### plain data, as the comparison reads it -/
mutual
def py : D → PyData
  | .non => .none
  | .bl b => .bool b
  | .int i => .int i
  | .str x => .str x
  | .tup xs => .tuple (pys xs)
  | .ref _ => .none
  | .scr _ => .none
  | .ty _ => .none
def pys : List D → List PyData
  | [] => []
  | x :: xs => py x :: pys xs
end
mutual
def D.plain : D → Bool
  | .tup xs => D.plains xs
  | .ref _ => false
  | .scr _ => false
  | .ty _ => false
  | .str x => PyData.strOk x
  | _ => true
def D.plains : List D → Bool
  | [] => true
  | x :: xs => D.plain x && D.plains xs
end
mutual
/-- how deep tuples lie -/
def D.dep : D → Nat
  | .tup xs => D.deps xs + 1
  | _ => 0
def D.deps : List D → Nat
  | [] => 0
  | x :: xs => max (D.dep x) (D.deps xs)
end
mutual
theorem toPyW_plain (f : Nat → Option PyData) : ∀ {d : D}, d.plain = true → toPyW f d = some (py d)
  | .non, _ => rfl
  | .bl _, _ => rfl
  | .int _, _ => rfl
  | .str _, _ => rfl
  | .tup xs, h => by
    show (toPyWs f xs).map PyData.tuple = some (.tuple (pys xs))
    rw [toPyWs_plain f (show D.plains xs = true from h)]; rfl
  | .ref _, h => by cases h
  | .scr _, h => by cases h
  | .ty _, h => by cases h
theorem toPyWs_plain (f : Nat → Option PyData) : ∀ {ds : List D}, D.plains ds = true → toPyWs f ds = some (pys ds)
  | [], _ => rfl
  | x :: xs, h => by
    have h : (D.plain x && D.plains xs) = true := h
    rw [Bool.and_eq_true] at h
    show ((toPyW f x).bind fun p => (toPyWs f xs).map fun ps => p :: ps) = some (py x :: pys xs)
    rw [toPyW_plain f h.1, toPyWs_plain f h.2]; rfl
end
mutual
theorem py_lay : ∀ {d : D}, d.plain = true → (py d).canLay0 = true
  | .non, _ => rfl
  | .bl _, _ => rfl
  | .int _, _ => rfl
  | .str _, h => h
  | .tup xs, h => pys_lay (show D.plains xs = true from h)
  | .ref _, h => by cases h
  | .scr _, h => by cases h
  | .ty _, h => by cases h
theorem pys_lay : ∀ {ds : List D}, D.plains ds = true → PyData.canLayAll0 (pys ds) = true
  | [], _ => rfl
  | x :: xs, h => by
    have h : (D.plain x && D.plains xs) = true := h
    rw [Bool.and_eq_true] at h
    show ((py x).canLay0 && PyData.canLayAll0 (pys xs)) = true
    rw [py_lay h.1, pys_lay h.2]; rfl
end
mutual
theorem py_dep : ∀ {d : D}, (py d).depth = d.dep
  | .non => rfl
  | .bl _ => rfl
  | .int _ => rfl
  | .str _ => rfl
  | .tup xs => by
    show PyData.depthAll (pys xs) + 1 = D.deps xs + 1
    rw [pys_dep]
  | .ref _ => rfl
  | .scr _ => rfl
  | .ty _ => rfl
theorem pys_dep : ∀ {ds : List D}, PyData.depthAll (pys ds) = D.deps ds
  | [] => rfl
  | x :: xs => by
    show max (py x).depth (PyData.depthAll (pys xs)) = max x.dep (D.deps xs)
    rw [py_dep, pys_dep]
end
theorem py_shaped {d : D} (h : d.plain = true) (hd : d.dep ≤ 64) : SeqAt.shaped (py d) = true := by
  unfold SeqAt.shaped
  rw [py_lay h, py_dep, decide_eq_true hd]; rfl
theorem pys_shaped {ds : List D} (h : D.plains ds = true) (hd : D.deps ds ≤ 60) : SeqAt.shaped (.list (pys ds)) = true := by
  unfold SeqAt.shaped
  show (PyData.canLayAll0 (pys ds) && decide (PyData.depthAll (pys ds) + 1 ≤ 64)) = true
  rw [pys_lay h, pys_dep, decide_eq_true (by omega)]; rfl
theorem toPyN_plain (st : Store) (k : Nat) {d : D} (h : d.plain = true) : toPyN st k d = some (py d) := by
  cases k with
  | zero => exact toPyW_plain _ h
  | succ k => exact toPyW_plain _ h
theorem mapM_plain (st : Store) (k : Nat) : ∀ {ds : List D}, D.plains ds = true → ds.mapM (toPyN st k) = some (pys ds)
  | [], _ => rfl
  | x :: xs, h => by
    have h : (D.plain x && D.plains xs) = true := h
    rw [Bool.and_eq_true] at h
    rw [List.mapM_cons, toPyN_plain st k h.1]
    show (xs.mapM (toPyN st k) >>= fun ps => pure (py x :: ps)) = _
    rw [mapM_plain st k h.2]; rfl
theorem toPyN_list (st : Store) (k : Nat) {n : Nat} {ds : List D} (e : st[n]? = some (.lst ds)) (h : D.plains ds = true) : toPyN st (k + 1) (.ref n) = some (.list (pys ds)) := by
  show (match st[n]? with
    | some (.lst xs) => (xs.mapM (toPyN st k)).map PyData.list
    | _ => none) = _
  rw [e]
  show (ds.mapM (toPyN st k)).map PyData.list = _
  rw [mapM_plain st k h]; rfl
/-- two plain values compared -/
theorem dEq_plain (neg : Bool) {a b : D} (st : Store) (ha : a.plain = true) (hb : b.plain = true) (da : a.dep ≤ 64) (db : b.dep ≤ 64) : dEqB neg a b st = some (.bl (if neg then !PyData.eqv (py a) (py b) else PyData.eqv (py a) (py b)), st) := by
  unfold dEqB
  rw [toPyN_plain st 12 ha, toPyN_plain st 12 hb]
  simp only
  rw [if_pos ⟨py_shaped ha da, py_shaped hb db⟩]
/-- two lists of plain values compared -/
theorem dEq_lists (neg : Bool) {m n : Nat} {xs ys : List D} (st : Store) (hm : st[m]? = some (.lst xs)) (hn : st[n]? = some (.lst ys)) (ha : D.plains xs = true) (hb : D.plains ys = true) (da : D.deps xs ≤ 60) (db : D.deps ys ≤ 60) :
    dEqB neg (.ref m) (.ref n) st = some (.bl (if neg then !PyData.eqvAll (pys xs) (pys ys) else PyData.eqvAll (pys xs) (pys ys)), st) := by
  unfold dEqB
  rw [toPyN_list st 11 hm ha, toPyN_list st 11 hn hb]
  simp only
  rw [if_pos ⟨pys_shaped ha da, pys_shaped hb db⟩]
  rfl
/-! equal data, where no truths stand -/
mutual
def D.nb : D → Bool
  | .bl _ => false
  | .tup xs => D.nbs xs
  | _ => true
def D.nbs : List D → Bool
  | [] => true
  | x :: xs => D.nb x && D.nbs xs
end
mutual
theorem eqv_iff : ∀ {a b : D}, a.plain = true → b.plain = true → a.nb = true → b.nb = true → (PyData.eqv (py a) (py b) = true ↔ a = b)
  | .non, b, _, hb, _, nb => by cases b <;> first | (simp [py, PyData.eqv]; done) | (cases nb; done) | (cases hb; done)
  | .bl _, b, _, _, na, _ => by cases na
  | .int i, b, _, hb, _, nb => by cases b <;> first | (simp [py, PyData.eqv]; done) | (cases nb; done) | (cases hb; done)
  | .str i, b, _, hb, _, nb => by cases b <;> first | (simp [py, PyData.eqv]; done) | (cases nb; done) | (cases hb; done)
  | .tup xs, b, ha, hb, na, nb => by
    cases b with
    | tup ys =>
      have := eqvAll_iff (xs := xs) (ys := ys) ha hb na nb
      show PyData.eqvAll (pys xs) (pys ys) = true ↔ _
      rw [this]
      constructor
      · rintro rfl; rfl
      · intro e; injection e
    | ref _ => cases hb
    | scr _ => cases hb
    | ty _ => cases hb
    | bl _ => cases nb
    | non => simp [py, PyData.eqv]
    | int _ => simp [py, PyData.eqv]
    | str _ => simp [py, PyData.eqv]
  | .ref _, _, ha, _, _, _ => by cases ha
  | .scr _, _, ha, _, _, _ => by cases ha
  | .ty _, _, ha, _, _, _ => by cases ha
theorem eqvAll_iff : ∀ {xs ys : List D}, D.plains xs = true → D.plains ys = true → D.nbs xs = true → D.nbs ys = true → (PyData.eqvAll (pys xs) (pys ys) = true ↔ xs = ys)
  | [], [], _, _, _, _ => by simp [pys, PyData.eqvAll]
  | [], _ :: _, _, _, _, _ => by simp [pys, PyData.eqvAll]
  | _ :: _, [], _, _, _, _ => by simp [pys, PyData.eqvAll]
  | x :: xs, y :: ys, ha, hb, na, nb => by
    have ha : (D.plain x && D.plains xs) = true := ha
    have hb : (D.plain y && D.plains ys) = true := hb
    have na : (D.nb x && D.nbs xs) = true := na
    have nb : (D.nb y && D.nbs ys) = true := nb
    rw [Bool.and_eq_true] at ha hb na nb
    show (PyData.eqv (py x) (py y) && PyData.eqvAll (pys xs) (pys ys)) = true ↔ _
    rw [Bool.and_eq_true, eqv_iff ha.1 hb.1 na.1 nb.1, eqvAll_iff ha.2 hb.2 na.2 nb.2]
    simp
end
end Dl
end
set_option linter.all false
set_option autoImplicit false
set_option maxRecDepth 100000
/-! M6: ends of joints, joints -/
noncomputable section
namespace Dl
open PySem PySem.Spec PyProof.Rows L2
def lowR (b : Option Row) (r : Row) : Rat := match b with
  | none => r.at_
  | some b => if r.at_ < b.at_ then b.at_ else r.at_
def highR (b : Option Row) (r : Row) : Rat := match b with
  | none => if (0 : Rat) < r.rgt then 0 else r.rgt
  | some b => if b.rgt < r.rgt then b.rgt else r.rgt
theorem zero_sz : Sz 0 := by
  have h1 : Bt 2000 (0 : Int) := Bt.mono (m := 0) (by unfold Bt; decide) (by decide)
  have h2 : Bt 2000 (1 : Int) := Bt.mono (m := 1) (by unfold Bt; decide) (by decide)
  exact ⟨h1, h2⟩
theorem fr0 : D.tup [.int 0, .int 1] = fr 0 := rfl
theorem IsSeq.new (st : Store) (ds : List D) : IsSeq (st ++ [.lst ds]) (.ref st.length) ds := .inr ⟨_, rfl, get_app⟩
theorem dPile_ix {p : Pile} {k : Nat} {r : Row} (h : p[k]? = some r) (st : Store) : dIx (dPile p) (.int (k : Int)) st = some (dRow r, st) := by
  rw [dPile, dIx_tup, atI_nat (v := dRow r) (by rw [dRows, List.getElem?_map, h]; rfl)]
  rfl
theorem rngD_ix {r : Row} (st : Store) : dIx (dRow r) (.int 3) st = some (fr r.at_, st) := (dRow_ix r st).2.2.2
theorem int_ne (k : Nat) (st : Store) : dEq (.int ((k + 1 : Nat) : Int)) (.int 0) st = some (.bl false, st) := by
  refine (dEq_plain false st rfl rfl (Nat.zero_le _) (Nat.zero_le _)).trans ?_
  show some (D.bl (((k + 1 : Nat) : Int) == 0), st) = _
  have : (((k + 1 : Nat) : Int) == 0) = false := by
    rw [beq_eq_false_iff_ne]; omega
  rw [this]
theorem int_eq0 (st : Store) : dEq (.int ((0 : Nat) : Int)) (.int 0) st = some (.bl true, st) := by
  refine (dEq_plain false st rfl rfl (Nat.zero_le _) (Nat.zero_le _)).trans ?_
  rfl
/-- the row beneath -/
def below (p : Pile) : Nat → Option Row
  | 0 => none
  | k + 1 => p[k]?
/-! ### the program's ends -/
def b_en : Sx := (sSeq (sPar 2 3 (aCons (eOp2 dIx (eOp2 dIx (eVar 0) (eVar 1)) (eC (.int 3))) (aCons (eCB (mCall 1 F_rg) (aCons (eOp2 dIx (eVar 0) (eVar 1)) aNil)) aNil)))
  (sSeq (sIf (tV (eOp2 dEq (eVar 1) (eC (.int 0)))) (sRet (eTup (aCons (eVar 2) (aCons (eCB (mCall 1 F_lr) (aCons (eLst (aCons (eVar 3) (aCons (eTup (aCons (eC (.int 0)) (aCons (eC (.int 1)) aNil))) aNil))) aNil)) aNil)))) sNext)
  (sSeq (sAsg (eOp2 dIx (eVar 0) (eOp2 dSub (eVar 1) (eC (.int 1)))) (xName 4))
  (sRet (eTup (aCons (eCB (mCall 1 F_gr) (aCons (eLst (aCons (eVar 2) (aCons (eOp2 dIx (eVar 4) (eC (.int 3))) aNil))) aNil)) (aCons (eCB (mCall 1 F_lr) (aCons (eLst (aCons (eVar 3) (aCons (eCB (mCall 1 F_rg) (aCons (eVar 4) aNil)) aNil))) aNil)) aNil)))))))
def F_en : List D → M D := gcF (defX 5 b_en)
theorem two_lists (a b : D) : ([a, b] : List D).length ≤ sizeLine := by show 2 ≤ sizeLine; decide
theorem en_eq {p : Pile} {N B : Nat} (H : RowsOk p N B) {k : Nat} {r : Row} (hr : p[k]? = some r) (st : Store) :
    F_en [dPile p, .int (k : Int)] st = some (.tup [fr (lowR (below p k) r), fr (highR (below p k) r)], st) := by
  have hm : r ∈ p := List.mem_of_getElem? hr
  have a1 := H.at_sz hm
  have g1 := H.rgt_sz hm
  have l1 := (H.rows r hm).btl
  have x1 : ∀ s, eOp2 dIx (eVar 0) (eVar 1) [some (dPile p), some (.int (k : Int)), none, none, none] s = some (dRow r, s) := fun s => by
    rw [eOp2_at (eVar_at rfl) (eVar_at rfl), dPile_ix hr]
  have s1 : sPar 2 3 (aCons (eOp2 dIx (eOp2 dIx (eVar 0) (eVar 1)) (eC (.int 3))) (aCons (eCB (mCall 1 F_rg) (aCons (eOp2 dIx (eVar 0) (eVar 1)) aNil)) aNil)) [some (dPile p), some (.int (k : Int)), none, none, none] st =
      some (.nx [some (dPile p), some (.int (k : Int)), some (fr r.at_), some (fr r.rgt), none], st) := by
    refine sPar_at (aCons_at (x := fr r.at_) (st1 := st) ?_ (aCons_at (x := fr r.rgt) (st1 := st) ?_ aNil_at))
    · rw [eOp2_at (x1 st) eC_at, rngD_ix]
    · rw [eCB_at (aCons_at (x1 st) aNil_at), mCall1, rg_eq st a1 l1]
  cases k with
  | zero =>
    refine gcF_eq (g := [.lst (frs [r.rgt, 0])]) (defX_rt rfl ((sSeq_at s1).trans ?_)) rfl
    refine sSeq_rt ?_
    rw [sIf_at (tV_at (k := true) (st1 := st) (by rw [eOp2_at (eVar_at rfl) eC_at, int_eq0])), if_pos rfl]
    refine sRet_at (eTup_at (aCons_at (eVar_at rfl) (aCons_at (x := fr (highR (below p 0) r)) (st1 := st ++ [.lst (frs [r.rgt, 0])]) ?_ aNil_at)) (two_lists _ _))
    rw [eCB_at (aCons_at (eLst_at (aCons_at (eVar_at rfl) (aCons_at (eTup_at (aCons_at eC_at (aCons_at eC_at aNil_at)) (two_lists _ _)) aNil_at)) (two_lists _ _)) aNil_at), mCall1]
    have := lr_eq (q := r.rgt) (qs := [0]) (d := .ref st.length) (st ++ [.lst (frs [r.rgt, 0])]) (IsSeq.new st _) (by
      intro x hx
      simp at hx
      rcases hx with rfl | rfl
      · exact g1
      · exact zero_sz)
    exact this
  | succ k =>
    cases hb : p[k]? with
    | none =>
      have h1 := List.getElem?_eq_none_iff.mp hb
      have h2 := (List.getElem?_eq_some_iff.mp hr).1
      omega
    | some b =>
      have hbm : b ∈ p := List.mem_of_getElem? hb
      have a2 := H.at_sz hbm
      have g2 := H.rgt_sz hbm
      have l2 := (H.rows b hbm).btl
      have eb : below p (k + 1) = some b := hb
      rw [eb]
      refine gcF_eq (g := [.lst (frs [r.at_, b.at_]), .lst (frs [r.rgt, b.rgt])]) (defX_rt rfl ((sSeq_at s1).trans ?_)) rfl
      refine (sSeq_at (ρ1 := [some (dPile p), some (.int ((k + 1 : Nat) : Int)), some (fr r.at_), some (fr r.rgt), none]) (st1 := st) ?_).trans ?_
      · rw [sIf_at (tV_at (k := false) (st1 := st) (by rw [eOp2_at (eVar_at rfl) eC_at, int_ne]))]; rfl
      refine (sSeq_at (ρ1 := [some (dPile p), some (.int ((k + 1 : Nat) : Int)), some (fr r.at_), some (fr r.rgt), some (dRow b)]) (st1 := st) ?_).trans ?_
      · refine sSet_at (x := dRow b) (st1 := st) ?_
        rw [eOp2_at (x := dPile p) (y := .int (k : Int)) (st1 := st) (st2 := st) (eVar_at rfl) (by
          rw [eOp2_at (eVar_at rfl) eC_at, dSub_int]
          congr 3
          omega), dPile_ix hb]
      refine sRet_at (eTup_at (aCons_at (x := fr (lowR (some b) r)) (st1 := st ++ [.lst (frs [r.at_, b.at_])]) ?_ (aCons_at (x := fr (highR (some b) r)) (st1 := st ++ [.lst (frs [r.at_, b.at_]), .lst (frs [r.rgt, b.rgt])]) ?_ aNil_at)) (two_lists _ _))
      · rw [eCB_at (aCons_at (eLst_at (aCons_at (eVar_at rfl) (aCons_at (x := fr b.at_) (st1 := st) (by rw [eOp2_at (eVar_at rfl) eC_at, rngD_ix]) aNil_at)) (two_lists _ _)) aNil_at), mCall1]
        have := gr_eq (q := r.at_) (qs := [b.at_]) (d := .ref st.length) (st ++ [.lst (frs [r.at_, b.at_])]) (IsSeq.new st _) (by
          intro x hx
          simp at hx
          rcases hx with rfl | rfl
          · exact a1
          · exact a2)
        exact this
      · rw [eCB_at (aCons_at (eLst_at (aCons_at (eVar_at rfl) (aCons_at (x := fr b.rgt) (st1 := st ++ [.lst (frs [r.at_, b.at_])]) (by rw [eCB_at (aCons_at (eVar_at rfl) aNil_at), mCall1, rg_eq _ a2 l2]) aNil_at)) (two_lists _ _)) aNil_at), mCall1]
        have := lr_eq (q := r.rgt) (qs := [b.rgt]) (d := .ref (st ++ [MO.lst (frs [r.at_, b.at_])]).length) (st ++ [MO.lst (frs [r.at_, b.at_])] ++ [MO.lst (frs [r.rgt, b.rgt])]) (IsSeq.new _ _) (by
          intro x hx
          simp at hx
          rcases hx with rfl | rfl
          · exact g1
          · exact g2)
        rw [show st ++ [MO.lst (frs [r.at_, b.at_])] ++ [MO.lst (frs [r.rgt, b.rgt])] = st ++ [MO.lst (frs [r.at_, b.at_]), MO.lst (frs [r.rgt, b.rgt])] by simp] at this
        rw [show st ++ [MO.lst (frs [r.at_, b.at_])] ++ [MO.lst [fr r.rgt, fr b.rgt]] = st ++ [MO.lst (frs [r.at_, b.at_]), MO.lst (frs [r.rgt, b.rgt])] by simp [frs]]
        exact this
/-! ### the law's ends -/
def eLess (i : Nat) (a b : Ev) : Ev := eIf (tV (eCB (mCall 2 F_ls) (aCons a (aCons b aNil)))) (eOp2 dIx (eVar i) (eOp1 dNeg (eC (.int 1)))) (eOp2 dIx (eVar i) (eC (.int 0)))
def b_len : Sx := (sSeq (sPar 2 3 (aCons (eLst (aCons (eOp2 dIx (eOp2 dIx (eVar 0) (eVar 1)) (eC (.int 3))) aNil)) (aCons (eLst (aCons (eCB (mCall 1 F_lrg) (aCons (eOp2 dIx (eVar 0) (eVar 1)) aNil)) aNil)) aNil)))
  (sSeq (sIf (tV (eOp2 dEq (eVar 1) (eC (.int 0)))) (sDrop (eBM dApp (eVar 3) (aCons (eTup (aCons (eC (.int 0)) (aCons (eC (.int 1)) aNil))) aNil))) (sSeq (sDrop (eBM dApp (eVar 2) (aCons (eOp2 dIx (eOp2 dIx (eVar 0) (eOp2 dSub (eVar 1) (eC (.int 1)))) (eC (.int 3))) aNil)))
  (sDrop (eBM dApp (eVar 3) (aCons (eCB (mCall 1 F_lrg) (aCons (eOp2 dIx (eVar 0) (eOp2 dSub (eVar 1) (eC (.int 1)))) aNil)) aNil)))))
  (sSeq (sAsg (eIf (tV (eCB (mCall 2 F_ls) (aCons (eOp2 dIx (eVar 2) (eC (.int 0))) (aCons (eOp2 dIx (eVar 2) (eOp1 dNeg (eC (.int 1)))) aNil)))) (eOp2 dIx (eVar 2) (eOp1 dNeg (eC (.int 1)))) (eOp2 dIx (eVar 2) (eC (.int 0)))) (xName 4))
  (sRet (eTup (aCons (eVar 4) (aCons (eIf (tV (eCB (mCall 2 F_ls) (aCons (eOp2 dIx (eVar 3) (eOp1 dNeg (eC (.int 1)))) (aCons (eOp2 dIx (eVar 3) (eC (.int 0))) aNil)))) (eOp2 dIx (eVar 3) (eOp1 dNeg (eC (.int 1)))) (eOp2 dIx (eVar 3) (eC (.int 0)))) aNil)))))))
def F_len : List D → M D := gcF (defX 5 b_len)
/-- the first and the last of a list of one or two -/
theorem ends_ix {ρ : Env1} {st : Store} {i n : Nat} {x y : Rat} {xs : List D} (hi : ρ[i]? = some (some (.ref n))) (hn : st[n]? = some (.lst xs)) (hx : xs[0]? = some (fr x)) (hy : ∃ pre, xs = pre ++ [fr y]) :
    eOp2 dIx (eVar i) (eC (.int 0)) ρ st = some (fr x, st) ∧ eOp2 dIx (eVar i) (eOp1 dNeg (eC (.int 1))) ρ st = some (fr y, st) := by
  constructor
  · rw [eOp2_at (eVar_at hi) eC_at, lst_ix hn, show (0 : Int) = ((0 : Nat) : Int) from rfl, atI_nat hx]; rfl
  · obtain ⟨pre, rfl⟩ := hy
    rw [eOp2_at (x := .ref n) (y := .int (-1)) (st1 := st) (st2 := st) (eVar_at hi) (by rw [eOp1_at eC_at]; rfl), lst_ix hn, atI_m1]; rfl
theorem pick_low {ρ : Env1} {st : Store} {i n : Nat} {x y : Rat} {xs : List D} (hi : ρ[i]? = some (some (.ref n))) (hn : st[n]? = some (.lst xs)) (hx : xs[0]? = some (fr x)) (hy : ∃ pre, xs = pre ++ [fr y]) (sx : Sz x) (sy : Sz y) :
    eIf (tV (eCB (mCall 2 F_ls) (aCons (eOp2 dIx (eVar i) (eC (.int 0))) (aCons (eOp2 dIx (eVar i) (eOp1 dNeg (eC (.int 1)))) aNil)))) (eOp2 dIx (eVar i) (eOp1 dNeg (eC (.int 1)))) (eOp2 dIx (eVar i) (eC (.int 0))) ρ st = some (fr (if x < y then y else x), st) := by
  obtain ⟨h1, h2⟩ := ends_ix hi hn hx hy
  rw [eIf_at (tV_at (k := decide (x < y)) (st1 := st) (by rw [eCB_at (aCons_at h1 (aCons_at h2 aNil_at)), mCall2, ls_eq st sx sy]))]
  by_cases h : x < y
  · rw [decide_eq_true h, if_pos rfl, if_pos h, h2]
  · rw [decide_eq_false h, if_neg (by decide), if_neg h, h1]
theorem pick_high {ρ : Env1} {st : Store} {i n : Nat} {x y : Rat} {xs : List D} (hi : ρ[i]? = some (some (.ref n))) (hn : st[n]? = some (.lst xs)) (hx : xs[0]? = some (fr x)) (hy : ∃ pre, xs = pre ++ [fr y]) (sx : Sz x) (sy : Sz y) :
    eIf (tV (eCB (mCall 2 F_ls) (aCons (eOp2 dIx (eVar i) (eOp1 dNeg (eC (.int 1)))) (aCons (eOp2 dIx (eVar i) (eC (.int 0))) aNil)))) (eOp2 dIx (eVar i) (eOp1 dNeg (eC (.int 1)))) (eOp2 dIx (eVar i) (eC (.int 0))) ρ st = some (fr (if y < x then y else x), st) := by
  obtain ⟨h1, h2⟩ := ends_ix hi hn hx hy
  rw [eIf_at (tV_at (k := decide (y < x)) (st1 := st) (by rw [eCB_at (aCons_at h2 (aCons_at h1 aNil_at)), mCall2, ls_eq st sy sx]))]
  by_cases h : y < x
  · rw [decide_eq_true h, if_pos rfl, if_pos h, h2]
  · rw [decide_eq_false h, if_neg (by decide), if_neg h, h1]
theorem one_list (a : D) : ([a] : List D).length ≤ sizeLine := by show 1 ≤ sizeLine; decide
theorem one_lt (a : D) : ([a] : List D).length < sizeLine := by show 1 < sizeLine; decide
theorem len_eq {p : Pile} {N B : Nat} (H : RowsOk p N B) {k : Nat} {r : Row} (hr : p[k]? = some r) (st : Store) :
    F_len [dPile p, .int (k : Int)] st = some (.tup [fr (lowR (below p k) r), fr (highR (below p k) r)], st) := by
  have hm : r ∈ p := List.mem_of_getElem? hr
  have a1 := H.at_sz hm
  have g1 := H.rgt_sz hm
  have l1 := (H.rows r hm).btl
  have x1 : ∀ s, eOp2 dIx (eVar 0) (eVar 1) [some (dPile p), some (.int (k : Int)), none, none, none] s = some (dRow r, s) := fun s => by
    rw [eOp2_at (eVar_at rfl) (eVar_at rfl), dPile_ix hr]
  have s1 : sPar 2 3 (aCons (eLst (aCons (eOp2 dIx (eOp2 dIx (eVar 0) (eVar 1)) (eC (.int 3))) aNil)) (aCons (eLst (aCons (eCB (mCall 1 F_lrg) (aCons (eOp2 dIx (eVar 0) (eVar 1)) aNil)) aNil)) aNil)) [some (dPile p), some (.int (k : Int)), none, none, none] st =
      some (.nx [some (dPile p), some (.int (k : Int)), some (.ref (st.length + 0)), some (.ref (st.length + 1)), none], st ++ [MO.lst [fr r.at_], MO.lst [fr r.rgt]]) := by
    have e1 : eLst (aCons (eOp2 dIx (eOp2 dIx (eVar 0) (eVar 1)) (eC (.int 3))) aNil) [some (dPile p), some (.int (k : Int)), none, none, none] st = some (.ref (st.length + 0), st ++ [MO.lst [fr r.at_]]) := by
      rw [eLst_at (aCons_at (x := fr r.at_) (st1 := st) (by rw [eOp2_at (x1 st) eC_at, rngD_ix]) aNil_at) (one_list _)]; rfl
    have e2 : eLst (aCons (eCB (mCall 1 F_lrg) (aCons (eOp2 dIx (eVar 0) (eVar 1)) aNil)) aNil) [some (dPile p), some (.int (k : Int)), none, none, none] (st ++ [MO.lst [fr r.at_]]) = some (.ref (st.length + 1), st ++ [MO.lst [fr r.at_], MO.lst [fr r.rgt]]) := by
      rw [eLst_at (aCons_at (x := fr r.rgt) (st1 := st ++ [MO.lst [fr r.at_]]) (by rw [eCB_at (aCons_at (x1 _) aNil_at), mCall1, lrg_eq _ a1 l1]) aNil_at) (one_list _)]
      simp
    exact sPar_at (aCons_at e1 (aCons_at e2 aNil_at))
  -- what stands behind the if
  have fin : ∀ (lows highs : List D) (x y u v : Rat), lows[0]? = some (fr x) → (∃ pre, lows = pre ++ [fr y]) → highs[0]? = some (fr u) → (∃ pre, highs = pre ++ [fr v]) → Sz x → Sz y → Sz u → Sz v →
      (if x < y then y else x) = lowR (below p k) r → (if v < u then v else u) = highR (below p k) r →
      (sSeq (sAsg (eIf (tV (eCB (mCall 2 F_ls) (aCons (eOp2 dIx (eVar 2) (eC (.int 0))) (aCons (eOp2 dIx (eVar 2) (eOp1 dNeg (eC (.int 1)))) aNil)))) (eOp2 dIx (eVar 2) (eOp1 dNeg (eC (.int 1)))) (eOp2 dIx (eVar 2) (eC (.int 0)))) (xName 4))
        (sRet (eTup (aCons (eVar 4) (aCons (eIf (tV (eCB (mCall 2 F_ls) (aCons (eOp2 dIx (eVar 3) (eOp1 dNeg (eC (.int 1)))) (aCons (eOp2 dIx (eVar 3) (eC (.int 0))) aNil)))) (eOp2 dIx (eVar 3) (eOp1 dNeg (eC (.int 1)))) (eOp2 dIx (eVar 3) (eC (.int 0)))) aNil)))))
        [some (dPile p), some (.int (k : Int)), some (.ref (st.length + 0)), some (.ref (st.length + 1)), none] (st ++ [MO.lst lows, MO.lst highs]) = some (.rt (.tup [fr (lowR (below p k) r), fr (highR (below p k) r)]), st ++ [MO.lst lows, MO.lst highs]) := by
    intro lows highs x y u v h1 h2 h3 h4 s1 s2 s3 s4 e1 e2
    have g0 : (st ++ [MO.lst lows, MO.lst highs])[st.length + 0]? = some (.lst lows) := get_off _ _ 0
    have g1 : (st ++ [MO.lst lows, MO.lst highs])[st.length + 1]? = some (.lst highs) := get_off _ _ 1
    refine (sSeq_at (sSet_at (pick_low (i := 2) rfl g0 h1 h2 s1 s2))).trans ?_
    rw [e1]
    refine sRet_at (eTup_at (aCons_at (eVar_at rfl) (aCons_at ?_ aNil_at)) (two_lists _ _))
    rw [pick_high (i := 3) rfl g1 h3 h4 s3 s4, e2]
  cases k with
  | zero =>
    refine gcF_eq (g := [MO.lst [fr r.at_], MO.lst [fr r.rgt, fr 0]]) (defX_rt rfl ((sSeq_at s1).trans ?_)) rfl
    refine (sSeq_at (ρ1 := [some (dPile p), some (.int ((0 : Nat) : Int)), some (.ref (st.length + 0)), some (.ref (st.length + 1)), none]) (st1 := st ++ [MO.lst [fr r.at_], MO.lst [fr r.rgt, fr 0]]) ?_).trans ?_
    · rw [sIf_at (tV_at (k := true) (st1 := st ++ [MO.lst [fr r.at_], MO.lst [fr r.rgt]]) (by rw [eOp2_at (eVar_at rfl) eC_at, int_eq0])), if_pos rfl]
      refine sDrop_at (x := .non) ?_
      rw [app_at (n := st.length + 1) (xs := [fr r.rgt]) (y := .tup [.int 0, .int 1]) (st1 := st ++ [MO.lst [fr r.at_], MO.lst [fr r.rgt]]) (eVar_at rfl) (get_off _ _ 1) (aCons_at (eTup_at (aCons_at eC_at (aCons_at eC_at aNil_at)) (two_lists _ _)) aNil_at) (get_off _ _ 1) (one_lt _), set_off]
      rfl
    · exact fin [fr r.at_] [fr r.rgt, fr 0] r.at_ r.at_ r.rgt 0 rfl ⟨[], rfl⟩ rfl ⟨[fr r.rgt], rfl⟩ a1 a1 g1 zero_sz (by simp [lowR, below]) rfl
  | succ k =>
    cases hb : p[k]? with
    | none =>
      have h1 := List.getElem?_eq_none_iff.mp hb
      have h2 := (List.getElem?_eq_some_iff.mp hr).1
      omega
    | some b =>
      have hbm : b ∈ p := List.mem_of_getElem? hb
      have a2 := H.at_sz hbm
      have g2 := H.rgt_sz hbm
      have l2 := (H.rows b hbm).btl
      have eb : below p (k + 1) = some b := hb
      have x2 : ∀ s o2 o3 o4, eOp2 dIx (eVar 0) (eOp2 dSub (eVar 1) (eC (.int 1))) [some (dPile p), some (.int ((k + 1 : Nat) : Int)), o2, o3, o4] s = some (dRow b, s) := fun s o2 o3 o4 => by
        rw [eOp2_at (x := dPile p) (y := .int (k : Int)) (st1 := s) (st2 := s) (eVar_at rfl) (by
          rw [eOp2_at (eVar_at rfl) eC_at, dSub_int]
          congr 3
          omega), dPile_ix hb]
      refine gcF_eq (g := [MO.lst [fr r.at_, fr b.at_], MO.lst [fr r.rgt, fr b.rgt]]) (defX_rt rfl ((sSeq_at s1).trans ?_)) rfl
      refine (sSeq_at (ρ1 := [some (dPile p), some (.int ((k + 1 : Nat) : Int)), some (.ref (st.length + 0)), some (.ref (st.length + 1)), none]) (st1 := st ++ [MO.lst [fr r.at_, fr b.at_], MO.lst [fr r.rgt, fr b.rgt]]) ?_).trans ?_
      · rw [sIf_at (tV_at (k := false) (st1 := st ++ [MO.lst [fr r.at_], MO.lst [fr r.rgt]]) (by rw [eOp2_at (eVar_at rfl) eC_at, int_ne])), if_neg (by decide)]
        refine (sSeq_at (ρ1 := [some (dPile p), some (.int ((k + 1 : Nat) : Int)), some (.ref (st.length + 0)), some (.ref (st.length + 1)), none]) (st1 := st ++ [MO.lst [fr r.at_, fr b.at_], MO.lst [fr r.rgt]]) ?_).trans ?_
        · refine sDrop_at (x := .non) ?_
          rw [app_at (n := st.length + 0) (xs := [fr r.at_]) (y := fr b.at_) (st1 := st ++ [MO.lst [fr r.at_], MO.lst [fr r.rgt]]) (eVar_at rfl) (get_off _ _ 0) (aCons_at (by rw [eOp2_at (x2 _ _ _ _) eC_at, rngD_ix]) aNil_at) (get_off _ _ 0) (one_lt _), set_off]
          rfl
        · refine sDrop_at (x := .non) ?_
          rw [app_at (n := st.length + 1) (xs := [fr r.rgt]) (y := fr b.rgt) (st1 := st ++ [MO.lst [fr r.at_, fr b.at_], MO.lst [fr r.rgt]]) (eVar_at rfl) (get_off _ _ 1) (aCons_at (by rw [eCB_at (aCons_at (x2 _ _ _ _) aNil_at), mCall1, lrg_eq _ a2 l2]) aNil_at) (get_off _ _ 1) (one_lt _), set_off]
          rfl
      · exact fin [fr r.at_, fr b.at_] [fr r.rgt, fr b.rgt] r.at_ b.at_ r.rgt b.rgt rfl ⟨[fr r.at_], rfl⟩ rfl ⟨[fr r.rgt], rfl⟩ a1 a2 g1 g2 (by rw [eb]; rfl) (by rw [eb]; rfl)
end Dl
end
set_option linter.all false
set_option autoImplicit false
set_option maxRecDepth 100000
/-! M7: joints, middles, reach, stands -/
noncomputable section
namespace Dl
open PySem PySem.Spec PyProof.Rows L2
def sOff : Str := "off"
def sLeft : Str := "left"
def sRight : Str := "right"
/-- how a joint fails, between lo and hi, the middle at m -/
def side (lo hi m : Rat) : Option Str := if hi < lo then some sOff else if m < lo then some sLeft else if hi < m then some sRight else none
/-- the joints that don't hold, from the number k on, b beneath -/
def jn : Nat → Option Row → Pile → List (Nat × Str)
  | _, _, [] => []
  | k, b, r :: p => (match side (lowR b r) (highR b r) (mid (r :: p)) with
    | some s => [(k, s)]
    | none => []) ++ jn (k + 1) (some r) p
def joints (p : Pile) : List (Nat × Str) := jn 0 none p
def dJ (z : Nat × Str) : D := .tup [.int (z.1 : Int), .str z.2]
def dJs (zs : List (Nat × Str)) : List D := zs.map dJ
theorem jn_len : ∀ (p : Pile) (k : Nat) (b : Option Row), (jn k b p).length ≤ p.length
  | [], _, _ => Nat.le_refl _
  | r :: p, k, b => by
    have := jn_len p (k + 1) (some r)
    show ((match side (lowR b r) (highR b r) (mid (r :: p)) with
      | some s => [(k, s)]
      | none => []) ++ jn (k + 1) (some r) p).length ≤ p.length + 1
    rw [List.length_append]
    split <;> simp <;> omega
theorem dRows_drop (p : Pile) (k : Nat) : (dRows p).drop k = dRows (p.drop k) := by unfold dRows; rw [List.map_drop]
theorem dRows_len (p : Pile) : (dRows p).length = p.length := by unfold dRows; simp
theorem sl_drop {ρ : Env1} {i j k : Nat} {p : Pile} (st : Store) (hi : ρ[i]? = some (some (dPile p))) (hj : ρ[j]? = some (some (.int (k : Int)))) : eSl (eVar i) (oSome (eVar j)) oNone ρ st = some (dPile (p.drop k), st) := by
  simp only [eSl, oSome, oNone, M.bnd, M.ret, eVar_at hi, eVar_at hj, dPile, dSl, cut_drop, dRows_drop]
/-! the joint of a row, ready for the loops -/
structure JointSo (p : Pile) (k : Nat) (r : Row) (q : Pile) where
  at_ : p[k]? = some r
  drop : p.drop k = r :: q
theorem joint_so {p pre q : Pile} {r : Row} (e : p = pre ++ r :: q) : p[pre.length]? = some r ∧ p.drop pre.length = r :: q := by
  subst e
  constructor
  · rw [List.getElem?_append_right (Nat.le_refl _)]; simp
  · simp
theorem RowsOk.low_sz {p : Pile} {N B : Nat} (H : RowsOk p N B) {k : Nat} {r : Row} (hr : p[k]? = some r) : Sz (lowR (below p k) r) ∧ Sz (highR (below p k) r) := by
  have hm : r ∈ p := List.mem_of_getElem? hr
  have a1 := H.at_sz hm
  have g1 := H.rgt_sz hm
  cases k with
  | zero =>
    refine ⟨a1, ?_⟩
    show Sz (if (0 : Rat) < r.rgt then 0 else r.rgt)
    split
    · exact zero_sz
    · exact g1
  | succ k =>
    cases hb : p[k]? with
    | none =>
      show Sz (lowR p[k]? r) ∧ Sz (highR p[k]? r)
      rw [hb]
      refine ⟨a1, ?_⟩
      show Sz (if (0 : Rat) < r.rgt then 0 else r.rgt)
      split
      · exact zero_sz
      · exact g1
    | some b =>
      have hbm : b ∈ p := List.mem_of_getElem? hb
      show Sz (lowR p[k]? r) ∧ Sz (highR p[k]? r)
      rw [hb]
      constructor
      · show Sz (if r.at_ < b.at_ then b.at_ else r.at_)
        split
        · exact H.at_sz hbm
        · exact a1
      · show Sz (if b.rgt < r.rgt then b.rgt else r.rgt)
        split
        · exact H.rgt_sz hbm
        · exact g1
theorem RowsOk.drop_mid {p : Pile} {N B : Nat} (H : RowsOk p N B) {k : Nat} {r : Row} {q : Pile} (hd : p.drop k = r :: q) : Sz (mid (r :: q)) := by
  have hs : ∀ x ∈ r :: q, x ∈ p := fun x hx => by rw [← hd] at hx; exact List.mem_of_mem_drop hx
  have hl : (r :: q).length ≤ 8 := by
    rw [← hd, List.length_drop]; have := H.len; omega
  exact H.mid_sz (r :: q) hs hl (by simp)
theorem RowsOk.sub {p q : Pile} {N B : Nat} (H : RowsOk p N B) (hs : ∀ x ∈ q, x ∈ p) (hl : q.length ≤ 8) : RowsOk q N B := ⟨H.N9, H.M9, fun r hr => H.rows r (hs r hr), hl, H.pos⟩
theorem RowsOk.drop {p : Pile} {N B : Nat} (H : RowsOk p N B) (k : Nat) : RowsOk (p.drop k) N B := H.sub (fun x hx => List.mem_of_mem_drop hx) (by rw [List.length_drop]; have := H.len; omega)
/-! ### the program's joints -/
def bJo : Sx := (sSeq (sAsg (eCB (mCall 2 F_en) (aCons (eVar 0) (aCons (eVar 2) aNil))) (xTup 2 (xCons (xName 3) (xCons (xName 4) xNil))))
  (sSeq (sAsg (eCB (mCall 1 F_md) (aCons (eSl (eVar 0) (oSome (eVar 2)) oNone) aNil)) (xName 5))
  (sIf (tV (eCB (mCall 2 F_ls) (aCons (eVar 4) (aCons (eVar 3) aNil)))) (sDrop (eBM dApp (eVar 1) (aCons (eTup (aCons (eVar 2) (aCons (eC (.str "off")) aNil))) aNil))) (sIf (tV (eCB (mCall 2 F_ls) (aCons (eVar 5) (aCons (eVar 3) aNil)))) (sDrop (eBM dApp (eVar 1) (aCons (eTup (aCons (eVar 2) (aCons (eC (.str "left")) aNil))) aNil))) (sIf (tV (eCB (mCall 2 F_ls) (aCons (eVar 4) (aCons (eVar 5) aNil)))) (sDrop (eBM dApp (eVar 1) (aCons (eTup (aCons (eVar 2) (aCons (eC (.str "right")) aNil))) aNil))) sNext)))))
def b_jo : Sx := (sSeq (sAsg (eLst aNil) (xName 1))
  (sSeq (sFor (iR1 (aCons (eCB bLen (aCons (eVar 0) aNil)) aNil)) (xName 2) bJo)
  (sRet (eVar 1))))
def F_jo : List D → M D := gcL (defX 6 b_jo)
theorem jo_app {ρ : Env1} {st : Store} {acc : List D} {s : Str} {k : Nat} (h1 : ρ[1]? = some (some (.ref st.length))) (h2 : ρ[2]? = some (some (.int (k : Int)))) (hl : acc.length < sizeLine) :
    sDrop (eBM dApp (eVar 1) (aCons (eTup (aCons (eVar 2) (aCons (eC (.str s)) aNil))) aNil)) ρ (st ++ [MO.lst acc]) = some (.nx ρ, st ++ [MO.lst (acc ++ [dJ (k, s)])]) := by
  refine sDrop_at (x := .non) ?_
  rw [app_at (n := st.length) (xs := acc) (y := dJ (k, s)) (st1 := st ++ [MO.lst acc]) (eVar_at h1) get_app (aCons_at (eTup_at (aCons_at (eVar_at h2) (aCons_at eC_at aNil_at)) (two_lists _ _)) aNil_at) get_app hl, set_app]
theorem ls_test {ρ : Env1} {st : Store} {i j : Nat} {x y : Rat} (hi : ρ[i]? = some (some (fr x))) (hj : ρ[j]? = some (some (fr y))) (sx : Sz x) (sy : Sz y) : tV (eCB (mCall 2 F_ls) (aCons (eVar i) (aCons (eVar j) aNil))) ρ st = some (decide (x < y), st) :=
  tV_at (by rw [eCB_at (aCons_at (eVar_at hi) (aCons_at (eVar_at hj) aNil_at)), mCall2, ls_eq st sx sy])
theorem jo_turn {p pre q : Pile} {r : Row} {N B : Nat} (H : RowsOk p N B) (e : p = pre ++ r :: q) (o3 o4 o5 : Option D) (st : Store) (acc : List D) (hl : acc.length < sizeLine) :
    ∃ o3' o4' o5', bJo [some (dPile p), some (.ref st.length), some (.int (pre.length : Int)), o3, o4, o5] (st ++ [MO.lst acc]) =
      some (.nx [some (dPile p), some (.ref st.length), some (.int (pre.length : Int)), o3', o4', o5'], st ++ [MO.lst (acc ++ (match side (lowR (below p pre.length) r) (highR (below p pre.length) r) (mid (r :: q)) with
        | some s => [dJ (pre.length, s)]
        | none => []))]) := by
  obtain ⟨hr, hd⟩ := joint_so e
  obtain ⟨slo, shi⟩ := H.low_sz hr
  have smd := H.drop_mid hd
  generalize hlo : lowR (below p pre.length) r = lo at *
  generalize hhi : highR (below p pre.length) r = hi at *
  refine ⟨some (fr lo), some (fr hi), some (fr (mid (r :: q))), ?_⟩
  have e1 := en_eq H hr (st ++ [MO.lst acc])
  rw [hlo, hhi] at e1
  have e2 := md_eq (d := dPile (p.drop pre.length)) (p := p.drop pre.length) (st ++ [MO.lst acc]) (.inl rfl) (H.drop _) (by rw [hd]; simp)
  rw [hd] at e2
  have e3 := sl_drop (ρ := [some (dPile p), some (.ref st.length), some (.int (pre.length : Int)), some (fr lo), some (fr hi), o5]) (i := 0) (j := 2) (k := pre.length) (p := p) (st ++ [MO.lst acc]) rfl rfl
  rw [hd] at e3
  refine (sSeq_at (ρ1 := [some (dPile p), some (.ref st.length), some (.int (pre.length : Int)), some (fr lo), some (fr hi), o5]) (st1 := st ++ [MO.lst acc]) (sAsg_at (x := .tup [fr lo, fr hi]) (st1 := st ++ [MO.lst acc]) (by rw [eCB_at (aCons_at (eVar_at rfl) (aCons_at (eVar_at rfl) aNil_at)), mCall2, e1]) rfl)).trans ?_
  refine (sSeq_at (ρ1 := [some (dPile p), some (.ref st.length), some (.int (pre.length : Int)), some (fr lo), some (fr hi), some (fr (mid (r :: q)))]) (st1 := st ++ [MO.lst acc]) (sSet_at (x := fr (mid (r :: q))) (st1 := st ++ [MO.lst acc]) (by rw [eCB_at (aCons_at e3 aNil_at), mCall1, e2]))).trans ?_
  rw [sIf_at (ls_test (i := 4) (j := 3) rfl rfl shi slo)]
  unfold side
  by_cases h1 : hi < lo
  · rw [decide_eq_true h1, if_pos rfl, if_pos h1]
    exact jo_app rfl rfl hl
  · rw [decide_eq_false h1, if_neg (by decide), if_neg h1, sIf_at (ls_test (i := 5) (j := 3) rfl rfl smd slo)]
    by_cases h2 : mid (r :: q) < lo
    · rw [decide_eq_true h2, if_pos rfl, if_pos h2]
      exact jo_app rfl rfl hl
    · rw [decide_eq_false h2, if_neg (by decide), if_neg h2, sIf_at (ls_test (i := 4) (j := 5) rfl rfl shi smd)]
      by_cases h3 : hi < mid (r :: q)
      · rw [decide_eq_true h3, if_pos rfl, if_pos h3]
        exact jo_app rfl rfl hl
      · rw [decide_eq_false h3, if_neg (by decide), if_neg h3]
        simp only [List.append_nil]
        rfl
/-- a loop over all joints of a pile, by its turn -/
theorem jn_loop {p : Pile} {N B : Nat} (H : RowsOk p N B) {body : Sx} (ht : ∀ (pre q : Pile) (r : Row), p = pre ++ r :: q → ∀ (o3 o4 o5 : Option D) (st : Store) (acc : List D), acc.length < sizeLine →
    ∃ o3' o4' o5', body [some (dPile p), some (.ref st.length), some (.int (pre.length : Int)), o3, o4, o5] (st ++ [MO.lst acc]) =
      some (.nx [some (dPile p), some (.ref st.length), some (.int (pre.length : Int)), o3', o4', o5'], st ++ [MO.lst (acc ++ (match side (lowR (below p pre.length) r) (highR (below p pre.length) r) (mid (r :: q)) with
        | some s => [dJ (pre.length, s)]
        | none => []))])) (st : Store) (ds : List D) : ∀ (q pre : Pile) (acc : List D) (o2 o3 o4 o5 : Option D), p = pre ++ q → acc.length ≤ pre.length →
    ∃ o2' o3' o4' o5', forL ⟨ds, none⟩ (xName 2) body (rgs pre.length q.length) [some (dPile p), some (.ref st.length), o2, o3, o4, o5] (st ++ [MO.lst acc]) =
      some (.nx [some (dPile p), some (.ref st.length), o2', o3', o4', o5'], st ++ [MO.lst (acc ++ dJs (jn pre.length (below p pre.length) q))]) := by
  intro q
  induction q with
  | nil =>
    intro pre acc o2 o3 o4 o5 _ _
    refine ⟨o2, o3, o4, o5, (forL_nil Src.ok_none).trans ?_⟩
    simp [jn, dJs]
  | cons r q ih =>
    intro pre acc o2 o3 o4 o5 e hl
    have hlen : pre.length + (q.length + 1) ≤ 8 := by
      have := H.len
      rw [e, List.length_append, List.length_cons] at this
      exact this
    have hlt : acc.length < sizeLine := Nat.lt_of_le_of_lt hl (Nat.lt_of_le_of_lt (show pre.length ≤ 8 by omega) (by decide))
    obtain ⟨a3, a4, a5, e1⟩ := ht pre q r e o3 o4 o5 st acc hlt
    obtain ⟨hr, hd⟩ := joint_so e
    obtain ⟨b2, b3, b4, b5, e2⟩ := ih (pre ++ [r]) (acc ++ (match side (lowR (below p pre.length) r) (highR (below p pre.length) r) (mid (r :: q)) with
        | some s => [dJ (pre.length, s)]
        | none => [])) (some (.int (pre.length : Int))) a3 a4 a5 (by rw [e]; simp) (by
      rw [List.length_append, List.length_append]
      split <;> simp <;> omega)
    refine ⟨b2, b3, b4, b5, (forL_nx (x := .int (pre.length : Int)) (ρ1 := [some (dPile p), some (.ref st.length), some (.int (pre.length : Int)), o3, o4, o5]) Src.ok_none rfl e1).trans ?_⟩
    rw [List.length_append, List.length_singleton] at e2
    refine e2.trans ?_
    have eb : below p (pre.length + 1) = some r := hr
    rw [eb, List.append_assoc]
    congr 5
    congr 1
    show _ = dJs ((match side (lowR (below p pre.length) r) (highR (below p pre.length) r) (mid (r :: q)) with
      | some s => [(pre.length, s)]
      | none => []) ++ jn (pre.length + 1) (some r) q)
    unfold dJs
    rw [List.map_append]
    split <;> rfl
theorem jo_all {p : Pile} {N B : Nat} (H : RowsOk p N B) {body : Sx} (ht : ∀ (pre q : Pile) (r : Row), p = pre ++ r :: q → ∀ (o3 o4 o5 : Option D) (st : Store) (acc : List D), acc.length < sizeLine →
    ∃ o3' o4' o5', body [some (dPile p), some (.ref st.length), some (.int (pre.length : Int)), o3, o4, o5] (st ++ [MO.lst acc]) =
      some (.nx [some (dPile p), some (.ref st.length), some (.int (pre.length : Int)), o3', o4', o5'], st ++ [MO.lst (acc ++ (match side (lowR (below p pre.length) r) (highR (below p pre.length) r) (mid (r :: q)) with
        | some s => [dJ (pre.length, s)]
        | none => []))])) (st : Store) : gcL (defX 6 (sSeq (sAsg (eLst aNil) (xName 1)) (sSeq (sFor (iR1 (aCons (eCB bLen (aCons (eVar 0) aNil)) aNil)) (xName 2) body) (sRet (eVar 1))))) [dPile p] st = some (.ref st.length, st ++ [MO.lst (dJs (joints p))]) := by
  obtain ⟨o2, o3, o4, o5, e⟩ := jn_loop H ht st (rgs 0 p.length) p [] [] none none none none rfl (Nat.le_refl _)
  have hlow : (MO.lst (dJs (joints p))).low 0 = true := by
    show D.lows 0 (dJs (joints p)) = true
    generalize joints p = z
    induction z with
    | nil => rfl
    | cons x z ih =>
      show (D.low 0 (dJ x) && D.lows 0 (dJs z)) = true
      rw [ih]; rfl
  refine gcL_eq (g := []) (defX_rt rfl ?_) hlow
  refine (sSeq_at (ρ1 := [some (dPile p), some (.ref st.length), none, none, none, none]) (st1 := st ++ [MO.lst []]) (sSet_at (eLst_at aNil_at (by decide)))).trans ?_
  refine (sSeq_at (ρ1 := [some (dPile p), some (.ref st.length), o2, o3, o4, o5]) (st1 := st ++ [MO.lst (dJs (joints p))]) ?_).trans (sRet_at (eVar_at rfl))
  refine (sFor_at (s := ⟨rgs 0 p.length, none⟩) (st1 := st ++ [MO.lst []]) (rng_at (aCons_at (x := .int (p.length : Int)) (st1 := st ++ [MO.lst []]) ?_ aNil_at) ?_)).trans ?_
  · rw [eCB_at (aCons_at (eVar_at rfl) aNil_at)]
    show some (D.int ((dRows p).length : Int), _) = _
    rw [dRows_len]
  · exact Nat.lt_of_le_of_lt H.len (by decide)
  · have : forL ⟨rgs 0 p.length, none⟩ (xName 2) body (rgs 0 p.length) [some (dPile p), some (.ref st.length), none, none, none, none] (st ++ [MO.lst []]) = _ := e
    refine this.trans ?_
    simp [joints, below]
theorem jo_eq {p : Pile} {N B : Nat} (H : RowsOk p N B) (st : Store) : F_jo [dPile p] st = some (.ref st.length, st ++ [MO.lst (dJs (joints p))]) :=
  jo_all H (fun pre q r e o3 o4 o5 st acc hl => jo_turn H e o3 o4 o5 st acc hl) st
/-! ### the law's joints -/
def bLj : Sx := (sSeq (sAsg (eCB (mCall 2 F_len) (aCons (eVar 0) (aCons (eVar 2) aNil))) (xTup 2 (xCons (xName 3) (xCons (xName 4) xNil))))
  (sSeq (sAsg (eCB (mCall 1 F_lmd) (aCons (eSl (eVar 0) (oSome (eVar 2)) oNone) aNil)) (xName 5))
  (sIf (tV (eCB (mCall 2 F_ls) (aCons (eVar 4) (aCons (eVar 3) aNil)))) (sDrop (eBM dApp (eVar 1) (aCons (eTup (aCons (eVar 2) (aCons (eC (.str "off")) aNil))) aNil))) (sIf (tOrD (tV (eCB (mCall 2 F_ls) (aCons (eVar 5) (aCons (eVar 3) aNil)))) (tV (eCB (mCall 2 F_ls) (aCons (eVar 4) (aCons (eVar 5) aNil))))) (sDrop (eBM dApp (eVar 1) (aCons (eTup (aCons (eVar 2) (aCons (eIf (tV (eCB (mCall 2 F_ls) (aCons (eVar 5) (aCons (eVar 3) aNil)))) (eC (.str "left")) (eC (.str "right"))) aNil))) aNil))) sNext))))
def b_lj : Sx := (sSeq (sAsg (eLst aNil) (xName 1))
  (sSeq (sFor (iR1 (aCons (eCB bLen (aCons (eVar 0) aNil)) aNil)) (xName 2) bLj)
  (sRet (eVar 1))))
def F_lj : List D → M D := gcL (defX 6 b_lj)
theorem lj_app {ρ : Env1} {st : Store} {acc : List D} {E : Ev} {s : Str} {k : Nat} (h1 : ρ[1]? = some (some (.ref st.length))) (h2 : ρ[2]? = some (some (.int (k : Int)))) (he : E ρ (st ++ [MO.lst acc]) = some (.str s, st ++ [MO.lst acc])) (hl : acc.length < sizeLine) :
    sDrop (eBM dApp (eVar 1) (aCons (eTup (aCons (eVar 2) (aCons E aNil))) aNil)) ρ (st ++ [MO.lst acc]) = some (.nx ρ, st ++ [MO.lst (acc ++ [dJ (k, s)])]) := by
  refine sDrop_at (x := .non) ?_
  rw [app_at (n := st.length) (xs := acc) (y := dJ (k, s)) (st1 := st ++ [MO.lst acc]) (eVar_at h1) get_app (aCons_at (eTup_at (aCons_at (eVar_at h2) (aCons_at he aNil_at)) (two_lists _ _)) aNil_at) get_app hl, set_app]
theorem tOrD_at {ρ : Env1} {st st1 : Store} {a b : Et} {k : Bool} (ha : a ρ st = some (k, st1)) : tOrD a b ρ st = if k = true then some (true, st1) else b ρ st1 := by
  simp only [tOrD, M.bnd, ha]; split <;> rfl
theorem lj_turn {p pre q : Pile} {r : Row} {N B : Nat} (H : RowsOk p N B) (e : p = pre ++ r :: q) (o3 o4 o5 : Option D) (st : Store) (acc : List D) (hl : acc.length < sizeLine) :
    ∃ o3' o4' o5', bLj [some (dPile p), some (.ref st.length), some (.int (pre.length : Int)), o3, o4, o5] (st ++ [MO.lst acc]) =
      some (.nx [some (dPile p), some (.ref st.length), some (.int (pre.length : Int)), o3', o4', o5'], st ++ [MO.lst (acc ++ (match side (lowR (below p pre.length) r) (highR (below p pre.length) r) (mid (r :: q)) with
        | some s => [dJ (pre.length, s)]
        | none => []))]) := by
  obtain ⟨hr, hd⟩ := joint_so e
  obtain ⟨slo, shi⟩ := H.low_sz hr
  have smd := H.drop_mid hd
  generalize hlo : lowR (below p pre.length) r = lo at *
  generalize hhi : highR (below p pre.length) r = hi at *
  refine ⟨some (fr lo), some (fr hi), some (fr (mid (r :: q))), ?_⟩
  have e1 := len_eq H hr (st ++ [MO.lst acc])
  rw [hlo, hhi] at e1
  have e2 := lmd_eq (d := dPile (p.drop pre.length)) (p := p.drop pre.length) (st ++ [MO.lst acc]) (.inl rfl) (H.drop _) (by rw [hd]; simp)
  rw [hd] at e2
  have e3 := sl_drop (ρ := [some (dPile p), some (.ref st.length), some (.int (pre.length : Int)), some (fr lo), some (fr hi), o5]) (i := 0) (j := 2) (k := pre.length) (p := p) (st ++ [MO.lst acc]) rfl rfl
  rw [hd] at e3
  refine (sSeq_at (ρ1 := [some (dPile p), some (.ref st.length), some (.int (pre.length : Int)), some (fr lo), some (fr hi), o5]) (st1 := st ++ [MO.lst acc]) (sAsg_at (x := .tup [fr lo, fr hi]) (st1 := st ++ [MO.lst acc]) (by rw [eCB_at (aCons_at (eVar_at rfl) (aCons_at (eVar_at rfl) aNil_at)), mCall2, e1]) rfl)).trans ?_
  refine (sSeq_at (ρ1 := [some (dPile p), some (.ref st.length), some (.int (pre.length : Int)), some (fr lo), some (fr hi), some (fr (mid (r :: q)))]) (st1 := st ++ [MO.lst acc]) (sSet_at (x := fr (mid (r :: q))) (st1 := st ++ [MO.lst acc]) (by rw [eCB_at (aCons_at e3 aNil_at), mCall1, e2]))).trans ?_
  rw [sIf_at (ls_test (i := 4) (j := 3) rfl rfl shi slo)]
  unfold side
  by_cases h1 : hi < lo
  · rw [decide_eq_true h1, if_pos rfl, if_pos h1]
    exact jo_app rfl rfl hl
  · rw [decide_eq_false h1, if_neg (by decide), if_neg h1]
    by_cases h2 : mid (r :: q) < lo
    · rw [if_pos h2, sIf_at (k := true) (st1 := st ++ [MO.lst acc]) (by rw [tOrD_at (ls_test (i := 5) (j := 3) rfl rfl smd slo), decide_eq_true h2]; rfl), if_pos rfl]
      refine lj_app rfl rfl ?_ hl
      rw [eIf_at (ls_test (i := 5) (j := 3) rfl rfl smd slo), decide_eq_true h2, if_pos rfl]; rfl
    · rw [if_neg h2]
      by_cases h3 : hi < mid (r :: q)
      · rw [if_pos h3, sIf_at (k := true) (st1 := st ++ [MO.lst acc]) (by rw [tOrD_at (ls_test (i := 5) (j := 3) rfl rfl smd slo), decide_eq_false h2, if_neg (by decide), ls_test (i := 4) (j := 5) rfl rfl shi smd, decide_eq_true h3]), if_pos rfl]
        refine lj_app rfl rfl ?_ hl
        rw [eIf_at (ls_test (i := 5) (j := 3) rfl rfl smd slo), decide_eq_false h2, if_neg (by decide)]; rfl
      · rw [if_neg h3, sIf_at (k := false) (st1 := st ++ [MO.lst acc]) (by rw [tOrD_at (ls_test (i := 5) (j := 3) rfl rfl smd slo), decide_eq_false h2, if_neg (by decide), ls_test (i := 4) (j := 5) rfl rfl shi smd, decide_eq_false h3]), if_neg (by decide)]
        simp only [List.append_nil]
        rfl
theorem lj_eq {p : Pile} {N B : Nat} (H : RowsOk p N B) (st : Store) : F_lj [dPile p] st = some (.ref st.length, st ++ [MO.lst (dJs (joints p))]) :=
  jo_all H (fun pre q r e o3 o4 o5 st acc hl => lj_turn H e o3 o4 o5 st acc hl) st
end Dl
end
set_option linter.all false
set_option autoImplicit false
set_option maxRecDepth 100000
/-! M8: what may be drawn: weakest conditions, bags -/
noncomputable section
namespace Dl
open PySem PySem.Spec PyProof.Rows L2
def Wp {α : Type} (m : M α) (st : Store) (Q : α → Store → Prop) : Prop := ∃ a st', m st = some (a, st') ∧ Q a st'
theorem Wp.of {α : Type} {m : M α} {st st' : Store} {a : α} {Q : α → Store → Prop} (h : m st = some (a, st')) (q : Q a st') : Wp m st Q := ⟨a, st', h, q⟩
theorem Wp.ret {α : Type} {a : α} {st : Store} {Q : α → Store → Prop} (q : Q a st) : Wp (M.ret a) st Q := ⟨a, st, rfl, q⟩
theorem Wp.mono {α : Type} {m : M α} {st : Store} {Q Q' : α → Store → Prop} (h : Wp m st Q) (q : ∀ a s, Q a s → Q' a s) : Wp m st Q' := let ⟨a, s, e, x⟩ := h; ⟨a, s, e, q a s x⟩
theorem Wp.bnd {α β : Type} {m : M α} {f : α → M β} {st : Store} {Q : β → Store → Prop} (h : Wp m st fun a s => Wp (f a) s Q) : Wp (M.bnd m f) st Q := by
  obtain ⟨a, s, e, b, s2, e2, q⟩ := h
  exact ⟨b, s2, by simp only [M.bnd, e, e2], q⟩
theorem Wp.then_ {α β : Type} {m : M α} {f : α → M β} {st : Store} {R : α → Store → Prop} {Q : β → Store → Prop} (h : Wp m st R) (k : ∀ a s, R a s → Wp (f a) s Q) : Wp (M.bnd m f) st Q := Wp.bnd (h.mono k)
section
variable {ρ : Env1} {st : Store} {a b c : Ev} {A : Ea} {Q : D → Store → Prop} {x : D}
theorem wVar {i : Nat} (h : ρ[i]? = some (some x)) (q : Q x st) : Wp (eVar i ρ) st Q := Wp.of (eVar_at h) q
theorem wC (q : Q x st) : Wp (eC x ρ) st Q := Wp.ret q
theorem wOp2 {g : D → D → M D} (h : Wp (a ρ) st fun x s => Wp (b ρ) s fun y s2 => Wp (g x y) s2 Q) : Wp (eOp2 g a b ρ) st Q := Wp.bnd (h.mono fun _ _ k => Wp.bnd k)
theorem wOp1 {g : D → M D} (h : Wp (a ρ) st fun x s => Wp (g x) s Q) : Wp (eOp1 g a ρ) st Q := Wp.bnd h
theorem wNil {Q : List D → Store → Prop} (q : Q [] st) : Wp (aNil ρ) st Q := Wp.ret q
theorem wCons {Q : List D → Store → Prop} (h : Wp (a ρ) st fun x s => Wp (A ρ) s fun xs s2 => Q (x :: xs) s2) : Wp (aCons a A ρ) st Q := Wp.bnd (h.mono fun _ _ k => Wp.bnd (k.mono fun _ _ q => Wp.ret q))
theorem wCB {g : List D → M D} (h : Wp (A ρ) st fun xs s => Wp (g xs) s Q) : Wp (eCB g A ρ) st Q := Wp.bnd h
theorem wTup (h : Wp (A ρ) st fun xs s => xs.length ≤ sizeLine ∧ Q (.tup xs) s) : Wp (eTup A ρ) st Q := Wp.bnd (h.mono fun xs s ⟨h1, q⟩ => Wp.of (a := .tup xs) (st' := s) (by simp only [mTup, if_pos h1, M.ret]) q)
theorem wLst (h : Wp (A ρ) st fun xs s => xs.length ≤ sizeLine ∧ Q (.ref s.length) (s ++ [.lst xs])) : Wp (eLst A ρ) st Q := Wp.bnd (h.mono fun xs s ⟨h1, q⟩ => Wp.of (a := .ref s.length) (st' := s ++ [.lst xs]) (by simp only [mLst, if_pos h1, mNew]) q)
theorem wV {Q : Bool → Store → Prop} (h : Wp (a ρ) st fun x s => ∃ k, x = .bl k ∧ Q k s) : Wp (tV a ρ) st Q := Wp.bnd (h.mono fun x s ⟨k, e, q⟩ => by subst e; exact Wp.ret q)
theorem wIfE {t : Et} (h : Wp (t ρ) st fun k s => if k = true then Wp (a ρ) s Q else Wp (b ρ) s Q) : Wp (eIf t a b ρ) st Q := Wp.bnd (h.mono fun k s q => by cases k <;> exact q)
variable {S T : Sx} {R : Fl → Store → Prop}
theorem wSeq (h : Wp (S ρ) st fun f s => match f with
    | .nx ρ' => Wp (T ρ') s R
    | f => R f s) : Wp (sSeq S T ρ) st R := Wp.bnd (h.mono fun f s q => by cases f <;> first | exact q | exact Wp.ret q)
theorem wSet {i : Nat} (h : Wp (a ρ) st fun x s => R (.nx (ρ.set i (some x))) s) : Wp (sAsg a (xName i) ρ) st R := Wp.bnd (h.mono fun x s q => Wp.bnd (Wp.ret (Wp.ret q)))
theorem wAsg {g : Gx} (h : Wp (a ρ) st fun x s => Wp (g x ρ) s fun ρ' s2 => R (.nx ρ') s2) : Wp (sAsg a g ρ) st R := Wp.bnd (h.mono fun x s q => Wp.bnd (q.mono fun _ _ q => Wp.ret q))
theorem wPar {i j : Nat} (h : Wp (A ρ) st fun xs s => ∃ x y, xs = [x, y] ∧ R (.nx ((ρ.set i (some x)).set j (some y))) s) : Wp (sPar i j A ρ) st R := Wp.bnd (h.mono fun xs s ⟨x, y, e, q⟩ => by subst e; exact Wp.ret q)
theorem wRet (h : Wp (a ρ) st fun x s => R (.rt x) s) : Wp (sRet a ρ) st R := Wp.bnd (h.mono fun x s q => Wp.ret q)
theorem wDrop (h : Wp (a ρ) st fun x s => R (.nx ρ) s) : Wp (sDrop a ρ) st R := Wp.bnd (h.mono fun x s q => Wp.ret q)
theorem wIf {t : Et} (h : Wp (t ρ) st fun k s => if k = true then Wp (S ρ) s R else Wp (T ρ) s R) : Wp (sIf t S T ρ) st R := Wp.bnd (h.mono fun k s q => by cases k <;> exact q)
theorem wNext (q : R (.nx ρ) st) : Wp (sNext ρ) st R := Wp.ret q
theorem wFor {it : Ei} {g : Gx} (h : Wp (it ρ) st fun s s1 => Wp (forL s g S s.ds ρ) s1 R) : Wp (sFor it g S ρ) st R := Wp.bnd h
theorem wDefX {n : Nat} {ds : List D} {env : Env1} (he : ds.map some ++ List.replicate (n - ds.length) none = env) (h : Wp (S env) st fun f s => ∃ d, f = .rt d ∧ Q d s) : Wp (defX n S ds) st Q := by
  obtain ⟨f, s, e, d, rfl, q⟩ := h
  exact ⟨d, s, defX_rt he e, q⟩
theorem wOr {t u : Et} {Q : Bool → Store → Prop} (h : Wp (t ρ) st fun k s => if k = true then Q true s else Wp (u ρ) s Q) : Wp (tOrD t u ρ) st Q := Wp.bnd (h.mono fun k s q => by cases k <;> first | exact q | exact Wp.ret q)
theorem wAnd {t u : Et} {Q : Bool → Store → Prop} (h : Wp (t ρ) st fun k s => if k = true then Wp (u ρ) s Q else Q false s) : Wp (tAndD t u ρ) st Q := Wp.bnd (h.mono fun k s q => by cases k <;> first | exact q | exact Wp.ret q)
theorem wNot {t : Et} {Q : Bool → Store → Prop} (h : Wp (t ρ) st fun k s => Q (!k) s) : Wp (tNotD t ρ) st Q := Wp.bnd (h.mono fun k s q => Wp.ret q)
end
/-- a loop by an invariant over what is left -/
theorem wForL {s : Src} {g : Gx} {b : Sx} {R : Fl → Store → Prop} (I : List D → Env1 → Store → Prop) (h : ∀ xs ρ st, I xs ρ st → s.ok st) (he : ∀ ρ st, I [] ρ st → R (.nx ρ) st)
    (ht : ∀ x xs ρ st, I (x :: xs) ρ st → Wp (g x ρ) st fun ρ1 s1 => Wp (b ρ1) s1 fun f s2 => match f with
      | .nx ρ2 => I xs ρ2 s2
      | .ct ρ2 => I xs ρ2 s2
      | .bk ρ2 => R (.nx ρ2) s2
      | .rt d => R (.rt d) s2) : ∀ (xs : List D) (ρ : Env1) (st : Store), I xs ρ st → Wp (forL s g b xs ρ) st R
  | [], ρ, st, i => Wp.of (forL_nil (h _ _ _ i)) (he _ _ i)
  | x :: xs, ρ, st, i => by
    obtain ⟨ρ1, s1, e1, f, s2, e2, q⟩ := ht x xs ρ st i
    have ok := h _ _ _ i
    cases f with
    | nx ρ2 =>
      obtain ⟨f3, s3, e3, q3⟩ := wForL I h he ht xs ρ2 s2 q
      exact ⟨f3, s3, (forL_nx ok e1 e2).trans e3, q3⟩
    | ct ρ2 =>
      obtain ⟨f3, s3, e3, q3⟩ := wForL I h he ht xs ρ2 s2 q
      refine ⟨f3, s3, ?_, q3⟩
      conv => lhs; unfold forL
      rw [if_pos ok]
      simp only [M.bnd, e1, e2, e3]
    | bk ρ2 =>
      refine ⟨.nx ρ2, s2, ?_, q⟩
      unfold forL
      rw [if_pos ok]
      simp only [M.bnd, e1, e2, M.ret]
    | rt d => exact ⟨.rt d, s2, forL_rt ok e1 e2, q⟩
/-- a comprehension by an invariant: what is left, the list so far -/
theorem wLc {it : Ei} {g : Gx} {t : Et} {e : Ev} {vs : List Nat} {ρ : Env1} {st : Store} {Q : D → Store → Prop} (I : Nat → Src → List D → List D → Store → Prop)
    (hi : Wp (it ρ) st fun s s1 => I s1.length s s.ds [] (s1 ++ [.lst []]) ∧ ∀ acc s2, I s1.length s [] acc s2 → Q (.ref s1.length) s2)
    (ok : ∀ n s xs acc s2, I n s xs acc s2 → s.ok s2)
    (ht : ∀ n s x xs acc s2, I n s (x :: xs) acc s2 → Wp (g x (wipeE ρ vs)) s2 fun ρ1 s3 => Wp (t ρ1) s3 fun k s4 => if k = true then Wp (e ρ1) s4 fun y s5 => s5[n]? = some (.lst acc) ∧ acc.length < sizeLine ∧ I n s xs (acc ++ [y]) (s5.set n (.lst (acc ++ [y]))) else I n s xs acc s4) :
    Wp (eLc it g t e vs ρ) st Q := by
  obtain ⟨s, s1, e1, h1, h2⟩ := hi
  have key : ∀ (xs acc : List D) (s2 : Store), I s1.length s xs acc s2 → ∃ acc' s3, lcL s s1.length g t e (wipeE ρ vs) xs s2 = some ((), s3) ∧ I s1.length s [] acc' s3 := by
    intro xs
    induction xs with
    | nil => intro acc s2 i; exact ⟨acc, s2, lcL_nil (ok _ _ _ _ _ i), i⟩
    | cons x xs ih =>
      intro acc s2 i
      obtain ⟨ρ1, s3, e3, k, s4, e4, q⟩ := ht _ _ _ _ _ _ i
      cases k with
      | true =>
        obtain ⟨y, s5, e5, hn, hl, i5⟩ := q
        obtain ⟨acc', s6, e6, i6⟩ := ih _ _ i5
        exact ⟨acc', s6, (lcL_add (ok _ _ _ _ _ i) e3 e4 e5 hn hl).trans e6, i6⟩
      | false =>
        obtain ⟨acc', s6, e6, i6⟩ := ih _ _ q
        exact ⟨acc', s6, (lcL_skip (ok _ _ _ _ _ i) e3 e4).trans e6, i6⟩
  obtain ⟨acc', s3, e3, i3⟩ := key _ _ _ h1
  refine ⟨.ref s1.length, s3, ?_, h2 _ _ i3⟩
  simp only [eLc, M.bnd, e1, e3, M.ret]
/-! ### bags -/
def IsBag (o : MO) : Prop := ∃ x y : Int, o = .lst [.int x, .int y] ∧ 0 ≤ x ∧ 0 ≤ y ∧ y < 2147483648
theorem IsBag.low {o : MO} (h : IsBag o) : o.low 0 = true := by obtain ⟨x, y, rfl, _⟩ := h; rfl
/-- the bag at b was drawn from, objects were made -/
def Bg (b : Nat) (st st' : Store) : Prop := ∃ o g, IsBag o ∧ st' = st.set b o ++ g
def BagAt (b : Nat) (st : Store) : Prop := ∃ o, st[b]? = some o ∧ IsBag o
theorem BagAt.lt {b : Nat} {st : Store} (h : BagAt b st) : b < st.length := let ⟨_, e, _⟩ := h; (List.getElem?_eq_some_iff.mp e).1
theorem set_same {st : Store} {b : Nat} {o : MO} (h : st[b]? = some o) : st.set b o = st := by
  obtain ⟨hl, e⟩ := List.getElem?_eq_some_iff.mp h
  rw [← e, List.set_getElem_self]
theorem Bg.refl {b : Nat} {st : Store} (h : BagAt b st) : Bg b st st := by
  obtain ⟨o, e, i⟩ := h
  exact ⟨o, [], i, by rw [set_same e, List.append_nil]⟩
theorem Bg.app {b : Nat} {st st' : Store} (h : Bg b st st') (g : Store) : Bg b st (st' ++ g) := by
  obtain ⟨o, g', i, rfl⟩ := h
  exact ⟨o, g' ++ g, i, by rw [List.append_assoc]⟩
theorem Bg.trans {b : Nat} {st s1 s2 : Store} (hb : b < st.length) (h1 : Bg b st s1) (h2 : Bg b s1 s2) : Bg b st s2 := by
  obtain ⟨o, g, i, rfl⟩ := h1
  obtain ⟨o2, g2, i2, rfl⟩ := h2
  refine ⟨o2, g ++ g2, i2, ?_⟩
  rw [List.set_append_left _ _ (by simpa using hb), List.set_set, List.append_assoc]
theorem Bg.bag {b : Nat} {st s1 : Store} (hb : b < st.length) (h : Bg b st s1) : BagAt b s1 := by
  obtain ⟨o, g, i, rfl⟩ := h
  exact ⟨o, by rw [List.getElem?_append_left (by simpa using hb), List.getElem?_set_self hb], i⟩
theorem Bg.get {b i : Nat} {st s1 : Store} (h : Bg b st s1) (hi : i < st.length) (hn : i ≠ b) : s1[i]? = st[i]? := by
  obtain ⟨o, g, _, rfl⟩ := h
  rw [List.getElem?_append_left (by simpa using hi), List.getElem?_set_ne (Ne.symm hn)]
theorem Bg.len {b : Nat} {st s1 : Store} (h : Bg b st s1) : st.length ≤ s1.length := by
  obtain ⟨o, g, _, rfl⟩ := h
  simp
/-- a later object is changed -/
theorem Bg.set {b n : Nat} {st s1 : Store} {o : MO} (h : Bg b st s1) (hn : st.length ≤ n) : Bg b st (s1.set n o) := by
  obtain ⟨u, g, i, rfl⟩ := h
  refine ⟨u, g.set (n - st.length) o, i, ?_⟩
  rw [List.set_append_right _ _ (by simpa using hn)]
  simp
/-- a def that lets what it made go -/
theorem wGcF {b : Nat} {F : List D → M D} {ds : List D} {st : Store} {Q : D → Store → Prop} (h : Wp (F ds) st fun d s => d.low 0 = true ∧ Bg b st s ∧ ∀ o, IsBag o → Q d (st.set b o)) : Wp (gcF F ds) st Q := by
  obtain ⟨d, s, e, hd, ⟨o, g, i, rfl⟩, q⟩ := h
  exact ⟨d, _, gcF_set e i.low hd, q o i⟩
theorem wGcL {b : Nat} {F : List D → M D} {ds : List D} {st : Store} {Q : D → Store → Prop} (h : Wp (F ds) st fun d s => ∃ m u, d = .ref m ∧ st.length ≤ m ∧ s[m]? = some u ∧ u.low 0 = true ∧ Bg b st s ∧ ∀ o, IsBag o → Q (.ref st.length) (st.set b o ++ [u])) : Wp (gcL F ds) st Q := by
  obtain ⟨d, s, e, m, u, rfl, hm, hu, lu, ⟨o, g, i, rfl⟩, q⟩ := h
  refine ⟨.ref st.length, _, gcL_set e hm ?_ i.low lu, q o i⟩
  rw [List.getElem?_append_right (by simpa using hm)] at hu
  simpa using hu
theorem Bg.set0 {b : Nat} {st : Store} {o : MO} (h : IsBag o) : Bg b st (st.set b o) := ⟨o, [], h, by rw [List.append_nil]⟩
/-! ### drawing -/
def b_tk : Sx := (sSeq (sIf (tV (eOp2 dGt (eOp2 dIx (eVar 0) (eC (.int 0))) (eC (.int 0)))) (sSeq (sAsg (eOp2 dMod (eOp2 dIx (eVar 0) (eC (.int 0))) (eVar 1)) (xName 2))
  (sSeq (sAsg (eOp2 dDiv (eOp2 dIx (eVar 0) (eC (.int 0))) (eVar 1)) (xSub (eVar 0) (eC (.int 0))))
  (sRet (eVar 2)))) sNext)
  (sSeq (sAsg (eOp2 dMod (eOp2 dMul (eOp2 dIx (eVar 0) (eC (.int 1))) (eC (.int 48271))) (eC (.int 2147483647))) (xSub (eVar 0) (eC (.int 1))))
  (sRet (eOp2 dMod (eOp2 dDiv (eOp2 dMod (eOp2 dMul (eOp2 dIx (eVar 0) (eC (.int 1))) (eOp2 dIx (eVar 0) (eC (.int 1)))) (eC (.int 2147483629))) (eC (.int 64))) (eVar 1)))))
def F_tk : List D → M D := gcF (defX 3 b_tk)
theorem setI_at {st : Store} {n : Nat} {xs : List D} {k : Nat} {y : D} (h : st[n]? = some (.lst xs)) (hk : k < xs.length) : mSetI (.ref n) (.int (k : Int)) y st = some ((), st.set n (.lst (xs.set k y))) := by
  show (match st[n]? with
    | some (.lst xs) => (ixN xs.length (k : Int)).map fun j => ((), st.set n (.lst (xs.set j y)))
    | _ => none) = _
  rw [h]
  have e : ixN xs.length (k : Int) = some k := by
    unfold ixN
    rw [if_pos (by omega), if_pos (by omega)]; simp
  simp only [e, Option.map_some]
theorem xSub_at {o i : Ev} {ρ : Env1} {st : Store} {n k : Nat} {xs : List D} {d : D} (ho : o ρ st = some (.ref n, st)) (hi : i ρ st = some (.int (k : Int), st)) (h : st[n]? = some (.lst xs)) (hk : k < xs.length) :
    xSub o i d ρ st = some (ρ, st.set n (.lst (xs.set k d))) := by
  simp only [xSub, M.bnd, ho, hi, setI_at h hk, M.ret]
theorem tk_w {b : Nat} {st : Store} {many : Int} {Q : D → Store → Prop} (hb : BagAt b st) (h0 : 0 < many) (h1 : many < 1000000) (q : ∀ k o, 0 ≤ k → k < many → IsBag o → Q (.int k) (st.set b o)) : Wp (F_tk [.ref b, .int many]) st Q := by
  obtain ⟨o, e, x, y, rfl, hx, hy, hy2⟩ := hb
  have hl := (List.getElem?_eq_some_iff.mp e).1
  have dm : CDivW x many := Bt.divW (n := 20) h0 (show many.natAbs < 2 ^ 20 by
    have : (2 : Nat) ^ 20 = 1048576 := by decide
    omega) (by decide)
  have ix0 : ∀ (z w : Int) (s : Store), s[b]? = some (.lst [.int z, .int w]) → dIx (.ref b) (.int 0) s = some (.int z, s) := fun z w s h => by rw [lst_ix h, atI0]; rfl
  have ix1 : ∀ (z w : Int) (s : Store), s[b]? = some (.lst [.int z, .int w]) → dIx (.ref b) (.int 1) s = some (.int w, s) := fun z w s h => by rw [lst_ix h, atI1]; rfl
  have hE : F_tk [.ref b, .int many] st = gcF (defX 3 b_tk) [.ref b, .int many] st := rfl
  by_cases hx0 : 0 < x
  · have ho : IsBag (.lst [.int (x / many), .int y]) := ⟨_, _, rfl, Int.ediv_nonneg hx (Int.le_of_lt h0), hy, hy2⟩
    refine Wp.of (a := .int (x % many)) (st' := st.set b (.lst [.int (x / many), .int y])) ?_ (q _ _ (Int.emod_nonneg _ (by omega)) (Int.emod_lt_of_pos _ h0) ho)
    refine gcF_set0 (defX_rt rfl (sSeq_rt ?_)) ho.low rfl
    rw [sIf_at (tV_at (k := true) (st1 := st) (by rw [eOp2_at (x := .int x) (st1 := st) (by rw [eOp2_at (eVar_at rfl) eC_at, ix0 _ _ _ e]) eC_at, dGt_int, decide_eq_true hx0])), if_pos rfl]
    refine (sSeq_at (sSet_at (x := .int (x % many)) (st1 := st) (by rw [eOp2_at (x := .int x) (st1 := st) (by rw [eOp2_at (eVar_at rfl) eC_at, ix0 _ _ _ e]) (eVar_at rfl), dMod_int h0]))).trans ?_
    refine (sSeq_at (ρ1 := [some (.ref b), some (.int many), some (.int (x % many))]) (st1 := st.set b (.lst [.int (x / many), .int y])) (sAsg_at (x := .int (x / many)) (st1 := st) (by rw [eOp2_at (x := .int x) (st1 := st) (by rw [eOp2_at (eVar_at rfl) eC_at, ix0 _ _ _ e]) (eVar_at rfl), dDiv_int dm]) ?_)).trans (sRet_at (eVar_at rfl))
    exact xSub_at (n := b) (k := 0) (eVar_at rfl) eC_at e (by simp)
  · have hx1 : x = 0 := by omega
    subst hx1
    have b31 : Bt 31 y := show y.natAbs < 2 ^ 31 by
      have : (2 : Nat) ^ 31 = 2147483648 := by decide
      omega
    have c1 : CMulW y 48271 := b31.mulW (n := 16) (by unfold Bt; decide) (by decide)
    have y0 : 0 ≤ y * 48271 % 2147483647 := Int.emod_nonneg _ (by decide)
    have y1 : y * 48271 % 2147483647 < 2147483647 := Int.emod_lt_of_pos _ (by decide)
    generalize hz : y * 48271 % 2147483647 = z at *
    have bz : Bt 31 z := show z.natAbs < 2 ^ 31 by
      have : (2 : Nat) ^ 31 = 2147483648 := by decide
      omega
    have c2 : CMulW z z := bz.mulW bz (by decide)
    have c3 : CDivW (z * z % 2147483629) 64 := Bt.divW (n := 7) (by decide) (by unfold Bt; decide) (by decide)
    have ho : IsBag (.lst [.int 0, .int z]) := ⟨_, _, rfl, by omega, y0, by omega⟩
    have e2 : (st.set b (.lst [.int 0, .int z]))[b]? = some (.lst [.int 0, .int z]) := List.getElem?_set_self hl
    refine Wp.of (a := .int (z * z % 2147483629 / 64 % many)) (st' := st.set b (.lst [.int 0, .int z])) ?_ (q _ _ (Int.emod_nonneg _ (by omega)) (Int.emod_lt_of_pos _ h0) ho)
    refine gcF_set0 (defX_rt rfl ?_) ho.low rfl
    refine (sSeq_at (ρ1 := [some (.ref b), some (.int many), none]) (st1 := st) ?_).trans ?_
    · rw [sIf_at (tV_at (k := false) (st1 := st) (by rw [eOp2_at (x := .int 0) (st1 := st) (by rw [eOp2_at (eVar_at rfl) eC_at, ix0 _ _ _ e]) eC_at, dGt_int]; rfl))]
      rfl
    refine (sSeq_at (ρ1 := [some (.ref b), some (.int many), none]) (st1 := st.set b (.lst [.int 0, .int z])) (sAsg_at (x := .int z) (st1 := st) ?_ ?_)).trans (sRet_at ?_)
    · rw [eOp2_at (x := .int (y * 48271)) (st1 := st) (by rw [eOp2_at (x := .int y) (st1 := st) (by rw [eOp2_at (eVar_at rfl) eC_at, ix1 _ _ _ e]) eC_at, dMul_int c1]) eC_at, dMod_int (by decide), hz]
    · exact xSub_at (n := b) (k := 1) (eVar_at rfl) eC_at e (by simp)
    · have i1 : eOp2 dIx (eVar 0) (eC (.int 1)) [some (.ref b), some (.int many), none] (st.set b (.lst [.int 0, .int z])) = some (.int z, st.set b (.lst [.int 0, .int z])) := by
        rw [eOp2_at (eVar_at rfl) eC_at, ix1 _ _ _ e2]
      rw [eOp2_at (x := .int (z * z % 2147483629 / 64)) (st1 := st.set b (.lst [.int 0, .int z])) ?_ (eVar_at rfl), dMod_int h0]
      rw [eOp2_at (x := .int (z * z % 2147483629)) (st1 := st.set b (.lst [.int 0, .int z])) ?_ eC_at, dDiv_int c3]
      rw [eOp2_at (x := .int (z * z)) (st1 := st.set b (.lst [.int 0, .int z])) ?_ eC_at, dMod_int (by decide)]
      rw [eOp2_at i1 i1, dMul_int c2]
end Dl
end
set_option linter.all false
set_option autoImplicit false
set_option maxRecDepth 100000
/-! M9: drawn fractions, blocks, orders -/
noncomputable section
namespace Dl
open PySem PySem.Spec PyProof.Rows L2
section
variable {ρ : Env1} {st : Store} {b : Nat} {Q : D → Store → Prop}
theorem Bg.keep {st s : Store} {b n : Nat} {o : MO} (h : Bg b st s) (hn : n ≠ b) (e : st[n]? = some o) : s[n]? = some o := by
  rw [h.get (List.getElem?_eq_some_iff.mp e).1 hn]; exact e
theorem take_w {E : Ev} (hv : ρ[0]? = some (some (.ref b))) (h : Wp (E ρ) st fun x s => ∃ m : Int, x = .int m ∧ 0 < m ∧ m < 1000000 ∧ BagAt b s ∧ ∀ (k : Int) s', 0 ≤ k → k < m → Bg b s s' → Q (.int k) s') :
    Wp (eCB (mCall 2 F_tk) (aCons (eVar 0) (aCons E aNil)) ρ) st Q := by
  refine wCB (wCons (wVar hv (wCons (h.mono fun x s ⟨m, e, h0, h1, hb, q⟩ => wNil ?_))))
  subst e
  exact tk_w hb h0 h1 fun k o k0 k1 ho => q k _ k0 k1 (Bg.set0 ho)
theorem takeC_w {m : Int} (hv : ρ[0]? = some (some (.ref b))) (hb : BagAt b st) (h0 : 0 < m) (h1 : m < 1000000) (q : ∀ (k : Int) s', 0 ≤ k → k < m → Bg b st s' → Q (.int k) s') :
    Wp (eCB (mCall 2 F_tk) (aCons (eVar 0) (aCons (eC (.int m)) aNil)) ρ) st Q := take_w hv (wC ⟨m, rfl, h0, h1, hb, q⟩)
theorem takeV_w {m : Int} {i : Nat} (hv : ρ[0]? = some (some (.ref b))) (hi : ρ[i]? = some (some (.int m))) (hb : BagAt b st) (h0 : 0 < m) (h1 : m < 1000000) (q : ∀ (k : Int) s', 0 ≤ k → k < m → Bg b st s' → Q (.int k) s') :
    Wp (eCB (mCall 2 F_tk) (aCons (eVar 0) (aCons (eVar i) aNil)) ρ) st Q := take_w hv (wVar hi ⟨m, rfl, h0, h1, hb, q⟩)
theorem BagAt.app (hb : BagAt b st) (g : Store) : BagAt b (st ++ g) := by
  obtain ⟨o, e, i⟩ := hb
  exact ⟨o, by rw [List.getElem?_append_left (List.getElem?_eq_some_iff.mp e).1]; exact e, i⟩
theorem Bg.new (hb : BagAt b st) (g : Store) : Bg b st (st ++ g) := (Bg.refl hb).app g
/-- one of a written list of numbers, by a draw -/
theorem menu_w {A : Ea} (xs : List Int) (hA : A ρ st = some (xs.map D.int, st)) (hv : ρ[0]? = some (some (.ref b))) (hb : BagAt b st) {m : Int} (hm : m = (xs.length : Int)) (h0 : 0 < xs.length) (h1 : xs.length < 100)
    (q : ∀ x ∈ xs, ∀ s, Bg b st s → Q (.int x) s) : Wp (eOp2 dIx (eLst A) (eCB (mCall 2 F_tk) (aCons (eVar 0) (aCons (eC (.int m)) aNil))) ρ) st Q := by
  have e1 : eLst A ρ st = some (.ref st.length, st ++ [.lst (xs.map D.int)]) := eLst_at hA (by
    rw [List.length_map]
    exact Nat.le_trans (Nat.le_of_lt h1) (by decide))
  refine wOp2 (Wp.of e1 (takeC_w hv (hb.app _) (by omega) (by omega) fun k s' k0 k1 hs => ?_))
  have hne : st.length ≠ b := by have := hb.lt; omega
  have e2 : s'[st.length]? = some (.lst (xs.map D.int)) := hs.keep hne get_app
  obtain ⟨j, rfl⟩ : ∃ j : Nat, k = j := ⟨k.toNat, by omega⟩
  have hj : j < xs.length := by omega
  refine Wp.of (a := .int xs[j]) (st' := s') ?_ (q _ (List.getElem_mem hj) _ ((Bg.new hb _).trans hb.lt hs))
  rw [lst_ix e2, atI_nat (v := .int xs[j]) (by rw [List.getElem?_map, List.getElem?_eq_getElem hj]; rfl)]
  rfl
end
/-! ### a fraction -/
def N0 : Nat := 2329089562800
theorem N0_dvd : ∀ k : Nat, k < 31 → 0 < k → N0 % k = 0 := by decide
def b_pt : Sx := (sSeq (sAsg (eOp2 dAdd (eC (.int 1)) (eCB (mCall 2 F_tk) (aCons (eVar 0) (aCons (eOp2 dIx (eLst (aCons (eC (.int 1)) (aCons (eC (.int 4)) (aCons (eC (.int 30)) aNil)))) (eCB (mCall 2 F_tk) (aCons (eVar 0) (aCons (eC (.int 3)) aNil)))) aNil)))) (xName 1))
  (sSeq (sAsg (eOp2 dIx (eLst (aCons (eC (.int 3)) (aCons (eC (.int 40)) (aCons (eC (.int 2000)) aNil)))) (eCB (mCall 2 F_tk) (aCons (eVar 0) (aCons (eC (.int 3)) aNil)))) (xName 2))
  (sRet (eCB (mCall 2 F_low) (aCons (eOp2 dSub (eCB (mCall 2 F_tk) (aCons (eVar 0) (aCons (eOp2 dAdd (eOp2 dMul (eC (.int 2)) (eVar 2)) (eC (.int 1))) aNil))) (eVar 2)) (aCons (eVar 1) aNil))))))
def F_pt : List D → M D := gcF (defX 3 b_pt)
theorem part_gd {t : Int} {n : Nat} (h0 : 0 < n) (h1 : n ≤ 30) (ht : t.natAbs ≤ 2000) : Gd N0 2000 (Rat.divInt t n) := by
  have hd := N0_dvd n (by omega) h0
  obtain ⟨c, hc⟩ := Nat.dvd_of_mod_eq_zero hd
  have hc0 : 0 < c := by
    rcases Nat.eq_zero_or_pos c with z | z
    · subst z
      simp [N0] at hc
    · exact z
  have g : Gd 1 2000 (t : Rat) := Gd.int' (by decide) ht
  have g2 := (g.divN n h0).mulN c hc0
  rw [Nat.one_mul, ← hc] at g2
  rw [Rat.divInt_eq_div]
  exact g2
theorem pt_w {st : Store} {b : Nat} {Q : D → Store → Prop} (hb : BagAt b st) (q : ∀ t o, Gd N0 2000 t → IsBag o → Q (fr t) (st.set b o)) : Wp (F_pt [.ref b]) st Q := by
  refine wGcF (b := b) (wDefX rfl (wSeq (wSet (wOp2 (wC (take_w rfl (menu_w [1, 4, 30] rfl rfl hb rfl (by decide) (by decide) fun m hm s hs => ?_)))))))
  have hb1 := hs.bag hb.lt
  have m30 : 0 < m ∧ m ≤ 30 := by
    simp at hm
    omega
  refine ⟨m, rfl, m30.1, by omega, hb1, fun k s2 k0 k1 hs2 => ?_⟩
  have B2 := hs.trans hb.lt hs2
  have hb2 := B2.bag hb.lt
  refine Wp.ret (wSeq (wSet (menu_w [3, 40, 2000] rfl rfl hb2 rfl (by decide) (by decide) fun w hw s3 hs3 => ?_)))
  have B3 := B2.trans hb.lt hs3
  have hb3 := B3.bag hb.lt
  have w2 : 0 < w ∧ w ≤ 2000 := by
    simp at hw
    omega
  have c1 : CMulW 2 w := (show Bt 2 2 by unfold Bt; decide).mulW (n := 11) (show w.natAbs < 2 ^ 11 by
    have : (2 : Nat) ^ 11 = 2048 := by decide
    omega) (by decide)
  refine wRet (wCB (wCons (wOp2 (take_w rfl (wOp2 (wOp2 (wC (wVar rfl (Wp.of (dMul_int c1 _) (wC (Wp.of (dAdd_int _) ⟨2 * w + 1, rfl, by omega, by omega, hb3, fun j s4 j0 j1 hs4 => ?_⟩)))))))))))
  refine wVar rfl (Wp.of (dSub_int _) (wCons (wVar rfl (wNil ?_))))
  have B4 := B3.trans hb.lt hs4
  obtain ⟨n, hn⟩ : ∃ n : Nat, 1 + k = n := ⟨(1 + k).toNat, by omega⟩
  have e := low_eq (t := j - w) (b := 1 + k) s4 (by omega) (Bt.mono (m := 5) (show (1 + k).natAbs < 2 ^ 5 by
    have : (2 : Nat) ^ 5 = 32 := by decide
    omega) (by decide))
  refine Wp.of e ⟨_, rfl, fr_low _ _, B4, fun o ho => q _ o ?_ ho⟩
  rw [hn]
  exact part_gd (by omega) (by omega) (by omega)
/-! ### blocks -/
structure Blk where
  name : Str
  long : Int
  heavy : Int
def dBlk (r : Blk) : D := .tup [.str r.name, .int r.long, .int r.heavy]
def dBlks (bs : List Blk) : List D := bs.map dBlk
def names7 : List Str := ["ann", "bo", "cy", "dee", "eli", "fay", "gus"]
/-- so long, so heavy at most -/
def BlkOk (L W : Int) (r : Blk) : Prop := 1 ≤ r.long ∧ r.long ≤ L ∧ 1 ≤ r.heavy ∧ r.heavy ≤ W
structure BlksOk (L W : Int) (most : Nat) (bs : List Blk) : Prop where
  names : bs.map Blk.name = names7.take bs.length
  ok : ∀ r ∈ bs, BlkOk L W r
  l0 : 0 < bs.length
  l1 : bs.length ≤ most
def menuE (a b c : Int) : Ev := eOp2 dIx (eLst (aCons (eC (.int a)) (aCons (eC (.int b)) (aCons (eC (.int c)) aNil)))) (eCB (mCall 2 F_tk) (aCons (eVar 0) (aCons (eC (.int 3)) aNil)))
def bBl (a b c d e f : Int) : Sx := (sSeq (sAsg (menuE a b c) (xName 4))
  (sDrop (eBM dApp (eVar 2) (aCons (eTup (aCons (eVar 3) (aCons (eOp2 dAdd (eC (.int 1)) (eCB (mCall 2 F_tk) (aCons (eVar 0) (aCons (eVar 4) aNil)))) (aCons (eOp2 dAdd (eC (.int 1)) (eCB (mCall 2 F_tk) (aCons (eVar 0) (aCons (menuE d e f) aNil)))) aNil)))) aNil))))
def b_bl (a b c d e f : Int) : Sx := (sSeq (sAsg (eLst aNil) (xName 2))
  (sSeq (sFor (iSeq (eSl (eLst (aCons (eC (.str "ann")) (aCons (eC (.str "bo")) (aCons (eC (.str "cy")) (aCons (eC (.str "dee")) (aCons (eC (.str "eli")) (aCons (eC (.str "fay")) (aCons (eC (.str "gus")) aNil)))))))) oNone (oSome (eOp2 dAdd (eC (.int 1)) (eCB (mCall 2 F_tk) (aCons (eVar 0) (aCons (eVar 1) aNil))))))) (xName 3) (bBl a b c d e f))
  (sRet (eCB bTuple (aCons (eVar 2) aNil)))))
def F_bl (a b c d e f : Int) : List D → M D := gcF (defX 5 (b_bl a b c d e f))
/-- drawing an append -/
theorem app_w {o : Ev} {A : Ea} {ρ : Env1} {st : Store} {n : Nat} {xs : List D} {Q : D → Store → Prop} (ho : o ρ st = some (.ref n, st)) (hn : st[n]? = some (.lst xs)) (ha : Wp (A ρ) st fun ys s => ∃ y, ys = [y] ∧ s[n]? = some (.lst xs) ∧ xs.length < sizeLine ∧ Q .non (s.set n (.lst (xs ++ [y])))) : Wp (eBM dApp o A ρ) st Q := by
  obtain ⟨ys, s, e, y, rfl, h1, h2, q⟩ := ha
  exact Wp.of (app_at ho hn e h1 h2) q
theorem dBlks_low (bs : List Blk) : D.lows 0 (dBlks bs) = true := by
  induction bs with
  | nil => rfl
  | cons x z ih =>
    show (D.low 0 (dBlk x) && D.lows 0 (dBlks z)) = true
    rw [ih]; rfl
theorem setSelf {s : Store} {n : Nat} {o : MO} (h : n < s.length) : (s.set n o)[n]? = some o := List.getElem?_set_self h
theorem bl_w {a1 a2 a3 d1 d2 d3 L W : Int} {st : Store} {b : Nat} {most : Nat} {Q : D → Store → Prop} (hb : BagAt b st) (m0 : 0 < most) (m7 : most ≤ 7) (ha : ∀ x ∈ [a1, a2, a3], 0 < x ∧ x ≤ L) (hd : ∀ x ∈ [d1, d2, d3], 0 < x ∧ x ≤ W) (hL : L < 100000) (hW : W < 100000)
    (q : ∀ bs o, BlksOk L W most bs → IsBag o → Q (.tup (dBlks bs)) (st.set b o)) : Wp (F_bl a1 a2 a3 d1 d2 d3 [.ref b, .int (most : Int)]) st Q := by
  have hlt := hb.lt
  refine wGcF (b := b) (wDefX rfl (wSeq (wSet (Wp.of (eLst_at aNil_at (by decide)) ?_))))
  refine wSeq (wFor ?_)
  have hb1 : BagAt b (st ++ [MO.lst []]) := hb.app _
  have eN : eLst (aCons (eC (.str "ann")) (aCons (eC (.str "bo")) (aCons (eC (.str "cy")) (aCons (eC (.str "dee")) (aCons (eC (.str "eli")) (aCons (eC (.str "fay")) (aCons (eC (.str "gus")) aNil))))))) [some (.ref b), some (.int (most : Int)), some (.ref st.length), none, none] (st ++ [MO.lst []]) = some (.ref (st ++ [MO.lst []]).length, st ++ [MO.lst []] ++ [MO.lst (names7.map D.str)]) := eLst_at rfl (by decide)
  refine Wp.bnd (Wp.bnd (Wp.of eN (Wp.bnd (Wp.ret (Wp.bnd (Wp.bnd (wOp2 (wC (takeV_w rfl rfl (hb1.app _) (by omega) (by omega) fun k s1 k0 k1 hs1 => ?_)))))))))
  obtain ⟨j, rfl⟩ : ∃ j : Nat, k = j := ⟨k.toNat, by omega⟩
  have B1 : Bg b st s1 := ((Bg.new hb _).trans hlt (Bg.new hb1 _)).trans hlt hs1
  have hbs1 := B1.bag hlt
  have n1 : s1[(st ++ [MO.lst []]).length]? = some (.lst (names7.map D.str)) := hs1.keep (by simp; omega) get_app
  have n0 : s1[st.length]? = some (.lst []) := hs1.keep (by omega) (by
    rw [List.getElem?_append_left (by simp)]; exact get_app)
  have hl1 : st.length + 2 ≤ s1.length := by
    have := hs1.len
    simp at this
    omega
  refine Wp.of (dAdd_int _) (Wp.ret ?_)
  have eS : dSl none (some (1 + (j : Int))) (.ref (st ++ [MO.lst []]).length) s1 = some (.ref s1.length, s1 ++ [MO.lst ((names7.take (1 + j)).map D.str)]) := by
    show (match s1[(st ++ [MO.lst []]).length]? with
      | some (.lst xs) => mNew (.lst (cutD xs none (some (1 + (j : Int))))) s1
      | _ => none) = _
    rw [n1, show (1 + (j : Int)) = ((1 + j : Nat) : Int) by omega]
    simp only [cut_take, ← List.map_take]
    rfl
  refine Wp.of eS ?_
  have hj : 1 + j ≤ 7 := by omega
  have e7 : names7.length = 7 := rfl
  have src : mSrc (.ref s1.length) (s1 ++ [MO.lst ((names7.take (1 + j)).map D.str)]) = some (⟨(names7.take (1 + j)).map D.str, some s1.length⟩, s1 ++ [MO.lst ((names7.take (1 + j)).map D.str)]) := by
    show (match (s1 ++ [MO.lst ((names7.take (1 + j)).map D.str)])[s1.length]? with
      | some (.lst xs) => some ((⟨xs, some s1.length⟩ : Src), s1 ++ [MO.lst ((names7.take (1 + j)).map D.str)])
      | _ => none) = _
    rw [get_app]
  refine Wp.of src ?_
  have hne0 : st.length ≠ b := by omega
  have hneS : s1.length ≠ b := by omega
  refine wForL (fun xs ρ s => ∃ (bs : List Blk) (o3 o4 : Option D), ρ = [some (.ref b), some (.int (most : Int)), some (.ref st.length), o3, o4] ∧ xs = ((names7.take (1 + j)).drop bs.length).map D.str ∧ bs.length ≤ 1 + j ∧ bs.map Blk.name = names7.take bs.length ∧ (∀ r ∈ bs, BlkOk L W r) ∧
      s[st.length]? = some (.lst (dBlks bs)) ∧ s[s1.length]? = some (.lst ((names7.take (1 + j)).map D.str)) ∧ Bg b st s) ?_ ?_ ?_ _ _ _ ?_
  · rintro xs ρ s ⟨bs, o3, o4, rfl, rfl, _, _, _, _, hs, _⟩
    exact Src.ok_some hs
  · rintro ρ s ⟨bs, o3, o4, rfl, hx, hl, hn, hok, h0, hs, B⟩
    have hl2 : bs.length = 1 + j := by
      have := congrArg List.length hx
      simp [e7] at this
      omega
    refine wRet (wCB (wCons (wVar rfl (wNil ?_))))
    have eT : bTuple [.ref st.length] s = some (.tup (dBlks bs), s) := by
      show (match s[st.length]? with
        | some (.lst xs) => some (D.tup xs, s)
        | _ => none) = _
      rw [h0]
    exact Wp.of eT ⟨_, rfl, dBlks_low bs, B, fun o ho => q bs o ⟨hn, hok, by omega, by omega⟩ ho⟩
  · rintro x xs ρ s ⟨bs, o3, o4, rfl, hx, hl, hn, hok, h0, hs, B⟩
    have hlt2 : bs.length < 1 + j := by
      have := congrArg List.length hx
      simp [e7] at this
      omega
    have hnm : names7[bs.length]? = some names7[bs.length] := List.getElem?_eq_getElem (by omega)
    generalize names7[bs.length] = nm at hnm
    have hx2 : x = .str nm ∧ xs = ((names7.take (1 + j)).drop (bs.length + 1)).map D.str := by
      have e1 : (names7.take (1 + j)).drop bs.length = nm :: (names7.take (1 + j)).drop (bs.length + 1) := by
        have hlen : bs.length < (names7.take (1 + j)).length := by simp [e7]; omega
        rw [List.drop_eq_getElem_cons hlen]
        congr 1
        rw [List.getElem_take]
        have := List.getElem?_eq_some_iff.mp hnm
        exact this.2
      rw [e1, List.map_cons] at hx
      injection hx with h1 h2
      exact ⟨h1, h2⟩
    obtain ⟨rfl, rfl⟩ := hx2
    have hbS := B.bag hlt
    refine Wp.ret (wSeq (wSet (menu_w [a1, a2, a3] rfl rfl hbS rfl (by simp) (by simp) fun w hw s2 hs2 => ?_)))
    have w0 := ha w hw
    have B2 := B.trans hlt hs2
    have hb2 := B2.bag hlt
    refine wDrop (app_w (n := st.length) (xs := dBlks bs) (eVar_at rfl) (hs2.keep hne0 h0) ?_)
    refine wCons (wTup (wCons (wVar rfl (wCons (wOp2 (wC (takeV_w rfl rfl hb2 w0.1 (by omega) fun k2 s3 k20 k21 hs3 => Wp.of (dAdd_int _) ?_)))))))
    have B3 := B2.trans hlt hs3
    have hb3 := B3.bag hlt
    refine wCons (wOp2 (wC (take_w rfl (menu_w [d1, d2, d3] rfl rfl hb3 rfl (by simp) (by simp) fun v hv s4 hs4 => ?_))))
    have v0 := hd v hv
    have B4 := B3.trans hlt hs4
    have hb4 := B4.bag hlt
    refine ⟨v, rfl, v0.1, by omega, hb4, fun k3 s5 k30 k31 hs5 => Wp.of (dAdd_int _) (wNil ⟨by show 3 ≤ sizeLine; decide, wNil ?_⟩)⟩
    have B5 := B4.trans hlt hs5
    have k0' : s5[st.length]? = some (.lst (dBlks bs)) := hs5.keep hne0 (hs4.keep hne0 (hs3.keep hne0 (hs2.keep hne0 h0)))
    have kS' : s5[s1.length]? = some (.lst ((names7.take (1 + j)).map D.str)) := hs5.keep hneS (hs4.keep hneS (hs3.keep hneS (hs2.keep hneS hs)))
    refine ⟨_, rfl, k0', ?_, ?_⟩
    · unfold dBlks
      rw [List.length_map]
      exact Nat.lt_of_lt_of_le (show bs.length < 8 by omega) (by decide)
    · refine ⟨bs ++ [⟨nm, 1 + k2, 1 + k3⟩], some (.str nm), some (.int w), rfl, by rw [List.length_append]; rfl, by rw [List.length_append]; simp; omega, ?_, ?_, ?_, ?_, B5.set (Nat.le_refl _)⟩
      · rw [List.map_append, hn, List.length_append, List.length_singleton, List.take_add_one, hnm]
        rfl
      · intro r hr
        rcases List.mem_append.mp hr with hr | hr
        · exact hok r hr
        · rw [List.mem_singleton] at hr
          subst hr
          exact ⟨by show 1 ≤ 1 + k2; omega, by show 1 + k2 ≤ L; omega, by show 1 ≤ 1 + k3; omega, by show 1 + k3 ≤ W; omega⟩
      · rw [setSelf (List.getElem?_eq_some_iff.mp k0').1]
        unfold dBlks
        rw [List.map_append]
        rfl
      · rw [List.getElem?_set_ne (by omega)]
        exact kS'
  · refine ⟨[], none, none, rfl, by simp, by simp, rfl, (fun r hr => by simp at hr), ?_, get_app, ?_⟩
    · rw [List.getElem?_append_left (by omega)]
      exact n0
    · exact B1.app _
end Dl
end
set_option linter.all false
set_option autoImplicit false
set_option maxRecDepth 100000
/-! M10: a mixed order, a place between two, the plain law of drawn piles -/
noncomputable section
namespace Dl
open PySem PySem.Spec PyProof.Rows L2
/-! ### a mixed order -/
def bMx : Sx := (sDrop (eBM dIns (eVar 2) (aCons (eCB (mCall 2 F_tk) (aCons (eVar 0) (aCons (eOp2 dAdd (eCB bLen (aCons (eVar 2) aNil)) (eC (.int 1))) aNil))) (aCons (eVar 3) aNil))))
def b_mx : Sx := (sSeq (sAsg (eLst aNil) (xName 2))
  (sSeq (sFor (iSeq (eVar 1)) (xName 3) bMx)
  (sRet (eVar 2))))
def F_mx : List D → M D := gcL (defX 4 b_mx)
theorem ins_at {o : Ev} {A : Ea} {ρ : Env1} {st st1 : Store} {n j : Nat} {xs : List D} {y : D} (ho : o ρ st = some (.ref n, st)) (hn : st[n]? = some (.lst xs)) (ha : A ρ st = some ([.int (j : Int), y], st1)) (hn1 : st1[n]? = some (.lst xs)) (hl : xs.length < 100) (hj : j < 100) :
    eBM dIns o A ρ st = some (.non, st1.set n (.lst (xs.take j ++ [y] ++ xs.drop j))) := by
  have h1 : xs.length < sizeLine ∧ (0 : Int) ≤ (j : Int) ∧ (j : Int) < 2 ^ 63 := ⟨Nat.lt_of_lt_of_le hl (by decide), by omega, by omega⟩
  simp only [eBM, M.bnd, ho, mIsL, hn, ha, dIns, hn1, if_pos h1, Int.toNat_natCast]
theorem ins_perm {α : Type} (xs : List α) (j : Nat) (y : α) : (xs.take j ++ [y] ++ xs.drop j).Perm (xs ++ [y]) := by
  have h1 : (xs.take j ++ [y] ++ xs.drop j).Perm (y :: (xs.take j ++ xs.drop j)) := by
    rw [List.append_assoc]
    exact List.perm_middle
  rw [List.take_append_drop] at h1
  exact h1.trans (List.perm_append_singleton y xs).symm
theorem mx_w {α : Type} (f : α → D) {st : Store} {b : Nat} {as : List α} {Q : D → Store → Prop} (hb : BagAt b st) (hl : as.length ≤ 20) (hlow : ∀ x, (f x).low 0 = true)
    (q : ∀ (as' : List α) o, as'.Perm as → IsBag o → Q (.ref st.length) (st.set b o ++ [.lst (as'.map f)])) : Wp (F_mx [.ref b, .tup (as.map f)]) st Q := by
  have hlt := hb.lt
  have lows : ∀ l : List α, D.lows 0 (l.map f) = true := by
    intro l
    induction l with
    | nil => rfl
    | cons x l ih =>
      show (D.low 0 (f x) && D.lows 0 (l.map f)) = true
      rw [hlow, ih]; rfl
  refine wGcL (b := b) (wDefX rfl (wSeq (wSet (Wp.of (eLst_at aNil_at (by decide)) ?_))))
  refine wSeq (wFor (Wp.bnd (wVar rfl (Wp.ret ?_))))
  have hb1 : BagAt b (st ++ [MO.lst []]) := hb.app _
  have hne : st.length ≠ b := by omega
  refine wForL (fun xs ρ s => ∃ (pre post acc : List α) (o3 : Option D), ρ = [some (.ref b), some (.tup (as.map f)), some (.ref st.length), o3] ∧ as = pre ++ post ∧ xs = post.map f ∧ acc.Perm pre ∧ s[st.length]? = some (.lst (acc.map f)) ∧ Bg b st s) ?_ ?_ ?_ _ _ _ ?_
  · intro xs ρ s _ n h
    cases h
  · rintro ρ s ⟨pre, post, acc, o3, rfl, he, hx, hp, hs, B⟩
    have hpost : post = [] := by
      cases post with
      | nil => rfl
      | cons _ _ => cases hx
    subst hpost
    rw [List.append_nil] at he
    subst he
    exact wRet (wVar rfl ⟨_, rfl, st.length, _, rfl, Nat.le_refl _, hs, lows acc, B, fun o ho => q acc o hp ho⟩)
  · rintro x xs ρ s ⟨pre, post, acc, o3, rfl, he, hx, hp, hs, B⟩
    cases post with
    | nil => cases hx
    | cons a post =>
      injection hx with h1 h2
      subst h1
      subst h2
      have hbs := B.bag hlt
      have hal : acc.length + (a :: post).length ≤ 20 := by
        have := congrArg List.length he
        rw [List.length_append] at this
        rw [hp.length_eq]
        omega
      rw [List.length_cons] at hal
      have lenE : eCB bLen (aCons (eVar 2) aNil) [some (.ref b), some (.tup (as.map f)), some (.ref st.length), some (f a)] s = some (.int (acc.length : Int), s) := by
        rw [eCB_at (aCons_at (eVar_at rfl) aNil_at)]
        show (match s[st.length]? with
          | some (.lst xs) => some (D.int xs.length, s)
          | some (.dk kvs) => some (D.int kvs.length, s)
          | _ => none) = _
        rw [hs]
        simp
      refine Wp.ret ?_
      have hw : Wp ((aCons (eCB (mCall 2 F_tk) (aCons (eVar 0) (aCons (eOp2 dAdd (eCB bLen (aCons (eVar 2) aNil)) (eC (.int 1))) aNil))) (aCons (eVar 3) aNil)) [some (.ref b), some (.tup (as.map f)), some (.ref st.length), some (f a)]) s fun ys s2 => ∃ j : Nat, j < 100 ∧ ys = [.int (j : Int), f a] ∧ Bg b s s2 := by
        refine wCons (take_w rfl (wOp2 (Wp.of lenE (wC (Wp.of (dAdd_int _) ⟨_, rfl, by omega, by omega, hbs, fun k s2 k0 k1 hs2 => ?_⟩)))))
        refine wCons (wVar rfl (wNil ⟨k.toNat, by omega, ?_, hs2⟩))
        rw [Int.toNat_of_nonneg k0]
      obtain ⟨ys, s2, e2, j, hj, rfl, hs2⟩ := hw
      have B2 := B.trans hlt hs2
      have hk2 := hs2.keep hne hs
      refine wDrop (Wp.of (ins_at (eVar_at rfl) hs e2 hk2 (by rw [List.length_map]; omega) hj) ?_)
      refine ⟨pre ++ [a], post, acc.take j ++ [a] ++ acc.drop j, some (f a), rfl, by rw [he]; simp, rfl, (ins_perm acc j a).trans (hp.append_right _), ?_, B2.set (Nat.le_refl _)⟩
      rw [List.getElem?_set_self (List.getElem?_eq_some_iff.mp hk2).1]
      simp
  · exact ⟨[], as, [], none, rfl, rfl, rfl, List.Perm.refl _, get_app, Bg.new hb _⟩
/-! ### between two -/
def b_btw : Sx := (sSeq (sAsg (eCB (mCall 2 F_tk) (aCons (eVar 0) (aCons (eC (.int 5)) aNil))) (xName 3))
  (sSeq (sPar 4 5 (aCons (eOp2 dMul (eOp2 dIx (eVar 1) (eC (.int 0))) (eOp2 dIx (eVar 2) (eC (.int 1)))) (aCons (eOp2 dMul (eOp2 dIx (eVar 2) (eC (.int 0))) (eOp2 dIx (eVar 1) (eC (.int 1)))) aNil)))
  (sRet (eCB (mCall 2 F_low) (aCons (eOp2 dAdd (eOp2 dMul (eVar 4) (eOp2 dSub (eC (.int 4)) (eVar 3))) (eOp2 dMul (eVar 5) (eVar 3))) (aCons (eOp2 dMul (eOp2 dMul (eC (.int 4)) (eOp2 dIx (eVar 1) (eC (.int 1)))) (eOp2 dIx (eVar 2) (eC (.int 1)))) aNil))))))
def F_btw : List D → M D := gcF (defX 6 b_btw)
def mix (lo hi : Rat) (k : Nat) : Rat := (lo * (4 - (k : Rat)) + hi * (k : Rat)) / 4
theorem mix_eq {c d e f : Int} (k : Nat) (hd : 0 < d) (hf : 0 < f) : Rat.divInt (c * f * (4 - (k : Int)) + e * d * (k : Int)) (4 * d * f) = mix (Rat.divInt c d) (Rat.divInt e f) k := by
  simp only [Rat.divInt_eq_div, mix]
  have hd0 : (d : Rat) ≠ 0 := fun h => by
    have : d = 0 := by exact_mod_cast h
    omega
  have hf0 : (f : Rat) ≠ 0 := fun h => by
    have : f = 0 := by exact_mod_cast h
    omega
  simp only [Rat.intCast_add, Rat.intCast_mul, Rat.intCast_sub]
  rw [show ((4 : Int) : Rat) = 4 from rfl, natC]
  grind
theorem btw_w {st : Store} {b : Nat} {c d e f : Int} {lo hi : Rat} {Q : D → Store → Prop} (hb : BagAt b st) (bc : Bt 2100 c) (bd : Bt 2100 d) (be : Bt 2100 e) (bf : Bt 2100 f) (d0 : 0 < d) (f0 : 0 < f) (h1 : Rat.divInt c d = lo) (h2 : Rat.divInt e f = hi)
    (q : ∀ (k : Nat) o, k ≤ 4 → IsBag o → Q (fr (mix lo hi k)) (st.set b o)) : Wp (F_btw [.ref b, .tup [.int c, .int d], .tup [.int e, .int f]]) st Q := by
  subst h1 h2
  refine wGcF (b := b) (wDefX rfl (wSeq (wSet (takeC_w rfl hb (by decide) (by decide) fun k s k0 k1 hs => ?_))))
  obtain ⟨k, rfl⟩ : ∃ j : Nat, k = j := ⟨k.toNat, by omega⟩
  have c1 : CMulW c f := bc.mulW bf (by decide)
  have c2 : CMulW e d := be.mulW bd (by decide)
  have bk : Bt 3 (k : Int) := show ((k : Int)).natAbs < 2 ^ 3 by omega
  have bk2 : Bt 3 (4 - (k : Int)) := show (4 - (k : Int)).natAbs < 2 ^ 3 by omega
  have c3 : CMulW (c * f) (4 - (k : Int)) := (bc.mul bf).mulW bk2 (by decide)
  have c4 : CMulW (e * d) (k : Int) := (be.mul bd).mulW bk (by decide)
  have b4 : Bt 3 4 := by unfold Bt; decide
  have c5 : CMulW 4 d := b4.mulW bd (by decide)
  have c6 : CMulW (4 * d) f := (b4.mul bd).mulW bf (by decide)
  have low := low_eq (t := c * f * (4 - (k : Int)) + e * d * (k : Int)) (b := 4 * d * f) s (Int.mul_pos (Int.mul_pos (by decide) d0) f0) (((b4.mul bd).mul bf).mono (by decide))
  rw [mix_eq k d0 f0] at low
  have x0 : ∀ (u v : Int) (s : Store), dIx (.tup [.int u, .int v]) (.int 0) s = some (.int u, s) := fun _ _ _ => rfl
  have x1 : ∀ (u v : Int) (s : Store), dIx (.tup [.int u, .int v]) (.int 1) s = some (.int v, s) := fun _ _ _ => rfl
  refine Wp.of (a := .rt (fr (mix (Rat.divInt c d) (Rat.divInt e f) k))) (st' := s) ?_ ⟨_, rfl, fr_low _ _, hs, fun o ho => q k o (by omega) ho⟩
  show (sSeq (sPar 4 5 (aCons (eOp2 dMul (eOp2 dIx (eVar 1) (eC (.int 0))) (eOp2 dIx (eVar 2) (eC (.int 1)))) (aCons (eOp2 dMul (eOp2 dIx (eVar 2) (eC (.int 0))) (eOp2 dIx (eVar 1) (eC (.int 1)))) aNil)))
    (sRet (eCB (mCall 2 F_low) (aCons (eOp2 dAdd (eOp2 dMul (eVar 4) (eOp2 dSub (eC (.int 4)) (eVar 3))) (eOp2 dMul (eVar 5) (eVar 3))) (aCons (eOp2 dMul (eOp2 dMul (eC (.int 4)) (eOp2 dIx (eVar 1) (eC (.int 1)))) (eOp2 dIx (eVar 2) (eC (.int 1)))) aNil)))))
    [some (.ref b), some (.tup [.int c, .int d]), some (.tup [.int e, .int f]), some (.int k), none, none] s = _
  simp only [sSeq, sPar, sRet, eCB, mCall, aCons, aNil, eOp2, eVar, eC, M.bnd, M.ret, List.getElem?_cons_zero, List.getElem?_cons_succ, List.length_cons, List.length_nil, if_true, Nat.reduceAdd, x0, x1, dMul_int c1, dMul_int c2, List.set_cons_zero, List.set_cons_succ, dSub_int, dMul_int c3, dMul_int c4, dMul_int c5, dMul_int c6, dAdd_int, low]
theorem mix_in {lo hi : Rat} {k : Nat} (h : lo ≤ hi) (hk : k ≤ 4) : lo ≤ mix lo hi k ∧ mix lo hi k ≤ hi := by
  unfold mix
  obtain h | h | h | h | h : k = 0 ∨ k = 1 ∨ k = 2 ∨ k = 3 ∨ k = 4 := by omega
  all_goals
    subst h
    simp only [show ((0 : Nat) : Rat) = 0 from rfl, show ((1 : Nat) : Rat) = 1 from rfl, show ((2 : Nat) : Rat) = 2 from rfl, show ((3 : Nat) : Rat) = 3 from rfl, show ((4 : Nat) : Rat) = 4 from rfl]
    constructor <;> grind
theorem Gd.mix {N M M' : Nat} {lo hi : Rat} (h : Gd N M lo) (h' : Gd N M' hi) {k : Nat} (hk : k ≤ 4) : Gd (N * 4) (4 * M + 4 * M') (mix lo hi k) := by
  have e : (4 - (k : Rat)) = ((4 - k : Nat) : Rat) := by
    have h4 : ((4 - k : Nat) : Rat) + (k : Rat) = ((4 : Nat) : Rat) := by
      rw [← Rat.natCast_add]; congr 1; omega
    rw [show ((4 : Nat) : Rat) = 4 from rfl] at h4
    grind
  have h1 := ((h.mulI (4 - k)).mono (Nat.mul_le_mul_left M (show 4 - k ≤ 4 by omega))).add ((h'.mulI k).mono (Nat.mul_le_mul_left M' hk))
  have h2 := h1.divN 4 (by decide)
  unfold Dl.mix
  rw [e, Nat.mul_comm 4 M, Nat.mul_comm 4 M']
  exact h2
end Dl
end
set_option linter.all false
set_option autoImplicit false
set_option maxRecDepth 100000
/-! M11: the plain law of drawn piles: they stand -/
noncomputable section
namespace Dl
open PySem PySem.Spec PyProof.Rows L2
theorem natCast_ne {w : Int} (h : 0 < w) : (w : Rat) ≠ 0 := fun e => by
  have : w = 0 := by exact_mod_cast e
  omega
theorem natCast_pos' {w : Int} (h : 0 < w) : (0 : Rat) < (w : Rat) := Rat.intCast_pos.mpr h
/-- the sum of a lot by its middle -/
theorem mid_tot {p : Pile} (h : 0 < wt p) : mid p * (wt p : Rat) = tot 0 p := Rat.div_mul_cancel (natCast_ne h)
theorem tot_cons (r : Row) (q : Pile) : tot 0 (r :: q) = r.ctr + tot 0 q := by
  show tot (0 + r.ctr) q = _
  rw [tot_split q, Rat.zero_add]
theorem wt_cons (r : Row) (q : Pile) : wt (r :: q) = r.heavy + wt q := by
  simp [wt]
/-- weights above nought -/
def Hv (p : Pile) : Prop := ∀ r ∈ p, 0 < r.heavy ∧ 0 < r.long
theorem Hv.pos {p : Pile} (h : Hv p) (h0 : p ≠ []) : 0 < wt p := by
  have key : ∀ p : Pile, Hv p → 0 ≤ wt p := by
    intro p
    induction p with
    | nil => intro _; exact Int.le_refl 0
    | cons r p ih =>
      intro h
      rw [wt_cons]
      have := (h r (by simp)).1
      have := ih fun x hx => h x (by simp [hx])
      omega
  cases p with
  | nil => exact absurd rfl h0
  | cons r p =>
    rw [wt_cons]
    have := (h r (by simp)).1
    have := key p fun x hx => h x (by simp [hx])
    omega
theorem mid_one (r : Row) (h : 0 < r.heavy) : mid [r] = r.at_ + (r.long : Rat) / 2 := by
  have h1 : mid [r] * (r.heavy : Rat) = r.ctr := by
    have := mid_tot (p := [r]) (by rw [wt_cons]; simp [wt]; exact h)
    rw [wt_cons, tot_cons] at this
    simpa [wt, tot, Rat.add_zero] using this
  unfold Row.ctr at h1
  have h2 := natCast_ne h
  grind
/-- the middle of a lot lies between the middle of its lowest and the middle of the others -/
theorem mid_cons {r : Row} {q : Pile} (hr : 0 < r.heavy) (hq : 0 < wt q) {lo hi : Rat} (h1 : lo ≤ r.at_ + (r.long : Rat) / 2) (h2 : r.at_ + (r.long : Rat) / 2 ≤ hi) (h3 : lo ≤ mid q) (h4 : mid q ≤ hi) : lo ≤ mid (r :: q) ∧ mid (r :: q) ≤ hi := by
  have e : mid (r :: q) * ((r.heavy : Rat) + (wt q : Rat)) = (r.at_ + (r.long : Rat) / 2) * (r.heavy : Rat) + mid q * (wt q : Rat) := by
    have := mid_tot (p := r :: q) (by rw [wt_cons]; omega)
    rw [wt_cons, tot_cons, Rat.intCast_add] at this
    rw [this, mid_tot hq]; rfl
  have p1 := natCast_pos' hr
  have p2 := natCast_pos' hq
  have p3 : (0 : Rat) < (r.heavy : Rat) + (wt q : Rat) := by grind
  have a1 := Rat.mul_le_mul_of_nonneg_right h1 (Rat.le_of_lt p1)
  have a2 := Rat.mul_le_mul_of_nonneg_right h2 (Rat.le_of_lt p1)
  have a3 := Rat.mul_le_mul_of_nonneg_right h3 (Rat.le_of_lt p2)
  have a4 := Rat.mul_le_mul_of_nonneg_right h4 (Rat.le_of_lt p2)
  constructor
  · apply Rat.le_of_mul_le_mul_right (c := (r.heavy : Rat) + (wt q : Rat)) _ p3
    rw [e]; grind
  · apply Rat.le_of_mul_le_mul_right (c := (r.heavy : Rat) + (wt q : Rat)) _ p3
    rw [e]; grind
/-- a pile stands, but for the ground -/
def Std : Pile → Prop
  | [] => True
  | r :: q => r.at_ ≤ mid (r :: q) ∧ mid (r :: q) ≤ r.rgt ∧ (q ≠ [] → r.at_ ≤ mid q ∧ mid q ≤ r.rgt) ∧ Std q
theorem Std.push {r : Row} {q : Pile} (hq : Std q) (hv : Hv (r :: q)) (h : q ≠ [] → r.at_ ≤ mid q ∧ mid q ≤ r.rgt) : Std (r :: q) := by
  have hr := hv r (by simp)
  have hl := natCast_pos' hr.2
  have c1 : r.at_ ≤ r.at_ + (r.long : Rat) / 2 := by grind
  have c2 : r.at_ + (r.long : Rat) / 2 ≤ r.rgt := by unfold Row.rgt; grind
  by_cases h0 : q = []
  · subst h0
    refine ⟨?_, ?_, h, trivial⟩
    · rw [mid_one r hr.1]; exact c1
    · rw [mid_one r hr.1]; exact c2
  · have hh := h h0
    have hw := Hv.pos (p := q) (fun x hx => hv x (by simp [hx])) h0
    have := mid_cons hr.1 hw c1 c2 hh.1 hh.2
    exact ⟨this.1, this.2, h, hq⟩
theorem side_none {lo hi m : Rat} : side lo hi m = none ↔ lo ≤ m ∧ m ≤ hi := by
  unfold side
  constructor
  · intro h
    split at h
    · cases h
    · split at h
      · cases h
      · split at h
        · cases h
        · constructor <;> grind
  · intro ⟨h1, h2⟩
    rw [if_neg (by grind), if_neg (by grind), if_neg (by grind)]
/-- every joint holds -/
def Holds_ : Option Row → Pile → Prop
  | _, [] => True
  | b, r :: q => lowR b r ≤ mid (r :: q) ∧ mid (r :: q) ≤ highR b r ∧ Holds_ (some r) q
theorem jn_nil : ∀ (p : Pile) (k : Nat) (b : Option Row), jn k b p = [] ↔ Holds_ b p
  | [], _, _ => ⟨fun _ => trivial, fun _ => rfl⟩
  | r :: q, k, b => by
    have ih := jn_nil q (k + 1) (some r)
    show (match side (lowR b r) (highR b r) (mid (r :: q)) with
      | some s => [(k, s)]
      | none => []) ++ jn (k + 1) (some r) q = [] ↔ _
    rw [List.append_eq_nil_iff, ih]
    show _ ↔ lowR b r ≤ mid (r :: q) ∧ mid (r :: q) ≤ highR b r ∧ Holds_ (some r) q
    have hs := @side_none (lowR b r) (highR b r) (mid (r :: q))
    cases hh : side (lowR b r) (highR b r) (mid (r :: q)) with
    | none => rw [hh] at hs; have := hs.mp rfl; simp [this]
    | some s =>
      rw [hh] at hs
      constructor
      · rintro ⟨h, _⟩; cases h
      · rintro ⟨h1, h2, _⟩
        have := hs.mpr ⟨h1, h2⟩
        cases this
theorem joints_nil {p : Pile} : joints p = [] ↔ Holds_ none p := jn_nil p 0 none
theorem Std.holds : ∀ {q : Pile} {r : Row}, Std (r :: q) → Holds_ (some r) q
  | [], _, _ => trivial
  | s :: q, r, h => by
    obtain ⟨_, _, h3, h4⟩ := h
    obtain ⟨h5, h6⟩ := h3 (by simp)
    refine ⟨?_, ?_, Std.holds h4⟩
    · show lowR (some r) s ≤ _
      have := h4.1
      simp only [lowR]
      first | (unfold maxR; split <;> grind) | grind [maxR]
    · have := h4.2.1
      simp only [highR]
      first | (unfold minR; split <;> grind) | grind [minR]
/-- shifted -/
def Row.sh (t : Rat) (r : Row) : Row := ⟨r.name, r.long, r.heavy, r.at_ + t⟩
def shift (t : Rat) (p : Pile) : Pile := p.map (Row.sh t)
theorem wt_shift (t : Rat) (p : Pile) : wt (shift t p) = wt p := by
  simp only [wt, shift, List.map_map]
  rfl
theorem tot_shift (t : Rat) : ∀ p : Pile, tot 0 (shift t p) = tot 0 p + t * (wt p : Rat)
  | [] => by
    show (0 : Rat) = 0 + t * ((0 : Int) : Rat)
    simp [Rat.add_zero]
  | r :: q => by
    show tot 0 (r.sh t :: shift t q) = _
    rw [tot_cons, tot_cons, tot_shift t q, wt_cons, Rat.intCast_add]
    simp only [Row.ctr, Row.sh]
    grind
theorem mid_shift {t : Rat} {p : Pile} (h : 0 < wt p) : mid (shift t p) = mid p + t := by
  unfold mid
  rw [wt_shift, tot_shift]
  have := natCast_ne h
  grind
theorem Hv.shift {p : Pile} (h : Hv p) (t : Rat) : Hv (Dl.shift t p) := by
  intro r hr
  obtain ⟨x, hx, rfl⟩ := List.mem_map.mp hr
  exact h x hx
theorem Std.shift {t : Rat} : ∀ {p : Pile}, Hv p → Std p → Std (Dl.shift t p)
  | [], _, _ => trivial
  | r :: q, hv, ⟨h1, h2, h3, h4⟩ => by
    have e := mid_shift (t := t) (hv.pos (by simp))
    have hq : Hv q := fun x hx => hv x (by simp [hx])
    refine ⟨?_, ?_, ?_, Std.shift hq h4⟩
    · show r.at_ + t ≤ mid (Dl.shift t (r :: q))
      rw [e]; grind
    · show mid (Dl.shift t (r :: q)) ≤ r.at_ + t + (r.long : Rat)
      rw [e]; unfold Row.rgt at h2; grind
    · intro h0
      have h0' : q ≠ [] := fun e => h0 (by subst e; rfl)
      have := h3 h0'
      have e2 := mid_shift (t := t) (hq.pos h0')
      constructor
      · show r.at_ + t ≤ mid (Dl.shift t q)
        rw [e2]; grind
      · show mid (Dl.shift t q) ≤ r.at_ + t + (r.long : Rat)
        rw [e2]; unfold Row.rgt at this; grind
theorem Std.ground {r : Row} {q : Pile} {t : Rat} (hv : Hv (r :: q)) (h : Std (r :: q)) (h1 : -r.rgt ≤ t) (h2 : t ≤ -mid (r :: q)) : joints (Dl.shift t (r :: q)) = [] := by
  rw [joints_nil]
  have e := mid_shift (t := t) (hv.pos (by simp))
  have hs := Std.shift (t := t) hv h
  refine ⟨?_, ?_, hs.holds⟩
  · show lowR none (r.sh t) ≤ mid (Dl.shift t (r :: q))
    rw [e]
    show r.at_ + t ≤ _
    have := h.1
    grind
  · show mid (Dl.shift t (r :: q)) ≤ highR none (r.sh t)
    rw [e]
    have := h.2.1
    have e2 : (r.sh t).rgt = r.rgt + t := by
      unfold Row.rgt Row.sh; grind
    simp only [highR, e2]
    first | (unfold minR; split <;> grind) | grind [minR]
end Dl
end
set_option linter.all false
set_option autoImplicit false
set_option maxRecDepth 100000
/-! M12: drawn piles -/
noncomputable section
namespace Dl
open PySem PySem.Spec PyProof.Rows L2
def Row.blk (r : Row) : Blk := ⟨r.name, r.long, r.heavy⟩
def Blk.row (x : Blk) (t : Rat) : Row := ⟨x.name, x.long, x.heavy, t⟩
/-- the sizes of the places as a pile grows -/
structure Gds (p : Pile) (N M : Nat) : Prop where
  pos : 0 < N
  n9 : N < 2 ^ (60 + 40 * p.length)
  m9 : M < 2 ^ (20 + 40 * p.length)
  rows : ∀ r ∈ p, RowOk N M r
theorem Gds.ok {p : Pile} {N M : Nat} (h : Gds p N M) (hl : p.length ≤ 8) : RowsOk p N M :=
  ⟨Nat.lt_of_lt_of_le h.n9 (Nat.pow_le_pow_right (by decide) (by omega)), Nat.lt_of_lt_of_le h.m9 (Nat.pow_le_pow_right (by decide) (by omega)), h.rows, hl, h.pos⟩
theorem RowOk.up {N M M' : Nat} {r : Row} (h : RowOk N M r) (k : Nat) (hk : 0 < k) (hM : M ≤ M') : RowOk (N * k) M' r := ⟨h.l0, h.l1, h.h0, h.h1, (h.gd.mulN k hk).mono hM⟩
theorem Gds.push {p : Pile} {N M : Nat} (h : Gds p N M) (hl : p.length ≤ 7) (h0 : p ≠ []) {x : Blk} (l0 : 1 ≤ x.long) (l1 : x.long ≤ 10000) (w0 : 1 ≤ x.heavy) (w1 : x.heavy ≤ 10000) {k : Nat} (hk : k ≤ 4) :
    ∃ N' M', Gds (x.row (mix (mid p - (x.long : Rat)) (mid p) k) :: p) N' M' := by
  obtain ⟨m1, m2, m3⟩ := (h.ok (by omega)).mid_gd p (fun r hr => hr) (by omega) h0
  have g1 : Gd (N * 2 * (wt p).toNat) 10000 (x.long : Rat) := Gd.int' m1.pos (by omega)
  have g2 := (m1.sub g1).mix m1 hk
  have h9 := h.n9
  have k9 := h.m9
  refine ⟨_, 4 * (8 * ((M + 10000) * 10000) + 10000) + 4 * (8 * ((M + 10000) * 10000)), g2.pos, ?_, ?_, ?_⟩
  · show N * 2 * (wt p).toNat * 4 < 2 ^ (60 + 40 * (p.length + 1))
    rw [show 60 + 40 * (p.length + 1) = (60 + 40 * p.length) + 40 by omega, Nat.pow_add]
    generalize (2 : Nat) ^ (60 + 40 * p.length) = B at *
    have e : (2 : Nat) ^ 40 = 1099511627776 := by decide
    rw [e]
    have hw : (wt p).toNat ≤ 80000 := by omega
    have : N * 2 * (wt p).toNat ≤ N * 2 * 80000 := Nat.mul_le_mul_left _ hw
    omega
  · show _ < 2 ^ (20 + 40 * (p.length + 1))
    rw [show 20 + 40 * (p.length + 1) = (20 + 40 * p.length) + 40 by omega, Nat.pow_add]
    have hB : (2 : Nat) ^ 20 ≤ 2 ^ (20 + 40 * p.length) := Nat.pow_le_pow_right (by decide) (by omega)
    generalize (2 : Nat) ^ (20 + 40 * p.length) = B at *
    have e : (2 : Nat) ^ 40 = 1099511627776 := by decide
    have e2 : (2 : Nat) ^ 20 = 1048576 := by decide
    rw [e]
    rw [e2] at hB
    omega
  · intro r hr
    rcases List.mem_cons.mp hr with rfl | hr
    · exact ⟨l0, l1, w0, w1, g2⟩
    · have := (h.rows r hr).up (2 * (wt p).toNat * 4) (by omega) (show M ≤ 4 * (8 * ((M + 10000) * 10000) + 10000) + 4 * (8 * ((M + 10000) * 10000)) by omega)
      rw [show N * 2 * (wt p).toNat * 4 = N * (2 * (wt p).toNat * 4) by rw [Nat.mul_assoc, Nat.mul_assoc, Nat.mul_assoc]]
      exact this
theorem Gds.one {x : Blk} (l0 : 1 ≤ x.long) (l1 : x.long ≤ 10000) (w0 : 1 ≤ x.heavy) (w1 : x.heavy ≤ 10000) {t : Rat} (h : Gd N0 2000 t) : Gds [x.row t] N0 2000 :=
  ⟨h.pos, by show N0 < 2 ^ (60 + 40); decide, by show 2000 < 2 ^ (20 + 40); decide, fun r hr => by
    rw [List.mem_singleton] at hr
    subst hr
    exact ⟨l0, l1, w0, w1, h⟩⟩
/-- what is drawn, as its sizes and names go -/
structure PileOk (e : Nat) (L W : Int) (most : Nat) (p : Pile) : Prop where
  gd : ∃ N M, 0 < N ∧ N < 2 ^ e ∧ M < 2 ^ e ∧ ∀ r ∈ p, Gd N M r.at_
  small : ∀ r ∈ p, BlkOk L W r.blk
  l0 : 0 < p.length
  l1 : p.length ≤ most
  nms : (p.map Row.name).Perm (names7.take p.length)
theorem names7_ok : ∀ z ∈ names7, PyData.strOk z = true := by decide +kernel
theorem PileOk.nmOk {e : Nat} {L W : Int} {most : Nat} {p : Pile} (h : PileOk e L W most p) : ∀ r ∈ p, PyData.strOk r.name = true := fun r hr => names7_ok _ (List.mem_of_mem_take (h.nms.mem_iff.mp (List.mem_map_of_mem hr)))
theorem PileOk.rowsOk {e : Nat} {L W : Int} {most : Nat} {p : Pile} (h : PileOk e L W most p) (he : e ≤ 900) (hL : L ≤ 10000) (hW : W ≤ 10000) (hm : most ≤ 8) : ∃ N M, RowsOk p N M ∧ N < 2 ^ e ∧ M < 2 ^ e := by
  obtain ⟨N, M, h0, h1, h2, h3⟩ := h.gd
  have e : (2 : Nat) ^ e ≤ 2 ^ 900 := Nat.pow_le_pow_right (by decide) he
  refine ⟨N, M, ⟨Nat.lt_of_lt_of_le h1 e, Nat.lt_of_lt_of_le h2 e, fun r hr => ?_, by have := h.l1; omega, h0⟩, h1, h2⟩
  have := h.small r hr
  exact ⟨this.1, Int.le_trans this.2.1 hL, this.2.2.1, Int.le_trans this.2.2.2 hW, h3 r hr⟩
theorem PileOk.hv {e : Nat} {L W : Int} {most : Nat} {p : Pile} (h : PileOk e L W most p) : Hv p := fun r hr => by
  obtain ⟨a, b, c, d⟩ := h.small r hr
  have a : 1 ≤ r.long := a
  have c : 1 ≤ r.heavy := c
  exact ⟨by omega, by omega⟩
/-! ### the draw -/
theorem dRows_plain {p : Pile} (h : ∀ r ∈ p, PyData.strOk r.name = true) : D.plains (dRows p) = true := by
  induction p with
  | nil => rfl
  | cons r p ih =>
    show (D.plain (dRow r) && D.plains (dRows p)) = true
    rw [ih fun x hx => h x (by simp [hx])]
    show (D.plains [.str r.name, .int r.long, .int r.heavy, fr r.at_] && true) = true
    have := h r (by simp)
    show ((PyData.strOk r.name && true) && true) = true
    rw [this]; rfl
theorem dRows_dep (p : Pile) : D.deps (dRows p) ≤ 2 := by
  induction p with
  | nil => exact Nat.zero_le _
  | cons r p ih =>
    show max (D.dep (dRow r)) (D.deps (dRows p)) ≤ 2
    have : D.dep (dRow r) = 2 := rfl
    omega
theorem dRows_nbs (p : Pile) : D.nbs (dRows p) = true := by
  induction p with
  | nil => rfl
  | cons r p ih =>
    show (D.nb (dRow r) && D.nbs (dRows p)) = true
    rw [ih]; rfl
theorem dRows_lows (p : Pile) : D.lows 0 (dRows p) = true := by
  induction p with
  | nil => rfl
  | cons r p ih =>
    show (D.low 0 (dRow r) && D.lows 0 (dRows p)) = true
    rw [ih]; rfl
theorem ne_nil {ρ : Env1} {i n : Nat} {p : Pile} {st : Store} (hi : ρ[i]? = some (some (.ref n))) (hn : st[n]? = some (.lst (dRows p))) (hp : ∀ r ∈ p, PyData.strOk r.name = true) :
    tV (eOp2 dNe (eVar i) (eLst aNil)) ρ st = some (decide (p ≠ []), st ++ [.lst []]) := by
  refine tV_at ?_
  rw [eOp2_at (eVar_at hi) (eLst_at aNil_at (by decide))]
  have hn2 : (st ++ [MO.lst []])[n]? = some (.lst (dRows p)) := by
    rw [List.getElem?_append_left (List.getElem?_eq_some_iff.mp hn).1]; exact hn
  refine (dEq_lists true (st ++ [MO.lst []]) hn2 get_app (dRows_plain hp) rfl (by have := dRows_dep p; omega) (by decide)).trans ?_
  cases p with
  | nil => rfl
  | cons r p => rfl
def gPi : Gx := (xTup 3 (xCons (xName 3) (xCons (xName 4) (xCons (xName 5) xNil))))
def bPi : Sx := (sSeq (sAsg (eCB (mCall 1 F_pt) (aCons (eVar 0) aNil)) (xName 6))
  (sSeq (sIf (tV (eOp2 dNe (eVar 2) (eLst aNil))) (sSeq (sAsg (eCB (mCall 1 F_lmd) (aCons (eVar 2) aNil)) (xName 7))
  (sAsg (eCB (mCall 3 F_btw) (aCons (eVar 0) (aCons (eTup (aCons (eOp2 dSub (eOp2 dIx (eVar 7) (eC (.int 0))) (eOp2 dMul (eVar 4) (eOp2 dIx (eVar 7) (eC (.int 1))))) (aCons (eOp2 dIx (eVar 7) (eC (.int 1))) aNil))) (aCons (eVar 7) aNil)))) (xName 6))) sNext)
  (sAsg (eOp2 dAdd (eLst (aCons (eTup (aCons (eVar 3) (aCons (eVar 4) (aCons (eVar 5) (aCons (eVar 6) aNil))))) aNil)) (eVar 2)) (xName 2))))
def ePi : Ev := (eOp2 dAdd (eSl (eVar 11) oNone (oSome (eC (.int 3)))) (eTup (aCons (eCB (mCall 2 F_pl) (aCons (eOp2 dIx (eVar 11) (eC (.int 3))) (aCons (eVar 10) aNil))) aNil)))
def b_pi (a b c d e f : Int) : Sx := (sSeq (sAsg (eLst aNil) (xName 2))
  (sSeq (sFor (iSeq (eCB (mCall 2 F_mx) (aCons (eVar 0) (aCons (eCB (mCall 2 (F_bl a b c d e f)) (aCons (eVar 0) (aCons (eVar 1) aNil))) aNil)))) gPi bPi)
  (sSeq (sPar 8 9 (aCons (eCB (mCall 1 F_lmd) (aCons (eVar 2) aNil)) (aCons (eCB (mCall 1 F_lrg) (aCons (eOp2 dIx (eVar 2) (eC (.int 0))) aNil)) aNil)))
  (sSeq (sAsg (eCB (mCall 3 F_btw) (aCons (eVar 0) (aCons (eTup (aCons (eOp1 dNeg (eOp2 dIx (eVar 9) (eC (.int 0)))) (aCons (eOp2 dIx (eVar 9) (eC (.int 1))) aNil))) (aCons (eTup (aCons (eOp1 dNeg (eOp2 dIx (eVar 8) (eC (.int 0)))) (aCons (eOp2 dIx (eVar 8) (eC (.int 1))) aNil))) aNil)))) (xName 10))
  (sRet (eCB bTuple (aCons (eLc (iSeq (eVar 2)) (xName 11) tYesD ePi [11]) aNil)))))))
def F_pi (a b c d e f : Int) : List D → M D := gcF (defX 12 (b_pi a b c d e f))
theorem sub_div (m : Rat) (l : Int) : Rat.divInt (m.num - l * m.den) m.den = m - (l : Rat) := by
  have := add_int_div m (-l)
  rw [Int.neg_mul, ← Int.sub_eq_add_neg] at this
  rw [this, Rat.intCast_neg]
  grind
/-- one block more, beneath -/
theorem pi_turn {L W : Int} {st s : Store} {b n : Nat} {most : D} {x : Blk} {p : Pile} {N M : Nat} (o3 o4 o5 o6 o7 : Option D) (hL : L ≤ 10000) (hW : W ≤ 10000) (hx : BlkOk L W x) (hxn : PyData.strOk x.name = true) (hb : b < st.length) (B : Bg b st s) (hn : s[n]? = some (.lst (dRows p))) (hnb : n ≠ b) (G : Gds p N M) (hl : p.length ≤ 6) (hv : Hv p) (hs : Std p) (hp : ∀ r ∈ p, PyData.strOk r.name = true)
    {R : Fl → Store → Prop} (q : ∀ (t : Rat) (N' M' n' : Nat) (o6 o7 : Option D) (s' : Store), Gds (x.row t :: p) N' M' → Std (x.row t :: p) → Bg b s s' → s'[n']? = some (.lst (dRows (x.row t :: p))) → n' ≠ b →
      R (.nx [some (.ref b), some most, some (.ref n'), some (.str x.name), some (.int x.long), some (.int x.heavy), o6, o7, none, none, none, none]) s') :
    Wp (bPi [some (.ref b), some most, some (.ref n), some (.str x.name), some (.int x.long), some (.int x.heavy), o6, o7, none, none, none, none]) s R := by
  obtain ⟨l0, l1, w0, w1⟩ := hx
  have hbs := B.bag hb
  have hlt := hbs.lt
  have hvx : ∀ t, Hv (x.row t :: p) := fun t r hr => by
    rcases List.mem_cons.mp hr with rfl | hr
    · exact ⟨by show 0 < x.heavy; omega, by show 0 < x.long; omega⟩
    · exact hv r hr
  -- the tail of the body, whatever place was found
  have fin : ∀ (t : Rat) (N' M' : Nat) (o7 : Option D) (s1 : Store), Gds (x.row t :: p) N' M' → Std (x.row t :: p) → Bg b s s1 →
      Wp (sAsg (eOp2 dAdd (eLst (aCons (eTup (aCons (eVar 3) (aCons (eVar 4) (aCons (eVar 5) (aCons (eVar 6) aNil))))) aNil)) (eVar 2)) (xName 2) [some (.ref b), some most, some (.ref n), some (.str x.name), some (.int x.long), some (.int x.heavy), some (fr t), o7, none, none, none, none]) s1 R := by
    intro t N' M' o7 s1 hG hS hB
    have k1 : s1[n]? = some (.lst (dRows p)) := hB.keep hnb hn
    have e4 : (4 : Nat) ≤ sizeLine := by decide
    have e1 : eLst (aCons (eTup (aCons (eVar 3) (aCons (eVar 4) (aCons (eVar 5) (aCons (eVar 6) aNil))))) aNil) [some (.ref b), some most, some (.ref n), some (.str x.name), some (.int x.long), some (.int x.heavy), some (fr t), o7, none, none, none, none] s1 = some (.ref s1.length, s1 ++ [.lst [dRow (x.row t)]]) :=
      eLst_at (aCons_at (eTup_at (ds := [.str x.name, .int x.long, .int x.heavy, fr t]) rfl e4) aNil_at) (one_list _)
    have k2 : (s1 ++ [MO.lst [dRow (x.row t)]])[n]? = some (.lst (dRows p)) := by
      rw [List.getElem?_append_left (List.getElem?_eq_some_iff.mp k1).1]; exact k1
    have e2 : dAdd (.ref s1.length) (.ref n) (s1 ++ [MO.lst [dRow (x.row t)]]) = some (.ref (s1.length + 1), s1 ++ [MO.lst [dRow (x.row t)]] ++ [.lst (dRows (x.row t :: p))]) := by
      show (match (s1 ++ [MO.lst [dRow (x.row t)]])[s1.length]?, (s1 ++ [MO.lst [dRow (x.row t)]])[n]? with
        | some (.lst xs), some (.lst ys) => if xs.length + ys.length ≤ sizeLine then mNew (.lst (xs ++ ys)) (s1 ++ [MO.lst [dRow (x.row t)]]) else none
        | _, _ => none) = _
      have hle : 1 + (dRows p).length ≤ sizeLine := by
        rw [dRows_len]
        exact Nat.le_trans (show 1 + p.length ≤ 10 by omega) (by decide)
      rw [get_app, k2]
      simp only [List.length_singleton, if_pos hle, mNew, List.length_append]
      rfl
    refine wSet (wOp2 (Wp.of e1 (wVar rfl (Wp.of e2 ?_))))
    have hB2 := (hB.app [MO.lst [dRow (x.row t)]]).app [MO.lst (dRows (x.row t :: p))]
    have hlen := hB.len
    refine q t N' M' (s1.length + 1) (some (fr t)) o7 _ hG hS hB2 ?_ (by omega)
    have := get_app (st := s1 ++ [MO.lst [dRow (x.row t)]]) (g := []) (o := MO.lst (dRows (x.row t :: p)))
    simpa using this
  refine wSeq (wSet (wCB (wCons (wVar rfl (wNil (pt_w hbs fun t0 o hg ho => ?_))))))
  have B1 : Bg b s (s.set b o) := Bg.set0 ho
  have k1 := B1.keep hnb hn
  refine wSeq (wIf (Wp.of (ne_nil (p := p) rfl k1 hp) ?_))
  have B2 := B1.app [MO.lst []]
  by_cases h0 : p = []
  · subst h0
    rw [if_neg (by simp)]
    refine wNext (fin t0 N0 2000 _ _ (Gds.one l0 (by omega) w0 (by omega) hg) ?_ B2)
    exact Std.push trivial (hvx t0) (fun h => absurd rfl h)
  · rw [if_pos (by simp [h0])]
    have k2 := B2.keep hnb hn
    have OK := G.ok (by omega)
    have em := lmd_eq (d := .ref n) (p := p) _ (.inr ⟨n, rfl, k2⟩) OK h0
    have sm := OK.mid_sz p (fun r hr => hr) (by omega) h0
    refine wSeq (wSet (wCB (wCons (wVar rfl (wNil (Wp.of em ?_))))))
    obtain ⟨y0, y1⟩ := fr_ix (mid p) (s.set b o ++ [MO.lst []])
    have bl : Bt 14 x.long := show x.long.natAbs < 2 ^ 14 by omega
    have c1 : CMulW x.long ((mid p).den : Int) := bl.mulW sm.2 (by decide)
    have bt : Bt 2100 ((mid p).num - x.long * (mid p).den) := by
      rw [Int.sub_eq_add_neg]
      exact (sm.1.add ((bl.mul sm.2).neg) (by decide)).mono (by decide)
    have ea : (aCons (eVar 0) (aCons (eTup (aCons (eOp2 dSub (eOp2 dIx (eVar 7) (eC (.int 0))) (eOp2 dMul (eVar 4) (eOp2 dIx (eVar 7) (eC (.int 1))))) (aCons (eOp2 dIx (eVar 7) (eC (.int 1))) aNil))) (aCons (eVar 7) aNil))) [some (.ref b), some most, some (.ref n), some (.str x.name), some (.int x.long), some (.int x.heavy), some (fr t0), some (fr (mid p)), none, none, none, none] (s.set b o ++ [MO.lst []]) = some ([.ref b, .tup [.int ((mid p).num - x.long * (mid p).den), .int (mid p).den], fr (mid p)], s.set b o ++ [MO.lst []]) := by
      simp only [aCons, aNil, eTup, mTup, eOp2, eVar, eC, Dl.M.bnd, Dl.M.ret, List.getElem?_cons_zero, List.getElem?_cons_succ, y0, y1, dMul_int c1, dSub_int, List.length_cons, List.length_nil, Nat.reduceAdd, if_pos two_le]
    refine wSet (wCB (Wp.of ea ?_))
    show Wp (F_btw [.ref b, .tup [.int ((mid p).num - x.long * (mid p).den), .int (mid p).den], .tup [.int (mid p).num, .int (mid p).den]]) _ _
    refine btw_w (B2.bag hlt) bt (sm.2.mono (by decide)) (sm.1.mono (by decide)) (sm.2.mono (by decide)) (den_pos _) (den_pos _) (sub_div _ _) (Rat.num_divInt_den _) fun k o2 hk ho2 => ?_
    obtain ⟨N', M', hG⟩ := G.push (by omega) h0 (x := x) l0 (by omega) w0 (by omega) hk
    refine fin _ N' M' _ _ hG ?_ (B2.trans hlt (Bg.set0 ho2))
    refine Std.push hs (hvx _) fun _ => ?_
    have hl : (0 : Rat) ≤ (x.long : Rat) := by exact_mod_cast (show (0 : Int) ≤ x.long by omega)
    have := mix_in (lo := mid p - (x.long : Rat)) (hi := mid p) (by grind) hk
    constructor
    · exact this.2
    · show mid p ≤ mix (mid p - (x.long : Rat)) (mid p) k + (x.long : Rat)
      have := this.1
      grind
end Dl
end
set_option linter.all false
set_option autoImplicit false
set_option maxRecDepth 100000
/-! M13: drawn piles, whole -/
noncomputable section
namespace Dl
open PySem PySem.Spec PyProof.Rows L2
/-- a comprehension over what another list tells -/
theorem eLc_A {α : Type} {it : Ei} {g : Gx} {t : Et} {e : Ev} {vs : List Nat} {ρ : Env1} {st st1 : Store} {s : Src} (as : List α) (g0 : α → D) (p : α → Bool) (f : α → D) (hi : it ρ st = some (s, st1)) (hin : s.In st1) (hds : s.ds = as.map g0)
    (h : ∀ x ∈ as, ∀ z : Store, ∃ ρ1 z1, g (g0 x) (wipeE ρ vs) (st1 ++ z) = some (ρ1, st1 ++ z) ∧ t ρ1 (st1 ++ z) = some (p x, st1 ++ z ++ z1) ∧ (p x = true → ∀ z : Store, ∃ z2, e ρ1 (st1 ++ z) = some (f x, st1 ++ z ++ z2))) (hl : as.length ≤ sizeLine) :
    ∃ z, eLc it g t e vs ρ st = some (.ref st1.length, st1 ++ .lst ((as.filter p).map f) :: z) := by
  have key : ∀ (xs pre : List α) (z : Store), pre ++ xs = as → ∃ z', lcL s st1.length g t e (wipeE ρ vs) (xs.map g0) (st1 ++ .lst ((pre.filter p).map f) :: z) = some ((), st1 ++ .lst ((as.filter p).map f) :: z') := by
    intro xs
    induction xs with
    | nil =>
      intro pre z hp
      rw [List.append_nil] at hp
      subst hp
      exact ⟨z, lcL_nil (hin.ok _)⟩
    | cons x xs ih =>
      intro pre z hp
      have hx : x ∈ as := by rw [← hp]; simp
      obtain ⟨ρ1, z1, e1, e2, e3⟩ := h x hx (.lst ((pre.filter p).map f) :: z)
      have hlen : ((pre.filter p).map f).length < sizeLine := by
        have : pre.length + (x :: xs).length = as.length := by rw [← hp, List.length_append]
        have h2 := List.length_filter_le p pre
        simp at this ⊢
        omega
      rw [List.map_cons]
      cases hpx : p x with
      | false =>
        obtain ⟨z', e4⟩ := ih (pre ++ [x]) (z ++ z1) (by rw [← hp]; simp)
        refine ⟨z', ?_⟩
        refine (lcL_skip (st2 := st1 ++ .lst ((pre.filter p).map f) :: (z ++ z1)) (hin.ok _) e1 (by rw [e2, hpx]; simp)).trans ?_
        rw [List.filter_append, List.filter_cons_of_neg (by rw [hpx]; decide), List.filter_nil, List.append_nil] at e4
        exact e4
      | true =>
        obtain ⟨z2, e5⟩ := e3 hpx (.lst ((pre.filter p).map f) :: (z ++ z1))
        obtain ⟨z', e4⟩ := ih (pre ++ [x]) (z ++ z1 ++ z2) (by rw [← hp]; simp)
        refine ⟨z', ?_⟩
        refine (lcL_add (y := f x) (acc := (pre.filter p).map f) (st2 := st1 ++ .lst ((pre.filter p).map f) :: (z ++ z1)) (st3 := st1 ++ .lst ((pre.filter p).map f) :: (z ++ z1 ++ z2)) (hin.ok _) e1 (by rw [e2, hpx]; simp) (by rw [e5]; simp) get_app hlen).trans ?_
        rw [set_app]
        rw [List.filter_append, List.filter_cons_of_pos hpx, List.filter_nil, List.map_append] at e4
        exact e4
  obtain ⟨z, e1⟩ := key as [] [] rfl
  refine ⟨z, ?_⟩
  unfold eLc
  simp only [M.bnd, hi, hds]
  rw [show st1 ++ [MO.lst []] = st1 ++ .lst ((([] : List α).filter p).map f) :: [] from rfl, e1]
  rfl
theorem eLc_mA {α : Type} {it : Ei} {g : Gx} {e : Ev} {vs : List Nat} {ρ : Env1} {st st1 : Store} {s : Src} (as : List α) (g0 : α → D) (f : α → D) (hi : it ρ st = some (s, st1)) (hin : s.In st1) (hds : s.ds = as.map g0)
    (h : ∀ x ∈ as, ∀ z : Store, ∃ ρ1, g (g0 x) (wipeE ρ vs) (st1 ++ z) = some (ρ1, st1 ++ z) ∧ ∀ z : Store, ∃ z2, e ρ1 (st1 ++ z) = some (f x, st1 ++ z ++ z2)) (hl : as.length ≤ sizeLine) :
    ∃ z, eLc it g tYesD e vs ρ st = some (.ref st1.length, st1 ++ .lst (as.map f) :: z) := by
  obtain ⟨z, e1⟩ := eLc_A (t := tYesD) (e := e) as g0 (fun _ => true) f hi hin hds (fun x hx z => by
    obtain ⟨ρ1, e1, e2⟩ := h x hx z
    exact ⟨ρ1, [], e1, by rw [List.append_nil]; rfl, fun _ => e2⟩) hl
  refine ⟨z, ?_⟩
  rw [e1, List.filter_eq_self.mpr (fun _ _ => rfl)]
theorem neg_pair (q : Rat) : Rat.divInt (-q.num) q.den = -q := by
  rw [← Rat.neg_divInt, Rat.num_divInt_den]
theorem RowsOk.by_sz {p : Pile} {N M N' M' : Nat} (h : RowsOk p N M) {t : Rat} (ht : Gd N' M' t) (h1 : N' < 2 ^ 950) (h2 : M' < 2 ^ 950) : Sz t := ht.sz' h1 h2
/-- all rows moved, as the comprehension does it -/
theorem sh_list {ρ : Env1} {i j k n : Nat} {p : Pile} {t : Rat} {st : Store} (hj : ρ[j]? = some (some (.ref n))) (hn : st[n]? = some (.lst (dRows p))) (hk : ρ[k]? = some (some (fr t))) (hi : i < ρ.length) (hki : k ≠ i) (hl : p.length ≤ 8) (hp : ∀ r ∈ p, Sz r.at_) (ht : Sz t) :
    ∃ z, eLc (iSeq (eVar j)) (xName i) tYesD (eOp2 dAdd (eSl (eVar i) oNone (oSome (eC (.int 3)))) (eTup (aCons (eCB (mCall 2 F_pl) (aCons (eOp2 dIx (eVar i) (eC (.int 3))) (aCons (eVar k) aNil))) aNil))) [i] ρ st = some (.ref st.length, st ++ .lst (dRows (shift t p)) :: z) := by
  obtain ⟨s, e1, e2, hin⟩ := IsSeq.iSeq (.inr ⟨n, rfl, hn⟩)
  obtain ⟨z, e⟩ := eLc_mA (it := iSeq (eVar j)) (g := xName i) (e := eOp2 dAdd (eSl (eVar i) oNone (oSome (eC (.int 3)))) (eTup (aCons (eCB (mCall 2 F_pl) (aCons (eOp2 dIx (eVar i) (eC (.int 3))) (aCons (eVar k) aNil))) aNil))) (vs := [i]) (ρ := ρ) (st := st) (st1 := st) (s := s) p dRow (fun r => dRow (r.sh t))
    (by simp only [iSeq, eVar, M.bnd, M.ret, hj, e1]) hin e2 (fun r hr z => by
      refine ⟨_, rfl, fun z => ⟨[], ?_⟩⟩
      have w1 := wipe1 ρ i (some (dRow r)) hi
      have w2 : ((wipeE ρ [i]).set i (some (dRow r)))[k]? = some (some (fr t)) := by
        rw [List.getElem?_set_ne (Ne.symm hki)]
        show (ρ.set i none)[k]? = _
        rw [List.getElem?_set_ne (Ne.symm hki)]
        exact hk
      have e3 : dSl none (some 3) (dRow r) (st ++ z) = some (.tup [.str r.name, .int r.long, .int r.heavy], st ++ z) := rfl
      have e4 := pl_eq (st ++ z) (hp r hr) ht
      simp only [eOp2, eSl, oNone, oSome, eTup, mTup, eCB, mCall, aCons, aNil, eVar, eC, M.bnd, M.ret, w1, w2, e3, (dRow_ix r _).2.2.2, e4, List.length_cons, List.length_nil, Nat.reduceAdd, if_true, if_pos (show (1 : Nat) ≤ sizeLine by decide), List.append_nil]
      rfl) (Nat.le_trans hl (by decide))
  refine ⟨z, ?_⟩
  rw [e]
  unfold dRows shift
  rw [List.map_map]
  rfl
theorem Gds.shift {p : Pile} {N M N' M' : Nat} (h : ∀ r ∈ p, Gd N M r.at_) (h' : 0 < N) {t : Rat} (ht : Gd N' M' t) : ∀ r ∈ Dl.shift t p, Gd (N * N') (M + M') r.at_ := by
  intro r hr
  obtain ⟨x, hx, rfl⟩ := List.mem_map.mp hr
  have h2 := ht.mulN N h'
  rw [Nat.mul_comm] at h2
  exact ((h x hx).mulN N' ht.pos).add h2
theorem pi_sizes {N M w m : Nat} (z1 : N < 2 ^ (60 + 40 * m)) (z2 : M < 2 ^ (20 + 40 * m)) (w9 : w ≤ 80000) : N * (2 * w) * 4 < 2 ^ (80 + 40 * m) ∧ 4 * (M + 10000) + 4 * (8 * ((M + 10000) * 10000)) < 2 ^ (60 + 40 * m) ∧ M + (4 * (M + 10000) + 4 * (8 * ((M + 10000) * 10000))) < 2 ^ (80 + 40 * m) := by
  have h1 : N * (2 * w) ≤ N * (2 * 80000) := Nat.mul_le_mul_left _ (Nat.mul_le_mul_left _ w9)
  have e1 : (2 : Nat) ^ (80 + 40 * m) = 2 ^ (60 + 40 * m) * 1048576 := by
    rw [show (1048576 : Nat) = 2 ^ 20 by decide, ← Nat.pow_add]
    congr 1; omega
  have e2 : (2 : Nat) ^ (60 + 40 * m) = 2 ^ (20 + 40 * m) * 1099511627776 := by
    rw [show (1099511627776 : Nat) = 2 ^ 40 by decide, ← Nat.pow_add]
    congr 1; omega
  have e3 : (1048576 : Nat) ≤ 2 ^ (20 + 40 * m) := by
    rw [show (1048576 : Nat) = 2 ^ 20 by decide]; exact Nat.pow_le_pow_right (by decide) (by omega)
  rw [e1]
  rw [e2] at z1 ⊢
  generalize (2 : Nat) ^ (20 + 40 * m) = C at *
  refine ⟨?_, ?_, ?_⟩ <;> omega
theorem piG_w {a1 a2 a3 d1 d2 d3 L W : Int} {st : Store} {b : Nat} {most : Nat} {Q : D → Store → Prop} (hb : BagAt b st) (m0 : 0 < most) (m7 : most ≤ 7) (ha : ∀ x ∈ [a1, a2, a3], 0 < x ∧ x ≤ L) (hd : ∀ x ∈ [d1, d2, d3], 0 < x ∧ x ≤ W) (hL : L ≤ 10000) (hW : W ≤ 10000)
    (q : ∀ p o, PileOk (80 + 40 * most) L W most p → joints p = [] → IsBag o → Q (dPile p) (st.set b o)) : Wp (F_pi a1 a2 a3 d1 d2 d3 [.ref b, .int (most : Int)]) st Q := by
  have hlt := hb.lt
  have hb1 : BagAt b (st ++ [MO.lst []]) := hb.app _
  have hne : st.length ≠ b := by omega
  refine wGcF (b := b) (wDefX rfl (wSeq (wSet (Wp.of (eLst_at aNil_at (by decide)) (wSeq (wFor (Wp.bnd ?_)))))))
  refine wCB (wCons (wVar rfl (wCons (wCB (wCons (wVar rfl (wCons (wVar rfl (wNil (bl_w hb1 m0 m7 ha hd (by omega) (by omega) fun bs o hbs ho => wNil ?_))))))))))
  have B1 : Bg b st ((st ++ [MO.lst []]).set b o) := (Bg.new hb _).trans hlt (Bg.set0 ho)
  refine mx_w dBlk (B1.bag hlt) (by have := hbs.l1; omega) (fun _ => rfl) fun cs o2 hperm ho2 => ?_
  have B2 : Bg b st (((st ++ [MO.lst []]).set b o).set b o2 ++ [.lst (cs.map dBlk)]) := (B1.trans hlt (Bg.set0 ho2)).app _
  have elen : (((st ++ [MO.lst []]).set b o).set b o2).length = ((st ++ [MO.lst []]).set b o).length := by simp
  have k0 : (((st ++ [MO.lst []]).set b o).set b o2 ++ [MO.lst (cs.map dBlk)])[st.length]? = some (.lst (dRows [])) := by
    rw [List.getElem?_append_left (by simp), List.getElem?_set_ne (Ne.symm hne), List.getElem?_set_ne (Ne.symm hne)]
    exact get_app
  have km : (((st ++ [MO.lst []]).set b o).set b o2 ++ [MO.lst (cs.map dBlk)])[((st ++ [MO.lst []]).set b o).length]? = some (.lst (cs.map dBlk)) := by
    rw [← elen]; exact get_app
  have hmb : ((st ++ [MO.lst []]).set b o).length ≠ b := by simp; omega
  generalize ((st ++ [MO.lst []]).set b o).length = m at *
  generalize ((st ++ [MO.lst []]).set b o).set b o2 ++ [MO.lst (cs.map dBlk)] = s2 at *
  have src : mSrc (.ref m) s2 = some (⟨cs.map dBlk, some m⟩, s2) := by
    show (match s2[m]? with
      | some (.lst xs) => some ((⟨xs, some m⟩ : Src), s2)
      | _ => none) = _
    rw [km]
  refine Wp.of src ?_
  have hcs : ∀ x ∈ cs, BlkOk L W x ∧ PyData.strOk x.name = true := fun x hx => by
    have hx := hperm.mem_iff.mp hx
    refine ⟨hbs.ok x hx, names7_ok _ ?_⟩
    have : x.name ∈ bs.map Blk.name := List.mem_map_of_mem hx
    rw [hbs.names] at this
    exact List.mem_of_mem_take this
  have hcl : cs.length ≤ 7 := by have := hperm.length_eq; have := hbs.l1; omega
  refine wForL (fun xs ρ s => ∃ (pre post : List Blk) (p : Pile) (N M n : Nat) (o3 o4 o5 o6 o7 : Option D), ρ = [some (.ref b), some (.int (most : Int)), some (.ref n), o3, o4, o5, o6, o7, none, none, none, none] ∧ cs = pre ++ post ∧ xs = post.map dBlk ∧ (p.map Row.blk).Perm pre ∧ Gds p N M ∧ Std p ∧ n ≠ b ∧ s[n]? = some (.lst (dRows p)) ∧ s[m]? = some (.lst (cs.map dBlk)) ∧ Bg b st s) ?_ ?_ ?_ _ _ _ ?_
  · rintro xs ρ s ⟨pre, post, p, N, M, n, o3, o4, o5, o6, o7, rfl, he, hx, hp, hG, hS, hn, hs, hm, B⟩
    exact Src.ok_some hm
  · rintro ρ s ⟨pre, post, p, N, M, n, o3, o4, o5, o6, o7, rfl, he, hx, hp, hG, hS, hn, hs, hm, B⟩
    have hpost : post = [] := by
      cases post with
      | nil => rfl
      | cons _ _ => cases hx
    subst hpost
    rw [List.append_nil] at he
    subst he
    have hpl : p.length = cs.length := by have := hp.length_eq; simpa using this
    have hp0 : p ≠ [] := fun e => by
      subst e
      have := hperm.length_eq
      have := hbs.l0
      simp at hpl
      omega
    have hpok : ∀ r ∈ p, BlkOk L W r.blk ∧ PyData.strOk r.name = true := fun r hr => hcs _ (hp.mem_iff.mp (List.mem_map_of_mem hr))
    have hv : Hv p := fun r hr => by
      obtain ⟨⟨u1, u2, u3, u4⟩, _⟩ := hpok r hr
      have u1 : 1 ≤ r.long := u1
      have u3 : 1 ≤ r.heavy := u3
      exact ⟨by omega, by omega⟩
    cases p with
    | nil => exact absurd rfl hp0
    | cons r p =>
    have OK := hG.ok (by omega)
    have em := lmd_eq (d := .ref n) (p := r :: p) s (.inr ⟨n, rfl, hs⟩) OK hp0
    have er := lrg_eq (r := r) s (OK.at_sz (by simp)) (OK.rows r (by simp)).btl
    have sm := OK.mid_sz (r :: p) (fun r hr => hr) (by omega) hp0
    have sr := OK.rgt_sz (r := r) (by simp)
    have e0 : dIx (.ref n) (.int 0) s = some (dRow r, s) := by rw [lst_ix hs]; exact congrArg (Option.map fun d => (d, s)) (atI0 _ _)
    have ea : (aCons (eCB (mCall 1 F_lmd) (aCons (eVar 2) aNil)) (aCons (eCB (mCall 1 F_lrg) (aCons (eOp2 dIx (eVar 2) (eC (.int 0))) aNil)) aNil)) [some (.ref b), some (.int (most : Int)), some (.ref n), o3, o4, o5, o6, o7, none, none, none, none] s = some ([fr (mid (r :: p)), fr r.rgt], s) := by
      simp only [aCons, aNil, eCB, mCall, eOp2, eVar, eC, Dl.M.bnd, Dl.M.ret, List.getElem?_cons_zero, List.getElem?_cons_succ, em, er, e0, List.length_cons, List.length_nil, Nat.reduceAdd, if_true]
    refine wSeq (wPar (Wp.of ea ⟨_, _, rfl, ?_⟩))
    obtain ⟨y0, y1⟩ := fr_ix (mid (r :: p)) s
    obtain ⟨x0, x1⟩ := fr_ix r.rgt s
    have eb : (aCons (eVar 0) (aCons (eTup (aCons (eOp1 dNeg (eOp2 dIx (eVar 9) (eC (.int 0)))) (aCons (eOp2 dIx (eVar 9) (eC (.int 1))) aNil))) (aCons (eTup (aCons (eOp1 dNeg (eOp2 dIx (eVar 8) (eC (.int 0)))) (aCons (eOp2 dIx (eVar 8) (eC (.int 1))) aNil))) aNil))) [some (.ref b), some (.int (most : Int)), some (.ref n), o3, o4, o5, o6, o7, some (fr (mid (r :: p))), some (fr r.rgt), none, none] s = some ([.ref b, .tup [.int (-r.rgt.num), .int r.rgt.den], .tup [.int (-(mid (r :: p)).num), .int (mid (r :: p)).den]], s) := by
      simp only [aCons, aNil, eTup, mTup, eOp1, dNeg, eOp2, eVar, eC, Dl.M.bnd, Dl.M.ret, List.getElem?_cons_zero, List.getElem?_cons_succ, x0, x1, y0, y1, List.length_cons, List.length_nil, Nat.reduceAdd, if_pos two_le]
    refine wSeq (wSet (wCB (Wp.of eb ?_)))
    refine btw_w (B.bag hlt) (sr.1.neg.mono (by decide)) (sr.2.mono (by decide)) (sm.1.neg.mono (by decide)) (sm.2.mono (by decide)) (den_pos _) (den_pos _) (neg_pair _) (neg_pair _) fun k o3' hk ho3 => ?_
    have B3 := B.trans hlt (Bg.set0 ho3)
    have hs3 : (s.set b o3')[n]? = some (.lst (dRows (r :: p))) := by rw [List.getElem?_set_ne (Ne.symm hn)]; exact hs
    -- the move
    obtain ⟨m1, m2, m3⟩ := OK.mid_gd (r :: p) (fun r hr => hr) (by omega) hp0
    have rg := (OK.rows r (by simp)).rgt
    have gt := ((rg.neg.mulN (2 * (wt (r :: p)).toNat) (by omega)).mix (by rw [← Nat.mul_assoc]; exact m1.neg) hk)
    have hmx := mix_in (lo := -r.rgt) (hi := -mid (r :: p)) (by have := hS.2.1; grind) hk
    have hlm : (r :: p).length ≤ most := by
      have e1 := hperm.length_eq
      have e2 := hbs.l1
      omega
    have sizes : N < 2 ^ (60 + 40 * most) ∧ M < 2 ^ (20 + 40 * most) := by
      have hG9 := hG.n9
      have hGM := hG.m9
      exact ⟨Nat.lt_of_lt_of_le hG9 (Nat.pow_le_pow_right (by decide) (by omega)), Nat.lt_of_lt_of_le hGM (Nat.pow_le_pow_right (by decide) (by omega))⟩
    generalize hT : mix (-r.rgt) (-mid (r :: p)) k = t at *
    have big := pi_sizes (w := (wt (r :: p)).toNat) sizes.1 sizes.2 (by omega)
    have st' : Sz t := gt.sz' (pow_lt950 (a := 80 + 40 * most) big.1 (by omega)) (pow_lt950 (a := 60 + 40 * most) big.2.1 (by omega))
    obtain ⟨z, el⟩ := sh_list (ρ := [some (.ref b), some (.int (most : Int)), some (.ref n), o3, o4, o5, o6, o7, some (fr (mid (r :: p))), some (fr r.rgt), some (fr t), none]) (i := 11) (j := 2) (k := 10) (n := n) (p := r :: p) (t := t) (st := s.set b o3') rfl hs3 rfl (by simp) (by decide) (by omega) (fun x hx => OK.at_sz hx) st'
    have eT : bTuple [.ref (s.set b o3').length] ((s.set b o3') ++ MO.lst (dRows (shift t (r :: p))) :: z) = some (dPile (shift t (r :: p)), (s.set b o3') ++ MO.lst (dRows (shift t (r :: p))) :: z) := by
      show (match ((s.set b o3') ++ MO.lst (dRows (shift t (r :: p))) :: z)[(s.set b o3').length]? with
        | some (.lst xs) => some (D.tup xs, _)
        | _ => none) = _
      rw [get_app]
      rfl
    refine wRet (wCB (wCons (Wp.of el (wNil (Wp.of eT ⟨_, rfl, dRows_lows _, B3.app _, fun o' ho' => ?_⟩)))))
    refine q _ o' ⟨?_, ?_, ?_, ?_, ?_⟩ (hS.ground hv hmx.1 hmx.2) ho'
    · refine ⟨_, M + (4 * (M + 10000) + 4 * (8 * ((M + 10000) * 10000))), gt.pos, big.1, big.2.2, fun x hx => ?_⟩
      · obtain ⟨y, hy, rfl⟩ := List.mem_map.mp hx
        have g := (hG.rows y hy).gd.mulN (2 * (wt (r :: p)).toNat * 4) (by omega)
        rw [← Nat.mul_assoc] at g
        exact g.add gt
    · intro x hx
      obtain ⟨y, hy, rfl⟩ := List.mem_map.mp hx
      exact (hpok y hy).1
    · simp [shift]
    · have e1 := hperm.length_eq
      have e2 := hbs.l1
      simp [shift]
      simp at hpl
      omega
    · have e1 : (shift t (r :: p)).map Row.name = ((r :: p).map Row.blk).map Blk.name := by
        unfold shift
        rw [List.map_map, List.map_map]; rfl
      have e2 : (shift t (r :: p)).length = bs.length := by
        have := hperm.length_eq
        simp [shift]
        simp at hpl
        omega
      rw [e1, e2, ← hbs.names]
      exact (hp.trans hperm).map _
  · rintro x xs ρ s ⟨pre, post, p, N, M, n, o3, o4, o5, o6, o7, rfl, he, hx, hp, hG, hS, hn, hs, hm, B⟩
    cases post with
    | nil => cases hx
    | cons y post =>
      injection hx with h1 h2
      subst h1
      subst h2
      have hl6 : p.length ≤ 6 := by
        have e1 := hp.length_eq
        have e2 := congrArg List.length he
        simp at e1 e2
        omega
      have hy := hcs y (by rw [he]; simp)
      have hpok : ∀ r ∈ p, BlkOk L W r.blk ∧ PyData.strOk r.name = true := fun r hr => hcs _ (by
        have := hp.mem_iff.mp (List.mem_map_of_mem (f := Row.blk) hr)
        rw [he]
        exact List.mem_append_left _ this)
      have hv : Hv p := fun r hr => by
        obtain ⟨⟨u1, u2, u3, u4⟩, _⟩ := hpok r hr
        have u1 : 1 ≤ r.long := u1
        have u3 : 1 ≤ r.heavy := u3
        exact ⟨by omega, by omega⟩
      refine Wp.ret (pi_turn (L := L) (W := W) (some (.str y.name)) (some (.int y.long)) (some (.int y.heavy)) o6 o7 hL hW hy.1 hy.2 hlt B hs hn hG hl6 hv hS (fun r hr => (hpok r hr).2) fun t N' M' n' o6' o7' s' hG' hS' hB' hn' hnb' => ?_)
      refine ⟨pre ++ [y], post, y.row t :: p, N', M', n', _, _, _, o6', o7', rfl, by rw [he]; simp, rfl, ?_, hG', hS', hnb', hn', hB'.keep hmb hm, B.trans hlt hB'⟩
      show (y :: p.map Row.blk).Perm (pre ++ [y])
      exact (List.Perm.cons y hp).trans (List.perm_append_singleton y pre).symm
  · exact ⟨[], cs, [], 1, 0, st.length, none, none, none, none, none, rfl, rfl, rfl, List.Perm.refl _, ⟨by decide, by show 1 < 2 ^ 60; decide, by show 0 < 2 ^ 20; decide, fun r hr => by simp at hr⟩, trivial, hne, k0, km, B2⟩
theorem pi_w {a1 a2 a3 d1 d2 d3 L W : Int} {st : Store} {b : Nat} {most : Nat} {Q : D → Store → Prop} (hb : BagAt b st) (m0 : 0 < most) (m7 : most ≤ 7) (ha : ∀ x ∈ [a1, a2, a3], 0 < x ∧ x ≤ L) (hd : ∀ x ∈ [d1, d2, d3], 0 < x ∧ x ≤ W) (hL : L ≤ 10000) (hW : W ≤ 10000)
    (q : ∀ p o, PileOk 400 L W most p → joints p = [] → IsBag o → Q (dPile p) (st.set b o)) : Wp (F_pi a1 a2 a3 d1 d2 d3 [.ref b, .int (most : Int)]) st Q := by
  refine piG_w hb m0 m7 ha hd hL hW fun p o hp hj ho => q p o ?_ hj ho
  obtain ⟨N, M, h0, h1, h2, h3⟩ := hp.gd
  have e : (2 : Nat) ^ (80 + 40 * most) ≤ 2 ^ 400 := Nat.pow_le_pow_right (by decide) (by omega)
  exact ⟨⟨N, M, h0, Nat.lt_of_lt_of_le h1 e, Nat.lt_of_lt_of_le h2 e, h3⟩, hp.small, hp.l0, hp.l1, hp.nms⟩
end Dl
end
set_option linter.all false
set_option autoImplicit false
set_option maxRecDepth 100000
/-! M14: any pile, bags -/
noncomputable section
namespace Dl
open PySem PySem.Spec PyProof.Rows L2
theorem eq_int (a b : Int) (st : Store) : dEq (.int a) (.int b) st = some (.bl (decide (a = b)), st) := by
  refine (dEq_plain false st rfl rfl (Nat.zero_le _) (Nat.zero_le _)).trans ?_
  by_cases h : a = b <;> simp [py, PyData.eqv, h]
def eAn : Ev := (eOp2 dAdd (eSl (eVar 6) oNone (oSome (eC (.int 3)))) (eTup (aCons (eCB (mCall 1 F_pt) (aCons (eVar 0) aNil)) aNil)))
def b_an (a b c d e f : Int) : Sx := (sSeq (sAsg (eCB (mCall 2 (F_pi a b c d e f)) (aCons (eVar 0) (aCons (eVar 1) aNil))) (xName 2))
  (sSeq (sAsg (eCB (mCall 2 F_tk) (aCons (eVar 0) (aCons (eC (.int 3)) aNil))) (xName 3))
  (sSeq (sIf (tV (eOp2 dEq (eVar 3) (eC (.int 0)))) (sRet (eVar 2)) sNext)
  (sSeq (sAsg (eCB (mCall 2 F_tk) (aCons (eVar 0) (aCons (eCB bLen (aCons (eVar 2) aNil)) aNil))) (xName 4))
  (sSeq (sAsg (eOp2 dAdd (eSl (eOp2 dIx (eVar 2) (eVar 4)) oNone (oSome (eC (.int 3)))) (eTup (aCons (eCB (mCall 2 F_pl) (aCons (eOp2 dIx (eOp2 dIx (eVar 2) (eVar 4)) (eC (.int 3))) (aCons (eCB (mCall 1 F_pt) (aCons (eVar 0) aNil)) aNil))) aNil))) (xName 5))
  (sSeq (sIf (tV (eOp2 dEq (eVar 3) (eC (.int 1)))) (sRet (eOp2 dAdd (eOp2 dAdd (eSl (eVar 2) oNone (oSome (eVar 4))) (eTup (aCons (eVar 5) aNil))) (eSl (eVar 2) (oSome (eOp2 dAdd (eVar 4) (eC (.int 1)))) oNone))) sNext)
  (sRet (eCB bTuple (aCons (eLc (iSeq (eVar 2)) (xName 6) tYesD eAn [6]) aNil)))))))))
def F_an (a b c d e f : Int) : List D → M D := gcF (defX 7 (b_an a b c d e f))
theorem names_set {p : Pile} {k : Nat} {r : Row} {t : Rat} (hr : p[k]? = some r) : (p.set k (r.sh t)).map Row.name = p.map Row.name := by
  rw [List.map_set]
  have : (p.map Row.name)[k]? = some r.name := by rw [List.getElem?_map, hr]; rfl
  obtain ⟨h1, h2⟩ := List.getElem?_eq_some_iff.mp this
  rw [show (r.sh t).name = r.name from rfl, ← h2, List.set_getElem_self]
theorem pow_up {a b n : Nat} (h : n < 2 ^ a) (hab : a ≤ b) : n < 2 ^ b := Nat.lt_of_lt_of_le h (Nat.pow_le_pow_right (by decide) hab)
theorem PileOk.up {e e' : Nat} {L W : Int} {most : Nat} {p : Pile} (h : PileOk e L W most p) (he : e ≤ e') : PileOk e' L W most p := by
  obtain ⟨N, M, h0, h1, h2, h3⟩ := h.gd
  exact ⟨⟨N, M, h0, pow_up h1 he, pow_up h2 he, h3⟩, h.small, h.l0, h.l1, h.nms⟩
theorem PileOk.set {L W : Int} {most : Nat} {p : Pile} (h : PileOk 400 L W most p) {k : Nat} {r : Row} (hr : p[k]? = some r) {t : Rat} (ht : Gd N0 2000 t) : PileOk 500 L W most (p.set k (r.sh t)) := by
  obtain ⟨N, M, h0, h1, h2, h3⟩ := h.gd
  have hrm : r ∈ p := List.mem_of_getElem? hr
  have ht2 := ht.mulN N h0
  rw [Nat.mul_comm] at ht2
  have hm : ∀ x ∈ p.set k (r.sh t), x ∈ p ∨ x = r.sh t := fun x hx => List.mem_or_eq_of_mem_set hx
  refine ⟨⟨N * N0, M + 2000, Nat.mul_pos h0 ht.pos, ?_, ?_, fun x hx => ?_⟩, fun x hx => ?_, by rw [List.length_set]; exact h.l0, by rw [List.length_set]; exact h.l1, by rw [names_set hr, List.length_set]; exact h.nms⟩
  · have e : (2 : Nat) ^ 500 = 2 ^ 400 * 2 ^ 100 := by rw [← Nat.pow_add]
    rw [e]
    exact Nat.mul_lt_mul'' h1 (by decide)
  · have e : (2 : Nat) ^ 400 * 2 ≤ 2 ^ 500 := by
      rw [show (2 : Nat) ^ 400 * 2 = 2 ^ 401 from rfl]; exact Nat.pow_le_pow_right (by decide) (by decide)
    have e2 : (2 : Nat) ^ 20 ≤ 2 ^ 400 := Nat.pow_le_pow_right (by decide) (by decide)
    have e3 : (2 : Nat) ^ 20 = 1048576 := by decide
    rw [e3] at e2
    generalize (2 : Nat) ^ 400 = C at *
    generalize (2 : Nat) ^ 500 = E at *
    omega
  · rcases hm x hx with hx | rfl
    · exact ((h3 x hx).mulN N0 ht.pos).mono (by omega)
    · exact ((h3 r hrm).mulN N0 ht.pos).add ht2
  · rcases hm x hx with hx | rfl
    · exact h.small x hx
    · exact h.small r hrm
theorem set_split {p : Pile} {k : Nat} {r r' : Row} (hr : p[k]? = some r) : p.take k ++ [r'] ++ p.drop (k + 1) = p.set k r' := by
  rw [List.set_eq_take_append_cons_drop, if_pos (List.getElem?_eq_some_iff.mp hr).1, List.append_assoc]
  rfl
theorem an_w {a1 a2 a3 d1 d2 d3 L W : Int} {st : Store} {b : Nat} {most : Nat} {Q : D → Store → Prop} (hb : BagAt b st) (m0 : 0 < most) (m7 : most ≤ 7) (ha : ∀ x ∈ [a1, a2, a3], 0 < x ∧ x ≤ L) (hd : ∀ x ∈ [d1, d2, d3], 0 < x ∧ x ≤ W) (hL : L ≤ 10000) (hW : W ≤ 10000)
    (q : ∀ p o, PileOk 500 L W most p → IsBag o → Q (dPile p) (st.set b o)) : Wp (F_an a1 a2 a3 d1 d2 d3 [.ref b, .int (most : Int)]) st Q := by
  have hlt := hb.lt
  refine wGcF (b := b) (wDefX (env := [some (.ref b), some (.int (most : Int)), none, none, none, none, none]) rfl (wSeq (wSet (wCB (wCons (wVar rfl (wCons (wVar rfl (wNil (pi_w hb m0 m7 ha hd hL hW fun p o hp hj ho => ?_))))))))))
  have B1 : Bg b st (st.set b o) := Bg.set0 ho
  generalize st.set b o = s1 at *
  obtain ⟨N, M, OK, _, _⟩ := hp.rowsOk (by decide) hL hW (by omega)
  refine wSeq (wSet (takeC_w rfl (B1.bag hlt) (by decide) (by decide) fun kind s2 k0 k1 hs2 => ?_))
  have B2 := B1.trans hlt hs2
  refine wSeq (wIf (wV (wOp2 (wVar rfl (wC (Wp.of (eq_int _ _ _) ⟨_, rfl, ?_⟩))))))
  by_cases hk0 : kind = 0
  · rw [if_pos (by simp [hk0])]
    exact wRet (wVar rfl ⟨_, rfl, dRows_lows _, B2, fun o ho => q p o (hp.up (by decide)) ho⟩)
  · rw [if_neg (by simp [hk0])]
    refine wNext ?_
    have hl : bLen [dPile p] s2 = some (.int (p.length : Int), s2) := by
      show some (D.int (dRows p).length, s2) = _
      rw [dRows_len]
    have hpl := hp.l0
    have hpl1 := hp.l1
    refine wSeq (wSet (take_w rfl (wCB (wCons (wVar rfl (wNil (Wp.of hl ⟨_, rfl, by omega, by omega, B2.bag hlt, fun k s3 j0 j1 hs3 => ?_⟩)))))))
    obtain ⟨k, rfl⟩ : ∃ j : Nat, k = j := ⟨k.toNat, by omega⟩
    have hk : k < p.length := by omega
    obtain ⟨r, hr⟩ : ∃ r, p[k]? = some r := ⟨_, List.getElem?_eq_getElem hk⟩
    have hrm : r ∈ p := List.mem_of_getElem? hr
    have B3 := B2.trans hlt hs3
    have ix := dPile_ix hr
    have e3 : ∀ s : Store, dSl none (some 3) (dRow r) s = some (.tup [.str r.name, .int r.long, .int r.heavy], s) := fun _ => rfl
    have h1s : (1 : Nat) ≤ sizeLine := by decide
    refine wSeq (wSet (wOp2 (Wp.of (a := .tup [.str r.name, .int r.long, .int r.heavy]) (st' := s3) ?_ (wTup (wCons (wCB (wCons (Wp.of (a := fr r.at_) (st' := s3) ?_ (wCons (wCB (wCons (wVar rfl (wNil (pt_w (B3.bag hlt) fun t o4 ht ho4 => wNil ?_))))))))))))))
    · simp only [eSl, oNone, oSome, eOp2, eVar, eC, Dl.M.bnd, Dl.M.ret, List.getElem?_cons_zero, List.getElem?_cons_succ, List.set_cons_zero, List.set_cons_succ, ix, e3]
    · simp only [eOp2, eVar, eC, Dl.M.bnd, Dl.M.ret, List.getElem?_cons_zero, List.getElem?_cons_succ, List.set_cons_zero, List.set_cons_succ, ix, (dRow_ix r _).2.2.2]
    have B4 := B3.trans hlt (Bg.set0 ho4)
    generalize s3.set b o4 = s4 at *
    have st : Sz t := ht.sz' (by show N0 < 2 ^ 950; exact pow_up (a := 50) (by decide) (by decide)) (pow_up (a := 50) (by decide) (by decide))
    refine Wp.of (pl_eq s4 (OK.at_sz hrm) st) (wNil ⟨h1s, Wp.of (a := dRow (r.sh t)) (st' := s4) rfl ?_⟩)
    refine wSeq (wIf (wV (wOp2 (wVar rfl (wC (Wp.of (eq_int _ _ _) ⟨_, rfl, ?_⟩))))))
    by_cases hk1 : kind = 1
    · rw [if_pos (by simp [hk1])]
      have hlen1 : (dRows (p.take k)).length + 1 ≤ sizeLine := by
        rw [dRows_len, List.length_take]
        exact Nat.le_trans (show min k p.length + 1 ≤ 20 by omega) (by decide)
      have hlen2 : (dRows (p.take k) ++ [dRow (r.sh t)]).length + (dRows (p.drop (k + 1))).length ≤ sizeLine := by
        rw [List.length_append, dRows_len, dRows_len, List.length_take, List.length_drop, List.length_singleton]
        exact Nat.le_trans (show min k p.length + 1 + (p.length - (k + 1)) ≤ 20 by omega) (by decide)
      have c1 : dSl none (some (k : Int)) (dPile p) s4 = some (dPile (p.take k), s4) := by
        show some (D.tup (cutD (dRows p) none (some (k : Int))), s4) = _
        rw [cut_take]; unfold dPile dRows; rw [List.map_take]
      have c2 : dSl (some ((k : Int) + 1)) none (dPile p) s4 = some (dPile (p.drop (k + 1)), s4) := by
        show some (D.tup (cutD (dRows p) (some ((k : Int) + 1)) none), s4) = _
        rw [show (k : Int) + 1 = ((k + 1 : Nat) : Int) by omega, cut_drop, dRows_drop]; rfl
      have c3 : dAdd (dPile (p.take k)) (.tup [dRow (r.sh t)]) s4 = some (.tup (dRows (p.take k) ++ [dRow (r.sh t)]), s4) := by
        show (if (dRows (p.take k)).length + 1 ≤ sizeLine then Dl.M.ret (D.tup (dRows (p.take k) ++ [dRow (r.sh t)])) else Dl.M.bad) s4 = _
        rw [if_pos hlen1]; rfl
      have c4 : dAdd (.tup (dRows (p.take k) ++ [dRow (r.sh t)])) (dPile (p.drop (k + 1))) s4 = some (dPile (p.set k (r.sh t)), s4) := by
        show (if (dRows (p.take k) ++ [dRow (r.sh t)]).length + (dRows (p.drop (k + 1))).length ≤ sizeLine then Dl.M.ret (D.tup (dRows (p.take k) ++ [dRow (r.sh t)] ++ dRows (p.drop (k + 1)))) else Dl.M.bad) s4 = _
        rw [if_pos hlen2]
        rw [← set_split hr]
        unfold dPile dRows
        rw [List.map_append, List.map_append]; rfl
      refine wRet (Wp.of (a := dPile (p.set k (r.sh t))) (st' := s4) ?_ ⟨_, rfl, dRows_lows _, B4, fun o ho => q _ o (hp.set hr ht) ho⟩)
      simp only [eOp2, eSl, oNone, oSome, eTup, mTup, aCons, aNil, eVar, eC, Dl.M.bnd, Dl.M.ret, List.getElem?_cons_zero, List.getElem?_cons_succ, List.set_cons_zero, List.set_cons_succ, c1, dAdd_int, c2, List.length_cons, List.length_nil, Nat.reduceAdd, if_pos h1s, c3, c4]
    · rw [if_neg (by simp [hk1])]
      refine wNext (wRet (wCB (wCons ?_)))
      have hlt4 := (B4.bag hlt).lt
      refine wLc (fun n s xs acc s5 => ∃ pre post acc' : Pile, p = pre ++ post ∧ xs = dRows post ∧ acc = dRows acc' ∧ acc'.map Row.blk = pre.map Row.blk ∧ (∀ r ∈ acc', Gd N0 2000 r.at_) ∧ n = s4.length ∧ s5[n]? = some (.lst acc) ∧ s.chk = none ∧ Bg b s4 s5)
        (Wp.bnd (wVar rfl (Wp.ret ⟨⟨[], p, [], rfl, rfl, rfl, rfl, (fun r hr => by simp at hr), rfl, get_app, rfl, Bg.new (B4.bag hlt) _⟩, ?_⟩))) ?_ ?_
      · rintro acc s5 ⟨pre, post, acc', hpe, hx, rfl, hbl, hg, _, hn, _, B5⟩
        have hpost : post = [] := by
          cases post with
          | nil => rfl
          | cons _ _ => cases hx
        subst hpost
        rw [List.append_nil] at hpe
        subst hpe
        have eT : bTuple [.ref s4.length] s5 = some (dPile acc', s5) := by
          show (match s5[s4.length]? with
            | some (.lst xs) => some (D.tup xs, s5)
            | _ => none) = _
          rw [hn]
          rfl
        have hl' : acc'.length = p.length := by have := congrArg List.length hbl; simpa using this
        refine wNil (Wp.of eT ⟨_, rfl, dRows_lows _, B4.trans hlt B5, fun o ho => q acc' o ⟨⟨N0, 2000, by decide, pow_up (a := 50) (by decide) (by decide), pow_up (a := 50) (by decide) (by decide), hg⟩, fun x hx => ?_, by omega, by omega, ?_⟩ ho⟩)
        · have hxb : x.blk ∈ p.map Row.blk := by rw [← hbl]; exact List.mem_map_of_mem hx
          obtain ⟨y, hy, e⟩ := List.mem_map.mp hxb
          have := hp.small y hy
          rw [e] at this
          exact this
        · have e1 : acc'.map Row.name = (acc'.map Row.blk).map Blk.name := by rw [List.map_map]; rfl
          have e2 : p.map Row.name = (p.map Row.blk).map Blk.name := by rw [List.map_map]; rfl
          rw [e1, hbl, ← e2, hl']
          exact hp.nms
      · rintro n s xs acc s5 ⟨_, _, _, _, _, _, _, _, _, _, hc, _⟩ m e
        rw [hc] at e
        cases e
      · rintro n s x xs acc s5 ⟨pre, post, acc', hpe, hx, rfl, hbl, hg, rfl, hn, hc, B5⟩
        cases post with
        | nil => cases hx
        | cons y post =>
          injection hx with h1 h2
          subst h1
          subst h2
          have hbl' := B5.bag hlt4
          refine Wp.ret (Wp.ret ?_)
          rw [if_pos rfl]
          refine wOp2 (Wp.of (a := .tup [.str y.name, .int y.long, .int y.heavy]) (st' := s5) rfl (wTup (wCons (wCB (wCons (wVar rfl (wNil (pt_w hbl' fun t2 o6 ht2 ho6 => wNil ⟨h1s, ?_⟩))))))))
          refine Wp.of (a := dRow ⟨y.name, y.long, y.heavy, t2⟩) (st' := s5.set b o6) rfl ?_
          have hne : s4.length ≠ b := by omega
          have hl' : acc'.length = pre.length := by have := congrArg List.length hbl; simpa using this
          have hpl2 := congrArg List.length hpe
          simp at hpl2
          refine ⟨by rw [List.getElem?_set_ne (Ne.symm hne)]; exact hn, ?_, pre ++ [y], post, acc' ++ [⟨y.name, y.long, y.heavy, t2⟩], by rw [hpe]; simp, rfl, by unfold dRows; rw [List.map_append]; rfl, ?_, ?_, rfl, ?_, hc, ?_⟩
          · rw [dRows_len]
            exact Nat.lt_of_lt_of_le (show acc'.length < 20 by omega) (by decide)
          · rw [List.map_append, List.map_append, hbl]; rfl
          · intro z hz
            rcases List.mem_append.mp hz with hz | hz
            · exact hg z hz
            · rw [List.mem_singleton] at hz
              subst hz
              exact ht2
          · rw [setSelf]
            have := (List.getElem?_eq_some_iff.mp hn).1
            simpa using this
          · exact (B5.trans hlt4 (Bg.set0 ho6)).set (Nat.le_refl _)
/-! ### bags -/
def b_bag : Sx := (sSeq (sAsg (eC (.int 0)) (xName 2))
  (sSeq (sIf (tV (eOp2 dLt (eVar 1) (eCB bLen (aCons (eVar 0) aNil)))) (sAsg (eCB bAbs (aCons (eOp2 dIx (eVar 0) (eVar 1)) aNil)) (xName 2)) sNext)
  (sSeq (sIf (tV (eOp2 dLt (eVar 2) (eOp2 dPow (eC (.int 10)) (eC (.int 18))))) (sRet (eLst (aCons (eC (.int 0)) (aCons (eOp2 dAdd (eC (.int 1)) (eOp2 dMod (eOp2 dAdd (eOp2 dMul (eVar 2) (eC (.int 7919))) (eOp2 dMul (eC (.int 104729)) (eVar 1))) (eC (.int 2147483646)))) aNil)))) sNext)
  (sRet (eLst (aCons (eVar 2) (aCons (eOp2 dAdd (eC (.int 1)) (eOp2 dMod (eOp2 dAdd (eVar 2) (eVar 1)) (eC (.int 2147483646)))) aNil)))))))
def F_bag : List D → M D := gcL (defX 3 b_bag)
theorem pow18 (st : Store) : dPow (.int 10) (.int 18) st = some (.int 1000000000000000000, st) := by
  rfl
theorem isBag_mod {c x : Int} (hc : 0 ≤ c) : IsBag (.lst [.int c, .int (1 + x % 2147483646)]) := by
  have h0 := Int.emod_nonneg x (show (2147483646 : Int) ≠ 0 by decide)
  have h1 := Int.emod_lt_of_pos x (show (0 : Int) < 2147483646 by decide)
  exact ⟨_, _, rfl, hc, by omega, by omega⟩
theorem bag_eq (ns : List Int) (k : Nat) (hk : k < 1000) (st : Store) : ∃ o, IsBag o ∧ F_bag [.scr ns, .int (k : Int)] st = some (.ref st.length, st ++ [o]) := by
  -- the cell
  obtain ⟨c, hc, e1⟩ : ∃ c : Int, 0 ≤ c ∧ ∀ T : Sx, sSeq (sAsg (eC (.int 0)) (xName 2)) (sSeq (sIf (tV (eOp2 dLt (eVar 1) (eCB bLen (aCons (eVar 0) aNil)))) (sAsg (eCB bAbs (aCons (eOp2 dIx (eVar 0) (eVar 1)) aNil)) (xName 2)) sNext) T) [some (.scr ns), some (.int (k : Int)), none] st = T [some (.scr ns), some (.int (k : Int)), some (.int c)] st := by
    by_cases h : k < ns.length
    · refine ⟨(if ns[k] < 0 then -ns[k] else ns[k]), by split <;> omega, fun T => ?_⟩
      rw [sSeq_at (sSet_at eC_at)]
      have ht : tV (eOp2 dLt (eVar 1) (eCB bLen (aCons (eVar 0) aNil))) [some (.scr ns), some (.int (k : Int)), some (.int 0)] st = some (true, st) := by
        refine tV_at ?_
        rw [eOp2_at (x := .int (k : Int)) (y := .int (ns.length : Int)) (st1 := st) (st2 := st) (eVar_at rfl) rfl, dLt_int, decide_eq_true (by omega)]
      have hv : eCB bAbs (aCons (eOp2 dIx (eVar 0) (eVar 1)) aNil) [some (.scr ns), some (.int (k : Int)), some (.int 0)] st = some (.int (if ns[k] < 0 then -ns[k] else ns[k]), st) := by
        have : dIx (.scr ns) (.int (k : Int)) st = some (.int ns[k], st) := by
          show (atI ns (k : Int)).map (fun k => (D.int k, st)) = _
          rw [atI_nat (v := ns[k]) (List.getElem?_eq_getElem h)]; rfl
        rw [eCB_at (aCons_at (by rw [eOp2_at (x := .scr ns) (y := .int (k : Int)) (st1 := st) (st2 := st) (eVar_at rfl) (eVar_at rfl), this]) aNil_at)]
        rfl
      rw [sSeq_at (by rw [show ([some (D.scr ns), some (D.int (k : Int)), none].set 2 (some (D.int 0))) = [some (D.scr ns), some (D.int (k : Int)), some (D.int 0)] from rfl, sIf_at ht, if_pos rfl]; exact sSet_at hv)]
      rfl
    · refine ⟨0, Int.le_refl _, fun T => ?_⟩
      rw [sSeq_at (sSet_at eC_at)]
      have ht : tV (eOp2 dLt (eVar 1) (eCB bLen (aCons (eVar 0) aNil))) [some (.scr ns), some (.int (k : Int)), some (.int 0)] st = some (false, st) := by
        refine tV_at ?_
        rw [eOp2_at (x := .int (k : Int)) (y := .int (ns.length : Int)) (st1 := st) (st2 := st) (eVar_at rfl) rfl, dLt_int, decide_eq_false (by omega)]
      rw [sSeq_at (ρ1 := [some (D.scr ns), some (D.int (k : Int)), some (D.int 0)]) (st1 := st) (by rw [show ([some (D.scr ns), some (D.int (k : Int)), none].set 2 (some (D.int 0))) = [some (D.scr ns), some (D.int (k : Int)), some (D.int 0)] from rfl, sIf_at ht]; rfl)]
  by_cases hlt : c < 1000000000000000000
  · refine ⟨_, isBag_mod (c := 0) (x := c * 7919 + 104729 * (k : Int)) (Int.le_refl 0), gcL_eq (g := []) (defX_rt rfl ((e1 _).trans (sSeq_rt ?_))) rfl⟩
    have ht : tV (eOp2 dLt (eVar 2) (eOp2 dPow (eC (.int 10)) (eC (.int 18)))) [some (.scr ns), some (.int (k : Int)), some (.int c)] st = some (true, st) := by
      refine tV_at ?_
      rw [eOp2_at (x := .int c) (st1 := st) (eVar_at rfl) (by rw [eOp2_at eC_at eC_at, pow18]), dLt_int, decide_eq_true hlt]
    rw [sIf_at ht, if_pos rfl]
    have bc : Bt 60 c := show c.natAbs < 2 ^ 60 by
      have : (2 : Nat) ^ 60 = 1152921504606846976 := by decide
      omega
    have bk : Bt 10 (k : Int) := show ((k : Int)).natAbs < 2 ^ 10 by omega
    have c1 : CMulW c 7919 := bc.mulW (n := 13) (by unfold Bt; decide) (by decide)
    have c2 : CMulW 104729 (k : Int) := Bt.mulW (m := 17) (by unfold Bt; decide) bk (by decide)
    refine sRet_at (eLst_at ?_ two_le)
    simp only [aCons, aNil, eOp2, eVar, eC, Dl.M.bnd, Dl.M.ret, List.getElem?_cons_zero, List.getElem?_cons_succ, dMul_int c1, dMul_int c2, dAdd_int, dMod_int (show (0 : Int) < 2147483646 by decide)]
  · refine ⟨_, isBag_mod (c := c) (x := c + (k : Int)) hc, gcL_eq (g := []) (defX_rt rfl ((e1 _).trans ?_)) rfl⟩
    have ht : tV (eOp2 dLt (eVar 2) (eOp2 dPow (eC (.int 10)) (eC (.int 18)))) [some (.scr ns), some (.int (k : Int)), some (.int c)] st = some (false, st) := by
      refine tV_at ?_
      rw [eOp2_at (x := .int c) (st1 := st) (eVar_at rfl) (by rw [eOp2_at eC_at eC_at, pow18]), dLt_int, decide_eq_false hlt]
    rw [sSeq_at (ρ1 := [some (D.scr ns), some (D.int (k : Int)), some (D.int c)]) (st1 := st) (by rw [sIf_at ht]; rfl)]
    refine sRet_at (eLst_at ?_ two_le)
    simp only [aCons, aNil, eOp2, eVar, eC, Dl.M.bnd, Dl.M.ret, List.getElem?_cons_zero, List.getElem?_cons_succ, dAdd_int, dMod_int (show (0 : Int) < 2147483646 by decide)]
end Dl
end
set_option linter.all false
set_option autoImplicit false
set_option maxRecDepth 100000
/-! M15: middles, reach, stands; plain piles -/
noncomputable section
namespace Dl
open PySem PySem.Spec PyProof.Rows L2
theorem rgs_range (n : Nat) : ∀ k : Nat, rgs k n = (List.range' k n).map fun j : Nat => D.int (j : Int) := by
  induction n with
  | zero => intro k; rfl
  | succ n ih =>
    intro k
    show D.int (k : Int) :: rgs (k + 1) n = _
    rw [ih (k + 1), List.range'_succ]
    rfl
/-- a pile whose data can be compared -/
structure Good (p : Pile) : Prop where
  ok : ∃ N M, RowsOk p N M
  nm : ∀ r ∈ p, PyData.strOk r.name = true
theorem PileOk.good {e : Nat} {L W : Int} {most : Nat} {p : Pile} (h : PileOk e L W most p) (he : e ≤ 900) (hL : L ≤ 10000) (hW : W ≤ 10000) (hm : most ≤ 8) : Good p := by
  obtain ⟨N, M, h1, _⟩ := h.rowsOk he hL hW hm
  exact ⟨⟨N, M, h1⟩, h.nmOk⟩
theorem Good.nil : Good [] := ⟨⟨1, 0, by decide, by decide, fun r hr => by simp at hr, by decide, by decide⟩, fun r hr => by simp at hr⟩
theorem Good.drop {p : Pile} (h : Good p) (k : Nat) : Good (p.drop k) := by
  obtain ⟨N, M, H⟩ := h.ok
  exact ⟨⟨N, M, H.drop k⟩, fun r hr => h.nm r (List.mem_of_mem_drop hr)⟩
/-! equality of data -/
theorem frs_plain (qs : List Rat) : D.plains (frs qs) = true := by
  induction qs with
  | nil => rfl
  | cons q qs ih => show (D.plain (fr q) && D.plains (frs qs)) = true; rw [ih]; rfl
theorem frs_nbs (qs : List Rat) : D.nbs (frs qs) = true := by
  induction qs with
  | nil => rfl
  | cons q qs ih => show (D.nb (fr q) && D.nbs (frs qs)) = true; rw [ih]; rfl
theorem frs_dep (qs : List Rat) : D.deps (frs qs) ≤ 60 := by
  induction qs with
  | nil => exact Nat.zero_le _
  | cons q qs ih =>
    show max (D.dep (fr q)) (D.deps (frs qs)) ≤ 60
    have : D.dep (fr q) = 1 := rfl
    omega
theorem sides_ok : PyData.strOk sOff = true ∧ PyData.strOk sLeft = true ∧ PyData.strOk sRight = true := by decide +kernel
theorem side_ok {lo hi m : Rat} {s : Str} (h : side lo hi m = some s) : PyData.strOk s = true := by
  unfold side at h
  split at h
  · cases h; exact sides_ok.1
  · split at h
    · cases h; exact sides_ok.2.1
    · split at h
      · cases h; exact sides_ok.2.2
      · cases h
theorem jn_ok : ∀ (p : Pile) (k : Nat) (b : Option Row), ∀ z ∈ jn k b p, PyData.strOk z.2 = true
  | [], _, _, z, h => by cases h
  | r :: q, k, b, z, h => by
    rcases List.mem_append.mp h with h | h
    · cases hs : side (lowR b r) (highR b r) (mid (r :: q)) with
      | none => rw [hs] at h; cases h
      | some s =>
        rw [hs] at h
        rw [List.mem_singleton] at h
        subst h
        exact side_ok hs
    · exact jn_ok q (k + 1) (some r) z h
theorem dJs_plain {zs : List (Nat × Str)} (h : ∀ z ∈ zs, PyData.strOk z.2 = true) : D.plains (dJs zs) = true := by
  induction zs with
  | nil => rfl
  | cons z zs ih =>
    show (D.plain (dJ z) && D.plains (dJs zs)) = true
    rw [ih fun x hx => h x (by simp [hx])]
    show ((PyData.strOk z.2 && true) && true) = true
    rw [h z (by simp)]; rfl
theorem dJs_nbs (zs : List (Nat × Str)) : D.nbs (dJs zs) = true := by
  induction zs with
  | nil => rfl
  | cons z zs ih => show (D.nb (dJ z) && D.nbs (dJs zs)) = true; rw [ih]; rfl
theorem dJs_dep (zs : List (Nat × Str)) : D.deps (dJs zs) ≤ 60 := by
  induction zs with
  | nil => exact Nat.zero_le _
  | cons z zs ih =>
    show max (D.dep (dJ z)) (D.deps (dJs zs)) ≤ 60
    have : D.dep (dJ z) = 1 := rfl
    omega
/-- two lists of the same plain data -/
theorem lists_eq (neg : Bool) {m n : Nat} {xs : List D} (st : Store) (hm : st[m]? = some (.lst xs)) (hn : st[n]? = some (.lst xs)) (hp : D.plains xs = true) (hb : D.nbs xs = true) (hd : D.deps xs ≤ 60) : dEqB neg (.ref m) (.ref n) st = some (.bl (!neg), st) := by
  refine (dEq_lists neg st hm hn hp hp hd hd).trans ?_
  rw [(eqvAll_iff hp hp hb hb).mpr rfl]
  cases neg <;> rfl
theorem plain_eq (neg : Bool) {a : D} (st : Store) (hp : a.plain = true) (hb : a.nb = true) (hd : a.dep ≤ 64) : dEqB neg a a st = some (.bl (!neg), st) := by
  refine (dEq_plain neg st hp hp hd hd).trans ?_
  rw [(eqv_iff hp hp hb hb).mpr rfl]
  cases neg <;> rfl
theorem nil_eq (neg : Bool) {m n : Nat} {xs : List D} (st : Store) (hm : st[m]? = some (.lst xs)) (hn : st[n]? = some (.lst [])) (hp : D.plains xs = true) (hd : D.deps xs ≤ 60) : dEqB neg (.ref m) (.ref n) st = some (.bl (if neg then !xs.isEmpty else xs.isEmpty), st) := by
  refine (dEq_lists neg st hm hn hp rfl hd (by decide)).trans ?_
  cases xs <;> rfl
/-! ### middles -/
def midsR (p : Pile) : List Rat := (List.range' 0 p.length).map fun k => mid (p.drop k)
def mids (p : Pile) : List D := frs (midsR p)
theorem bLen_pile {p : Pile} {ρ : Env1} {j : Nat} (st : Store) (hj : ρ[j]? = some (some (dPile p))) : aCons (eCB bLen (aCons (eVar j) aNil)) aNil ρ st = some ([.int (p.length : Int)], st) := by
  have : bLen [dPile p] st = some (.int (p.length : Int), st) := by
    show some (D.int (dRows p).length, st) = _
    rw [dRows_len]
  exact aCons_at ((eCB_at (aCons_at (eVar_at hj) aNil_at)).trans this) aNil_at
theorem mids_list {F : List D → M D} (hF : ∀ (q : Pile) (st : Store), Good q → q ≠ [] → F [dPile q] st = some (fr (mid q), st)) {ρ : Env1} (i j : Nat) {p : Pile} (st : Store) (hp : Good p) (hj : ρ[j]? = some (some (dPile p))) (hi : i < ρ.length) (hij : i ≠ j) :
    ∃ z, eLc (iR1 (aCons (eCB bLen (aCons (eVar j) aNil)) aNil)) (xName i) tYesD (eCB (mCall 1 F) (aCons (eSl (eVar j) (oSome (eVar i)) oNone) aNil)) [i] ρ st = some (.ref st.length, st ++ .lst (mids p) :: z) := by
  obtain ⟨N, M, H⟩ := hp.ok
  have hl := H.len
  obtain ⟨z, e⟩ := eLc_mA (it := iR1 (aCons (eCB bLen (aCons (eVar j) aNil)) aNil)) (g := xName i) (e := eCB (mCall 1 F) (aCons (eSl (eVar j) (oSome (eVar i)) oNone) aNil)) (vs := [i]) (ρ := ρ) (st := st) (st1 := st) (s := ⟨rgs 0 p.length, none⟩) (List.range' 0 p.length) (fun k : Nat => D.int (k : Int)) (fun k => fr (mid (p.drop k)))
    (rng_at (bLen_pile st hj) (by omega)) (.inl rfl) (rgs_range _ _) (fun k hk z => by
      refine ⟨_, rfl, fun z => ⟨[], ?_⟩⟩
      have hk2 : k < p.length := by
        rw [List.mem_range'_1] at hk
        omega
      have w1 := wipe1 ρ i (some (.int (k : Int))) hi
      have w2 : ((wipeE ρ [i]).set i (some (.int (k : Int))))[j]? = some (some (dPile p)) := by
        rw [List.getElem?_set_ne hij]
        show (ρ.set i none)[j]? = _
        rw [List.getElem?_set_ne hij]
        exact hj
      rw [eCB_at (aCons_at (sl_drop (st ++ z) w2 w1) aNil_at), mCall1, hF _ _ (hp.drop k) (fun e => by
        have := congrArg List.length e
        rw [List.length_drop] at this
        simp at this
        omega), List.append_nil]) (by rw [List.length_range']; exact Nat.le_trans hl (by decide))
  refine ⟨z, ?_⟩
  rw [e]
  unfold mids midsR frs
  rw [List.map_map]; rfl
theorem md_good (q : Pile) (st : Store) (h : Good q) (h0 : q ≠ []) : F_md [dPile q] st = some (fr (mid q), st) := by
  obtain ⟨N, M, H⟩ := h.ok
  exact md_eq st (.inl rfl) H h0
theorem lmd_good (q : Pile) (st : Store) (h : Good q) (h0 : q ≠ []) : F_lmd [dPile q] st = some (fr (mid q), st) := by
  obtain ⟨N, M, H⟩ := h.ok
  exact lmd_eq st (.inl rfl) H h0
def b_mids : Sx := (sRet (eLc (iR1 (aCons (eCB bLen (aCons (eVar 0) aNil)) aNil)) (xName 1) tYesD (eCB (mCall 1 F_md) (aCons (eSl (eVar 0) (oSome (eVar 1)) oNone) aNil)) [1]))
def F_mids : List D → M D := gcL (defX 2 b_mids)
theorem frs_lows (qs : List Rat) : D.lows 0 (frs qs) = true := by
  induction qs with
  | nil => rfl
  | cons q qs ih => show (D.low 0 (fr q) && D.lows 0 (frs qs)) = true; rw [ih]; rfl
theorem mids_eq {p : Pile} (hp : Good p) (st : Store) : F_mids [dPile p] st = some (.ref st.length, st ++ [.lst (mids p)]) := by
  obtain ⟨z, e⟩ := mids_list md_good 1 0 (ρ := [some (dPile p), none]) st hp rfl (by simp) (by decide)
  exact gcL_eq (defX_rt rfl (sRet_at e)) (frs_lows _)
/-! ### the rightmost -/
def far_ : Option Rat → Pile → Option Rat
  | f, [] => f
  | none, r :: p => far_ (some r.rgt) p
  | some f, r :: p => far_ (some (if f < r.rgt then r.rgt else f)) p
def dOR : Option Rat → D
  | none => .non
  | some q => fr q
theorem far_max : ∀ (p : Pile) (f : Rat), far_ (some f) p = some (maxR f (p.map Row.rgt))
  | [], f => rfl
  | r :: p, f => far_max p _
def b_re : Sx := (sRet (eIf (tV (eOp2 dNe (eVar 0) (eTup aNil))) (eCB (mCall 1 F_gr) (aCons (eLc (iSeq (eVar 0)) (xName 1) tYesD (eCB (mCall 1 F_rg) (aCons (eVar 1) aNil)) [1]) aNil)) (eC .non)))
def F_re : List D → M D := gcF (defX 2 b_re)
theorem pile_plain {p : Pile} (h : Good p) : (dPile p).plain = true := dRows_plain h.nm
theorem pile_dep (p : Pile) : (dPile p).dep ≤ 64 := by
  show D.deps (dRows p) + 1 ≤ 64
  have := dRows_dep p
  omega
theorem tup_nil (neg : Bool) {p : Pile} (h : Good p) (st : Store) : dEqB neg (dPile p) (.tup []) st = some (.bl (if neg then !p.isEmpty else p.isEmpty), st) := by
  refine (dEq_plain neg st (pile_plain h) rfl (pile_dep p) (by decide)).trans ?_
  cases p <;> rfl
theorem re_eq {p : Pile} (h : Good p) (st : Store) : F_re [dPile p] st = some (dOR (far_ none p), st) := by
  obtain ⟨N, M, H⟩ := h.ok
  have ht : tV (eOp2 dNe (eVar 0) (eTup aNil)) [some (dPile p), none] st = some (!p.isEmpty, st) :=
    tV_at ((eOp2_at (eVar_at rfl) (eTup_at aNil_at (by decide))).trans (tup_nil true h st))
  cases p with
  | nil => exact gcF_eq0 (defX_rt rfl (sRet_at ((eIf_at ht).trans rfl))) rfl
  | cons r p =>
    obtain ⟨z, e⟩ := eLc_mA (it := iSeq (eVar 0)) (g := xName 1) (e := eCB (mCall 1 F_rg) (aCons (eVar 1) aNil)) (vs := [1]) (ρ := [some (dPile (r :: p)), none]) (st := st) (st1 := st) (s := ⟨dRows (r :: p), none⟩) (r :: p) dRow (fun r => fr r.rgt) rfl (.inl rfl) rfl (fun x hx z => ⟨_, rfl, fun z => ⟨[], by
        rw [eCB_at (aCons_at (eVar_at rfl) aNil_at), mCall1, rg_eq _ (H.at_sz hx) (H.rows x hx).btl, List.append_nil]⟩⟩) (Nat.le_trans H.len (by decide))
    have e2 : (r :: p).map (fun r => fr r.rgt) = frs ((r :: p).map Row.rgt) := by unfold frs; rw [List.map_map]; rfl
    rw [e2] at e
    have e3 := gr_eq (q := r.rgt) (qs := p.map Row.rgt) (d := .ref st.length) (st ++ .lst (frs ((r :: p).map Row.rgt)) :: z) (.inr ⟨_, rfl, get_app⟩) (fun x hx => by
      obtain ⟨y, hy, rfl⟩ := List.mem_map.mp (show x ∈ (r :: p).map Row.rgt from hx)
      exact H.rgt_sz hy)
    refine gcF_eq (g := .lst (frs ((r :: p).map Row.rgt)) :: z) (defX_rt rfl (sRet_at ((eIf_at ht).trans ?_))) ?_
    · show eCB (mCall 1 F_gr) (aCons (eLc (iSeq (eVar 0)) (xName 1) tYesD (eCB (mCall 1 F_rg) (aCons (eVar 1) aNil)) [1]) aNil) [some (dPile (r :: p)), none] st = _
      rw [eCB_at (aCons_at e aNil_at), mCall1, e3]
      show _ = some (dOR (far_ (some r.rgt) p), _)
      rw [far_max]; rfl
    · show (dOR (far_ (some r.rgt) p)).low 0 = true
      rw [far_max]; rfl
/-! ### standing -/
def b_sds : Sx := (sRet (eOp2 dEq (eCB (mCall 1 F_jo) (aCons (eVar 0) aNil)) (eLst aNil)))
def F_sds : List D → M D := gcF (defX 1 b_sds)
theorem sds_eq {p : Pile} (h : Good p) (st : Store) : F_sds [dPile p] st = some (.bl (joints p).isEmpty, st) := by
  obtain ⟨N, M, H⟩ := h.ok
  refine gcF_eq (g := [.lst (dJs (joints p)), .lst []]) (defX_rt rfl (sRet_at ?_)) rfl
  have e1 : eCB (mCall 1 F_jo) (aCons (eVar 0) aNil) [some (dPile p)] st = some (.ref st.length, st ++ [MO.lst (dJs (joints p))]) :=
    by rw [eCB_at (aCons_at (eVar_at rfl) aNil_at), mCall1, jo_eq H st]
  have e2 : eLst aNil [some (dPile p)] (st ++ [MO.lst (dJs (joints p))]) = some (.ref (st ++ [MO.lst (dJs (joints p))]).length, st ++ [MO.lst (dJs (joints p))] ++ [MO.lst []]) := eLst_at aNil_at (by decide)
  show eOp2 dEq (eCB (mCall 1 F_jo) (aCons (eVar 0) aNil)) (eLst aNil) [some (dPile p)] st = _
  rw [eOp2_at e1 e2]
  refine (nil_eq false (xs := dJs (joints p)) _ (by rw [List.append_assoc]; exact get_app) get_app (dJs_plain (jn_ok p 0 none)) (dJs_dep _)).trans ?_
  rw [List.append_assoc]
  cases joints p <;> rfl
end Dl
end
set_option linter.all false
set_option autoImplicit false
set_option maxRecDepth 100000
/-! M16: law k02 -/
noncomputable section
namespace Dl
open PySem PySem.Spec PyProof.Rows L2
def sMore : Str := "more"
def bFar : Sx := (sIf (tOrD (tV (eOp1 (dIsN false) (eVar 8))) (tV (eCB (mCall 2 F_ls) (aCons (eVar 8) (aCons (eCB (mCall 1 F_lrg) (aCons (eVar 9) aNil)) aNil))))) (sAsg (eCB (mCall 1 F_lrg) (aCons (eVar 9) aNil)) (xName 8)) sNext)
def bTest : Sx := (sIf (tOrD (tV (eOp2 dNe (eVar 5) (eVar 4))) (tV (eOp2 dNe (eVar 6) (eCB (mCall 1 F_lj) (aCons (eVar 3) aNil))))) (sRet (eC (.bl false))) sNext)
def bOne : Sx := (sSeq (sAsg (eLc (iR1 (aCons (eCB bLen (aCons (eVar 3) aNil)) aNil)) (xName 10) tYesD (eCB (mCall 1 F_lmd) (aCons (eSl (eVar 3) (oSome (eVar 10)) oNone) aNil)) [10]) (xName 4))
  (sSeq (sPar 5 6 (aCons (eCB (mCall 1 F_mids) (aCons (eVar 3) aNil)) (aCons (eCB (mCall 1 F_jo) (aCons (eVar 3) aNil)) aNil)))
  (sSeq bTest
  (sSeq (sAsg (eCB (mCall 1 F_sds) (aCons (eVar 3) aNil)) (xName 7))
  (sSeq (sIf (tOrD (tNotD (tV (eCB bIsi (aCons (eVar 7) (aCons (eC (.ty "bool")) aNil))))) (tV (eOp2 dNe (eVar 7) (eOp2 dEq (eVar 6) (eLst aNil))))) (sRet (eC (.bl false))) sNext)
  (sSeq (sAsg (eC .non) (xName 8))
  (sSeq (sFor (iSeq (eVar 3)) (xName 9) bFar)
  (sSeq (sIf (tV (eOp2 dNe (eCB (mCall 1 F_re) (aCons (eVar 3) aNil)) (eVar 8))) (sRet (eC (.bl false))) sNext)
  (sSeq (sDrop (eBM dApp (eVar 5) (aCons (eC (.str "more")) aNil)))
  (sSeq (sDrop (eBM dApp (eVar 6) (aCons (eC (.str "more")) aNil)))
  (sIf (tOrD (tV (eOp2 dNe (eCB (mCall 1 F_mids) (aCons (eVar 3) aNil)) (eVar 4))) (tV (eOp2 dNe (eCB (mCall 1 F_jo) (aCons (eVar 3) aNil)) (eCB (mCall 1 F_lj) (aCons (eVar 3) aNil))))) (sRet (eC (.bl false))) sNext)))))))))))
def bK2 : Sx := (sSeq (sAsg (eCB (mCall 2 F_bag) (aCons (eVar 0) (aCons (eVar 1) aNil))) (xName 2))
  (sFor (iLstS (eLst (aCons (eCB (mCall 2 (F_an 4 30 100 4 12 30)) (aCons (eVar 2) (aCons (eC (.int 7)) aNil))) (aCons (eCB (mCall 2 (F_pi 4 30 100 4 12 30)) (aCons (eVar 2) (aCons (eC (.int 7)) aNil))) (aCons (eCB (mCall 2 (F_an 4 30 100 4 12 30)) (aCons (eVar 2) (aCons (eC (.int 3)) aNil))) (aCons (eTup aNil) aNil)))))) (xName 3) bOne))
def b_l2 : Sx := (sSeq (sFor (iR1 (aCons (eOp2 dAdd (eC (.int 1)) (eCB bMin2 (aCons (eCB bLen (aCons (eVar 0) aNil)) (aCons (eC (.int 20)) aNil)))) aNil)) (xName 1) bK2)
  (sRet (eC (.bl true))))
def F_l2 : List D → M D := defX 11 b_l2
theorem ap {s g : Store} {n : Nat} {o : MO} (h : s[n]? = some o) : (s ++ g)[n]? = some o := by
  rw [List.getElem?_append_left (List.getElem?_eq_some_iff.mp h).1]; exact h
theorem wOf {α : Type} {m : M α} {st st' : Store} {a : α} {Q : α → Store → Prop} (h : m st = some (a, st')) (q : Q a st') : Wp m st Q := ⟨a, st', h, q⟩
theorem call1 {F : List D → M D} {i : Nat} {x : D} {ρ : Env1} {st : Store} {r : Option (D × Store)} (hi : ρ[i]? = some (some x)) (h : F [x] st = r) : eCB (mCall 1 F) (aCons (eVar i) aNil) ρ st = r := by
  rw [eCB_at (aCons_at (eVar_at hi) aNil_at), mCall1, h]
theorem far_loop {P : Pile} {N B : Nat} (H : RowsOk P N B) (o0 o1 o2 o3 o4 o5 o6 o7 o10 : Option D) (s : Src) (st : Store) (ok : s.ok st) : ∀ (p : Pile) (f : Option Rat) (o9 : Option D), (∀ r ∈ p, r ∈ P) → (∀ q, f = some q → Sz q) →
    ∃ o9', forL s (xName 9) bFar (dRows p) [o0, o1, o2, o3, o4, o5, o6, o7, some (dOR f), o9, o10] st = some (.nx [o0, o1, o2, o3, o4, o5, o6, o7, some (dOR (far_ f p)), o9', o10], st)
  | [], f, o9, _, _ => by
    cases f <;> exact ⟨o9, forL_nil ok⟩
  | r :: p, f, o9, hp, hf => by
    have hr := hp r (by simp)
    have sr := H.rgt_sz hr
    have er := lrg_eq (r := r) st (H.at_sz hr) (H.rows r hr).btl
    have eE : eCB (mCall 1 F_lrg) (aCons (eVar 9) aNil) [o0, o1, o2, o3, o4, o5, o6, o7, some (dOR f), some (dRow r), o10] st = some (fr r.rgt, st) := by
      rw [eCB_at (aCons_at (eVar_at rfl) aNil_at), mCall1, er]
    cases f with
    | none =>
      obtain ⟨o9', e⟩ := far_loop H o0 o1 o2 o3 o4 o5 o6 o7 o10 s st ok p (some r.rgt) (some (dRow r)) (fun x hx => hp x (by simp [hx])) (fun q hq => by cases hq; exact sr)
      refine ⟨o9', (forL_nx ok rfl ?_).trans e⟩
      show bFar [o0, o1, o2, o3, o4, o5, o6, o7, some (dOR none), some (dRow r), o10] st = _
      unfold bFar
      rw [sIf_at (k := true) (st1 := st) rfl, if_pos rfl, sSet_at eE]
      rfl
    | some f =>
      have sf := hf f rfl
      obtain ⟨o9', e⟩ := far_loop H o0 o1 o2 o3 o4 o5 o6 o7 o10 s st ok p (some (if f < r.rgt then r.rgt else f)) (some (dRow r)) (fun x hx => hp x (by simp [hx])) (fun q hq => by
        cases hq
        split <;> assumption)
      refine ⟨o9', (forL_nx ok rfl ?_).trans e⟩
      show bFar [o0, o1, o2, o3, o4, o5, o6, o7, some (dOR (some f)), some (dRow r), o10] st = _
      have et : tV (eCB (mCall 2 F_ls) (aCons (eVar 8) (aCons (eCB (mCall 1 F_lrg) (aCons (eVar 9) aNil)) aNil))) [o0, o1, o2, o3, o4, o5, o6, o7, some (dOR (some f)), some (dRow r), o10] st = some (decide (f < r.rgt), st) := by
        refine tV_at ?_
        rw [eCB_at (aCons_at (x := fr f) (eVar_at rfl) (aCons_at eE aNil_at)), mCall2, ls_eq st sf sr]
      unfold bFar
      rw [sIf_at (k := decide (f < r.rgt)) (st1 := st) (by rw [tOrD_at (k := false) (st1 := st) rfl, if_neg (by decide), et])]
      by_cases h : f < r.rgt
      · rw [decide_eq_true h, if_pos rfl, sSet_at eE, if_pos h]; rfl
      · rw [decide_eq_false h, if_neg (by decide), if_neg h]; rfl
theorem dOR_plain (f : Option Rat) : (dOR f).plain = true ∧ (dOR f).nb = true ∧ (dOR f).dep ≤ 64 := by
  cases f with
  | none => exact ⟨rfl, rfl, Nat.zero_le _⟩
  | some q => exact ⟨rfl, rfl, by show 1 ≤ 64; decide⟩
theorem bl_ne (a : Bool) (st : Store) : dNe (.bl a) (.bl a) st = some (.bl false, st) := by
  refine (dEq_plain true st rfl rfl (Nat.zero_le _) (Nat.zero_le _)).trans ?_
  cases a <;> rfl
theorem one_ok {p : Pile} (hp : Good p) {b : Nat} {s : Store} (hb : BagAt b s) (x1 x2 o2 o4 o5 o6 o7 o8 o9 o10 : Option D) :
    Wp (bOne [x1, x2, o2, some (dPile p), o4, o5, o6, o7, o8, o9, o10]) s fun f s' => ∃ o4 o5 o6 o7 o8 o9 o10, f = .nx [x1, x2, o2, some (dPile p), o4, o5, o6, o7, o8, o9, o10] ∧ Bg b s s' := by
  obtain ⟨N, M, H⟩ := hp.ok
  have pm := frs_plain (midsR p)
  have nm := frs_nbs (midsR p)
  have dm := frs_dep (midsR p)
  have pj := dJs_plain (jn_ok p 0 none)
  have nj := dJs_nbs (jn 0 none p)
  have dj := dJs_dep (jn 0 none p)
  have hj : joints p = jn 0 none p := rfl
  have hm : mids p = frs (midsR p) := rfl
  have hlt := hb.lt
  -- due
  obtain ⟨z, e1⟩ := mids_list lmd_good 10 3 (ρ := [x1, x2, o2, some (dPile p), o4, o5, o6, o7, o8, o9, o10]) s hp rfl (by simp) (by decide)
  refine wSeq (wSet (Wp.of e1 ?_))
  have B1 := (Bg.refl hb).app (.lst (mids p) :: z)
  have n4 : (s ++ .lst (mids p) :: z)[s.length]? = some (.lst (mids p)) := get_app
  have l1 : s.length < (s ++ .lst (mids p) :: z).length := (List.getElem?_eq_some_iff.mp n4).1
  generalize s ++ .lst (mids p) :: z = s1 at *
  -- told, joints
  have e2 := mids_eq hp s1
  have n5 : (s1 ++ [MO.lst (mids p)])[s1.length]? = some (.lst (mids p)) := get_app
  have n4b := ap (g := [MO.lst (mids p)]) n4
  have B2 := B1.app [MO.lst (mids p)]
  have l2 : s1.length < (s1 ++ [MO.lst (mids p)]).length := (List.getElem?_eq_some_iff.mp n5).1
  generalize s1 ++ [MO.lst (mids p)] = s2 at *
  have e3 := jo_eq H s2
  have n6 : (s2 ++ [MO.lst (dJs (joints p))])[s2.length]? = some (.lst (dJs (joints p))) := get_app
  have n4c := ap (g := [MO.lst (dJs (joints p))]) n4b
  have n5b := ap (g := [MO.lst (dJs (joints p))]) n5
  have B3 := B2.app [MO.lst (dJs (joints p))]
  have l3 : s2.length < (s2 ++ [MO.lst (dJs (joints p))]).length := (List.getElem?_eq_some_iff.mp n6).1
  generalize s2 ++ [MO.lst (dJs (joints p))] = s3 at *
  refine wSeq (wPar (Wp.of (aCons_at (call1 rfl e2) (aCons_at (call1 rfl e3) aNil_at)) ⟨_, _, rfl, ?_⟩))
  generalize s1.length = m5 at *
  generalize s2.length = m6 at *
  generalize hm4 : s.length = m4 at *
  show Wp (sSeq bTest _ [x1, x2, o2, some (dPile p), some (.ref m4), some (.ref m5), some (.ref m6), o7, o8, o9, o10]) s3 _
  -- they agree
  have e4 := lj_eq H s3
  have n7 : (s3 ++ [MO.lst (dJs (joints p))])[s3.length]? = some (.lst (dJs (joints p))) := get_app
  have c1 : tV (eOp2 dNe (eVar 5) (eVar 4)) [x1, x2, o2, some (dPile p), some (.ref m4), some (.ref m5), some (.ref m6), o7, o8, o9, o10] s3 = some (false, s3) :=
    tV_at ((eOp2_at (eVar_at rfl) (eVar_at rfl)).trans (lists_eq true s3 n5b n4c pm nm dm))
  have c2 : tV (eOp2 dNe (eVar 6) (eCB (mCall 1 F_lj) (aCons (eVar 3) aNil))) [x1, x2, o2, some (dPile p), some (.ref m4), some (.ref m5), some (.ref m6), o7, o8, o9, o10] s3 = some (false, s3 ++ [MO.lst (dJs (joints p))]) :=
    tV_at ((eOp2_at (eVar_at rfl) (call1 rfl e4)).trans (lists_eq true _ (ap n6) n7 pj nj dj))
  refine wSeq (Wp.of (a := .nx [x1, x2, o2, some (dPile p), some (.ref m4), some (.ref m5), some (.ref m6), o7, o8, o9, o10]) (st' := s3 ++ [MO.lst (dJs (joints p))]) (by
    unfold bTest
    rw [sIf_at (k := false) (st1 := s3 ++ [MO.lst (dJs (joints p))]) (by rw [tOrD_at c1, if_neg (by decide), c2]), if_neg (by decide)]; rfl) ?_)
  have n4d := ap (g := [MO.lst (dJs (joints p))]) n4c
  have n5c := ap (g := [MO.lst (dJs (joints p))]) n5b
  have n6b := ap (g := [MO.lst (dJs (joints p))]) n6
  have B4 := B3.app [MO.lst (dJs (joints p))]
  generalize s3 ++ [MO.lst (dJs (joints p))] = s4 at *
  -- stands
  refine wSeq (wSet (Wp.of (call1 rfl (sds_eq hp s4)) ?_))
  show Wp (sSeq _ _ [x1, x2, o2, some (dPile p), some (.ref m4), some (.ref m5), some (.ref m6), some (.bl (joints p).isEmpty), o8, o9, o10]) s4 _
  have n8 : (s4 ++ [MO.lst []])[s4.length]? = some (.lst []) := get_app
  have d1 : tNotD (tV (eCB bIsi (aCons (eVar 7) (aCons (eC (.ty "bool")) aNil)))) [x1, x2, o2, some (dPile p), some (.ref m4), some (.ref m5), some (.ref m6), some (.bl (joints p).isEmpty), o8, o9, o10] s4 = some (false, s4) := rfl
  have d2 : tV (eOp2 dNe (eVar 7) (eOp2 dEq (eVar 6) (eLst aNil))) [x1, x2, o2, some (dPile p), some (.ref m4), some (.ref m5), some (.ref m6), some (.bl (joints p).isEmpty), o8, o9, o10] s4 = some (false, s4 ++ [MO.lst []]) := by
    have e5 : eOp2 dEq (eVar 6) (eLst aNil) [x1, x2, o2, some (dPile p), some (.ref m4), some (.ref m5), some (.ref m6), some (.bl (joints p).isEmpty), o8, o9, o10] s4 = some (.bl (joints p).isEmpty, s4 ++ [MO.lst []]) := by
      rw [eOp2_at (eVar_at rfl) (eLst_at aNil_at (by decide))]
      refine (nil_eq false _ (ap n6b) n8 pj dj).trans ?_
      rw [hj]
      cases jn 0 none p <;> rfl
    exact tV_at ((eOp2_at (eVar_at rfl) e5).trans (bl_ne _ _))
  refine wSeq (Wp.of (a := .nx [x1, x2, o2, some (dPile p), some (.ref m4), some (.ref m5), some (.ref m6), some (.bl (joints p).isEmpty), o8, o9, o10]) (st' := s4 ++ [MO.lst []]) (by
    rw [sIf_at (k := false) (st1 := s4 ++ [MO.lst []]) (by
      rw [tOrD_at (k := false) (st1 := s4) d1, if_neg (by decide)]
      exact d2), if_neg (by decide)]; rfl) ?_)
  have n4e := ap (g := [MO.lst []]) n4d
  have n5d := ap (g := [MO.lst []]) n5c
  have n6c := ap (g := [MO.lst []]) n6b
  have B5 := B4.app [MO.lst []]
  generalize s4 ++ [MO.lst []] = s5 at *
  -- far
  refine wSeq (wSet (wC (wSeq ?_)))
  obtain ⟨o9', e6⟩ := far_loop H x1 x2 o2 (some (dPile p)) (some (.ref m4)) (some (.ref m5)) (some (.ref m6)) (some (.bl (joints p).isEmpty)) o10 ⟨dRows p, none⟩ s5 Src.ok_none p none o9 (fun r hr => hr) (fun q hq => by cases hq)
  refine wFor (Wp.bnd (wVar rfl (Wp.ret (Wp.of e6 ?_))))
  obtain ⟨f1, f2, f3⟩ := dOR_plain (far_ none p)
  have g1 : tV (eOp2 dNe (eCB (mCall 1 F_re) (aCons (eVar 3) aNil)) (eVar 8)) [x1, x2, o2, some (dPile p), some (.ref m4), some (.ref m5), some (.ref m6), some (.bl (joints p).isEmpty), some (dOR (far_ none p)), o9', o10] s5 = some (false, s5) :=
    tV_at ((eOp2_at (call1 rfl (re_eq hp s5)) (eVar_at rfl)).trans (plain_eq true s5 f1 f2 f3))
  refine wSeq (Wp.of (a := .nx [x1, x2, o2, some (dPile p), some (.ref m4), some (.ref m5), some (.ref m6), some (.bl (joints p).isEmpty), some (dOR (far_ none p)), o9', o10]) (st' := s5) (by rw [sIf_at g1, if_neg (by decide)]; rfl) ?_)
  -- more
  have hl5 : (mids p).length < sizeLine := by
    unfold mids midsR frs
    rw [List.length_map, List.length_map, List.length_range']
    exact Nat.lt_of_le_of_lt H.len (by decide)
  have hl6 : (dJs (joints p)).length < sizeLine := by
    unfold dJs
    rw [List.length_map]
    exact Nat.lt_of_le_of_lt (Nat.le_trans (jn_len p 0 none) H.len) (by decide)
  refine wSeq (wDrop (Wp.of (app_at (y := .str "more") (eVar_at rfl) n5d rfl n5d hl5) ?_))
  have h56 : m5 ≠ m6 := by omega
  have h45 : m4 ≠ m5 := by omega
  have h46 : m4 ≠ m6 := by omega
  have n6d : (s5.set m5 (.lst (mids p ++ [.str "more"])))[m6]? = some (.lst (dJs (joints p))) := by rw [List.getElem?_set_ne h56]; exact n6c
  refine wSeq (wDrop (Wp.of (app_at (y := .str "more") (eVar_at rfl) n6d rfl n6d hl6) ?_))
  have n4f : ((s5.set m5 (.lst (mids p ++ [.str "more"]))).set m6 (.lst (dJs (joints p) ++ [.str "more"])))[m4]? = some (.lst (mids p)) := by
    rw [List.getElem?_set_ne (Ne.symm h46), List.getElem?_set_ne (Ne.symm h45)]; exact n4e
  have B6 : Bg b s ((s5.set m5 (.lst (mids p ++ [.str "more"]))).set m6 (.lst (dJs (joints p) ++ [.str "more"]))) := (B5.set (by omega)).set (by omega)
  generalize (s5.set m5 (.lst (mids p ++ [.str "more"]))).set m6 (.lst (dJs (joints p) ++ [.str "more"])) = s6 at *
  have i1 := mids_eq hp s6
  have i2 := jo_eq H (s6 ++ [MO.lst (mids p)])
  have i3 := lj_eq H (s6 ++ [MO.lst (mids p)] ++ [MO.lst (dJs (joints p))])
  have j1 : tV (eOp2 dNe (eCB (mCall 1 F_mids) (aCons (eVar 3) aNil)) (eVar 4)) [x1, x2, o2, some (dPile p), some (.ref m4), some (.ref m5), some (.ref m6), some (.bl (joints p).isEmpty), some (dOR (far_ none p)), o9', o10] s6 = some (false, s6 ++ [MO.lst (mids p)]) :=
    tV_at ((eOp2_at (call1 rfl i1) (eVar_at rfl)).trans (lists_eq true _ get_app (ap n4f) pm nm dm))
  have j2 : tV (eOp2 dNe (eCB (mCall 1 F_jo) (aCons (eVar 3) aNil)) (eCB (mCall 1 F_lj) (aCons (eVar 3) aNil))) [x1, x2, o2, some (dPile p), some (.ref m4), some (.ref m5), some (.ref m6), some (.bl (joints p).isEmpty), some (dOR (far_ none p)), o9', o10] (s6 ++ [MO.lst (mids p)]) = some (false, s6 ++ [MO.lst (mids p)] ++ [MO.lst (dJs (joints p))] ++ [MO.lst (dJs (joints p))]) :=
    tV_at ((eOp2_at (call1 rfl i2) (call1 rfl i3)).trans (lists_eq true _ (ap get_app) get_app pj nj dj))
  refine Wp.of (a := .nx [x1, x2, o2, some (dPile p), some (.ref m4), some (.ref m5), some (.ref m6), some (.bl (joints p).isEmpty), some (dOR (far_ none p)), o9', o10]) (st' := s6 ++ [MO.lst (mids p)] ++ [MO.lst (dJs (joints p))] ++ [MO.lst (dJs (joints p))]) (by
    rw [sIf_at (k := false) (by rw [tOrD_at j1, if_neg (by decide), j2]), if_neg (by decide)]; rfl) ?_
  exact ⟨_, _, _, _, _, _, _, rfl, ((B6.app _).app _).app _⟩
theorem l2_true (ns : List Int) (h : ns.length ≤ 63) : ∃ st', F_l2 [.scr ns] [] = some (.bl true, st') := by
  have main : Wp (F_l2 [.scr ns]) [] fun d s => d = .bl true := by
    refine wDefX (env := [some (.scr ns), none, none, none, none, none, none, none, none, none, none]) rfl ?_
    have e1 : aCons (eOp2 dAdd (eC (.int 1)) (eCB bMin2 (aCons (eCB bLen (aCons (eVar 0) aNil)) (aCons (eC (.int 20)) aNil)))) aNil [some (.scr ns), none, none, none, none, none, none, none, none, none, none] [] = some ([.int ((1 + min ns.length 20 : Nat) : Int)], []) := by
      refine (show _ = some ([D.int (1 + (if (20 : Int) < (ns.length : Int) then 20 else (ns.length : Int)))], []) from rfl).trans ?_
      congr 4
      split <;> omega
    refine wSeq (wFor (Wp.of (rng_at e1 (by omega)) ?_))
    refine wForL (fun xs ρ s => ∃ (k n : Nat) (o1 o2 o3 o4 o5 o6 o7 o8 o9 o10 : Option D), ρ = [some (.scr ns), o1, o2, o3, o4, o5, o6, o7, o8, o9, o10] ∧ xs = rgs k n ∧ k + n ≤ 21) ?_ ?_ ?_ _ _ _ ?_
    · intro xs ρ s _
      exact Src.ok_none
    · rintro ρ s ⟨k, n, o1, o2, o3, o4, o5, o6, o7, o8, o9, o10, rfl, _, _⟩
      exact wRet (wC ⟨_, rfl, rfl⟩)
    · rintro x xs ρ s ⟨k, n, o1, o2, o3, o4, o5, o6, o7, o8, o9, o10, rfl, hx, hk⟩
      cases n with
      | zero => cases hx
      | succ n =>
      injection hx with h1 h2
      subst h1
      subst h2
      refine Wp.ret ?_
      obtain ⟨o, ho, eb⟩ := bag_eq ns k (by omega) s
      have hb : BagAt s.length (s ++ [o]) := ⟨o, get_app, ho⟩
      refine wSeq (wSet (Wp.of (show eCB (mCall 2 F_bag) (aCons (eVar 0) (aCons (eVar 1) aNil)) [some (.scr ns), some (.int (k : Int)), o2, o3, o4, o5, o6, o7, o8, o9, o10] s = _ by rw [eCB_at (aCons_at (eVar_at rfl) (aCons_at (eVar_at rfl) aNil_at)), mCall2, eb]) ?_))
      generalize s ++ [o] = s0 at *
      generalize s.length = b at *
      have ha : ∀ x ∈ [(4 : Int), 30, 100], 0 < x ∧ x ≤ 100 := by simp
      have hd : ∀ x ∈ [(4 : Int), 12, 30], 0 < x ∧ x ≤ 30 := by simp
      refine wFor (Wp.bnd (wLst (wCons (wCB (wCons (wVar rfl (wCons (wC (wNil (an_w (most := 7) hb (by decide) (by decide) ha hd (by decide) (by decide) fun p1 q1 hp1 hq1 => ?_))))))))))
      have B1 : Bg b s0 (s0.set b q1) := Bg.set0 hq1
      have hlt := hb.lt
      generalize s0.set b q1 = s1 at *
      refine wCons (wCB (wCons (wVar rfl (wCons (wC (wNil (pi_w (most := 7) (B1.bag hlt) (by decide) (by decide) ha hd (by decide) (by decide) fun p2 q2 hp2 _ hq2 => ?_)))))))
      have B2 : Bg b s0 (s1.set b q2) := B1.trans hlt (Bg.set0 hq2)
      generalize s1.set b q2 = s2 at *
      refine wCons (wCB (wCons (wVar rfl (wCons (wC (wNil (an_w (most := 3) (B2.bag hlt) (by decide) (by decide) ha hd (by decide) (by decide) fun p3 q3 hp3 hq3 => ?_)))))))
      have B3 : Bg b s0 (s2.set b q3) := B2.trans hlt (Bg.set0 hq3)
      generalize s2.set b q3 = s3 at *
      refine wCons (wTup (wNil ⟨Nat.zero_le _, wNil ⟨by show 4 ≤ sizeLine; decide, ?_⟩⟩))
      have hps : ∀ p ∈ [p1, p2, p3, []], Good p := by
        intro p hp
        simp only [List.mem_cons, List.not_mem_nil, or_false] at hp
        rcases hp with rfl | rfl | rfl | rfl
        · exact hp1.good (by decide) (by decide) (by decide) (by decide)
        · exact hp2.good (by decide) (by decide) (by decide) (by decide)
        · exact hp3.good (by decide) (by decide) (by decide) (by decide)
        · exact Good.nil
      have e0 : [dPile p1, dPile p2, dPile p3, D.tup []] = [p1, p2, p3, []].map dPile := rfl
      rw [e0]
      have n0 : (s3 ++ [MO.lst ([p1, p2, p3, []].map dPile)])[s3.length]? = some (.lst ([p1, p2, p3, []].map dPile)) := get_app
      have B4 := B3.app [MO.lst ([p1, p2, p3, []].map dPile)]
      have hne : s3.length ≠ b := by have := (B3.bag hlt).lt; omega
      generalize s3 ++ [MO.lst ([p1, p2, p3, []].map dPile)] = s4 at *
      generalize [p1, p2, p3, []] = ps at *
      generalize s3.length = n3 at *
      have src : (match s4[n3]? with
        | some (.lst xs) => some ((⟨xs, some n3⟩ : Src), s4)
        | _ => none) = some (⟨ps.map dPile, some n3⟩, s4) := by rw [n0]
      refine Wp.of src ?_
      refine wForL (fun xs ρ s => ∃ (pre post : List Pile) (o3 o4 o5 o6 o7 o8 o9 o10 : Option D), ρ = [some (.scr ns), some (.int (k : Int)), some (.ref b), o3, o4, o5, o6, o7, o8, o9, o10] ∧ ps = pre ++ post ∧ xs = post.map dPile ∧ s[n3]? = some (.lst (ps.map dPile)) ∧ Bg b s0 s) ?_ ?_ ?_ _ _ _ ?_
      · rintro xs ρ s ⟨_, _, _, _, _, _, _, _, _, _, _, _, _, hs, _⟩
        exact Src.ok_some hs
      · rintro ρ s ⟨pre, post, o3, o4, o5, o6, o7, o8, o9, o10, rfl, _, _, _, _⟩
        exact ⟨k + 1, n, _, _, _, _, _, _, _, _, _, _, rfl, rfl, by omega⟩
      · rintro x xs ρ s ⟨pre, post, o3, o4, o5, o6, o7, o8, o9, o10, rfl, he, hx, hs, B⟩
        cases post with
        | nil => cases hx
        | cons p post =>
          injection hx with h1 h2
          subst h1
          subst h2
          refine Wp.ret ((one_ok (hps p (by rw [he]; simp)) (B.bag hlt) _ _ _ _ _ _ _ _ _ _).mono ?_)
          rintro f s' ⟨o4, o5, o6, o7, o8, o9, o10, rfl, B'⟩
          exact ⟨pre ++ [p], post, _, _, _, _, _, _, _, _, rfl, by rw [he]; simp, rfl, B'.keep hne hs, B.trans hlt B'⟩
      · exact ⟨[], ps, _, _, _, _, _, _, _, _, rfl, rfl, rfl, n0, B4⟩
    · exact ⟨0, _, none, none, none, none, none, none, none, none, none, none, rfl, rfl, by omega⟩
  obtain ⟨d, s, e, rfl⟩ := main
  exact ⟨s, e⟩
end Dl
end
set_option linter.all false
set_option autoImplicit false
set_option maxRecDepth 100000
/-! M17: the plain law of pushes -/
noncomputable section
namespace Dl
open PySem PySem.Spec PyProof.Rows L2
theorem max_le {f : Rat} {l : List Rat} {t : Rat} : maxR f l ≤ t ↔ f ≤ t ∧ ∀ x ∈ l, x ≤ t := by
  induction l generalizing f with
  | nil => simp [maxR]
  | cons q l ih =>
    show maxR (if f < q then q else f) l ≤ t ↔ _
    rw [ih, List.forall_mem_cons]
    by_cases h : f < q
    · rw [if_pos h]
      constructor
      · intro ⟨h1, h2⟩; exact ⟨by grind, h1, h2⟩
      · intro ⟨h1, h2, h3⟩; exact ⟨h2, h3⟩
    · rw [if_neg h]
      constructor
      · intro ⟨h1, h2⟩; exact ⟨h1, by grind, h2⟩
      · intro ⟨h1, h2, h3⟩; exact ⟨h1, h3⟩
theorem le_min {f : Rat} {l : List Rat} {t : Rat} : t ≤ minR f l ↔ t ≤ f ∧ ∀ x ∈ l, t ≤ x := by
  induction l generalizing f with
  | nil => simp [minR]
  | cons q l ih =>
    show t ≤ minR (if q < f then q else f) l ↔ _
    rw [ih, List.forall_mem_cons]
    by_cases h : q < f
    · rw [if_pos h]
      constructor
      · intro ⟨h1, h2⟩; exact ⟨by grind, h1, h2⟩
      · intro ⟨h1, h2, h3⟩; exact ⟨h2, h3⟩
    · rw [if_neg h]
      constructor
      · intro ⟨h1, h2⟩; exact ⟨h1, by grind, h2⟩
      · intro ⟨h1, h2, h3⟩; exact ⟨h1, h3⟩
theorem max_mem (f : Rat) (l : List Rat) : maxR f l ∈ f :: l := by
  induction l generalizing f with
  | nil => simp [maxR]
  | cons q l ih =>
    have := ih (if f < q then q else f)
    show maxR (if f < q then q else f) l ∈ _
    rcases List.mem_cons.mp this with h | h
    · rw [h]; split <;> simp
    · simp [h]
theorem min_mem (f : Rat) (l : List Rat) : minR f l ∈ f :: l := by
  induction l generalizing f with
  | nil => simp [minR]
  | cons q l ih =>
    have := ih (if q < f then q else f)
    show minR (if q < f then q else f) l ∈ _
    rcases List.mem_cons.mp this with h | h
    · rw [h]; split <;> simp
    · simp [h]
/-- the joint of a number holds -/
def JOk (p : Pile) (k : Nat) (r : Row) : Prop := lowR (below p k) r ≤ mid (p.drop k) ∧ mid (p.drop k) ≤ highR (below p k) r
theorem holds_idx' : ∀ (p : Pile) (b : Option Row), Holds_ b p ↔ ∀ (k : Nat) (r : Row), p[k]? = some r → lowR (if k = 0 then b else p[k - 1]?) r ≤ mid (p.drop k) ∧ mid (p.drop k) ≤ highR (if k = 0 then b else p[k - 1]?) r
  | [], b => by
    constructor
    · intro _ k r h; simp at h
    · intro _; trivial
  | s :: q, b => by
    show lowR b s ≤ mid (s :: q) ∧ mid (s :: q) ≤ highR b s ∧ Holds_ (some s) q ↔ _
    rw [holds_idx' q (some s)]
    constructor
    · rintro ⟨h1, h2, h3⟩ k r hr
      cases k with
      | zero =>
        have : s = r := by simpa using hr
        subst this
        exact ⟨h1, h2⟩
      | succ k =>
        have hr : q[k]? = some r := by simpa using hr
        have := h3 k r hr
        cases k with
        | zero => simpa using this
        | succ k => simpa using this
    · intro h
      refine ⟨(h 0 s rfl).1, (h 0 s rfl).2, fun k r hr => ?_⟩
      have := h (k + 1) r (by simpa using hr)
      cases k with
      | zero => simpa using this
      | succ k => simpa using this
theorem below_if (p : Pile) (k : Nat) : (if k = 0 then none else p[k - 1]?) = below p k := by
  cases k <;> rfl
theorem joints_idx {p : Pile} : joints p = [] ↔ ∀ (k : Nat) (r : Row), p[k]? = some r → JOk p k r := by
  rw [joints_nil, holds_idx']
  constructor
  · intro h k r hr
    have := h k r hr
    rw [below_if] at this
    exact this
  · intro h k r hr
    rw [below_if]
    exact h k r hr
/-! ### pushing -/
def push (p : Pile) (n : Nat) (t : Rat) : Pile := p.take n ++ shift t (p.drop n)
theorem push_len (p : Pile) (n : Nat) (t : Rat) : (push p n t).length = p.length := by
  unfold push shift
  rw [List.length_append, List.length_map, List.length_take, List.length_drop]
  omega
theorem push_lo {p : Pile} {n k : Nat} {t : Rat} (h : k < n) : (push p n t)[k]? = p[k]? := by
  unfold push
  by_cases hk : k < p.length
  · rw [List.getElem?_append_left (by rw [List.length_take]; omega), List.getElem?_take_of_lt h]
  · rw [List.getElem?_eq_none (by rw [show p.take n ++ shift t (p.drop n) = push p n t from rfl, push_len]; omega), List.getElem?_eq_none (by omega)]
theorem push_hi {p : Pile} {n k : Nat} {t : Rat} (h : n ≤ k) : (push p n t)[k]? = (p[k]?).map (Row.sh t) := by
  unfold push
  by_cases hn : n ≤ p.length
  · rw [List.getElem?_append_right (by rw [List.length_take]; omega), List.length_take, Nat.min_eq_left hn]
    unfold shift
    rw [List.getElem?_map, List.getElem?_drop]
    congr 2
    omega
  · rw [List.getElem?_eq_none (by rw [show p.take n ++ shift t (p.drop n) = push p n t from rfl, push_len]; omega), List.getElem?_eq_none (by omega)]
    rfl
theorem push_drop_hi {p : Pile} {n k : Nat} {t : Rat} (hn : n ≤ p.length) (h : n ≤ k) : (push p n t).drop k = shift t (p.drop k) := by
  unfold push
  rw [List.drop_append, List.length_take, Nat.min_eq_left hn, List.drop_eq_nil_of_le (by rw [List.length_take]; omega), List.nil_append]
  unfold shift
  rw [← List.map_drop, List.drop_drop]
  congr 2
  omega
theorem push_drop_lo {p : Pile} {n k : Nat} {t : Rat} (hn : n ≤ p.length) (h : k ≤ n) : (push p n t).drop k = (p.drop k).take (n - k) ++ shift t (p.drop n) := by
  unfold push
  rw [List.drop_append, List.length_take, Nat.min_eq_left hn, show k - n = 0 by omega, List.drop_zero, List.drop_take]
theorem tot_app0 (p q : Pile) : tot 0 (p ++ q) = tot 0 p + tot 0 q := by
  induction p with
  | nil =>
    show tot 0 q = 0 + tot 0 q
    rw [Rat.zero_add]
  | cons r p ih => rw [List.cons_append, tot_cons, ih, tot_cons, Rat.add_assoc]
theorem wt_app (p q : Pile) : wt (p ++ q) = wt p + wt q := by
  simp [wt]
theorem Hv.drop {p : Pile} (h : Hv p) (k : Nat) : Hv (p.drop k) := fun r hr => h r (List.mem_of_mem_drop hr)
theorem drop_ne {p : Pile} {k : Nat} (h : k < p.length) : p.drop k ≠ [] := fun e => by
  have := congrArg List.length e
  rw [List.length_drop] at this
  simp at this
  omega
theorem push_mid_lo {p : Pile} {n k : Nat} {t : Rat} (hv : Hv p) (hn : n < p.length) (h : k ≤ n) : mid ((push p n t).drop k) = mid (p.drop k) + t * (wt (p.drop n) : Rat) / (wt (p.drop k) : Rat) := by
  have e : p.drop k = (p.drop k).take (n - k) ++ p.drop n := by
    have := List.take_append_drop (n - k) (p.drop k)
    rw [List.drop_drop, show k + (n - k) = n by omega] at this
    exact this.symm
  have hw := (hv.drop k).pos (drop_ne (by omega))
  have h1 : wt ((push p n t).drop k) = wt (p.drop k) := by
    rw [push_drop_lo (by omega) h, wt_app, wt_shift]
    conv => rhs; rw [e]
    rw [wt_app]
  have h2 : tot 0 ((push p n t).drop k) = tot 0 (p.drop k) + t * (wt (p.drop n) : Rat) := by
    rw [push_drop_lo (by omega) h, tot_app0, tot_shift]
    conv => rhs; rw [e]
    rw [tot_app0]
    grind
  unfold mid
  rw [h1, h2]
  have := natCast_ne hw
  grind
theorem push_mid_hi {p : Pile} {n k : Nat} {t : Rat} (hv : Hv p) (hk : k < p.length) (h : n ≤ k) : mid ((push p n t).drop k) = mid (p.drop k) + t := by
  rw [push_drop_hi (by omega) h, mid_shift ((hv.drop k).pos (drop_ne hk))]
/-- the bound that a lower joint sets -/
def bnd1 (p : Pile) (n k : Nat) (e : Rat) : Rat := (e - mid (p.drop k)) * (wt (p.drop k) : Rat) / (wt (p.drop n) : Rat)
def jl (p : Pile) (k : Nat) : Rat := match p[k]? with
  | some r => lowR (below p k) r
  | none => 0
def jh (p : Pile) (k : Nat) : Rat := match p[k]? with
  | some r => highR (below p k) r
  | none => 0
theorem bnd_iff {p : Pile} {n k : Nat} {e t : Rat} (hv : Hv p) (hn : n < p.length) (h : k ≤ n) :
    (e ≤ mid (p.drop k) + t * (wt (p.drop n) : Rat) / (wt (p.drop k) : Rat) ↔ bnd1 p n k e ≤ t) ∧ (mid (p.drop k) + t * (wt (p.drop n) : Rat) / (wt (p.drop k) : Rat) ≤ e ↔ t ≤ bnd1 p n k e) := by
  have w1 := natCast_pos' ((hv.drop k).pos (drop_ne (show k < p.length by omega)))
  have w2 := natCast_pos' ((hv.drop n).pos (drop_ne hn))
  unfold bnd1
  generalize (wt (p.drop k) : Rat) = a at *
  generalize (wt (p.drop n) : Rat) = b at *
  generalize mid (p.drop k) = m at *
  have a0 : a ≠ 0 := fun h => by rw [h] at w1; exact Rat.lt_irrefl w1
  have b0 : b ≠ 0 := fun h => by rw [h] at w2; exact Rat.lt_irrefl w2
  have e1 : (m + t * b / a) * a = m * a + t * b := by grind
  have e2 : (e - m) * a / b * b = e * a - m * a := by grind
  constructor
  · constructor
    · intro h
      apply Rat.le_of_mul_le_mul_right (c := b) _ w2
      rw [e2]
      have := Rat.mul_le_mul_of_nonneg_right h (Rat.le_of_lt w1)
      rw [e1] at this
      grind
    · intro h
      apply Rat.le_of_mul_le_mul_right (c := a) _ w1
      rw [e1]
      have := Rat.mul_le_mul_of_nonneg_right h (Rat.le_of_lt w2)
      rw [e2] at this
      grind
  · constructor
    · intro h
      apply Rat.le_of_mul_le_mul_right (c := b) _ w2
      rw [e2]
      have := Rat.mul_le_mul_of_nonneg_right h (Rat.le_of_lt w1)
      rw [e1] at this
      grind
    · intro h
      apply Rat.le_of_mul_le_mul_right (c := a) _ w1
      rw [e1]
      have := Rat.mul_le_mul_of_nonneg_right h (Rat.le_of_lt w2)
      rw [e2] at this
      grind
theorem at_le_low (b : Option Row) (r : Row) : r.at_ ≤ lowR b r := by
  cases b with
  | none => exact Rat.le_refl
  | some b => simp only [lowR]; split <;> grind
theorem high_le_rgt (b : Option Row) (r : Row) : highR b r ≤ r.rgt := by
  cases b with
  | none => simp only [highR]; split <;> grind
  | some b => simp only [highR]; split <;> grind
theorem sh_rgt (t : Rat) (r : Row) : (r.sh t).rgt = r.rgt + t := by
  unfold Row.rgt Row.sh; grind
theorem low_sh (b r : Row) (t : Rat) : lowR (some (b.sh t)) (r.sh t) = lowR (some b) r + t := by
  simp only [lowR]
  show (if r.at_ + t < b.at_ + t then b.at_ + t else r.at_ + t) = (if r.at_ < b.at_ then b.at_ else r.at_) + t
  by_cases h : r.at_ < b.at_
  · rw [if_pos h, if_pos (by grind)]
  · rw [if_neg h, if_neg (by grind)]
theorem high_sh (b r : Row) (t : Rat) : highR (some (b.sh t)) (r.sh t) = highR (some b) r + t := by
  simp only [highR, sh_rgt]
  by_cases h : b.rgt < r.rgt
  · rw [if_pos h, if_pos (by grind)]
  · rw [if_neg h, if_neg (by grind)]
theorem below_push_lo {p : Pile} {n k : Nat} {t : Rat} (h : k ≤ n) : below (push p n t) k = below p k := by
  cases k with
  | zero => rfl
  | succ k => exact push_lo (by omega)
/-- what a joint above the pushed one asks is asked of it already -/
theorem push_above {p : Pile} {n k : Nat} {t : Rat} {r : Row} (hv : Hv p) (hr : p[k]? = some r) (h : n < k) : JOk (push p n t) k (r.sh t) ↔ JOk p k r := by
  have hk := (List.getElem?_eq_some_iff.mp hr).1
  cases k with
  | zero => omega
  | succ k =>
    obtain ⟨b, hb⟩ : ∃ b, p[k]? = some b := ⟨_, List.getElem?_eq_getElem (by omega)⟩
    have e : below (push p n t) (k + 1) = some (b.sh t) := by
      show (push p n t)[k]? = _
      rw [push_hi (by omega), hb]; rfl
    have e2 : below p (k + 1) = some b := hb
    unfold JOk
    rw [e, e2, push_mid_hi hv hk (by omega), low_sh, high_sh]
    constructor <;> (intro ⟨h1, h2⟩; constructor <;> grind)
theorem push_lower {p : Pile} {n k : Nat} {t : Rat} {r : Row} (hv : Hv p) (hn : n < p.length) (h : k < n) (hr : p[k]? = some r) : JOk (push p n t) k r ↔ bnd1 p n k (jl p k) ≤ t ∧ t ≤ bnd1 p n k (jh p k) := by
  unfold JOk
  rw [below_push_lo (by omega), push_mid_lo hv hn (by omega)]
  have e1 : jl p k = lowR (below p k) r := by unfold jl; rw [hr]
  have e2 : jh p k = highR (below p k) r := by unfold jh; rw [hr]
  rw [e1, e2, (bnd_iff hv hn (by omega)).1, (bnd_iff hv hn (by omega)).2]
theorem push_here {p : Pile} {n : Nat} {t : Rat} {b r : Row} (hv : Hv p) (hb : p[n]? = some b) (hr : p[n + 1]? = some r) (h : JOk p (n + 1) r) : JOk (push p (n + 1) t) (n + 1) (r.sh t) ↔ b.at_ - mid (p.drop (n + 1)) ≤ t ∧ t ≤ b.rgt - mid (p.drop (n + 1)) := by
  have hk := (List.getElem?_eq_some_iff.mp hr).1
  have a1 := at_le_low (below p (n + 1)) r
  have a2 := high_le_rgt (below p (n + 1)) r
  obtain ⟨h1, h2⟩ := h
  unfold JOk
  have e2 : below p (n + 1) = some b := hb
  rw [below_push_lo (by omega), e2, push_mid_hi hv hk (by omega)]
  generalize mid (p.drop (n + 1)) = m at *
  simp only [lowR, highR, sh_rgt]
  show (if r.at_ + t < b.at_ then b.at_ else r.at_ + t) ≤ m + t ∧ m + t ≤ (if b.rgt < r.rgt + t then b.rgt else r.rgt + t) ↔ _
  constructor
  · rintro ⟨x1, x2⟩
    constructor
    · split at x1 <;> grind
    · split at x2 <;> grind
  · rintro ⟨x1, x2⟩
    constructor
    · split <;> grind
    · split <;> grind
theorem push_ground {p : Pile} {t : Rat} {r : Row} (hv : Hv p) (hr : p[0]? = some r) (h : JOk p 0 r) : JOk (push p 0 t) 0 (r.sh t) ↔ t ≤ -mid p := by
  have hk := (List.getElem?_eq_some_iff.mp hr).1
  have a2 := high_le_rgt (below p 0) r
  obtain ⟨h1, h2⟩ := h
  unfold JOk
  rw [push_mid_hi hv hk (by omega)]
  rw [List.drop_zero] at *
  show lowR none (r.sh t) ≤ mid p + t ∧ mid p + t ≤ highR none (r.sh t) ↔ _
  have h1 : r.at_ ≤ mid p := h1
  simp only [lowR, highR, sh_rgt]
  show r.at_ + t ≤ mid p + t ∧ mid p + t ≤ (if (0 : Rat) < r.rgt + t then 0 else r.rgt + t) ↔ _
  constructor
  · rintro ⟨x1, x2⟩
    split at x2 <;> grind
  · intro x
    constructor
    · grind
    · split <;> grind
/-- the bounds told -/
def lows (p : Pile) (n : Nat) : List Rat := (List.range' 0 n).map fun k => bnd1 p n k (jl p k)
def highs (p : Pile) (n : Nat) : List Rat := (List.range' 0 n).map fun k => bnd1 p n k (jh p k)
def low_ (p : Pile) (n : Nat) (b : Row) : Rat := maxR (b.at_ - mid (p.drop n)) (lows p n)
def high_ (p : Pile) (n : Nat) (b : Row) : Rat := minR (b.rgt - mid (p.drop n)) (highs p n)
theorem push_iff {p : Pile} {n : Nat} {t : Rat} {b : Row} (hv : Hv p) (hj : joints p = []) (hn : n + 1 < p.length) (hb : p[n]? = some b) : joints (push p (n + 1) t) = [] ↔ low_ p (n + 1) b ≤ t ∧ t ≤ high_ p (n + 1) b := by
  rw [joints_idx] at hj ⊢
  unfold low_ high_
  rw [max_le, le_min]
  obtain ⟨r, hr⟩ : ∃ r, p[n + 1]? = some r := ⟨_, List.getElem?_eq_getElem hn⟩
  constructor
  · intro h
    have h0 := (push_here (t := t) hv hb hr (hj _ _ hr)).mp (h (n + 1) (r.sh t) (by rw [push_hi (Nat.le_refl _), hr]; rfl))
    have hl : ∀ k, k < n + 1 → bnd1 p (n + 1) k (jl p k) ≤ t ∧ t ≤ bnd1 p (n + 1) k (jh p k) := fun k hk => by
      obtain ⟨s, hs⟩ : ∃ s, p[k]? = some s := ⟨_, List.getElem?_eq_getElem (by omega)⟩
      exact (push_lower hv hn hk hs).mp (h k s (by rw [push_lo hk, hs]))
    refine ⟨⟨h0.1, fun x hx => ?_⟩, h0.2, fun x hx => ?_⟩
    · obtain ⟨k, hk, rfl⟩ := List.mem_map.mp hx
      rw [List.mem_range'_1] at hk
      exact (hl k (by omega)).1
    · obtain ⟨k, hk, rfl⟩ := List.mem_map.mp hx
      rw [List.mem_range'_1] at hk
      exact (hl k (by omega)).2
  · rintro ⟨⟨h1, h2⟩, h3, h4⟩ k s hs
    have hkl : k < p.length := by
      have := (List.getElem?_eq_some_iff.mp hs).1
      rw [push_len] at this
      exact this
    obtain ⟨s0, hs0⟩ : ∃ s, p[k]? = some s := ⟨_, List.getElem?_eq_getElem hkl⟩
    rcases Nat.lt_trichotomy k (n + 1) with hk | hk | hk
    · rw [push_lo hk, hs0] at hs
      cases hs
      refine (push_lower hv hn hk hs0).mpr ⟨h2 _ ?_, h4 _ ?_⟩
      · exact List.mem_map.mpr ⟨k, by rw [List.mem_range'_1]; omega, rfl⟩
      · exact List.mem_map.mpr ⟨k, by rw [List.mem_range'_1]; omega, rfl⟩
    · subst hk
      rw [push_hi (Nat.le_refl _), hs0] at hs
      cases hs
      exact (push_here hv hb hs0 (hj _ _ hs0)).mpr ⟨h1, h3⟩
    · rw [push_hi (by omega), hs0] at hs
      cases hs
      exact (push_above hv hs0 hk).mpr (hj _ _ hs0)
theorem push_iff0 {p : Pile} {t : Rat} (hv : Hv p) (hj : joints p = []) (hn : 0 < p.length) : joints (push p 0 t) = [] ↔ t ≤ -mid p := by
  rw [joints_idx] at hj ⊢
  obtain ⟨r, hr⟩ : ∃ r, p[0]? = some r := ⟨_, List.getElem?_eq_getElem hn⟩
  constructor
  · intro h
    exact (push_ground hv hr (hj _ _ hr)).mp (h 0 (r.sh t) (by rw [push_hi (Nat.le_refl _), hr]; rfl))
  · intro h k s hs
    have hkl : k < p.length := by
      have := (List.getElem?_eq_some_iff.mp hs).1
      rw [push_len] at this
      exact this
    obtain ⟨s0, hs0⟩ : ∃ s, p[k]? = some s := ⟨_, List.getElem?_eq_getElem hkl⟩
    rw [push_hi (by omega), hs0] at hs
    cases hs
    cases k with
    | zero => exact (push_ground hv hs0 (hj _ _ hs0)).mpr h
    | succ k => exact (push_above hv hs0 (by omega)).mpr (hj _ _ hs0)
theorem shift_zero (p : Pile) : shift 0 p = p := by
  unfold shift
  conv => rhs; rw [← List.map_id p]
  apply List.map_congr_left
  intro r _
  show (⟨r.name, r.long, r.heavy, r.at_ + 0⟩ : Row) = r
  rw [Rat.add_zero]
theorem push_zero (p : Pile) (n : Nat) : push p n 0 = p := by
  unfold push
  rw [shift_zero, List.take_append_drop]
end Dl
end
set_option linter.all false
set_option autoImplicit false
set_option maxRecDepth 100000
/-! M18: sizes of told bounds; pushes of the program and of the laws -/
noncomputable section
namespace Dl
open PySem PySem.Spec PyProof.Rows L2
/-- a fraction with a divisor near a known one -/
def Tg (N a : Nat) (t : Rat) : Prop := ∃ c M, 0 < c ∧ c < 2 ^ a ∧ M < 2 ^ (500 + a) ∧ Gd (N * c) M t
theorem Tg.mono {N a b : Nat} {t : Rat} (h : Tg N a t) (hab : a ≤ b) : Tg N b t := by
  obtain ⟨c, M, h0, h1, h2, h3⟩ := h
  exact ⟨c, M, h0, pow_up h1 hab, pow_up h2 (by omega), h3⟩
theorem Tg.neg {N a : Nat} {t : Rat} (h : Tg N a t) : Tg N a (-t) := by
  obtain ⟨c, M, h0, h1, h2, h3⟩ := h
  exact ⟨c, M, h0, h1, h2, h3.neg⟩
theorem Tg.add {N a b : Nat} {t s : Rat} (h : Tg N a t) (h' : Tg N b s) : Tg N (a + b + 1) (t + s) := by
  obtain ⟨c, M, h0, h1, h2, h3⟩ := h
  obtain ⟨d, L, g0, g1, g2, g3⟩ := h'
  refine ⟨c * d, M + L, Nat.mul_pos h0 g0, ?_, ?_, ?_⟩
  · refine pow_up (a := a + b) ?_ (by omega)
    rw [Nat.pow_add]
    exact Nat.mul_lt_mul'' h1 g1
  · have e1 := pow_up (b := 500 + (a + b)) h2 (by omega)
    have e2 := pow_up (b := 500 + (a + b)) g2 (by omega)
    rw [show 500 + (a + b + 1) = (500 + (a + b)) + 1 by omega, Nat.pow_succ]
    generalize (2 : Nat) ^ (500 + (a + b)) = B at *
    omega
  · have x1 := h3.mulN d g0
    have x2 := g3.mulN c h0
    rw [Nat.mul_assoc] at x1
    rw [Nat.mul_assoc, Nat.mul_comm d c] at x2
    exact x1.add x2
theorem Tg.sub {N a b : Nat} {t s : Rat} (h : Tg N a t) (h' : Tg N b s) : Tg N (a + b + 1) (t - s) := by
  rw [Rat.sub_eq_add_neg]; exact h.add h'.neg
theorem Tg.mulI {N a b : Nat} {t : Rat} (h : Tg N a t) {k : Int} (k0 : 0 ≤ k) (k1 : k < 2 ^ b) : Tg N (a + b) (t * (k : Rat)) := by
  obtain ⟨c, M, h0, h1, h2, h3⟩ := h
  obtain ⟨j, rfl⟩ : ∃ j : Nat, k = j := ⟨k.toNat, by omega⟩
  have k1 : j < 2 ^ b := by exact_mod_cast k1
  refine ⟨c, M * j, h0, pow_up h1 (by omega), ?_, h3.mulI j⟩
  rw [show 500 + (a + b) = (500 + a) + b by omega, Nat.pow_add]
  exact Nat.mul_lt_mul'' h2 k1
theorem Tg.divI {N a b : Nat} {t : Rat} (h : Tg N a t) {k : Int} (k0 : 0 < k) (k1 : k < 2 ^ b) : Tg N (a + b) (t / (k : Rat)) := by
  obtain ⟨c, M, h0, h1, h2, h3⟩ := h
  obtain ⟨j, rfl⟩ : ∃ j : Nat, k = j := ⟨k.toNat, by omega⟩
  have k1 : j < 2 ^ b := by exact_mod_cast k1
  have g := h3.divN j (by omega)
  rw [Nat.mul_assoc] at g
  refine ⟨c * j, M, Nat.mul_pos h0 (by omega), ?_, pow_up h2 (by omega), g⟩
  rw [Nat.pow_add]
  exact Nat.mul_lt_mul'' h1 k1
theorem Tg.mix {N a b : Nat} {t s : Rat} (h : Tg N a t) (h' : Tg N b s) {k : Nat} (hk : k ≤ 4) : Tg N (a + b + 10) (mix t s k) := by
  have e : (4 - (k : Rat)) = (((4 - k : Nat) : Int) : Rat) := by
    have h4 : ((4 - k : Nat) : Rat) + (k : Rat) = ((4 : Nat) : Rat) := by
      rw [← Rat.natCast_add]; congr 1; omega
    rw [natC]
    rw [show ((4 : Nat) : Rat) = 4 from rfl] at h4
    grind
  have h1 := ((h.mulI (b := 3) (k := ((4 - k : Nat) : Int)) (by omega) (by omega)).add (h'.mulI (b := 3) (k := (k : Int)) (by omega) (by omega))).divI (b := 3) (k := 4) (by decide) (by decide)
  unfold Dl.mix
  rw [e]
  exact h1.mono (by omega)
theorem Tg.sz {N a : Nat} {t : Rat} (h : Tg N a t) (hN : N < 2 ^ 400) (ha : a ≤ 500) : Sz t := by
  obtain ⟨c, M, h0, h1, h2, h3⟩ := h
  refine h3.sz (400 + a) (500 + a) ?_ h2 (by omega)
  rw [Nat.pow_add]
  exact Nat.mul_lt_mul'' hN h1
theorem Tg.of {N M : Nat} {t : Rat} (h : Gd N M t) (hM : M < 2 ^ 500) : Tg N 1 t := ⟨1, M, by decide, by decide, pow_up hM (by decide), by rw [Nat.mul_one]; exact h⟩
theorem Tg.int {N : Nat} (hN : 0 < N) {i : Int} (h : i.natAbs < 2 ^ 500) : Tg N 1 (i : Rat) := Tg.of (Gd.int' hN (Nat.le_refl _)) h
/-- a drawn pile, as the laws of pushes need it -/
structure Base (p : Pile) (N M : Nat) : Prop where
  ok : RowsOk p N M
  n : N < 2 ^ 400
  m : M < 2 ^ 400
  nm : ∀ r ∈ p, PyData.strOk r.name = true
theorem Base.hv {p : Pile} {N M : Nat} (h : Base p N M) : Hv p := fun r hr => by
  have := h.ok.rows r hr
  have := this.l0
  have := (h.ok.rows r hr).h0
  exact ⟨by omega, by omega⟩
theorem Base.good {p : Pile} {N M : Nat} (h : Base p N M) : Good p := ⟨⟨N, M, h.ok⟩, h.nm⟩
theorem PileOk.base {L W : Int} {most : Nat} {p : Pile} (h : PileOk 400 L W most p) (hL : L ≤ 10000) (hW : W ≤ 10000) (hm : most ≤ 8) : ∃ N M, Base p N M := by
  obtain ⟨N, M, h1, h2, h3⟩ := h.rowsOk (by decide) hL hW hm
  exact ⟨N, M, h1, h2, h3, h.nmOk⟩
theorem Base.at_tg {p : Pile} {N M : Nat} (h : Base p N M) {r : Row} (hr : r ∈ p) : Tg N 1 r.at_ := Tg.of (h.ok.rows r hr).gd (pow_up h.m (by decide))
theorem Base.rgt_tg {p : Pile} {N M : Nat} (h : Base p N M) {r : Row} (hr : r ∈ p) : Tg N 1 r.rgt := by
  refine Tg.of (h.ok.rows r hr).rgt ?_
  have h1 := h.m
  have h2 : (2 : Nat) ^ 400 * 2 ≤ 2 ^ 500 := by
    rw [show (2 : Nat) ^ 400 * 2 = 2 ^ 401 from rfl]; exact Nat.pow_le_pow_right (by decide) (by decide)
  have h3 : (2 : Nat) ^ 20 ≤ 2 ^ 400 := Nat.pow_le_pow_right (by decide) (by decide)
  rw [show (2 : Nat) ^ 20 = 1048576 by decide] at h3
  generalize (2 : Nat) ^ 400 = A at *
  generalize (2 : Nat) ^ 500 = B at *
  omega
theorem Base.wt_drop {p : Pile} {N M : Nat} (h : Base p N M) {k : Nat} (hk : k < p.length) : 0 < wt (p.drop k) ∧ wt (p.drop k) < 2 ^ 17 := by
  have h1 := wt_pos (p.drop k) (fun r hr => h.ok.rows r (List.mem_of_mem_drop hr))
  have h2 := (h.hv.drop k).pos (drop_ne hk)
  have h3 := h.ok.len
  rw [List.length_drop] at h1
  refine ⟨h2, ?_⟩
  have : (2 : Int) ^ 17 = 131072 := by decide
  omega
theorem mid_size {M A B : Nat} (h : M < A) (h3 : 2 ^ 20 ≤ A) (h4 : 2 ^ 40 ≤ B) : 8 * ((M + 10000) * 10000) < A * B := by
  rw [show (2 : Nat) ^ 20 = 1048576 by decide] at h3
  rw [show (2 : Nat) ^ 40 = 1099511627776 by decide] at h4
  have := Nat.mul_le_mul_left A h4
  omega
theorem Base.mid_tg {p : Pile} {N M : Nat} (h : Base p N M) {k : Nat} (hk : k < p.length) : Tg N 20 (mid (p.drop k)) := by
  obtain ⟨h1, h2, h3⟩ := h.ok.mid_gd (p.drop k) (fun r hr => List.mem_of_mem_drop hr) (by rw [List.length_drop]; have := h.ok.len; omega) (drop_ne hk)
  refine ⟨2 * (wt (p.drop k)).toNat, _, by omega, ?_, ?_, by rw [← Nat.mul_assoc]; exact h1⟩
  · have : (2 : Nat) ^ 20 = 1048576 := by decide
    omega
  · have h2 : (2 : Nat) ^ 500 = 2 ^ 400 * 2 ^ 100 := by rw [← Nat.pow_add]
    have h4 : (2 : Nat) ^ 40 ≤ 2 ^ 100 := Nat.pow_le_pow_right (by decide) (by decide)
    have h3 : (2 : Nat) ^ 20 ≤ 2 ^ 400 := Nat.pow_le_pow_right (by decide) (by decide)
    have h5 : (2 : Nat) ^ 500 ≤ 2 ^ (500 + 20) := Nat.pow_le_pow_right (by decide) (by decide)
    refine Nat.lt_of_lt_of_le ?_ h5
    rw [h2]
    exact mid_size h.m h3 h4
theorem Base.ends_tg {p : Pile} {N M : Nat} (h : Base p N M) {k : Nat} (hk : k < p.length) : Tg N 1 (jl p k) ∧ Tg N 1 (jh p k) := by
  obtain ⟨r, hr⟩ : ∃ r, p[k]? = some r := ⟨_, List.getElem?_eq_getElem hk⟩
  have hm : r ∈ p := List.mem_of_getElem? hr
  have e1 : jl p k = lowR (below p k) r := by unfold jl; rw [hr]
  have e2 : jh p k = highR (below p k) r := by unfold jh; rw [hr]
  rw [e1, e2]
  cases k with
  | zero =>
    refine ⟨h.at_tg hm, ?_⟩
    show Tg N 1 (if (0 : Rat) < r.rgt then 0 else r.rgt)
    split
    · have z : (0 : Int).natAbs < 2 ^ 500 := by rw [Int.natAbs_zero]; exact Nat.pow_pos (by decide)
      simpa using Tg.int h.ok.pos z
    · exact h.rgt_tg hm
  | succ k =>
    obtain ⟨b, hb⟩ : ∃ b, p[k]? = some b := ⟨_, List.getElem?_eq_getElem (by omega)⟩
    have hbm : b ∈ p := List.mem_of_getElem? hb
    rw [show below p (k + 1) = some b from hb]
    simp only [lowR, highR]
    constructor
    · split
      · exact h.at_tg hbm
      · exact h.at_tg hm
    · split
      · exact h.rgt_tg hbm
      · exact h.rgt_tg hm
theorem Base.bnd_tg {p : Pile} {N M : Nat} (h : Base p N M) {n k : Nat} (hn : n < p.length) (hk : k ≤ n) {e : Rat} (he : Tg N 1 e) : Tg N 60 (bnd1 p n k e) := by
  have hk' : k < p.length := by omega
  have w1 := h.wt_drop hk'
  have w2 := h.wt_drop hn
  exact (((he.sub (h.mid_tg hk')).mulI (Int.le_of_lt w1.1) w1.2).divI w2.1 w2.2).mono (by omega)
theorem Base.lows_tg {p : Pile} {N M : Nat} (h : Base p N M) {n : Nat} (hn : n < p.length) : (∀ x ∈ lows p n, Tg N 60 x) ∧ ∀ x ∈ highs p n, Tg N 60 x := by
  constructor
  · intro x hx
    obtain ⟨k, hk, rfl⟩ := List.mem_map.mp hx
    rw [List.mem_range'_1] at hk
    exact h.bnd_tg hn (by omega) (h.ends_tg (by omega)).1
  · intro x hx
    obtain ⟨k, hk, rfl⟩ := List.mem_map.mp hx
    rw [List.mem_range'_1] at hk
    exact h.bnd_tg hn (by omega) (h.ends_tg (by omega)).2
/-! ### the program's -/
def b_le : Sx := (sRet (eCB (mCall 2 F_pl) (aCons (eVar 0) (aCons (eTup (aCons (eOp2 dSub (eC (.int 0)) (eOp2 dIx (eVar 1) (eC (.int 0)))) (aCons (eOp2 dIx (eVar 1) (eC (.int 1))) aNil))) aNil))))
def F_le : List D → M D := gcF (defX 2 b_le)
theorem le_eq {p q : Rat} (st : Store) (hp : Sz p) (hq : Sz q) : F_le [fr p, fr q] st = some (fr (p - q), st) := by
  have h1 : F_pl [fr p, .tup [.int (0 - q.num), .int q.den]] st = some (fr (p + -q), st) := pl_eq2 st hp (by rw [Int.zero_sub]; exact hq.1.neg.mono (by decide)) (hq.2.mono (by decide)) (den_pos q) (by rw [Int.zero_sub]; exact neg_pair q)
  rw [← Rat.sub_eq_add_neg] at h1
  obtain ⟨y0, y1⟩ := fr_ix q st
  refine gcF_eq0 (defX_rt rfl ?_) (fr_low _ _)
  simp only [List.map_cons, List.map_nil, List.length_cons, List.length_nil, List.cons_append, List.nil_append, b_le, sRet, eCB, mCall, eTup, mTup, aCons, aNil, eOp2, eVar, eC, Dl.M.bnd, Dl.M.ret, List.getElem?_cons_zero, List.getElem?_cons_succ, y0, y1, dSub_int, if_true, Nat.reduceAdd, if_pos two_le, h1]
theorem call2 {F : List D → M D} {E G : Ev} {x y : D} {ρ : Env1} {st st1 st2 : Store} {r : Option (D × Store)} (he : E ρ st = some (x, st1)) (hg : G ρ st1 = some (y, st2)) (h : F [x, y] st2 = r) : eCB (mCall 2 F) (aCons E (aCons G aNil)) ρ st = r := by
  rw [eCB_at (aCons_at he (aCons_at hg aNil_at)), mCall2, h]
theorem call3 {F : List D → M D} {E G H : Ev} {x y z : D} {ρ : Env1} {st st1 st2 st3 : Store} {r : Option (D × Store)} (he : E ρ st = some (x, st1)) (hg : G ρ st1 = some (y, st2)) (hh : H ρ st2 = some (z, st3)) (h : F [x, y, z] st3 = r) : eCB (mCall 3 F) (aCons E (aCons G (aCons H aNil))) ρ st = r := by
  rw [eCB_at (aCons_at he (aCons_at hg (aCons_at hh aNil_at))), mCall3, h]
theorem call1E {F : List D → M D} {E : Ev} {x : D} {ρ : Env1} {st st1 : Store} {r : Option (D × Store)} (he : E ρ st = some (x, st1)) (h : F [x] st1 = r) : eCB (mCall 1 F) (aCons E aNil) ρ st = r := by
  rw [eCB_at (aCons_at he aNil_at), mCall1, h]
def bPb : Sx := (sSeq (sAsg (eCB (mCall 2 F_en) (aCons (eVar 0) (aCons (eVar 6) aNil))) (xTup 2 (xCons (xName 7) (xCons (xName 8) xNil))))
  (sSeq (sAsg (eCB (mCall 1 F_md) (aCons (eSl (eVar 0) (oSome (eVar 6)) oNone) aNil)) (xName 9))
  (sSeq (sPar 10 11 (aCons (eCB (mCall 1 F_hv) (aCons (eSl (eVar 0) (oSome (eVar 6)) oNone) aNil)) (aCons (eCB (mCall 1 F_hv) (aCons (eSl (eVar 0) (oSome (eVar 1)) oNone) aNil)) aNil)))
  (sSeq (sDrop (eBM dApp (eVar 4) (aCons (eCB (mCall 3 F_tm) (aCons (eCB (mCall 2 F_le) (aCons (eVar 7) (aCons (eVar 9) aNil))) (aCons (eVar 10) (aCons (eVar 11) aNil)))) aNil)))
  (sDrop (eBM dApp (eVar 5) (aCons (eCB (mCall 3 F_tm) (aCons (eCB (mCall 2 F_le) (aCons (eVar 8) (aCons (eVar 9) aNil))) (aCons (eVar 10) (aCons (eVar 11) aNil)))) aNil)))))))
def b_pb : Sx := (sSeq (sAsg (eCB (mCall 1 F_md) (aCons (eSl (eVar 0) (oSome (eVar 1)) oNone) aNil)) (xName 2))
  (sSeq (sIf (tV (eOp2 dEq (eVar 1) (eC (.int 0)))) (sRet (eTup (aCons (eC .non) (aCons (eCB (mCall 3 F_tm) (aCons (eVar 2) (aCons (eOp2 dSub (eC (.int 0)) (eC (.int 1))) (aCons (eC (.int 1)) aNil)))) aNil)))) sNext)
  (sSeq (sAsg (eOp2 dIx (eVar 0) (eOp2 dSub (eVar 1) (eC (.int 1)))) (xName 3))
  (sSeq (sPar 4 5 (aCons (eLst (aCons (eCB (mCall 2 F_le) (aCons (eOp2 dIx (eVar 3) (eC (.int 3))) (aCons (eVar 2) aNil))) aNil)) (aCons (eLst (aCons (eCB (mCall 2 F_le) (aCons (eCB (mCall 1 F_rg) (aCons (eVar 3) aNil)) (aCons (eVar 2) aNil))) aNil)) aNil)))
  (sSeq (sFor (iR1 (aCons (eVar 1) aNil)) (xName 6) bPb)
  (sRet (eTup (aCons (eCB (mCall 1 F_gr) (aCons (eVar 4) aNil)) (aCons (eCB (mCall 1 F_lr) (aCons (eVar 5) aNil)) aNil)))))))))
def F_pb : List D → M D := gcF (defX 12 b_pb)
theorem pb_turn {p : Pile} {N M : Nat} (h : Base p N M) {n k : Nat} (hn : n < p.length) (hk : k < n) (o2 o3 o7 o8 o9 o10 o11 : Option D) (st : Store) (L : Nat) (xs ys : List D) (hx : st[L]? = some (.lst xs)) (hy : st[L + 1]? = some (.lst ys)) (lx : xs.length < 100) (ly : ys.length < 100) :
    ∃ z7 z8 z9 z10 z11, bPb [some (dPile p), some (.int (n : Int)), o2, o3, some (.ref L), some (.ref (L + 1)), some (.int (k : Int)), o7, o8, o9, o10, o11] st =
      some (.nx [some (dPile p), some (.int (n : Int)), o2, o3, some (.ref L), some (.ref (L + 1)), some (.int (k : Int)), z7, z8, z9, z10, z11], (st.set L (.lst (xs ++ [fr (bnd1 p n k (jl p k))]))).set (L + 1) (.lst (ys ++ [fr (bnd1 p n k (jh p k))]))) := by
  have hkl : k < p.length := by omega
  obtain ⟨r, hr⟩ : ∃ r, p[k]? = some r := ⟨_, List.getElem?_eq_getElem hkl⟩
  have e1 : jl p k = lowR (below p k) r := by unfold jl; rw [hr]
  have e2 : jh p k = highR (below p k) r := by unfold jh; rw [hr]
  have t1 := h.ends_tg hkl
  have sl := t1.1.sz h.n (by decide)
  have sh := t1.2.sz h.n (by decide)
  have tm := h.mid_tg hkl
  have sm := tm.sz h.n (by decide)
  have w1 := h.wt_drop hkl
  have w2 := h.wt_drop hn
  have bw : ∀ {w : Int}, 0 < w ∧ w < 2 ^ 17 → Bt 4000 w := fun {w} hw => Bt.mono (m := 17) (show w.natAbs < 2 ^ 17 by
    have a1 : (2 : Int) ^ 17 = 131072 := by decide
    have a2 : (2 : Nat) ^ 17 = 131072 := by decide
    omega) (by decide)
  have en := en_eq h.ok hr st
  have md := md_good (p.drop k) st (h.good.drop k) (drop_ne hkl)
  have hv1 := hv_eq (d := dPile (p.drop k)) (p := p.drop k) st (.inl rfl) (by rw [List.length_drop]; have := h.ok.len; omega)
  have hv2 := hv_eq (d := dPile (p.drop n)) (p := p.drop n) st (.inl rfl) (by rw [List.length_drop]; have := h.ok.len; omega)
  rw [← e1, ← e2] at en
  refine ⟨some (fr (jl p k)), some (fr (jh p k)), some (fr (mid (p.drop k))), some (.int (wt (p.drop k))), some (.int (wt (p.drop n))), ?_⟩
  unfold bPb
  refine (sSeq_at (sAsg_at (call2 (eVar_at rfl) (eVar_at rfl) en) rfl)).trans ?_
  refine (sSeq_at (sSet_at (call1E (sl_drop st rfl rfl) md))).trans ?_
  refine (sSeq_at (sPar_at (aCons_at (call1E (sl_drop st rfl rfl) hv1) (aCons_at (call1E (sl_drop st rfl rfl) hv2) aNil_at)))).trans ?_
  have l1 := le_eq st sl sm
  have q1 := tm_eq (p := jl p k - mid (p.drop k)) (t := wt (p.drop k)) (b := wt (p.drop n)) st ((t1.1.sub tm).sz h.n (by decide)) (bw w1) (bw w2) w2.1
  refine (sSeq_at (sDrop_at (app_at (eVar_at rfl) hx (aCons_at (call3 (call2 (eVar_at rfl) (eVar_at rfl) l1) (eVar_at rfl) (eVar_at rfl) q1) aNil_at) hx (Nat.lt_trans lx (by decide))))).trans ?_
  have hy2 : (st.set L (.lst (xs ++ [fr (bnd1 p n k (jl p k))])))[L + 1]? = some (.lst ys) := by
    rw [List.getElem?_set_ne (by omega)]; exact hy
  have l2 := le_eq (st.set L (.lst (xs ++ [fr (bnd1 p n k (jl p k))]))) sh sm
  have q2 := tm_eq (p := jh p k - mid (p.drop k)) (t := wt (p.drop k)) (b := wt (p.drop n)) (st.set L (.lst (xs ++ [fr (bnd1 p n k (jl p k))]))) ((t1.2.sub tm).sz h.n (by decide)) (bw w1) (bw w2) w2.1
  exact sDrop_at (app_at (eVar_at rfl) hy2 (aCons_at (call3 (call2 (eVar_at rfl) (eVar_at rfl) l2) (eVar_at rfl) (eVar_at rfl) q2) aNil_at) hy2 (Nat.lt_trans ly (by decide)))
end Dl
end
set_option linter.all false
set_option autoImplicit false
set_option maxRecDepth 100000
/-! M19: push_bounds whole, moved piles, places near -/
noncomputable section
namespace Dl
open PySem PySem.Spec PyProof.Rows L2
theorem pb_loop {p : Pile} {N M : Nat} (h : Base p N M) {n : Nat} (hn : n < p.length) (o2 o3 : Option D) (st : Store) (l0 h0 : Rat) : ∀ (m k : Nat), k + m = n → ∀ (o6 o7 o8 o9 o10 o11 : Option D), ∃ z6 o7' o8' o9' o10' o11',
    forL ⟨rgs 0 n, none⟩ (xName 6) bPb (rgs k m) [some (dPile p), some (.int (n : Int)), o2, o3, some (.ref st.length), some (.ref (st.length + 1)), o6, o7, o8, o9, o10, o11] (st ++ [MO.lst (frs (l0 :: (List.range' 0 k).map fun j => bnd1 p n j (jl p j))), MO.lst (frs (h0 :: (List.range' 0 k).map fun j => bnd1 p n j (jh p j)))]) =
      some (.nx [some (dPile p), some (.int (n : Int)), o2, o3, some (.ref st.length), some (.ref (st.length + 1)), z6, o7', o8', o9', o10', o11'], st ++ [MO.lst (frs (l0 :: lows p n)), MO.lst (frs (h0 :: highs p n))])
  | 0, k, e, o6, o7, o8, o9, o10, o11 => by
    have : k = n := by omega
    subst this
    exact ⟨o6, o7, o8, o9, o10, o11, forL_nil Src.ok_none⟩
  | m + 1, k, e, o6, o7, o8, o9, o10, o11 => by
    have hl := h.ok.len
    obtain ⟨q7, q8, q9, q10, q11, e1⟩ := pb_turn h hn (show k < n by omega) o2 o3 o7 o8 o9 o10 o11 (st ++ [MO.lst (frs (l0 :: (List.range' 0 k).map fun j => bnd1 p n j (jl p j))), MO.lst (frs (h0 :: (List.range' 0 k).map fun j => bnd1 p n j (jh p j)))]) st.length _ _ get_app (get_off st _ 1) (by simp [frs]; omega) (by simp [frs]; omega)
    obtain ⟨q6, z7, z8, z9, z10, z11, e2⟩ := pb_loop h hn o2 o3 st l0 h0 m (k + 1) (by omega) (some (.int (k : Int))) q7 q8 q9 q10 q11
    refine ⟨q6, z7, z8, z9, z10, z11, (forL_nx Src.ok_none rfl (e1.trans ?_)).trans e2⟩
    rw [set_app, set_off st _ 1]
    have g : ∀ (x : Rat) (f : Nat → Rat), frs (x :: (List.range' 0 (k + 1)).map f) = frs (x :: (List.range' 0 k).map f) ++ [fr (f k)] := fun x f => by
      rw [List.range'_1_concat, List.map_append, Nat.zero_add]
      unfold frs
      rw [← List.cons_append, List.map_append]; rfl
    rw [g l0 fun j => bnd1 p n j (jl p j), g h0 fun j => bnd1 p n j (jh p j)]
    rfl
theorem pb_eq0 {p : Pile} {N M : Nat} (h : Base p N M) (h0 : 0 < p.length) (st : Store) : F_pb [dPile p, .int 0] st = some (.tup [.non, fr (-mid p)], st) := by
  have hp : p ≠ [] := fun e => by subst e; simp at h0
  have md := md_good p st h.good hp
  have sm : Sz (mid p) := by
    have := (h.mid_tg h0).sz h.n (by decide)
    rwa [List.drop_zero] at this
  have e1 : eSl (eVar 0) (oSome (eVar 1)) oNone [some (dPile p), some (.int 0), none, none, none, none, none, none, none, none, none, none] st = some (dPile p, st) := by
    have := sl_drop (ρ := [some (dPile p), some (.int 0), none, none, none, none, none, none, none, none, none, none]) (i := 0) (j := 1) (k := 0) st rfl rfl
    rwa [List.drop_zero] at this
  have tm := tm_eq (p := mid p) (t := -1) (b := 1) st sm (bt_one.neg) bt_one (by decide)
  have e2 : mid p * ((-1 : Int) : Rat) / ((1 : Int) : Rat) = -mid p := by
    rw [div_one, show ((-1 : Int) : Rat) = -1 from rfl]; grind
  rw [e2] at tm
  refine gcF_eq0 (defX_rt (env := [some (dPile p), some (.int 0), none, none, none, none, none, none, none, none, none, none]) rfl ?_) rfl
  unfold b_pb
  refine (sSeq_at (sSet_at (call1E e1 md))).trans (sSeq_rt ?_)
  rw [sIf_at (tV_at ((eOp2_at (eVar_at rfl) eC_at).trans (eq_int 0 0 st))), if_pos (by simp)]
  exact sRet_at (eTup_at (aCons_at eC_at (aCons_at (call3 (eVar_at rfl) ((eOp2_at eC_at eC_at).trans (dSub_int st)) eC_at tm) aNil_at)) two_le)
theorem pb_eq1 {p : Pile} {N M : Nat} (h : Base p N M) {n : Nat} {b : Row} (hn : n + 1 < p.length) (hb : p[n]? = some b) (st : Store) : F_pb [dPile p, .int ((n + 1 : Nat) : Int)] st = some (.tup [fr (low_ p (n + 1) b), fr (high_ p (n + 1) b)], st) := by
  have hbm : b ∈ p := List.mem_of_getElem? hb
  have md := md_good (p.drop (n + 1)) st (h.good.drop _) (drop_ne hn)
  have tm := h.mid_tg hn
  have sm := tm.sz h.n (by decide)
  have ta := h.at_tg hbm
  have tr := h.rgt_tg hbm
  have le1 := le_eq st (ta.sz h.n (by decide)) sm
  have st1 : ∀ s : Store, F_le [fr b.rgt, fr (mid (p.drop (n + 1)))] s = some (fr (b.rgt - mid (p.drop (n + 1))), s) := fun s => le_eq s (tr.sz h.n (by decide)) sm
  have rg : ∀ s : Store, F_rg [dRow b] s = some (fr b.rgt, s) := fun s => rg_eq s (ta.sz h.n (by decide)) (h.ok.rows b hbm).btl
  obtain ⟨q6, q7, q8, q9, q10, q11, el⟩ := pb_loop h hn (some (fr (mid (p.drop (n + 1))))) (some (dRow b)) st (b.at_ - mid (p.drop (n + 1))) (b.rgt - mid (p.drop (n + 1))) (n + 1) 0 (by omega) none none none none none none
  have hl := h.ok.len
  obtain ⟨lt, ht⟩ := h.lows_tg hn
  have g1 := gr_eq (q := b.at_ - mid (p.drop (n + 1))) (qs := lows p (n + 1)) (d := .ref st.length) (st ++ [MO.lst (frs ((b.at_ - mid (p.drop (n + 1))) :: lows p (n + 1))), MO.lst (frs ((b.rgt - mid (p.drop (n + 1))) :: highs p (n + 1)))]) (.inr ⟨_, rfl, get_app⟩) (fun x hx => by
    rcases List.mem_cons.mp hx with rfl | hx
    · exact (ta.sub tm).sz h.n (by decide)
    · exact (lt x hx).sz h.n (by decide))
  have g2 := lr_eq (q := b.rgt - mid (p.drop (n + 1))) (qs := highs p (n + 1)) (d := .ref (st.length + 1)) (st ++ [MO.lst (frs ((b.at_ - mid (p.drop (n + 1))) :: lows p (n + 1))), MO.lst (frs ((b.rgt - mid (p.drop (n + 1))) :: highs p (n + 1)))]) (.inr ⟨_, rfl, get_off st _ 1⟩) (fun x hx => by
    rcases List.mem_cons.mp hx with rfl | hx
    · exact (tr.sub tm).sz h.n (by decide)
    · exact (ht x hx).sz h.n (by decide))
  refine gcF_eq (g := [MO.lst (frs ((b.at_ - mid (p.drop (n + 1))) :: lows p (n + 1))), MO.lst (frs ((b.rgt - mid (p.drop (n + 1))) :: highs p (n + 1)))]) (defX_rt (env := [some (dPile p), some (.int ((n + 1 : Nat) : Int)), none, none, none, none, none, none, none, none, none, none]) rfl ?_) rfl
  unfold b_pb
  refine (sSeq_at (sSet_at (call1E (sl_drop st rfl rfl) md))).trans ?_
  refine (sSeq_at (ρ1 := [some (dPile p), some (.int ((n + 1 : Nat) : Int)), some (fr (mid (p.drop (n + 1)))), none, none, none, none, none, none, none, none, none]) (st1 := st) ?_).trans ?_
  · rw [sIf_at (k := false) (st1 := st) (tV_at ((eOp2_at (eVar_at rfl) eC_at).trans (int_ne n st)))]; rfl
  have ix : dIx (dPile p) (.int (((n + 1 : Nat) : Int) - 1)) st = some (dRow b, st) := by
    rw [show (((n + 1 : Nat) : Int) - 1) = (n : Int) by omega]; exact dPile_ix hb st
  refine (sSeq_at (sSet_at ((eOp2_at (eVar_at rfl) ((eOp2_at (eVar_at rfl) eC_at).trans (dSub_int st))).trans ix))).trans ?_
  have l1 : eLst (aCons (eCB (mCall 2 F_le) (aCons (eOp2 dIx (eVar 3) (eC (.int 3))) (aCons (eVar 2) aNil))) aNil) [some (dPile p), some (.int ((n + 1 : Nat) : Int)), some (fr (mid (p.drop (n + 1)))), some (dRow b), none, none, none, none, none, none, none, none] st = some (.ref st.length, st ++ [.lst [fr (b.at_ - mid (p.drop (n + 1)))]]) :=
    eLst_at (aCons_at (call2 ((eOp2_at (eVar_at rfl) eC_at).trans (rngD_ix st)) (eVar_at rfl) le1) aNil_at) (one_list _)
  have l2 : eLst (aCons (eCB (mCall 2 F_le) (aCons (eCB (mCall 1 F_rg) (aCons (eVar 3) aNil)) (aCons (eVar 2) aNil))) aNil) [some (dPile p), some (.int ((n + 1 : Nat) : Int)), some (fr (mid (p.drop (n + 1)))), some (dRow b), none, none, none, none, none, none, none, none] (st ++ [.lst [fr (b.at_ - mid (p.drop (n + 1)))]]) = some (.ref (st.length + 1), st ++ [.lst [fr (b.at_ - mid (p.drop (n + 1)))], .lst [fr (b.rgt - mid (p.drop (n + 1)))]]) := by
    rw [eLst_at (aCons_at (call2 (call1 rfl (rg _)) (eVar_at rfl) (st1 _)) aNil_at) (one_list _), List.length_append, List.append_assoc]; rfl
  refine (sSeq_at (sPar_at (aCons_at l1 (aCons_at l2 aNil_at)))).trans ?_
  refine (sSeq_at ((sFor_at (rng_at (aCons_at (eVar_at rfl) aNil_at) (by omega))).trans el)).trans ?_
  exact sRet_at (eTup_at (aCons_at (call1 rfl g1) (aCons_at (call1 rfl g2) aNil_at)) two_le)
/-! ### moved piles -/
def bPu : Sx := (sDrop (eBM dApp (eVar 3) (aCons (eOp2 dAdd (eSl (eVar 4) oNone (oSome (eC (.int 3)))) (eTup (aCons (eCB (mCall 2 F_pl) (aCons (eOp2 dIx (eVar 4) (eC (.int 3))) (aCons (eVar 2) aNil))) aNil))) aNil)))
def b_pu : Sx := (sSeq (sAsg (eCB bList (aCons (eSl (eVar 0) oNone (oSome (eVar 1))) aNil)) (xName 3))
  (sSeq (sFor (iSeq (eSl (eVar 0) (oSome (eVar 1)) oNone)) (xName 4) bPu)
  (sRet (eCB bTuple (aCons (eVar 3) aNil)))))
def F_pu : List D → M D := gcF (defX 5 b_pu)
theorem sl_take {ρ : Env1} {i j k : Nat} {p : Pile} (st : Store) (hi : ρ[i]? = some (some (dPile p))) (hj : ρ[j]? = some (some (.int (k : Int)))) : eSl (eVar i) oNone (oSome (eVar j)) ρ st = some (dPile (p.take k), st) := by
  have : (dRows p).take k = dRows (p.take k) := by unfold dRows; rw [List.map_take]
  simp only [eSl, oSome, oNone, Dl.M.bnd, Dl.M.ret, eVar_at hi, eVar_at hj, dPile, dSl, cut_take, this]
theorem sh_row {ρ : Env1} {i k : Nat} {r : Row} {t : Rat} (st : Store) (hi : ρ[i]? = some (some (dRow r))) (hk : ρ[k]? = some (some (fr t))) (sr : Sz r.at_) (ht : Sz t) :
    eOp2 dAdd (eSl (eVar i) oNone (oSome (eC (.int 3)))) (eTup (aCons (eCB (mCall 2 F_pl) (aCons (eOp2 dIx (eVar i) (eC (.int 3))) (aCons (eVar k) aNil))) aNil)) ρ st = some (dRow (r.sh t), st) := by
  have e3 : dSl none (some 3) (dRow r) st = some (.tup [.str r.name, .int r.long, .int r.heavy], st) := rfl
  have e4 := pl_eq st sr ht
  simp only [eOp2, eSl, oNone, oSome, eTup, mTup, eCB, mCall, aCons, aNil, eVar, eC, Dl.M.bnd, Dl.M.ret, hi, hk, e3, (dRow_ix r _).2.2.2, e4, List.length_cons, List.length_nil, Nat.reduceAdd, if_true, if_pos (show (1 : Nat) ≤ sizeLine by decide)]
  rfl
theorem pu_eq {p : Pile} {n : Nat} {t : Rat} (hl : p.length ≤ 8) (hp : ∀ r ∈ p, Sz r.at_) (ht : Sz t) (st : Store) : F_pu [dPile p, .int (n : Int), fr t] st = some (dPile (push p n t), st) := by
  have e1 : eCB bList (aCons (eSl (eVar 0) oNone (oSome (eVar 1))) aNil) [some (dPile p), some (.int (n : Int)), some (fr t), none, none] st = some (.ref st.length, st ++ [.lst (dRows (p.take n))]) := by
    rw [eCB_at (aCons_at (sl_take st rfl rfl) aNil_at)]; rfl
  have key : ∀ (q pre : Pile) (o4 : Option D), pre ++ q = p.drop n → ∃ o4', forL ⟨dRows (p.drop n), none⟩ (xName 4) bPu (dRows q) [some (dPile p), some (.int (n : Int)), some (fr t), some (.ref st.length), o4] (st ++ [.lst (dRows (p.take n ++ shift t pre))]) = some (.nx [some (dPile p), some (.int (n : Int)), some (fr t), some (.ref st.length), o4'], st ++ [.lst (dRows (push p n t))]) := by
    intro q
    induction q with
    | nil =>
      intro pre o4 e
      rw [List.append_nil] at e
      subst e
      exact ⟨o4, forL_nil Src.ok_none⟩
    | cons r q ih =>
      intro pre o4 e
      have hr : r ∈ p := List.mem_of_mem_drop (by rw [← e]; simp)
      obtain ⟨o4', e2⟩ := ih (pre ++ [r]) (some (dRow r)) (by rw [← e]; simp)
      have hlen : (dRows (p.take n ++ shift t pre)).length < sizeLine := by
        have e3 := congrArg List.length e
        rw [List.length_append, List.length_cons, List.length_drop] at e3
        rw [dRows_len, List.length_append, List.length_take]
        unfold shift
        rw [List.length_map]
        exact Nat.lt_of_le_of_lt (show min n p.length + pre.length ≤ 8 by omega) (by decide)
      refine ⟨o4', (forL_nx Src.ok_none rfl (sDrop_at (app_at (eVar_at rfl) get_app (aCons_at (sh_row _ rfl rfl (hp r hr) ht) aNil_at) get_app hlen))).trans ?_⟩
      rw [set_app]
      have e4 : dRows (p.take n ++ shift t (pre ++ [r])) = dRows (p.take n ++ shift t pre) ++ [dRow (r.sh t)] := by
        have e5 : shift t (pre ++ [r]) = shift t pre ++ [r.sh t] := by unfold shift; rw [List.map_append]; rfl
        rw [e5, ← List.append_assoc]
        unfold dRows
        rw [List.map_append]
        rfl
      rw [e4] at e2
      exact e2
  obtain ⟨o4', e2⟩ := key (p.drop n) [] none rfl
  rw [show p.take n ++ shift t [] = p.take n from List.append_nil _] at e2
  refine gcF_eq (g := [.lst (dRows (push p n t))]) (defX_rt (env := [some (dPile p), some (.int (n : Int)), some (fr t), none, none]) rfl ?_) (dRows_lows _)
  unfold b_pu
  refine (sSeq_at (sSet_at e1)).trans ?_
  have eS : iSeq (eSl (eVar 0) (oSome (eVar 1)) oNone) [some (dPile p), some (.int (n : Int)), some (fr t), some (.ref st.length), none] (st ++ [.lst (dRows (p.take n))]) = some (⟨dRows (p.drop n), none⟩, st ++ [.lst (dRows (p.take n))]) := by
    simp only [iSeq, Dl.M.bnd, sl_drop (ρ := [some (dPile p), some (.int (n : Int)), some (fr t), some (.ref st.length), none]) (i := 0) (j := 1) (k := n) (p := p) (st ++ [.lst (dRows (p.take n))]) rfl rfl]
    rfl
  refine (sSeq_at ((sFor_at eS).trans e2)).trans ?_
  refine sRet_at ((eCB_at (aCons_at (eVar_at rfl) aNil_at)).trans ?_)
  show (match (st ++ [MO.lst (dRows (push p n t))])[st.length]? with
    | some (.lst xs) => some (D.tup xs, _)
    | _ => none) = _
  rw [get_app]; rfl
/-! ### near -/
def b_nr : Sx := (sRet (eCB (mCall 2 F_pl) (aCons (eVar 0) (aCons (eCB (mCall 2 F_low) (aCons (eVar 1) (aCons (eVar 2) aNil))) aNil))))
def F_nr : List D → M D := gcF (defX 3 b_nr)
theorem nr_eq {q : Rat} {a b : Int} (st : Store) (hq : Sz q) (hs : Sz (Rat.divInt a b)) (b0 : 0 < b) (hb : Bt 8999 b) : F_nr [fr q, .int a, .int b] st = some (fr (q + Rat.divInt a b), st) :=
  gcF_eq0 (defX_rt rfl (sRet_at (call2 (eVar_at rfl) (call2 (eVar_at rfl) (eVar_at rfl) (low_eq st b0 hb)) (pl_eq st hq hs)))) (fr_low _ _)
/-- moved piles are such as can be looked at -/
theorem Base.push {p : Pile} {N M a : Nat} (h : Base p N M) (n : Nat) {t : Rat} (ht : Tg N a t) (ha : a ≤ 350) : Good (Dl.push p n t) := by
  obtain ⟨c, M', h0, h1, h2, h3⟩ := ht
  have hrow : ∀ r ∈ Dl.push p n t, RowOk (N * c) (M + M') r ∧ PyData.strOk r.name = true := by
    intro r hr
    rcases List.mem_append.mp hr with hr | hr
    · have hm := List.mem_of_mem_take hr
      exact ⟨(h.ok.rows r hm).up c h0 (by omega), h.nm r hm⟩
    · obtain ⟨x, hx, rfl⟩ := List.mem_map.mp hr
      have hm := List.mem_of_mem_drop hx
      have ro := h.ok.rows x hm
      exact ⟨⟨ro.l0, ro.l1, ro.h0, ro.h1, (ro.gd.mulN c h0).add h3⟩, h.nm x hm⟩
  refine ⟨⟨N * c, M + M', ⟨?_, ?_, fun r hr => (hrow r hr).1, by rw [push_len]; exact h.ok.len, Nat.mul_pos h.ok.pos h0⟩⟩, fun r hr => (hrow r hr).2⟩
  · have e : (2 : Nat) ^ 900 = 2 ^ 400 * 2 ^ 500 := by rw [← Nat.pow_add]
    rw [e]
    exact Nat.mul_lt_mul'' h.n (pow_up h1 (by omega))
  · have e1 := pow_up (b := 860) h.m (by decide)
    have e2 := pow_up (b := 860) h2 (by omega)
    have e3 : (2 : Nat) ^ 860 * 2 ≤ 2 ^ 900 := by
      rw [show (2 : Nat) ^ 860 * 2 = 2 ^ 861 from rfl]; exact Nat.pow_le_pow_right (by decide) (by decide)
    generalize (2 : Nat) ^ 860 = A at *
    generalize (2 : Nat) ^ 900 = B at *
    omega
end Dl
end
set_option linter.all false
set_option autoImplicit false
set_option maxRecDepth 100000
/-! M20: law k03 -/
noncomputable section
namespace Dl
open PySem PySem.Spec PyProof.Rows L2
/-- what push_bounds tells of a number -/
structure PB (p : Pile) (N n : Nat) (lo : Option Rat) (hi : Rat) : Prop where
  call : ∀ st : Store, F_pb [dPile p, .int (n : Int)] st = some (.tup [dOR lo, fr hi], st)
  none_iff : lo = none ↔ n = 0
  hi0 : 0 ≤ hi
  lo0 : ∀ l, lo = some l → l ≤ 0
  iff : ∀ t, joints (push p n t) = [] ↔ (∀ l, lo = some l → l ≤ t) ∧ t ≤ hi
  thi : Tg N 70 hi
  tlo : ∀ l, lo = some l → Tg N 70 l
theorem pb_all {p : Pile} {N M n : Nat} (h : Base p N M) (hj : joints p = []) (hn : n < p.length) : ∃ lo hi, PB p N n lo hi := by
  cases n with
  | zero =>
    have i0 := fun t => push_iff0 (t := t) h.hv hj hn
    have h0 : (0 : Rat) ≤ -mid p := (i0 0).mp (by rw [push_zero]; exact hj)
    have tm := h.mid_tg hn
    rw [List.drop_zero] at tm
    exact ⟨none, -mid p, fun st => pb_eq0 h hn st, by simp, h0, fun l e => (by cases e), fun t => (by rw [i0 t]; simp), tm.neg.mono (by decide), fun l e => (by cases e)⟩
  | succ n =>
    obtain ⟨b, hb⟩ : ∃ b, p[n]? = some b := ⟨_, List.getElem?_eq_getElem (by omega)⟩
    have hbm : b ∈ p := List.mem_of_getElem? hb
    have i0 := fun t => push_iff (t := t) h.hv hj hn hb
    have h0 := (i0 0).mp (by rw [push_zero]; exact hj)
    have tm := h.mid_tg hn
    obtain ⟨lt, ht⟩ := h.lows_tg hn
    refine ⟨some (low_ p (n + 1) b), high_ p (n + 1) b, fun st => pb_eq1 h hn hb st, by simp, h0.2, fun l e => (by cases e; exact h0.1), fun t => (by rw [i0 t]; simp), ?_, fun l e => ?_⟩
    · have := min_mem (b.rgt - mid (p.drop (n + 1))) (highs p (n + 1))
      rcases List.mem_cons.mp this with e | e
      · unfold high_; rw [e]; exact ((h.rgt_tg hbm).sub tm).mono (by decide)
      · exact (ht _ e).mono (by decide)
    · cases e
      have := max_mem (b.at_ - mid (p.drop (n + 1))) (lows p (n + 1))
      rcases List.mem_cons.mp this with e | e
      · unfold low_; rw [e]; exact ((h.at_tg hbm).sub tm).mono (by decide)
      · exact (lt _ e).mono (by decide)
theorem lj_test (neg : Bool) {E : Ev} {P : Pile} {ρ : Env1} {st : Store} (hP : Good P) (hE : E ρ st = some (dPile P, st)) :
    tV (eOp2 (dEqB neg) (eCB (mCall 1 F_lj) (aCons E aNil)) (eLst aNil)) ρ st = some (if neg then !(joints P).isEmpty else (joints P).isEmpty, st ++ [.lst (dJs (joints P))] ++ [.lst []]) := by
  obtain ⟨N, M, H⟩ := hP.ok
  refine tV_at ?_
  rw [eOp2_at (call1E hE (lj_eq H st)) (eLst_at aNil_at (by decide))]
  refine (nil_eq neg (xs := dJs (joints P)) _ (by rw [List.append_assoc]; exact get_app) get_app (dJs_plain (jn_ok P 0 none)) (dJs_dep _)).trans ?_
  cases joints P <;> rfl
theorem small_tg {N : Nat} (hN : 0 < N) {a b : Int} (ha : a.natAbs < 100) (b0 : 0 < b) (hb : b < 2 ^ 40) : Tg N 50 (Rat.divInt a b) := by
  rw [Rat.divInt_eq_div]
  have z : a.natAbs < 2 ^ 500 := Nat.lt_of_lt_of_le (show a.natAbs < 2 ^ 7 by omega) (Nat.pow_le_pow_right (by decide) (by decide))
  exact ((Tg.int hN z).divI b0 hb).mono (by decide)
theorem nr_at {E A B : Ev} {ρ : Env1} {st : Store} {N c : Nat} {q : Rat} {a b : Int} (hN : 0 < N) (hN4 : N < 2 ^ 400) (hE : E ρ st = some (fr q, st)) (hA : A ρ st = some (.int a, st)) (hB : B ρ st = some (.int b, st)) (hq : Tg N c q) (hc : c ≤ 300) (ha : a.natAbs < 100) (b0 : 0 < b) (hb : b < 2 ^ 40) :
    eCB (mCall 3 F_nr) (aCons E (aCons A (aCons B aNil))) ρ st = some (fr (q + Rat.divInt a b), st) ∧ Tg N (c + 51) (q + Rat.divInt a b) := by
  have t := small_tg hN ha b0 hb
  refine ⟨call3 hE hA hB (nr_eq st (hq.sz hN4 (by omega)) (t.sz hN4 (by decide)) b0 (Bt.mono (m := 40) (show b.natAbs < 2 ^ 40 by
    have e1 : (2 : Nat) ^ 40 = 1099511627776 := by decide
    have e2 : (2 : Int) ^ 40 = 1099511627776 := by decide
    omega) (by decide))), (hq.add t).mono (by omega)⟩
theorem pu_at {E A B : Ev} {ρ : Env1} {st : Store} {p : Pile} {N M c n : Nat} {t : Rat} (h : Base p N M) (hE : E ρ st = some (dPile p, st)) (hA : A ρ st = some (.int (n : Int), st)) (hB : B ρ st = some (fr t, st)) (ht : Tg N c t) (hc : c ≤ 350) :
    eCB (mCall 3 F_pu) (aCons E (aCons A (aCons B aNil))) ρ st = some (dPile (push p n t), st) ∧ Good (push p n t) :=
  ⟨call3 hE hA hB (pu_eq h.ok.len (fun r hr => (h.at_tg hr).sz h.n (by decide)) (ht.sz h.n (by omega)) st), h.push n ht hc⟩
def e0 : Ev := (eTup (aCons (eC (.int 0)) (aCons (eC (.int 1)) aNil)))
def bMid3 : Sx := (sIf (tV (eOp1 (dIsN false) (eVar 5))) (sAsg (eOp2 dAdd (eVar 7) (eLst (aCons (eTup (aCons (eOp1 dNeg (eOp2 dPow (eC (.int 10)) (eC (.int 9)))) (aCons (eC (.int 1)) aNil))) (aCons (eCB (mCall 3 F_nr) (aCons (eVar 6) (aCons (eOp1 dNeg (eC (.int 1))) (aCons (eOp2 dPow (eC (.int 10)) (eC (.int 6))) aNil)))) aNil)))) (xName 7)) (sSeq (sAsg (eCB (mCall 3 F_pu) (aCons (eVar 3) (aCons (eVar 4) (aCons (eCB (mCall 3 F_nr) (aCons (eVar 5) (aCons (eOp1 dNeg (eC (.int 1))) (aCons (eOp2 dPow (eC (.int 10)) (eC (.int 12))) aNil)))) aNil)))) (xName 8))
  (sSeq (sIf (tOrD (tV (eCB (mCall 2 F_ls) (aCons e0 (aCons (eVar 5) aNil)))) (tV (eOp2 dEq (eCB (mCall 1 F_lj) (aCons (eVar 8) aNil)) (eLst aNil)))) (sRet (eC (.bl false))) sNext)
  (sAsg (eOp2 dAdd (eVar 7) (eLst (aCons (eVar 5) (aCons (eCB (mCall 3 F_btw) (aCons (eVar 2) (aCons (eVar 5) (aCons (eVar 6) aNil)))) aNil)))) (xName 7)))))
def bBy3 : Sx := (sIf (tV (eOp2 dNe (eCB (mCall 1 F_lj) (aCons (eCB (mCall 3 F_pu) (aCons (eVar 3) (aCons (eVar 4) (aCons (eVar 9) aNil)))) aNil)) (eLst aNil))) (sRet (eC (.bl false))) sNext)
def bNum3 : Sx := (sSeq (sAsg (eCB (mCall 2 F_pb) (aCons (eVar 3) (aCons (eVar 4) aNil))) (xTup 2 (xCons (xName 5) (xCons (xName 6) xNil))))
  (sSeq (sIf (tOrD (tV (eOp2 dNe (eOp1 (dIsN false) (eVar 5)) (eOp2 dEq (eVar 4) (eC (.int 0))))) (tV (eCB (mCall 2 F_ls) (aCons (eVar 6) (aCons e0 aNil))))) (sRet (eC (.bl false))) sNext)
  (sSeq (sAsg (eLst (aCons (eVar 6) (aCons (eCB (mCall 2 F_low) (aCons (eOp2 dIx (eVar 6) (eC (.int 0))) (aCons (eOp2 dMul (eOp2 dIx (eVar 6) (eC (.int 1))) (eC (.int 2))) aNil))) aNil))) (xName 7))
  (sSeq bMid3
  (sSeq (sFor (iSeq (eVar 7)) (xName 9) bBy3)
  (sSeq (sAsg (eCB (mCall 3 F_pu) (aCons (eVar 3) (aCons (eVar 4) (aCons (eCB (mCall 3 F_nr) (aCons (eVar 6) (aCons (eC (.int 1)) (aCons (eOp2 dPow (eC (.int 10)) (eC (.int 12))) aNil)))) aNil)))) (xName 8))
  (sIf (tV (eOp2 dEq (eCB (mCall 1 F_lj) (aCons (eVar 8) aNil)) (eLst aNil))) (sRet (eC (.bl false))) sNext)))))))
def bK3 : Sx := (sSeq (sAsg (eCB (mCall 2 F_bag) (aCons (eVar 0) (aCons (eVar 1) aNil))) (xName 2))
  (sSeq (sAsg (eCB (mCall 2 (F_pi 4 30 100 4 12 30)) (aCons (eVar 2) (aCons (eC (.int 7)) aNil))) (xName 3))
  (sFor (iR1 (aCons (eCB bLen (aCons (eVar 3) aNil)) aNil)) (xName 4) bNum3)))
def b_l3 : Sx := (sSeq (sFor (iR1 (aCons (eOp2 dAdd (eC (.int 1)) (eCB bMin2 (aCons (eCB bLen (aCons (eVar 0) aNil)) (aCons (eC (.int 8)) aNil)))) aNil)) (xName 1) bK3)
  (sRet (eC (.bl true))))
def F_l3 : List D → M D := defX 10 b_l3
theorem e0_at {ρ : Env1} {st : Store} : e0 ρ st = some (fr 0, st) := eTup_at (aCons_at eC_at (aCons_at eC_at aNil_at)) two_le
theorem ls_at {E G : Ev} {ρ : Env1} {st : Store} {x y : Rat} (hE : E ρ st = some (fr x, st)) (hG : G ρ st = some (fr y, st)) (sx : Sz x) (sy : Sz y) : tV (eCB (mCall 2 F_ls) (aCons E (aCons G aNil))) ρ st = some (decide (x < y), st) :=
  tV_at (call2 hE hG (ls_eq st sx sy))
theorem half_eq (q : Rat) : Rat.divInt q.num (q.den * 2) = q / 2 := by
  rw [Rat.divInt_eq_div, Rat.intCast_mul]
  have h : q = (q.num : Rat) / (q.den : Rat) := by
    have := Rat.num_divInt_den q
    rw [Rat.divInt_eq_div] at this
    exact this.symm
  have hd : ((q.den : Int) : Rat) ≠ 0 := natCast_ne (den_pos q)
  rw [natC] at hd ⊢
  rw [show ((2 : Int) : Rat) = 2 from rfl]
  conv => rhs; rw [h]
  grind
/-- lists joined -/
theorem cat_at {E G : Ev} {ρ : Env1} {st st2 : Store} {m n : Nat} {xs ys : List D} (hE : E ρ st = some (.ref m, st)) (hG : G ρ st = some (.ref n, st2)) (hm : st2[m]? = some (.lst xs)) (hn : st2[n]? = some (.lst ys)) (hl : xs.length + ys.length < 100) : eOp2 dAdd E G ρ st = some (.ref st2.length, st2 ++ [.lst (xs ++ ys)]) := by
  rw [eOp2_at hE hG]
  show (match st2[m]?, st2[n]? with
    | some (.lst xs), some (.lst ys) => if xs.length + ys.length ≤ sizeLine then mNew (.lst (xs ++ ys)) st2 else none
    | _, _ => none) = _
  rw [hm, hn]
  simp only [if_pos (Nat.le_trans (Nat.le_of_lt hl) (show 100 ≤ sizeLine by decide)), mNew]
theorem pow6 (st : Store) : dPow (.int 10) (.int 6) st = some (.int 1000000, st) := rfl
theorem pow9 (st : Store) : dPow (.int 10) (.int 9) st = some (.int 1000000000, st) := rfl
theorem pow12 (st : Store) : dPow (.int 10) (.int 12) st = some (.int 1000000000000, st) := rfl
theorem eNeg_at {E : Ev} {ρ : Env1} {st : Store} {i : Int} (hE : E ρ st = some (.int i, st)) : eOp1 dNeg E ρ st = some (.int (-i), st) := (eOp1_at hE).trans rfl
theorem isN_at {i : Nat} {ρ : Env1} {st : Store} {f : Option Rat} (h : ρ[i]? = some (some (dOR f))) : eOp1 (dIsN false) (eVar i) ρ st = some (.bl f.isNone, st) := by
  rw [eOp1_at (eVar_at h)]; cases f <;> rfl
theorem div_small {a b : Int} (b0 : 0 < b) : (0 < a → (0 : Rat) < Rat.divInt a b) ∧ (a < 0 → Rat.divInt a b < 0) := by
  rw [Rat.divInt_eq_div]
  have hb := natCast_pos' b0
  have e : (a : Rat) / (b : Rat) * (b : Rat) = (a : Rat) := Rat.div_mul_cancel (natCast_ne b0)
  constructor
  · intro h
    have ha := natCast_pos' h
    by_cases g : (0 : Rat) < (a : Rat) / (b : Rat)
    · exact g
    · have := Rat.mul_le_mul_of_nonneg_right (Rat.not_lt.mp g) (Rat.le_of_lt hb)
      rw [e, Rat.zero_mul] at this
      grind
  · intro h
    have ha : (a : Rat) < 0 := by exact_mod_cast h
    by_cases g : (a : Rat) / (b : Rat) < 0
    · exact g
    · have := Rat.mul_le_mul_of_nonneg_right (Rat.not_lt.mp g) (Rat.le_of_lt hb)
      rw [e, Rat.zero_mul] at this
      grind
/-- a place that the law's loop looks at -/
def ByOk (p : Pile) (N n : Nat) (t : Rat) : Prop := Tg N 200 t ∧ joints (push p n t) = []
theorem num3_ok {p : Pile} {N M n : Nat} (h : Base p N M) (hj : joints p = []) (hn : n < p.length) {b : Nat} {s : Store} (hb : BagAt b s) (x0 x1 o5 o6 o7 o8 o9 : Option D) :
    Wp (bNum3 [x0, x1, some (.ref b), some (dPile p), some (.int (n : Int)), o5, o6, o7, o8, o9]) s fun f s' => ∃ o5 o6 o7 o8 o9, f = .nx [x0, x1, some (.ref b), some (dPile p), some (.int (n : Int)), o5, o6, o7, o8, o9] ∧ Bg b s s' := by
  obtain ⟨lo, hi, P⟩ := pb_all h hj hn
  have hlt := hb.lt
  have shi := P.thi.sz h.n (by decide)
  have hNp := h.ok.pos
  refine wSeq (Wp.of (sAsg_at (call2 (eVar_at rfl) (eVar_at rfl) (P.call s)) rfl) ?_)
  show Wp (sSeq _ _ [x0, x1, some (.ref b), some (dPile p), some (.int (n : Int)), some (dOR lo), some (fr hi), o7, o8, o9]) s _
  -- the first test
  have c1 : tV (eOp2 dNe (eOp1 (dIsN false) (eVar 5)) (eOp2 dEq (eVar 4) (eC (.int 0)))) [x0, x1, some (.ref b), some (dPile p), some (.int (n : Int)), some (dOR lo), some (fr hi), o7, o8, o9] s = some (false, s) := by
    refine tV_at ?_
    rw [eOp2_at (isN_at (f := lo) rfl) ((eOp2_at (eVar_at rfl) eC_at).trans (eq_int (n : Int) 0 s))]
    have e : lo.isNone = decide ((n : Int) = 0) := by
      have h1 := P.none_iff
      cases lo with
      | none =>
        have := h1.mp rfl
        subst this
        rfl
      | some l =>
        have : n ≠ 0 := fun e => by have := h1.mpr e; cases this
        rw [decide_eq_false (by omega)]; rfl
    rw [e]
    exact bl_ne _ _
  have c2 := ls_at (ρ := [x0, x1, some (.ref b), some (dPile p), some (.int (n : Int)), some (dOR lo), some (fr hi), o7, o8, o9]) (st := s) (E := eVar 6) (G := e0) (eVar_at rfl) e0_at shi zero_sz
  rw [decide_eq_false (by have := P.hi0; grind)] at c2
  refine wSeq (Wp.of (a := .nx [x0, x1, some (.ref b), some (dPile p), some (.int (n : Int)), some (dOR lo), some (fr hi), o7, o8, o9]) (st' := s) (by
    rw [sIf_at (k := false) (st1 := s) (by rw [tOrD_at c1, if_neg (by decide), c2])]; rfl) ?_)
  -- some
  obtain ⟨y0, y1⟩ := fr_ix hi s
  have m2 : CMulW (hi.den : Int) 2 := shi.2.mulW (n := 2) (by unfold Bt; decide) (by decide)
  have lw := low_eq (t := hi.num) (b := (hi.den : Int) * 2) s (Int.mul_pos (den_pos hi) (by decide)) ((shi.2.mul (n := 2) (by unfold Bt; decide)).mono (by decide))
  rw [half_eq] at lw
  have e7 : eLst (aCons (eVar 6) (aCons (eCB (mCall 2 F_low) (aCons (eOp2 dIx (eVar 6) (eC (.int 0))) (aCons (eOp2 dMul (eOp2 dIx (eVar 6) (eC (.int 1))) (eC (.int 2))) aNil))) aNil)) [x0, x1, some (.ref b), some (dPile p), some (.int (n : Int)), some (dOR lo), some (fr hi), o7, o8, o9] s = some (.ref s.length, s ++ [.lst (frs [hi, hi / 2])]) :=
    eLst_at (aCons_at (eVar_at rfl) (aCons_at (call2 ((eOp2_at (eVar_at rfl) eC_at).trans y0) ((eOp2_at ((eOp2_at (eVar_at rfl) eC_at).trans y1) eC_at).trans (dMul_int m2 s)) lw) aNil_at)) two_le
  refine wSeq (wSet (Wp.of e7 ?_))
  have n7 : (s ++ [MO.lst (frs [hi, hi / 2])])[s.length]? = some (.lst (frs [hi, hi / 2])) := get_app
  have B1 := (Bg.refl hb).app [MO.lst (frs [hi, hi / 2])]
  have hne7 : s.length ≠ b := by omega
  generalize s ++ [MO.lst (frs [hi, hi / 2])] = s1 at *
  generalize s.length = m7 at *
  show Wp (sSeq bMid3 _ [x0, x1, some (.ref b), some (dPile p), some (.int (n : Int)), some (dOR lo), some (fr hi), some (.ref m7), o8, o9]) s1 _
  have k1 : ByOk p N n hi := ⟨P.thi.mono (by decide), (P.iff hi).mpr ⟨fun l e => by have := P.lo0 l e; have := P.hi0; grind, Rat.le_refl⟩⟩
  have k2 : ByOk p N n (hi / 2) := ⟨(P.thi.divI (b := 2) (k := 2) (by decide) (by decide)).mono (by decide), (P.iff _).mpr ⟨fun l e => by have := P.lo0 l e; have := P.hi0; grind, by have := P.hi0; grind⟩⟩
  -- what is behind the middle part
  have rest : ∀ (ts : List Rat) (m : Nat) (s2 : Store) (o8 : Option D), (∀ t ∈ ts, ByOk p N n t) → s2[m]? = some (.lst (frs ts)) → m ≠ b → Bg b s s2 →
      Wp (sSeq (sFor (iSeq (eVar 7)) (xName 9) bBy3)
        (sSeq (sAsg (eCB (mCall 3 F_pu) (aCons (eVar 3) (aCons (eVar 4) (aCons (eCB (mCall 3 F_nr) (aCons (eVar 6) (aCons (eC (.int 1)) (aCons (eOp2 dPow (eC (.int 10)) (eC (.int 12))) aNil)))) aNil)))) (xName 8))
        (sIf (tV (eOp2 dEq (eCB (mCall 1 F_lj) (aCons (eVar 8) aNil)) (eLst aNil))) (sRet (eC (.bl false))) sNext)) [x0, x1, some (.ref b), some (dPile p), some (.int (n : Int)), some (dOR lo), some (fr hi), some (.ref m), o8, o9]) s2
        fun f s' => ∃ o5 o6 o7 o8 o9, f = .nx [x0, x1, some (.ref b), some (dPile p), some (.int (n : Int)), o5, o6, o7, o8, o9] ∧ Bg b s s' := by
    intro ts m s2 o8 hts hm hmb B
    have src : mSrc (.ref m) s2 = some (⟨frs ts, some m⟩, s2) := by
      show (match s2[m]? with
        | some (.lst xs) => some ((⟨xs, some m⟩ : Src), s2)
        | _ => none) = _
      rw [hm]
    refine wSeq (wFor (Wp.bnd (wVar rfl (Wp.of src ?_))))
    refine wForL (fun xs ρ s' => ∃ (post : List Rat) (o9 : Option D), xs = frs post ∧ (∀ t ∈ post, ByOk p N n t) ∧ ρ = [x0, x1, some (.ref b), some (dPile p), some (.int (n : Int)), some (dOR lo), some (fr hi), some (.ref m), o8, o9] ∧ s'[m]? = some (.lst (frs ts)) ∧ Bg b s s') ?_ ?_ ?_ _ _ _ ?_
    · rintro xs ρ s' ⟨_, _, _, _, _, hm', _⟩
      exact Src.ok_some hm'
    · rintro ρ s' ⟨post, o9, _, _, rfl, hm', B'⟩
      obtain ⟨q1, q2⟩ := nr_at (E := eVar 6) (A := eC (.int 1)) (B := eOp2 dPow (eC (.int 10)) (eC (.int 12))) (ρ := [x0, x1, some (.ref b), some (dPile p), some (.int (n : Int)), some (dOR lo), some (fr hi), some (.ref m), o8, o9]) (st := s') (a := 1) (b := 1000000000000) hNp h.n (eVar_at rfl) eC_at ((eOp2_at eC_at eC_at).trans (pow12 s')) P.thi (by decide) (by decide) (by decide) (by decide)
      obtain ⟨q3, q4⟩ := pu_at (E := eVar 3) (A := eVar 4) (n := n) h (eVar_at rfl) (eVar_at rfl) q1 q2 (by decide)
      refine wSeq (wSet (Wp.of q3 ?_))
      have hno : ¬ joints (push p n (hi + Rat.divInt 1 1000000000000)) = [] := fun e => by
        have := ((P.iff _).mp e).2
        have := (div_small (a := 1) (b := 1000000000000) (by decide)).1 (by decide)
        grind
      have t1 := lj_test false (E := eVar 8) (ρ := [x0, x1, some (.ref b), some (dPile p), some (.int (n : Int)), some (dOR lo), some (fr hi), some (.ref m), some (dPile (push p n (hi + Rat.divInt 1 1000000000000))), o9]) (st := s') q4 (eVar_at rfl)
      have t2 : (joints (push p n (hi + Rat.divInt 1 1000000000000))).isEmpty = false := by
        rw [List.isEmpty_eq_false_iff]; exact hno
      rw [t2] at t1
      refine Wp.of (a := .nx [x0, x1, some (.ref b), some (dPile p), some (.int (n : Int)), some (dOR lo), some (fr hi), some (.ref m), some (dPile (push p n (hi + Rat.divInt 1 1000000000000))), o9]) (by
        show sIf (tV (eOp2 dEq (eCB (mCall 1 F_lj) (aCons (eVar 8) aNil)) (eLst aNil))) (sRet (eC (.bl false))) sNext [x0, x1, some (.ref b), some (dPile p), some (.int (n : Int)), some (dOR lo), some (fr hi), some (.ref m), some (dPile (push p n (hi + Rat.divInt 1 1000000000000))), o9] s' = _
        rw [sIf_at t1]; rfl) ⟨_, _, _, _, _, rfl, (B'.app _).app _⟩
    · rintro x xs ρ s' ⟨post, o9, hx, hp, rfl, hm', B'⟩
      cases post with
      | nil => cases hx
      | cons t post =>
        injection hx with h1 h2
        subst h1
        subst h2
        obtain ⟨g1, g2⟩ := hp t (by simp)
        obtain ⟨q3, q4⟩ := pu_at (E := eVar 3) (A := eVar 4) (B := eVar 9) (ρ := [x0, x1, some (.ref b), some (dPile p), some (.int (n : Int)), some (dOR lo), some (fr hi), some (.ref m), o8, some (fr t)]) (st := s') (n := n) h (eVar_at rfl) (eVar_at rfl) (eVar_at rfl) g1 (by decide)
        have t1 := lj_test true q4 q3
        rw [g2] at t1
        refine Wp.ret (Wp.of (a := .nx [x0, x1, some (.ref b), some (dPile p), some (.int (n : Int)), some (dOR lo), some (fr hi), some (.ref m), o8, some (fr t)]) (by
          show bBy3 [x0, x1, some (.ref b), some (dPile p), some (.int (n : Int)), some (dOR lo), some (fr hi), some (.ref m), o8, some (fr t)] s' = _
          unfold bBy3
          rw [sIf_at t1]; rfl) ?_)
        exact ⟨post, _, rfl, fun t ht => hp t (by simp [ht]), rfl, ap (ap hm'), (B'.app _).app _⟩
    · exact ⟨ts, o9, rfl, hts, rfl, hm, B⟩
  refine wSeq ?_
  unfold bMid3
  cases lo with
  | none =>
    obtain ⟨q1, q2⟩ := nr_at (E := eVar 6) (A := eOp1 dNeg (eC (.int 1))) (B := eOp2 dPow (eC (.int 10)) (eC (.int 6))) (ρ := [x0, x1, some (.ref b), some (dPile p), some (.int (n : Int)), some (dOR none), some (fr hi), some (.ref m7), o8, o9]) (st := s1) (a := -1) (b := 1000000) hNp h.n (eVar_at rfl) (eNeg_at eC_at) ((eOp2_at eC_at eC_at).trans (pow6 s1)) P.thi (by decide) (by decide) (by decide) (by decide)
    have eb : eTup (aCons (eOp1 dNeg (eOp2 dPow (eC (.int 10)) (eC (.int 9)))) (aCons (eC (.int 1)) aNil)) [x0, x1, some (.ref b), some (dPile p), some (.int (n : Int)), some (dOR none), some (fr hi), some (.ref m7), o8, o9] s1 = some (fr ((-1000000000 : Int) : Rat), s1) :=
      eTup_at (aCons_at (eNeg_at ((eOp2_at eC_at eC_at).trans (pow9 s1))) (aCons_at eC_at aNil_at)) two_le
    have eL := eLst_at (aCons_at eb (aCons_at q1 aNil_at)) two_le
    have n8 : (s1 ++ [MO.lst [fr ((-1000000000 : Int) : Rat), fr (hi + Rat.divInt (-1) 1000000)]])[s1.length]? = some (.lst (frs [((-1000000000 : Int) : Rat), hi + Rat.divInt (-1) 1000000])) := get_app
    have ec := cat_at (E := eVar 7) (eVar_at rfl) eL (ap n7) n8 (by show 2 + 2 < 100; decide)
    refine wIf (Wp.of (tV_at (isN_at (f := none) rfl)) ?_)
    rw [if_pos (show (none : Option Rat).isNone = true from rfl)]
    refine Wp.of (a := .nx [x0, x1, some (.ref b), some (dPile p), some (.int (n : Int)), some (dOR none), some (fr hi), some (.ref (s1 ++ [MO.lst [fr ((-1000000000 : Int) : Rat), fr (hi + Rat.divInt (-1) 1000000)]]).length), o8, o9]) (sSet_at ec) ?_
    have hs1 := (B1.bag hb.lt).lt
    refine rest [hi, hi / 2, ((-1000000000 : Int) : Rat), hi + Rat.divInt (-1) 1000000] _ _ o8 ?_ get_app (by rw [List.length_append]; omega) ((B1.app _).app _)
    have neg := (div_small (a := -1) (b := 1000000) (by decide)).2 (by decide)
    have nb : ((-1000000000 : Int) : Rat) ≤ 0 := Rat.intCast_le_intCast.mpr (show (-1000000000 : Int) ≤ 0 by decide)
    refine List.forall_mem_cons.mpr ⟨k1, List.forall_mem_cons.mpr ⟨k2, List.forall_mem_cons.mpr ⟨?_, List.forall_mem_cons.mpr ⟨?_, fun t ht => (by cases ht)⟩⟩⟩⟩
    · exact ⟨(Tg.int hNp (pow_up (a := 40) (by decide) (by decide))).mono (by decide), (P.iff _).mpr ⟨fun l e => (by cases e), by have := P.hi0; grind⟩⟩
    · exact ⟨q2.mono (by decide), (P.iff _).mpr ⟨fun l e => (by cases e), by grind⟩⟩
  | some l =>
    have tl := P.tlo l rfl
    have l0 := P.lo0 l rfl
    have sl := tl.sz h.n (by decide)
    obtain ⟨q1, q2⟩ := nr_at (E := eVar 5) (A := eOp1 dNeg (eC (.int 1))) (B := eOp2 dPow (eC (.int 10)) (eC (.int 12))) (ρ := [x0, x1, some (.ref b), some (dPile p), some (.int (n : Int)), some (dOR (some l)), some (fr hi), some (.ref m7), o8, o9]) (st := s1) (a := -1) (b := 1000000000000) hNp h.n (eVar_at rfl) (eNeg_at eC_at) ((eOp2_at eC_at eC_at).trans (pow12 s1)) tl (by decide) (by decide) (by decide) (by decide)
    obtain ⟨q3, q4⟩ := pu_at (E := eVar 3) (A := eVar 4) (n := n) h (eVar_at rfl) (eVar_at rfl) q1 q2 (by decide)
    have neg := (div_small (a := -1) (b := 1000000000000) (by decide)).2 (by decide)
    have hno : ¬ joints (push p n (l + Rat.divInt (-1) 1000000000000)) = [] := fun e => by
      have := ((P.iff _).mp e).1 l rfl
      grind
    generalize l + Rat.divInt (-1) 1000000000000 = t8 at *
    have t1 := lj_test false (E := eVar 8) (ρ := [x0, x1, some (.ref b), some (dPile p), some (.int (n : Int)), some (dOR (some l)), some (fr hi), some (.ref m7), some (dPile (push p n t8)), o9]) (st := s1) q4 (eVar_at rfl)
    have t2 : (joints (push p n t8)).isEmpty = false := by
      rw [List.isEmpty_eq_false_iff]; exact hno
    rw [t2] at t1
    have t3 := ls_at (ρ := [x0, x1, some (.ref b), some (dPile p), some (.int (n : Int)), some (dOR (some l)), some (fr hi), some (.ref m7), some (dPile (push p n t8)), o9]) (st := s1) (E := e0) (G := eVar 5) e0_at (eVar_at rfl) zero_sz sl
    rw [decide_eq_false (by grind)] at t3
    refine wIf (Wp.of (tV_at (isN_at (f := some l) rfl)) ?_)
    rw [if_neg (show ¬ (some l).isNone = true by simp)]
    refine wSeq (wSet (Wp.of q3 ?_))
    refine wSeq (Wp.of (a := .nx [x0, x1, some (.ref b), some (dPile p), some (.int (n : Int)), some (dOR (some l)), some (fr hi), some (.ref m7), some (dPile (push p n t8)), o9]) (by
      show sIf (tOrD (tV (eCB (mCall 2 F_ls) (aCons e0 (aCons (eVar 5) aNil)))) (tV (eOp2 dEq (eCB (mCall 1 F_lj) (aCons (eVar 8) aNil)) (eLst aNil)))) (sRet (eC (.bl false))) sNext [x0, x1, some (.ref b), some (dPile p), some (.int (n : Int)), some (dOR (some l)), some (fr hi), some (.ref m7), some (dPile (push p n t8)), o9] s1 = _
      rw [sIf_at (by rw [tOrD_at t3, if_neg (by decide), t1])]; rfl) ?_)
    have n7b := ap (g := [MO.lst []]) (ap (g := [MO.lst (dJs (joints (push p n t8)))]) n7)
    have B2 := (B1.app [MO.lst (dJs (joints (push p n t8)))]).app [MO.lst []]
    generalize s1 ++ [MO.lst (dJs (joints (push p n t8)))] ++ [MO.lst []] = s2 at *
    refine wSet (wOp2 (wVar rfl (wLst (wCons (wVar rfl (wCons (wCB (wCons (wVar rfl (wCons (wVar rfl (wCons (wVar rfl (wNil ?_))))))))))))))
    refine btw_w (b := b) (lo := l) (hi := hi) (B2.bag hb.lt) (sl.1.mono (by decide)) (sl.2.mono (by decide)) (shi.1.mono (by decide)) (shi.2.mono (by decide)) (den_pos _) (den_pos _) (Rat.num_divInt_den _) (Rat.num_divInt_den _) fun k o hk ho => ?_
    have B3 : Bg b s (s2.set b o) := B2.trans hb.lt (Bg.set0 ho)
    have n7c : (s2.set b o)[m7]? = some (.lst (frs [hi, hi / 2])) := by rw [List.getElem?_set_ne (Ne.symm hne7)]; exact n7b
    generalize s2.set b o = s3 at *
    refine wNil ⟨two_le, ?_⟩
    have hb3 := (B3.bag hb.lt).lt
    have n8 : (s3 ++ [MO.lst [fr l, fr (mix l hi k)]])[s3.length]? = some (.lst (frs [l, mix l hi k])) := get_app
    have ec : dAdd (.ref m7) (.ref s3.length) (s3 ++ [MO.lst [fr l, fr (mix l hi k)]]) = some (.ref (s3 ++ [MO.lst [fr l, fr (mix l hi k)]]).length, s3 ++ [MO.lst [fr l, fr (mix l hi k)]] ++ [.lst (frs [hi, hi / 2] ++ frs [l, mix l hi k])]) := by
      have := cat_at (ρ := [some (.ref m7), some (.ref s3.length)]) (E := eVar 0) (G := eVar 1) (st := s3 ++ [MO.lst [fr l, fr (mix l hi k)]]) (eVar_at rfl) (eVar_at rfl) (ap n7c) n8 (by show 2 + 2 < 100; decide)
      rwa [eOp2_at (eVar_at rfl) (eVar_at rfl)] at this
    refine Wp.of ec ?_
    have mx := mix_in (lo := l) (hi := hi) (by have := P.hi0; grind) hk
    refine rest [hi, hi / 2, l, mix l hi k] _ _ _ ?_ get_app (by rw [List.length_append]; omega) ((B3.app _).app _)
    intro t ht
    simp only [List.mem_cons, List.not_mem_nil, or_false] at ht
    rcases ht with rfl | rfl | rfl | rfl
    · exact k1
    · exact k2
    · exact ⟨tl.mono (by decide), (P.iff _).mpr ⟨fun l e => (by cases e; exact Rat.le_refl), by have := P.hi0; grind⟩⟩
    · exact ⟨(tl.mix P.thi hk).mono (by decide), (P.iff _).mpr ⟨fun l e => (by cases e; exact mx.1), mx.2⟩⟩
/-- a law's outer loop: so many bags, whatever is done with each -/
theorem bags_w {N : Nat} {body : Sx} {ns : List Int} {n c : Nat} {z : Nat} {Q : Fl → Store → Prop} (hc : c ≤ 100)
    (hb : ∀ (k : Nat) (o : List (Option D)) (s : Store), k < 1000 → o.length = z → Wp (body (some (.scr ns) :: some (.int (k : Int)) :: o)) s fun f _ => ∃ o', f = .nx (some (.scr ns) :: some (.int (k : Int)) :: o') ∧ o'.length = z)
    (q : ∀ (ρ : Env1) (s : Store), ρ[0]? = some (some (.scr ns)) → ρ.length = z + 2 → Q (.nx ρ) s) (s0 : Store) (o1 : Option D) (o : List (Option D)) (ho : o.length = z) :
    Wp (sFor (iR1 (aCons (eOp2 dAdd (eC (.int 1)) (eCB bMin2 (aCons (eCB bLen (aCons (eVar 0) aNil)) (aCons (eC (.int (c : Int))) aNil)))) aNil)) (xName 1) body (some (.scr ns) :: o1 :: o)) s0 Q := by
  have e1 : aCons (eOp2 dAdd (eC (.int 1)) (eCB bMin2 (aCons (eCB bLen (aCons (eVar 0) aNil)) (aCons (eC (.int (c : Int))) aNil)))) aNil (some (.scr ns) :: o1 :: o) s0 = some ([.int ((1 + min ns.length c : Nat) : Int)], s0) := by
    refine (show _ = some ([D.int (1 + (if (c : Int) < (ns.length : Int) then (c : Int) else (ns.length : Int)))], s0) from rfl).trans ?_
    congr 4
    split <;> omega
  refine wFor (Wp.of (rng_at e1 (by omega)) ?_)
  refine wForL (fun xs ρ s => ∃ (k n : Nat) (o1 : Option D) (o : List (Option D)), ρ = some (.scr ns) :: o1 :: o ∧ o.length = z ∧ xs = rgs k n ∧ k + n ≤ 101) ?_ ?_ ?_ _ _ _ ?_
  · intro xs ρ s _
    exact Src.ok_none
  · rintro ρ s ⟨k, n, o1, o, rfl, ho, _, _⟩
    exact q _ _ rfl (by simp [ho])
  · rintro x xs ρ s ⟨k, n, o1, o, rfl, ho, hx, hk⟩
    cases n with
    | zero => cases hx
    | succ n =>
    injection hx with h1 h2
    subst h1
    subst h2
    refine Wp.ret ((hb k o s (by omega) ho).mono ?_)
    rintro f s' ⟨o', rfl, ho'⟩
    exact ⟨k + 1, n, _, o', rfl, ho', rfl, by omega⟩
  · exact ⟨0, _, o1, o, rfl, ho, rfl, by omega⟩
theorem l3_true (ns : List Int) (h : ns.length ≤ 63) : ∃ st', F_l3 [.scr ns] [] = some (.bl true, st') := by
  have main : Wp (F_l3 [.scr ns]) [] fun d s => d = .bl true := by
    refine wDefX (env := [some (.scr ns), none, none, none, none, none, none, none, none, none]) rfl ?_
    refine wSeq (bags_w (N := 0) (n := 0) (c := 8) (z := 8) (by decide) (fun k o s hk ho => ?_) (fun ρ s _ _ => wRet (wC ⟨_, rfl, rfl⟩)) [] none _ rfl)
    match o, ho with
    | [o2, o3, o4, o5, o6, o7, o8, o9], _ =>
    obtain ⟨u, hu, eb⟩ := bag_eq ns k hk s
    have hb : BagAt s.length (s ++ [u]) := ⟨u, get_app, hu⟩
    refine wSeq (wSet (Wp.of (call2 (eVar_at rfl) (eVar_at rfl) eb) ?_))
    generalize s ++ [u] = s0 at *
    generalize s.length = b at *
    have ha : ∀ x ∈ [(4 : Int), 30, 100], 0 < x ∧ x ≤ 100 := by simp
    have hd : ∀ x ∈ [(4 : Int), 12, 30], 0 < x ∧ x ≤ 30 := by simp
    refine wSeq (wSet (wCB (wCons (wVar rfl (wCons (wC (wNil (pi_w (most := 7) hb (by decide) (by decide) ha hd (by decide) (by decide) fun p q1 hp hj hq1 => ?_))))))))
    have B1 : Bg b s0 (s0.set b q1) := Bg.set0 hq1
    have hlt := hb.lt
    generalize s0.set b q1 = s1 at *
    obtain ⟨N, M, hB⟩ := hp.base (by decide) (by decide) (by decide)
    have hl := hB.ok.len
    refine wFor (Wp.of (rng_at (bLen_pile s1 rfl) (by omega)) ?_)
    refine wForL (fun xs ρ s => ∃ (j n : Nat) (o4 o5 o6 o7 o8 o9 : Option D), ρ = [some (.scr ns), some (.int (k : Int)), some (.ref b), some (dPile p), o4, o5, o6, o7, o8, o9] ∧ xs = rgs j n ∧ j + n = p.length ∧ Bg b s0 s) ?_ ?_ ?_ _ _ _ ?_
    · intro xs ρ s _
      exact Src.ok_none
    · rintro ρ s ⟨j, n, o4, o5, o6, o7, o8, o9, rfl, _, _, _⟩
      exact ⟨[_, _, _, _, _, _, _, _], rfl, rfl⟩
    · rintro x xs ρ s ⟨j, n, o4, o5, o6, o7, o8, o9, rfl, hx, hjn, B⟩
      cases n with
      | zero => cases hx
      | succ n =>
      injection hx with h1 h2
      subst h1
      subst h2
      refine Wp.ret ((num3_ok hB hj (show j < p.length by omega) (B.bag hlt) _ _ _ _ _ _ _).mono ?_)
      rintro f s' ⟨o5, o6, o7, o8, o9, rfl, B'⟩
      exact ⟨j + 1, n, _, _, _, _, _, _, rfl, rfl, by omega, B.trans hlt B'⟩
    · exact ⟨0, _, o4, o5, o6, o7, o8, o9, rfl, rfl, by omega, B1⟩
  obtain ⟨d, s, e, rfl⟩ := main
  exact ⟨s, e⟩
end Dl
end
set_option linter.all false
set_option autoImplicit false
set_option maxRecDepth 100000
/-! M21: the plain law of weights; the law's look -/
noncomputable section
namespace Dl
open PySem PySem.Spec PyProof.Rows L2
theorem le_div {e y c : Rat} (h : 0 < c) : e ≤ y / c ↔ e * c ≤ y := by
  have h0 : c ≠ 0 := fun e => by rw [e] at h; exact Rat.lt_irrefl h
  have e1 : y / c * c = y := Rat.div_mul_cancel h0
  constructor
  · intro g
    have := Rat.mul_le_mul_of_nonneg_right g (Rat.le_of_lt h)
    rwa [e1] at this
  · intro g
    apply Rat.le_of_mul_le_mul_right (c := c) _ h
    rwa [e1]
theorem div_le {e y c : Rat} (h : 0 < c) : y / c ≤ e ↔ y ≤ e * c := by
  have h0 : c ≠ 0 := fun e => by rw [e] at h; exact Rat.lt_irrefl h
  have e1 : y / c * c = y := Rat.div_mul_cancel h0
  constructor
  · intro g
    have := Rat.mul_le_mul_of_nonneg_right g (Rat.le_of_lt h)
    rwa [e1] at this
  · intro g
    apply Rat.le_of_mul_le_mul_right (c := c) _ h
    rwa [e1]
/-- the middle with a weight W at x -/
def wmid (p : Pile) (k : Nat) (W : Int) (x : Rat) : Rat := (mid (p.drop k) * (wt (p.drop k) : Rat) + (W : Rat) * x) / ((wt (p.drop k) + W : Int) : Rat)
def WJ (p : Pile) (W : Int) (x : Rat) (k : Nat) : Prop := jl p k ≤ wmid p k W x ∧ wmid p k W x ≤ jh p k
def WOk (p : Pile) (W : Int) (x : Rat) : Prop := ∀ k, k < p.length → WJ p W x k
/-- where a joint lets a weight lie -/
def lw (p : Pile) (W : Int) (k : Nat) (e : Rat) : Rat := (e * ((wt (p.drop k) + W : Int) : Rat) - mid (p.drop k) * (wt (p.drop k) : Rat)) / (W : Rat)
theorem wmid_iff {p : Pile} {W : Int} {x e : Rat} {k : Nat} (h : 0 < wt (p.drop k)) (hW : 0 < W) : (e ≤ wmid p k W x ↔ lw p W k e ≤ x) ∧ (wmid p k W x ≤ e ↔ x ≤ lw p W k e) := by
  have c1 := natCast_pos' (show 0 < wt (p.drop k) + W by omega)
  have c2 := natCast_pos' hW
  unfold wmid lw
  rw [le_div c1, div_le c1, le_div c2, div_le c2]
  constructor <;> constructor <;> intro g <;> grind
theorem wok_iff {p : Pile} {W : Int} {x : Rat} (hv : Hv p) (hW : 0 < W) : WOk p W x ↔ ∀ k, k < p.length → lw p W k (jl p k) ≤ x ∧ x ≤ lw p W k (jh p k) := by
  constructor
  · intro h k hk
    have hw := (hv.drop k).pos (drop_ne hk)
    exact ⟨(wmid_iff hw hW).1.mp (h k hk).1, (wmid_iff hw hW).2.mp (h k hk).2⟩
  · intro h k hk
    have hw := (hv.drop k).pos (drop_ne hk)
    exact ⟨(wmid_iff hw hW).1.mpr (h k hk).1, (wmid_iff hw hW).2.mpr (h k hk).2⟩
theorem jok_l {p : Pile} (hj : joints p = []) {k : Nat} (hk : k < p.length) : jl p k ≤ mid (p.drop k) ∧ mid (p.drop k) ≤ jh p k := by
  obtain ⟨r, hr⟩ : ∃ r, p[k]? = some r := ⟨_, List.getElem?_eq_getElem hk⟩
  have e1 : jl p k = lowR (below p k) r := by unfold jl; rw [hr]
  have e2 : jh p k = highR (below p k) r := by unfold jh; rw [hr]
  rw [e1, e2]
  exact joints_idx.mp hj k r hr
/-! ### wide comparisons -/
theorem divInt_bt {t b : Int} (b0 : 0 < b) {n : Nat} (ht : Bt n t) (hb : Bt n b) : Bt n (Rat.divInt t b).num ∧ Bt n ((Rat.divInt t b).den : Int) := by
  obtain ⟨d, rfl⟩ : ∃ d : Nat, b = d := ⟨b.toNat, by omega⟩
  have e : Rat.divInt t (d : Int) = mkRat t d := rfl
  rw [e]
  have d0 : d ≠ 0 := by omega
  constructor
  · rw [Rat.num_mkRat, if_neg d0]
    refine Nat.lt_of_le_of_lt ?_ ht
    exact Int.natAbs_ediv_le_natAbs _ _
  · rw [Rat.den_mkRat, if_neg d0]
    show (((d / _ : Nat) : Int)).natAbs < _
    rw [Int.natAbs_natCast]
    refine Nat.lt_of_le_of_lt (Nat.div_le_self _ _) ?_
    have : ((d : Int)).natAbs < 2 ^ n := hb
    rwa [Int.natAbs_natCast] at this
def Sw (q : Rat) : Prop := Bt 9000 q.num ∧ Bt 9000 (q.den : Int)
theorem Sz.w {q : Rat} (h : Sz q) : Sw q := ⟨h.1.mono (by decide), h.2.mono (by decide)⟩
theorem lsw_eq {p q : Rat} (st : Store) (hp : Sw p) (hq : Sw q) : F_ls [fr p, fr q] st = some (.bl (decide (p < q)), st) := by
  have c1 : CMulW p.num (q.den : Int) := hp.1.mulW hq.2 (by decide)
  have c2 : CMulW q.num (p.den : Int) := hq.1.mulW hp.2 (by decide)
  obtain ⟨x0, x1⟩ := fr_ix p st
  obtain ⟨y0, y1⟩ := fr_ix q st
  refine gcF_eq0 (defX_rt rfl ?_) rfl
  simp only [List.map_cons, List.map_nil, List.length_cons, List.length_nil, List.cons_append, List.nil_append, b_ls, sRet, eOp2, eVar, eC, Dl.M.bnd, Dl.M.ret, List.getElem?_cons_zero, List.getElem?_cons_succ, x0, x1, y0, y1, dMul_int c1, dMul_int c2, dLt_int, Rat.lt_iff]
theorem lsw_at {E G : Ev} {ρ : Env1} {st : Store} {x y : Rat} (hE : E ρ st = some (fr x, st)) (hG : G ρ st = some (fr y, st)) (sx : Sw x) (sy : Sw y) : tV (eCB (mCall 2 F_ls) (aCons E (aCons G aNil))) ρ st = some (decide (x < y), st) :=
  tV_at (call2 hE hG (lsw_eq st sx sy))
/-! ### the law's look at a weight -/
theorem hv_sumE {E : Ev} {ρ : Env1} (i : Nat) {q : Pile} (st : Store) (hE : E ρ st = some (dPile q, st)) (hi : i < ρ.length) (hl : q.length ≤ 8) :
    ∃ z, eCB (bOnL gSum) (aCons (eLc (iSeq E) (xName i) tYesD (eOp2 dIx (eVar i) (eC (.int 2))) [i]) aNil) ρ st = some (.int (wt q), st ++ z) := by
  obtain ⟨z, e⟩ := eLc_mA (it := iSeq E) (g := xName i) (e := eOp2 dIx (eVar i) (eC (.int 2))) (vs := [i]) (ρ := ρ) (st := st) (st1 := st) (s := ⟨dRows q, none⟩) q dRow (fun r => D.int r.heavy) (by simp only [iSeq, Dl.M.bnd, hE]; rfl) (.inl rfl) rfl (fun r hr z => by
      refine ⟨_, rfl, fun z => ⟨[], ?_⟩⟩
      simp only [eOp2, eVar, eC, Dl.M.bnd, Dl.M.ret, wipe1 ρ i _ hi, (dRow_ix r _).2.2.1, List.append_nil]) (Nat.le_trans hl (by decide))
  refine ⟨.lst (q.map fun r => D.int r.heavy) :: z, ?_⟩
  simp only [eCB, aCons, aNil, Dl.M.bnd, Dl.M.ret, e, bOnL, get_app, gSum, heavies, Option.map_some, wt]
def bWd : Sx := (sSeq (sAsg (eCB (mCall 2 F_len) (aCons (eVar 0) (aCons (eVar 3) aNil))) (xTup 2 (xCons (xName 4) (xCons (xName 5) xNil))))
  (sSeq (sAsg (eCB (bOnL gSum) (aCons (eLc (iSeq (eSl (eVar 0) (oSome (eVar 3)) oNone)) (xName 10) tYesD (eOp2 dIx (eVar 10) (eC (.int 2))) [10]) aNil)) (xName 6))
  (sSeq (sAsg (eCB (mCall 1 F_lmd) (aCons (eSl (eVar 0) (oSome (eVar 3)) oNone) aNil)) (xName 7))
  (sSeq (sAsg (eOp2 dAdd (eOp2 dMul (eOp2 dMul (eOp2 dIx (eVar 7) (eC (.int 0))) (eVar 6)) (eOp2 dIx (eVar 2) (eC (.int 1)))) (eOp2 dMul (eOp2 dMul (eVar 1) (eOp2 dIx (eVar 2) (eC (.int 0)))) (eOp2 dIx (eVar 7) (eC (.int 1))))) (xName 8))
  (sSeq (sAsg (eCB (mCall 2 F_low) (aCons (eVar 8) (aCons (eOp2 dMul (eOp2 dMul (eOp2 dIx (eVar 7) (eC (.int 1))) (eOp2 dIx (eVar 2) (eC (.int 1)))) (eOp2 dAdd (eVar 6) (eVar 1))) aNil))) (xName 9))
  (sIf (tOrD (tV (eCB (mCall 2 F_ls) (aCons (eVar 9) (aCons (eVar 4) aNil)))) (tV (eCB (mCall 2 F_ls) (aCons (eVar 5) (aCons (eVar 9) aNil))))) (sRet (eC (.bl false))) sNext))))))
def b_wd : Sx := (sSeq (sFor (iR1 (aCons (eCB bLen (aCons (eVar 0) aNil)) aNil)) (xName 3) bWd)
  (sRet (eC (.bl true))))
def F_wd : List D → M D := gcF (defX 11 b_wd)
theorem here_eq (m x : Rat) {a W : Int} (h : 0 < a + W) : Rat.divInt (m.num * a * x.den + W * x.num * m.den) (m.den * x.den * (a + W)) = (m * (a : Rat) + (W : Rat) * x) / ((a + W : Int) : Rat) := by
  have hm : m = (m.num : Rat) / ((m.den : Int) : Rat) := by
    have := Rat.num_divInt_den m
    rw [Rat.divInt_eq_div] at this
    exact this.symm
  have hx : x = (x.num : Rat) / ((x.den : Int) : Rat) := by
    have := Rat.num_divInt_den x
    rw [Rat.divInt_eq_div] at this
    exact this.symm
  have d1 : ((m.den : Int) : Rat) ≠ 0 := natCast_ne (den_pos m)
  have d2 : ((x.den : Int) : Rat) ≠ 0 := natCast_ne (den_pos x)
  have d3 := natCast_ne h
  rw [Rat.divInt_eq_div]
  simp only [Rat.intCast_add, Rat.intCast_mul] at d3 ⊢
  conv => rhs; rw [hm, hx]
  generalize (m.num : Rat) = mn at *
  generalize ((m.den : Int) : Rat) = md at *
  generalize (x.num : Rat) = xn at *
  generalize ((x.den : Int) : Rat) = xd at *
  grind
theorem wd_turn {p : Pile} {N M : Nat} (h : Base p N M) {k : Nat} (hk : k < p.length) {W : Int} (hW : 0 < W) (bW : Bt 4001 W) {x : Rat} (sx : Sz x) (o4 o5 o6 o7 o8 o9 o10 : Option D) (st : Store) :
    ∃ z4 z5 z6 z7 z8 z9 z10 g, bWd [some (dPile p), some (.int W), some (fr x), some (.int (k : Int)), o4, o5, o6, o7, o8, o9, o10] st =
      some ((open Classical in if WJ p W x k then .nx [some (dPile p), some (.int W), some (fr x), some (.int (k : Int)), z4, z5, z6, z7, z8, z9, z10] else .rt (.bl false)), st ++ g) := by
  obtain ⟨r, hr⟩ : ∃ r, p[k]? = some r := ⟨_, List.getElem?_eq_getElem hk⟩
  have e1 : jl p k = lowR (below p k) r := by unfold jl; rw [hr]
  have e2 : jh p k = highR (below p k) r := by unfold jh; rw [hr]
  have t1 := h.ends_tg hk
  have sl := (t1.1.sz h.n (by decide)).w
  have sh := (t1.2.sz h.n (by decide)).w
  have sm := (h.mid_tg hk).sz h.n (by decide)
  have w1 := h.wt_drop hk
  have en := len_eq h.ok hr st
  rw [← e1, ← e2] at en
  obtain ⟨g, es⟩ := hv_sumE (E := eSl (eVar 0) (oSome (eVar 3)) oNone) (ρ := [some (dPile p), some (.int W), some (fr x), some (.int (k : Int)), some (fr (jl p k)), some (fr (jh p k)), o6, o7, o8, o9, o10]) 10 (q := p.drop k) st (sl_drop st rfl rfl) (by simp) (by rw [List.length_drop]; have := h.ok.len; omega)
  have md := lmd_good (p.drop k) (st ++ g) (h.good.drop k) (drop_ne hk)
  obtain ⟨m0, m1⟩ := fr_ix (mid (p.drop k)) (st ++ g)
  obtain ⟨x0, x1⟩ := fr_ix x (st ++ g)
  have ba : Bt 17 (wt (p.drop k)) := show (wt (p.drop k)).natAbs < 2 ^ 17 by
    have a1 : (2 : Int) ^ 17 = 131072 := by decide
    have a2 : (2 : Nat) ^ 17 = 131072 := by decide
    omega
  have c1 : CMulW (mid (p.drop k)).num (wt (p.drop k)) := sm.1.mulW ba (by decide)
  have c2 : CMulW ((mid (p.drop k)).num * wt (p.drop k)) (x.den : Int) := (sm.1.mul ba).mulW sx.2 (by decide)
  have c3 : CMulW W x.num := bW.mulW sx.1 (by decide)
  have c4 : CMulW (W * x.num) ((mid (p.drop k)).den : Int) := (bW.mul sx.1).mulW sm.2 (by decide)
  have c5 : CMulW ((mid (p.drop k)).den : Int) (x.den : Int) := sm.2.mulW sx.2 (by decide)
  have bs : Bt 4002 (wt (p.drop k) + W) := ba.add bW (by decide)
  have c6 : CMulW (((mid (p.drop k)).den : Int) * (x.den : Int)) (wt (p.drop k) + W) := (sm.2.mul sx.2).mulW bs (by decide)
  have bT : Bt 8999 ((mid (p.drop k)).num * wt (p.drop k) * x.den + W * x.num * (mid (p.drop k)).den) := (((sm.1.mul ba).mul sx.2).add ((bW.mul sx.1).mul sm.2) (by decide)).mono (by decide)
  have bB : Bt 8999 (((mid (p.drop k)).den : Int) * x.den * (wt (p.drop k) + W)) := ((sm.2.mul sx.2).mul bs).mono (by decide)
  have b0 : 0 < ((mid (p.drop k)).den : Int) * x.den * (wt (p.drop k) + W) := Int.mul_pos (Int.mul_pos (den_pos _) (den_pos _)) (by omega)
  have low := low_eq (st ++ g) b0 bB (t := (mid (p.drop k)).num * wt (p.drop k) * x.den + W * x.num * (mid (p.drop k)).den)
  have sw := divInt_bt b0 bT bB
  rw [here_eq _ _ (by omega)] at low sw
  have hw : wmid p k W x = (mid (p.drop k) * (wt (p.drop k) : Rat) + (W : Rat) * x) / ((wt (p.drop k) + W : Int) : Rat) := rfl
  rw [← hw] at low sw
  have sw : Sw (wmid p k W x) := ⟨sw.1.mono (by decide), sw.2.mono (by decide)⟩
  refine ⟨some (fr (jl p k)), some (fr (jh p k)), some (.int (wt (p.drop k))), some (fr (mid (p.drop k))), some (.int ((mid (p.drop k)).num * wt (p.drop k) * x.den + W * x.num * (mid (p.drop k)).den)), some (fr (wmid p k W x)), o10, g, ?_⟩
  unfold bWd
  refine (sSeq_at (sAsg_at (call2 (eVar_at rfl) (eVar_at rfl) en) rfl)).trans ?_
  refine (sSeq_at (sSet_at es)).trans ?_
  refine (sSeq_at (sSet_at (call1E (sl_drop (st ++ g) rfl rfl) md))).trans ?_
  refine (sSeq_at (sSet_at ((eOp2_at ((eOp2_at ((eOp2_at ((eOp2_at (eVar_at rfl) eC_at).trans m0) (eVar_at rfl)).trans (dMul_int c1 _)) ((eOp2_at (eVar_at rfl) eC_at).trans x1)).trans (dMul_int c2 _)) ((eOp2_at ((eOp2_at (eVar_at rfl) ((eOp2_at (eVar_at rfl) eC_at).trans x0)).trans (dMul_int c3 _)) ((eOp2_at (eVar_at rfl) eC_at).trans m1)).trans (dMul_int c4 _))).trans (dAdd_int _)))).trans ?_
  refine (sSeq_at (sSet_at (call2 (eVar_at rfl) ((eOp2_at ((eOp2_at ((eOp2_at (eVar_at rfl) eC_at).trans m1) ((eOp2_at (eVar_at rfl) eC_at).trans x1)).trans (dMul_int c5 _)) ((eOp2_at (eVar_at rfl) (eVar_at rfl)).trans (dAdd_int _))).trans (dMul_int c6 _)) low))).trans ?_
  generalize ((mid (p.drop k)).num * wt (p.drop k) * x.den + W * x.num * (mid (p.drop k)).den) = T at *
  show sIf _ _ _ [some (dPile p), some (.int W), some (fr x), some (.int (k : Int)), some (fr (jl p k)), some (fr (jh p k)), some (.int (wt (p.drop k))), some (fr (mid (p.drop k))), some (.int T), some (fr (wmid p k W x)), o10] (st ++ g) = _
  have t1 := lsw_at (ρ := [some (dPile p), some (.int W), some (fr x), some (.int (k : Int)), some (fr (jl p k)), some (fr (jh p k)), some (.int (wt (p.drop k))), some (fr (mid (p.drop k))), some (.int T), some (fr (wmid p k W x)), o10]) (st := st ++ g) (E := eVar 9) (G := eVar 4) (eVar_at rfl) (eVar_at rfl) sw sl
  have t2 := lsw_at (ρ := [some (dPile p), some (.int W), some (fr x), some (.int (k : Int)), some (fr (jl p k)), some (fr (jh p k)), some (.int (wt (p.drop k))), some (fr (mid (p.drop k))), some (.int T), some (fr (wmid p k W x)), o10]) (st := st ++ g) (E := eVar 5) (G := eVar 9) (eVar_at rfl) (eVar_at rfl) sh sw
  by_cases g1 : wmid p k W x < jl p k
  · rw [if_neg (fun w : WJ p W x k => by have := w.1; grind), sIf_at (k := true) (by rw [tOrD_at t1, decide_eq_true g1]; rfl)]
    rfl
  · rw [decide_eq_false g1] at t1
    by_cases g2 : jh p k < wmid p k W x
    · rw [if_neg (fun w : WJ p W x k => by have := w.2; grind), sIf_at (k := true) (by rw [tOrD_at t1, if_neg (by decide), t2, decide_eq_true g2])]
      rfl
    · rw [if_pos (show WJ p W x k from ⟨by grind, by grind⟩), sIf_at (k := false) (by rw [tOrD_at t1, if_neg (by decide), t2, decide_eq_false g2])]
      rfl
end Dl
end
set_option linter.all false
set_option autoImplicit false
set_option maxRecDepth 100000
/-! M22: the law's look, whole -/
noncomputable section
namespace Dl
open PySem PySem.Spec PyProof.Rows L2
theorem sSeq_congr {S S' T : Sx} {ρ : Env1} {st : Store} (h : S ρ st = S' ρ st) : sSeq S T ρ st = sSeq S' T ρ st := by simp only [sSeq, Dl.M.bnd, h]
open Classical in
theorem wd_eq {p : Pile} {N M : Nat} (h : Base p N M) {W : Int} (hW : 0 < W) (bW : Bt 4001 W) {x : Rat} (sx : Sz x) (st : Store) : F_wd [dPile p, .int W, fr x] st = some (.bl (decide (WOk p W x)), st) := by
  have key : ∀ (m k : Nat), k + m = p.length → (∀ j, j < k → WJ p W x j) → ∀ (o3 o4 o5 o6 o7 o8 o9 o10 : Option D) (g : Store), ∃ g', sSeq (fun ρ st => forL ⟨rgs 0 p.length, none⟩ (xName 3) bWd (rgs k m) ρ st) (sRet (eC (.bl true))) [some (dPile p), some (.int W), some (fr x), o3, o4, o5, o6, o7, o8, o9, o10] (st ++ g) = some (.rt (.bl (decide (WOk p W x))), st ++ g') := by
    intro m
    induction m with
    | zero =>
      intro k e hd o3 o4 o5 o6 o7 o8 o9 o10 g
      refine ⟨g, (sSeq_at (forL_nil Src.ok_none)).trans ?_⟩
      rw [decide_eq_true (show WOk p W x from fun j hj => hd j (by omega))]
      rfl
    | succ m ih =>
      intro k e hd o3 o4 o5 o6 o7 o8 o9 o10 g
      obtain ⟨z4, z5, z6, z7, z8, z9, z10, g2, e1⟩ := wd_turn h (show k < p.length by omega) hW bW sx o4 o5 o6 o7 o8 o9 o10 (st ++ g)
      by_cases hw : WJ p W x k
      · rw [if_pos hw] at e1
        obtain ⟨g', e2⟩ := ih (k + 1) (by omega) (fun j hj => by
          rcases Nat.lt_or_ge j k with hjk | hjk
          · exact hd j hjk
          · have : j = k := by omega
            subst this
            exact hw) (some (.int (k : Int))) z4 z5 z6 z7 z8 z9 z10 (g ++ g2)
        refine ⟨g', Eq.trans ?_ e2⟩
        have e3 : forL ⟨rgs 0 p.length, none⟩ (xName 3) bWd (rgs k (m + 1)) [some (dPile p), some (.int W), some (fr x), o3, o4, o5, o6, o7, o8, o9, o10] (st ++ g) = forL ⟨rgs 0 p.length, none⟩ (xName 3) bWd (rgs (k + 1) m) [some (dPile p), some (.int W), some (fr x), some (.int (k : Int)), z4, z5, z6, z7, z8, z9, z10] (st ++ (g ++ g2)) := by
          rw [← List.append_assoc]
          exact forL_nx Src.ok_none rfl e1
        simp only [sSeq, Dl.M.bnd, e3]
      · rw [if_neg hw] at e1
        have e3 : forL ⟨rgs 0 p.length, none⟩ (xName 3) bWd (rgs k (m + 1)) [some (dPile p), some (.int W), some (fr x), o3, o4, o5, o6, o7, o8, o9, o10] (st ++ g) = some (.rt (.bl false), st ++ (g ++ g2)) := by
          rw [← List.append_assoc]
          exact forL_rt Src.ok_none rfl e1
        refine ⟨g ++ g2, (sSeq_rt e3).trans ?_⟩
        rw [decide_eq_false (fun w : WOk p W x => hw (w k (by omega)))]
  have hl := h.ok.len
  obtain ⟨g', e⟩ := key p.length 0 (by omega) (fun j hj => by omega) none none none none none none none none []
  rw [List.append_nil] at e
  refine gcF_eq (g := g') (defX_rt (env := [some (dPile p), some (.int W), some (fr x), none, none, none, none, none, none, none, none]) rfl ?_) rfl
  unfold b_wd
  have er := rng_at (bLen_pile (j := 0) (ρ := [some (dPile p), some (.int W), some (fr x), none, none, none, none, none, none, none, none]) (p := p) st rfl) (by omega)
  exact (sSeq_congr (sFor_at er)).trans e
end Dl
end
set_option linter.all false
set_option autoImplicit false
set_option maxRecDepth 100000
/-! M23: places_for, bears -/
noncomputable section
namespace Dl
open PySem PySem.Spec PyProof.Rows L2
theorem tm1_eq {p : Rat} {t : Int} (st : Store) (hp : Sz p) (ht : Bt 4000 t) : F_tm [fr p, .int t, .int 1] st = some (fr (p * (t : Rat)), st) := by
  rw [tm_eq st hp ht bt_one (by decide), div_one]
theorem tmd_eq {p : Rat} {b : Int} (st : Store) (hp : Sz p) (hb : Bt 4000 b) (b0 : 0 < b) : F_tm [fr p, .int 1, .int b] st = some (fr (p / (b : Rat)), st) := by
  rw [tm_eq st hp bt_one hb b0, show ((1 : Int) : Rat) = 1 from rfl, Rat.mul_one]
theorem Tg.lw {p : Pile} {N M : Nat} (h : Base p N M) {k : Nat} (hk : k < p.length) {W : Int} (W0 : 0 < W) (W1 : W < 2 ^ 40) {e : Rat} (he : Tg N 1 e) :
    Tg N 42 (e * ((wt (p.drop k) + W : Int) : Rat)) ∧ Tg N 37 (mid (p.drop k) * (wt (p.drop k) : Rat)) ∧ Tg N 80 (e * ((wt (p.drop k) + W : Int) : Rat) - mid (p.drop k) * (wt (p.drop k) : Rat)) ∧ Tg N 120 (Dl.lw p W k e) := by
  have w := h.wt_drop hk
  have e1 : (2 : Int) ^ 17 = 131072 := by decide
  have e2 : (2 : Int) ^ 40 = 1099511627776 := by decide
  have e3 : (2 : Int) ^ 41 = 2199023255552 := by decide
  have t1 := he.mulI (b := 41) (k := wt (p.drop k) + W) (by omega) (by omega)
  have t2 := (h.mid_tg hk).mulI (b := 17) (Int.le_of_lt w.1) w.2
  have t3 := t1.sub t2
  exact ⟨t1, t2, t3.mono (by decide), (t3.divI W0 W1).mono (by decide)⟩
def lws (p : Pile) (W : Int) : List Rat := (List.range' 0 p.length).map fun k => lw p W k (jl p k)
def hws (p : Pile) (W : Int) : List Rat := (List.range' 0 p.length).map fun k => lw p W k (jh p k)
def bPf : Sx := (sSeq (sAsg (eCB (mCall 2 F_en) (aCons (eVar 0) (aCons (eVar 4) aNil))) (xTup 2 (xCons (xName 5) (xCons (xName 6) xNil))))
  (sSeq (sAsg (eCB (mCall 1 F_hv) (aCons (eSl (eVar 0) (oSome (eVar 4)) oNone) aNil)) (xName 7))
  (sSeq (sAsg (eCB (mCall 3 F_tm) (aCons (eCB (mCall 1 F_md) (aCons (eSl (eVar 0) (oSome (eVar 4)) oNone) aNil)) (aCons (eVar 7) (aCons (eC (.int 1)) aNil)))) (xName 8))
  (sSeq (sDrop (eBM dApp (eVar 2) (aCons (eCB (mCall 3 F_tm) (aCons (eCB (mCall 2 F_le) (aCons (eCB (mCall 3 F_tm) (aCons (eVar 5) (aCons (eOp2 dAdd (eVar 7) (eVar 1)) (aCons (eC (.int 1)) aNil)))) (aCons (eVar 8) aNil))) (aCons (eC (.int 1)) (aCons (eVar 1) aNil)))) aNil)))
  (sDrop (eBM dApp (eVar 3) (aCons (eCB (mCall 3 F_tm) (aCons (eCB (mCall 2 F_le) (aCons (eCB (mCall 3 F_tm) (aCons (eVar 6) (aCons (eOp2 dAdd (eVar 7) (eVar 1)) (aCons (eC (.int 1)) aNil)))) (aCons (eVar 8) aNil))) (aCons (eC (.int 1)) (aCons (eVar 1) aNil)))) aNil)))))))
def b_pf : Sx := (sSeq (sPar 2 3 (aCons (eLst (aCons (eOp2 dIx (eOp2 dIx (eVar 0) (eOp1 dNeg (eC (.int 1)))) (eC (.int 3))) aNil)) (aCons (eLst (aCons (eCB (mCall 1 F_rg) (aCons (eOp2 dIx (eVar 0) (eOp1 dNeg (eC (.int 1)))) aNil)) aNil)) aNil)))
  (sSeq (sFor (iR1 (aCons (eCB bLen (aCons (eVar 0) aNil)) aNil)) (xName 4) bPf)
  (sSeq (sAsg (eTup (aCons (eCB (mCall 1 F_gr) (aCons (eVar 2) aNil)) (aCons (eCB (mCall 1 F_lr) (aCons (eVar 3) aNil)) aNil))) (xName 9))
  (sRet (eIf (tV (eCB (mCall 2 F_ls) (aCons (eOp2 dIx (eVar 9) (eC (.int 1))) (aCons (eOp2 dIx (eVar 9) (eC (.int 0))) aNil)))) (eC .non) (eVar 9))))))
def F_pf : List D → M D := gcF (defX 10 b_pf)
theorem pf_turn {p : Pile} {N M : Nat} (h : Base p N M) {k : Nat} (hk : k < p.length) {W : Int} (W0 : 0 < W) (W1 : W < 2 ^ 40) (o5 o6 o7 o8 o9 : Option D) (st : Store) (L : Nat) (xs ys : List D) (hx : st[L]? = some (.lst xs)) (hy : st[L + 1]? = some (.lst ys)) (lx : xs.length < 100) (ly : ys.length < 100) :
    ∃ z5 z6 z7 z8, bPf [some (dPile p), some (.int W), some (.ref L), some (.ref (L + 1)), some (.int (k : Int)), o5, o6, o7, o8, o9] st =
      some (.nx [some (dPile p), some (.int W), some (.ref L), some (.ref (L + 1)), some (.int (k : Int)), z5, z6, z7, z8, o9], (st.set L (.lst (xs ++ [fr (lw p W k (jl p k))]))).set (L + 1) (.lst (ys ++ [fr (lw p W k (jh p k))]))) := by
  obtain ⟨r, hr⟩ : ∃ r, p[k]? = some r := ⟨_, List.getElem?_eq_getElem hk⟩
  have e1 : jl p k = lowR (below p k) r := by unfold jl; rw [hr]
  have e2 : jh p k = highR (below p k) r := by unfold jh; rw [hr]
  have t1 := h.ends_tg hk
  have sl := t1.1.sz h.n (by decide)
  have sh := t1.2.sz h.n (by decide)
  have sm := (h.mid_tg hk).sz h.n (by decide)
  have w1 := h.wt_drop hk
  obtain ⟨a1, a2, a3, a4⟩ := Tg.lw h hk W0 W1 t1.1
  obtain ⟨c1, _, c3, c4⟩ := Tg.lw h hk W0 W1 t1.2
  have en := en_eq h.ok hr st
  have md := md_good (p.drop k) st (h.good.drop k) (drop_ne hk)
  have hv1 := hv_eq (d := dPile (p.drop k)) (p := p.drop k) st (.inl rfl) (by rw [List.length_drop]; have := h.ok.len; omega)
  rw [← e1, ← e2] at en
  have x1 : (2 : Int) ^ 17 = 131072 := by decide
  have x2 : (2 : Int) ^ 40 = 1099511627776 := by decide
  have x3 : (2 : Nat) ^ 41 = 2199023255552 := by decide
  have bw : Bt 4000 (wt (p.drop k)) := Bt.mono (m := 41) (show (wt (p.drop k)).natAbs < 2 ^ 41 by omega) (by decide)
  have bW : Bt 4000 W := Bt.mono (m := 41) (show W.natAbs < 2 ^ 41 by omega) (by decide)
  have bs : Bt 4000 (wt (p.drop k) + W) := Bt.mono (m := 41) (show (wt (p.drop k) + W).natAbs < 2 ^ 41 by omega) (by decide)
  have own := tm1_eq (p := mid (p.drop k)) (t := wt (p.drop k)) st sm bw
  refine ⟨some (fr (jl p k)), some (fr (jh p k)), some (.int (wt (p.drop k))), some (fr (mid (p.drop k) * (wt (p.drop k) : Rat))), ?_⟩
  unfold bPf
  refine (sSeq_at (sAsg_at (call2 (eVar_at rfl) (eVar_at rfl) en) rfl)).trans ?_
  refine (sSeq_at (sSet_at (call1E (sl_drop st rfl rfl) hv1))).trans ?_
  refine (sSeq_at (sSet_at (call3 (call1E (sl_drop st rfl rfl) md) (eVar_at rfl) eC_at own))).trans ?_
  have so := a2.sz h.n (by decide)
  have q1 := tm1_eq (p := jl p k) (t := wt (p.drop k) + W) st sl bs
  have q2 := le_eq st (a1.sz h.n (by decide)) so
  have q3 := tmd_eq (b := W) st (a3.sz h.n (by decide)) bW W0
  refine (sSeq_at (sDrop_at (app_at (eVar_at rfl) hx (aCons_at (call3 (call2 (call3 (eVar_at rfl) ((eOp2_at (eVar_at rfl) (eVar_at rfl)).trans (dAdd_int _)) eC_at q1) (eVar_at rfl) q2) eC_at (eVar_at rfl) q3) aNil_at) hx (Nat.lt_trans lx (by decide))))).trans ?_
  generalize hS : st.set L (.lst (xs ++ [fr (lw p W k (jl p k))])) = s1
  have hS' : st.set L (.lst (xs ++ [fr ((jl p k * ((wt (p.drop k) + W : Int) : Rat) - mid (p.drop k) * (wt (p.drop k) : Rat)) / (W : Rat))])) = s1 := hS
  rw [hS']
  have hy2 : s1[L + 1]? = some (.lst ys) := by
    rw [← hS, List.getElem?_set_ne (by omega)]; exact hy
  have q4 := tm1_eq (p := jh p k) (t := wt (p.drop k) + W) s1 sh bs
  have q5 := le_eq s1 (c1.sz h.n (by decide)) so
  have q6 := tmd_eq (b := W) s1 (c3.sz h.n (by decide)) bW W0
  exact sDrop_at (app_at (eVar_at rfl) hy2 (aCons_at (call3 (call2 (call3 (eVar_at rfl) ((eOp2_at (eVar_at rfl) (eVar_at rfl)).trans (dAdd_int _)) eC_at q4) (eVar_at rfl) q5) eC_at (eVar_at rfl) q6) aNil_at) hy2 (Nat.lt_trans ly (by decide)))
theorem pf_loop {p : Pile} {N M : Nat} (h : Base p N M) {W : Int} (W0 : 0 < W) (W1 : W < 2 ^ 40) (o9 : Option D) (st : Store) (l0 h0 : Rat) : ∀ (m k : Nat), k + m = p.length → ∀ (o4 o5 o6 o7 o8 : Option D), ∃ z4 z5 z6 z7 z8,
    forL ⟨rgs 0 p.length, none⟩ (xName 4) bPf (rgs k m) [some (dPile p), some (.int W), some (.ref st.length), some (.ref (st.length + 1)), o4, o5, o6, o7, o8, o9] (st ++ [MO.lst (frs (l0 :: (List.range' 0 k).map fun j => lw p W j (jl p j))), MO.lst (frs (h0 :: (List.range' 0 k).map fun j => lw p W j (jh p j)))]) =
      some (.nx [some (dPile p), some (.int W), some (.ref st.length), some (.ref (st.length + 1)), z4, z5, z6, z7, z8, o9], st ++ [MO.lst (frs (l0 :: lws p W)), MO.lst (frs (h0 :: hws p W))])
  | 0, k, e, o4, o5, o6, o7, o8 => by
    have : k = p.length := by omega
    subst this
    exact ⟨o4, o5, o6, o7, o8, forL_nil Src.ok_none⟩
  | m + 1, k, e, o4, o5, o6, o7, o8 => by
    have hl := h.ok.len
    obtain ⟨q5, q6, q7, q8, e1⟩ := pf_turn h (show k < p.length by omega) W0 W1 o5 o6 o7 o8 o9 (st ++ [MO.lst (frs (l0 :: (List.range' 0 k).map fun j => lw p W j (jl p j))), MO.lst (frs (h0 :: (List.range' 0 k).map fun j => lw p W j (jh p j)))]) st.length _ _ get_app (get_off st _ 1) (by simp [frs]; omega) (by simp [frs]; omega)
    obtain ⟨z4, z5, z6, z7, z8, e2⟩ := pf_loop h W0 W1 o9 st l0 h0 m (k + 1) (by omega) (some (.int (k : Int))) q5 q6 q7 q8
    refine ⟨z4, z5, z6, z7, z8, (forL_nx Src.ok_none rfl (e1.trans ?_)).trans e2⟩
    rw [set_app, set_off st _ 1]
    have g : ∀ (x : Rat) (f : Nat → Rat), frs (x :: (List.range' 0 (k + 1)).map f) = frs (x :: (List.range' 0 k).map f) ++ [fr (f k)] := fun x f => by
      rw [List.range'_1_concat, List.map_append, Nat.zero_add]
      unfold frs
      rw [← List.cons_append, List.map_append]; rfl
    rw [g l0 fun j => lw p W j (jl p j), g h0 fun j => lw p W j (jh p j)]
    rfl
theorem last_ix {pre : Pile} {z : Row} {E : Ev} {ρ : Env1} {st : Store} (hE : E ρ st = some (dPile (pre ++ [z]), st)) : eOp2 dIx E (eOp1 dNeg (eC (.int 1))) ρ st = some (dRow z, st) := by
  rw [eOp2_at hE (eNeg_at eC_at)]
  show (atI (dRows (pre ++ [z])) (-1)).map (fun d => (d, st)) = _
  have e : dRows (pre ++ [z]) = dRows pre ++ [dRow z] := by unfold dRows; rw [List.map_append]; rfl
  rw [e, atI_m1]; rfl
def lowW (p : Pile) (W : Int) (z : Row) : Rat := maxR z.at_ (lws p W)
def highW (p : Pile) (W : Int) (z : Row) : Rat := minR z.rgt (hws p W)
theorem Base.lws_tg {p : Pile} {N M : Nat} (h : Base p N M) {W : Int} (W0 : 0 < W) (W1 : W < 2 ^ 40) : (∀ x ∈ lws p W, Tg N 120 x) ∧ ∀ x ∈ hws p W, Tg N 120 x := by
  constructor
  · intro x hx
    obtain ⟨k, hk, rfl⟩ := List.mem_map.mp hx
    rw [List.mem_range'_1] at hk
    exact (Tg.lw h (by omega) W0 W1 (h.ends_tg (by omega)).1).2.2.2
  · intro x hx
    obtain ⟨k, hk, rfl⟩ := List.mem_map.mp hx
    rw [List.mem_range'_1] at hk
    exact (Tg.lw h (by omega) W0 W1 (h.ends_tg (by omega)).2).2.2.2
theorem Base.lowW_tg {p : Pile} {N M : Nat} (h : Base p N M) {W : Int} (W0 : 0 < W) (W1 : W < 2 ^ 40) {z : Row} (hz : z ∈ p) : Tg N 120 (lowW p W z) ∧ Tg N 120 (highW p W z) := by
  obtain ⟨l, u⟩ := h.lws_tg W0 W1
  constructor
  · rcases List.mem_cons.mp (max_mem z.at_ (lws p W)) with e | e
    · unfold lowW; rw [e]; exact (h.at_tg hz).mono (by decide)
    · exact l _ e
  · rcases List.mem_cons.mp (min_mem z.rgt (hws p W)) with e | e
    · unfold highW; rw [e]; exact (h.rgt_tg hz).mono (by decide)
    · exact u _ e
theorem pf_eq {pre : Pile} {z : Row} {N M : Nat} (h : Base (pre ++ [z]) N M) {W : Int} (W0 : 0 < W) (W1 : W < 2 ^ 40) (st : Store) :
    F_pf [dPile (pre ++ [z]), .int W] st = some (if highW (pre ++ [z]) W z < lowW (pre ++ [z]) W z then .non else .tup [fr (lowW (pre ++ [z]) W z), fr (highW (pre ++ [z]) W z)], st) := by
  have hz : z ∈ pre ++ [z] := by simp
  have ta := h.at_tg hz
  have tr := h.rgt_tg hz
  obtain ⟨tl, tu⟩ := h.lowW_tg W0 W1 hz
  obtain ⟨ll, lu⟩ := h.lws_tg W0 W1
  have hl := h.ok.len
  have rg : ∀ s : Store, F_rg [dRow z] s = some (fr z.rgt, s) := fun s => rg_eq s (ta.sz h.n (by decide)) (h.ok.rows z hz).btl
  generalize hp : pre ++ [z] = p at *
  obtain ⟨z4, z5, z6, z7, z8, el⟩ := pf_loop h W0 W1 none st z.at_ z.rgt p.length 0 (by omega) none none none none none
  have g1 := gr_eq (q := z.at_) (qs := lws p W) (d := .ref st.length) (st ++ [MO.lst (frs (z.at_ :: lws p W)), MO.lst (frs (z.rgt :: hws p W))]) (.inr ⟨_, rfl, get_app⟩) (fun x hx => by
    rcases List.mem_cons.mp hx with rfl | hx
    · exact ta.sz h.n (by decide)
    · exact (ll x hx).sz h.n (by decide))
  have g2 := lr_eq (q := z.rgt) (qs := hws p W) (d := .ref (st.length + 1)) (st ++ [MO.lst (frs (z.at_ :: lws p W)), MO.lst (frs (z.rgt :: hws p W))]) (.inr ⟨_, rfl, get_off st _ 1⟩) (fun x hx => by
    rcases List.mem_cons.mp hx with rfl | hx
    · exact tr.sz h.n (by decide)
    · exact (lu x hx).sz h.n (by decide))
  refine gcF_eq (g := [MO.lst (frs (z.at_ :: lws p W)), MO.lst (frs (z.rgt :: hws p W))]) (defX_rt (env := [some (dPile p), some (.int W), none, none, none, none, none, none, none, none]) rfl ?_) (by split <;> rfl)
  unfold b_pf
  have v0 : ∀ s : Store, eVar 0 [some (dPile p), some (.int W), none, none, none, none, none, none, none, none] s = some (dPile (pre ++ [z]), s) := fun s => by rw [hp]; exact eVar_at rfl
  have l1 : eLst (aCons (eOp2 dIx (eOp2 dIx (eVar 0) (eOp1 dNeg (eC (.int 1)))) (eC (.int 3))) aNil) [some (dPile p), some (.int W), none, none, none, none, none, none, none, none] st = some (.ref st.length, st ++ [.lst [fr z.at_]]) :=
    eLst_at (aCons_at ((eOp2_at (last_ix (v0 st)) eC_at).trans (rngD_ix st)) aNil_at) (one_list _)
  have l2 : eLst (aCons (eCB (mCall 1 F_rg) (aCons (eOp2 dIx (eVar 0) (eOp1 dNeg (eC (.int 1)))) aNil)) aNil) [some (dPile p), some (.int W), none, none, none, none, none, none, none, none] (st ++ [.lst [fr z.at_]]) = some (.ref (st.length + 1), st ++ [.lst [fr z.at_], .lst [fr z.rgt]]) := by
    rw [eLst_at (aCons_at (call1E (last_ix (v0 _)) (rg _)) aNil_at) (one_list _), List.length_append, List.append_assoc]; rfl
  refine (sSeq_at (sPar_at (aCons_at l1 (aCons_at l2 aNil_at)))).trans ?_
  refine (sSeq_at ((sFor_at (rng_at (bLen_pile (p := p) _ rfl) (by omega))).trans el)).trans ?_
  refine (sSeq_at (sSet_at (eTup_at (aCons_at (call1 rfl g1) (aCons_at (call1 rfl g2) aNil_at)) two_le))).trans ?_
  refine sRet_at ?_
  generalize st ++ [MO.lst (frs (z.at_ :: lws p W)), MO.lst (frs (z.rgt :: hws p W))] = s2
  have x0 : ∀ (u v : Rat) (s : Store), dIx (.tup [fr u, fr v]) (.int 0) s = some (fr u, s) := fun _ _ _ => rfl
  have x1 : ∀ (u v : Rat) (s : Store), dIx (.tup [fr u, fr v]) (.int 1) s = some (fr v, s) := fun _ _ _ => rfl
  rw [eIf_at (ls_at (x := highW p W z) (y := lowW p W z) ((eOp2_at (eVar_at rfl) eC_at).trans (x1 _ _ _)) ((eOp2_at (eVar_at rfl) eC_at).trans (x0 _ _ _)) (tu.sz h.n (by decide)) (tl.sz h.n (by decide)))]
  by_cases hlt : highW p W z < lowW p W z
  · rw [decide_eq_true hlt, if_pos rfl, if_pos hlt]; rfl
  · rw [decide_eq_false hlt, if_neg (by decide), if_neg hlt]; rfl
end Dl
end
set_option linter.all false
set_option autoImplicit false
set_option maxRecDepth 100000
/-! M24: bears -/
noncomputable section
namespace Dl
open PySem PySem.Spec PyProof.Rows L2
/-- the greatest whole weight by a room and an arm -/
def flo (room arm : Rat) : Int := (room.num * arm.den) / (room.den * arm.num)
theorem num_pos {a : Rat} (h : 0 < a) : 0 < a.num := by
  rw [Rat.lt_iff] at h
  simpa using h
theorem mul_den (q : Rat) : q * ((q.den : Int) : Rat) = (q.num : Rat) := by
  have h1 := Rat.num_divInt_den q
  rw [Rat.divInt_eq_div] at h1
  have h2 := Rat.div_mul_cancel (a := (q.num : Rat)) (natCast_ne (den_pos q))
  rw [h1] at h2
  exact h2
theorem flo_iff {room arm : Rat} (ha : 0 < arm) (W : Int) : W ≤ flo room arm ↔ (W : Rat) * arm ≤ room := by
  have a0 := num_pos ha
  have d0 := den_pos room
  have d1 := den_pos arm
  unfold flo
  rw [Int.le_ediv_iff_mul_le (Int.mul_pos d0 a0)]
  have hr := mul_den room
  have har := mul_den arm
  have p1 := natCast_pos' d0
  have p2 := natCast_pos' d1
  have p3 : (0 : Rat) < ((room.den : Int) : Rat) * ((arm.den : Int) : Rat) := Rat.mul_pos p1 p2
  rw [← Rat.intCast_le_intCast]
  simp only [Rat.intCast_mul]
  rw [← hr, ← har]
  generalize ((room.den : Int) : Rat) = rd at *
  generalize ((arm.den : Int) : Rat) = ad at *
  have e1 : (W : Rat) * (rd * (arm * ad)) = (W : Rat) * arm * (rd * ad) := by grind
  have e2 : room * rd * ad = room * (rd * ad) := by grind
  rw [e1, e2]
  constructor
  · intro h; exact Rat.le_of_mul_le_mul_right h p3
  · intro h; exact Rat.mul_le_mul_of_nonneg_right h (Rat.le_of_lt p3)
/-- what a joint lets a weight at x be -/
def bd (p : Pile) (x : Rat) (k : Nat) : Option Int :=
  if jh p k < x then some (flo ((jh p k - mid (p.drop k)) * (wt (p.drop k) : Rat)) (x - jh p k))
  else if x < jl p k then some (flo ((mid (p.drop k) - jl p k) * (wt (p.drop k) : Rat)) (jl p k - x))
  else none
def bds (p : Pile) (x : Rat) (n : Nat) : List Int := (List.range' 0 n).filterMap (bd p x)
theorem wj_iff {p : Pile} (hv : Hv p) (hj : joints p = []) {k : Nat} (hk : k < p.length) {W : Int} (hW : 0 < W) (x : Rat) : WJ p W x k ↔ ∀ B, bd p x k = some B → W ≤ B := by
  obtain ⟨j1, j2⟩ := jok_l hj hk
  have hw := (hv.drop k).pos (drop_ne hk)
  have c1 := natCast_pos' (show 0 < wt (p.drop k) + W by omega)
  have c2 := natCast_pos' hW
  have c3 := natCast_pos' hw
  unfold WJ wmid
  rw [le_div c1, div_le c1, Rat.intCast_add]
  unfold bd
  generalize mid (p.drop k) = m at *
  generalize jl p k = lo at *
  generalize jh p k = hi at *
  by_cases g1 : hi < x
  · rw [if_pos g1]
    have f := flo_iff (room := (hi - m) * (wt (p.drop k) : Rat)) (arm := x - hi) (by grind) W
    generalize (wt (p.drop k) : Rat) = a at *
    generalize (W : Rat) = w at *
    have a1 : lo * a ≤ m * a := Rat.mul_le_mul_of_nonneg_right j1 (Rat.le_of_lt c3)
    have a2 : w * lo ≤ w * x := Rat.mul_le_mul_of_nonneg_left (by grind) (Rat.le_of_lt c2)
    constructor
    · rintro ⟨h1, h2⟩ B e
      cases e
      rw [f]; grind
    · intro h
      have := f.mp (h _ rfl)
      constructor <;> grind
  · rw [if_neg g1]
    by_cases g2 : x < lo
    · rw [if_pos g2]
      have f := flo_iff (room := (m - lo) * (wt (p.drop k) : Rat)) (arm := lo - x) (by grind) W
      generalize (wt (p.drop k) : Rat) = a at *
      generalize (W : Rat) = w at *
      have a1 : m * a ≤ hi * a := Rat.mul_le_mul_of_nonneg_right j2 (Rat.le_of_lt c3)
      have a2 : w * x ≤ w * hi := Rat.mul_le_mul_of_nonneg_left (by grind) (Rat.le_of_lt c2)
      constructor
      · rintro ⟨h1, h2⟩ B e
        cases e
        rw [f]; grind
      · intro h
        have := f.mp (h _ rfl)
        constructor <;> grind
    · rw [if_neg g2]
      generalize (wt (p.drop k) : Rat) = a at *
      generalize (W : Rat) = w at *
      have a1 : lo * a ≤ m * a := Rat.mul_le_mul_of_nonneg_right j1 (Rat.le_of_lt c3)
      have a2 : w * lo ≤ w * x := Rat.mul_le_mul_of_nonneg_left (by grind) (Rat.le_of_lt c2)
      have a3 : m * a ≤ hi * a := Rat.mul_le_mul_of_nonneg_right j2 (Rat.le_of_lt c3)
      have a4 : w * x ≤ w * hi := Rat.mul_le_mul_of_nonneg_left (by grind) (Rat.le_of_lt c2)
      constructor
      · rintro _ B e
        cases e
      · intro _
        constructor <;> grind
theorem wok_bds {p : Pile} (hv : Hv p) (hj : joints p = []) {W : Int} (hW : 0 < W) (x : Rat) : WOk p W x ↔ ∀ B ∈ bds p x p.length, W ≤ B := by
  constructor
  · intro h B hB
    obtain ⟨k, hk, e⟩ := List.mem_filterMap.mp hB
    rw [List.mem_range'_1] at hk
    exact (wj_iff hv hj (show k < p.length by omega) hW x).mp (h k (by omega)) B e
  · intro h k hk
    exact (wj_iff hv hj hk hW x).mpr fun B e => h B (List.mem_filterMap.mpr ⟨k, by rw [List.mem_range'_1]; omega, e⟩)
theorem bd_nonneg {p : Pile} (hv : Hv p) (hj : joints p = []) {k : Nat} (hk : k < p.length) {x : Rat} {B : Int} (h : bd p x k = some B) : 0 ≤ B := by
  obtain ⟨j1, j2⟩ := jok_l hj hk
  have hw := natCast_pos' ((hv.drop k).pos (drop_ne hk))
  unfold bd at h
  split at h
  · rename_i g
    cases h
    rw [flo_iff (by grind), show ((0 : Int) : Rat) = 0 from rfl, Rat.zero_mul]
    exact Rat.mul_nonneg (by grind) (Rat.le_of_lt hw)
  · split at h
    · rename_i g
      cases h
      rw [flo_iff (by grind), show ((0 : Int) : Rat) = 0 from rfl, Rat.zero_mul]
      exact Rat.mul_nonneg (by grind) (Rat.le_of_lt hw)
    · cases h
/-- the least bound -/
def tellW (p : Pile) (x : Rat) : Option Int := match bds p x p.length with
  | [] => none
  | n :: r => some (minL (n :: r))
theorem tell_iff {p : Pile} (hv : Hv p) (hj : joints p = []) {x : Rat} {W : Int} (hW : 0 < W) : WOk p W x ↔ ∀ B, tellW p x = some B → W ≤ B := by
  rw [wok_bds hv hj hW]
  unfold tellW
  cases h : bds p x p.length with
  | nil => simp
  | cons n r =>
    constructor
    · rintro g B e
      cases e
      exact g _ (minL_mem (by simp))
    · intro g B hB
      have := g _ rfl
      have := minL_le hB
      omega
theorem tell_mem {p : Pile} {x : Rat} {B : Int} (h : tellW p x = some B) : ∃ k, k < p.length ∧ bd p x k = some B := by
  unfold tellW at h
  cases g : bds p x p.length with
  | nil => rw [g] at h; cases h
  | cons n r =>
    rw [g] at h
    cases h
    have hm := minL_mem (ns := n :: r) (by simp)
    rw [← g] at hm
    obtain ⟨k, hk, e⟩ := List.mem_filterMap.mp hm
    rw [List.mem_range'_1] at hk
    exact ⟨k, by omega, g ▸ e⟩
/-! ### the program's -/
def bDv : Ev := (eOp2 dDiv (eOp2 dMul (eOp2 dIx (eVar 8) (eC (.int 0))) (eOp2 dIx (eVar 9) (eC (.int 1)))) (eOp2 dMul (eOp2 dIx (eVar 8) (eC (.int 1))) (eOp2 dIx (eVar 9) (eC (.int 0)))))
def bBr : Sx := (sSeq (sAsg (eCB (mCall 2 F_en) (aCons (eVar 0) (aCons (eVar 3) aNil))) (xTup 2 (xCons (xName 4) (xCons (xName 5) xNil))))
  (sSeq (sPar 6 7 (aCons (eCB (mCall 1 F_hv) (aCons (eSl (eVar 0) (oSome (eVar 3)) oNone) aNil)) (aCons (eCB (mCall 1 F_md) (aCons (eSl (eVar 0) (oSome (eVar 3)) oNone) aNil)) aNil)))
  (sIf (tV (eCB (mCall 2 F_ls) (aCons (eVar 5) (aCons (eVar 1) aNil)))) (sSeq (sPar 8 9 (aCons (eCB (mCall 3 F_tm) (aCons (eCB (mCall 2 F_le) (aCons (eVar 5) (aCons (eVar 7) aNil))) (aCons (eVar 6) (aCons (eC (.int 1)) aNil)))) (aCons (eCB (mCall 2 F_le) (aCons (eVar 1) (aCons (eVar 5) aNil))) aNil)))
  (sDrop (eBM dApp (eVar 2) (aCons bDv aNil)))) (sIf (tV (eCB (mCall 2 F_ls) (aCons (eVar 1) (aCons (eVar 4) aNil)))) (sSeq (sPar 8 9 (aCons (eCB (mCall 3 F_tm) (aCons (eCB (mCall 2 F_le) (aCons (eVar 7) (aCons (eVar 4) aNil))) (aCons (eVar 6) (aCons (eC (.int 1)) aNil)))) (aCons (eCB (mCall 2 F_le) (aCons (eVar 4) (aCons (eVar 1) aNil))) aNil)))
  (sDrop (eBM dApp (eVar 2) (aCons bDv aNil)))) sNext))))
def b_br : Sx := (sSeq (sAsg (eLst aNil) (xName 2))
  (sSeq (sFor (iR1 (aCons (eCB bLen (aCons (eVar 0) aNil)) aNil)) (xName 3) bBr)
  (sRet (eIf (tV (eOp2 dNe (eVar 2) (eLst aNil))) (eCB (bOnL gMin) (aCons (eVar 2) aNil)) (eC .non)))))
def F_br : List D → M D := gcF (defX 10 b_br)
theorem dv_at {ρ : Env1} {st : Store} {a b : Rat} (h8 : ρ[8]? = some (some (fr a))) (h9 : ρ[9]? = some (some (fr b))) (sa : Sz a) (sb : Sz b) (b0 : 0 < b) : bDv ρ st = some (.int (flo a b), st) := by
  obtain ⟨x0, x1⟩ := fr_ix a st
  obtain ⟨y0, y1⟩ := fr_ix b st
  have c1 : CMulW a.num (b.den : Int) := sa.1.mulW sb.2 (by decide)
  have c2 : CMulW (a.den : Int) b.num := sa.2.mulW sb.1 (by decide)
  have c3 : CDivW (a.num * b.den) (a.den * b.num) := Bt.divW (Int.mul_pos (den_pos a) (num_pos b0)) (sa.2.mul sb.1) (by decide)
  exact (eOp2_at ((eOp2_at ((eOp2_at (eVar_at h8) eC_at).trans x0) ((eOp2_at (eVar_at h9) eC_at).trans y1)).trans (dMul_int c1 st)) ((eOp2_at ((eOp2_at (eVar_at h8) eC_at).trans x1) ((eOp2_at (eVar_at h9) eC_at).trans y0)).trans (dMul_int c2 st))).trans (dDiv_int c3 st)
theorem br_turn {p : Pile} {N M a : Nat} (h : Base p N M) {k : Nat} (hk : k < p.length) {x : Rat} (tx : Tg N a x) (ha : a ≤ 300) (o4 o5 o6 o7 o8 o9 : Option D) (st : Store) (L : Nat) (xs : List D) (hx : st[L]? = some (.lst xs)) (lx : xs.length < 100) :
    ∃ z4 z5 z6 z7 z8 z9, bBr [some (dPile p), some (fr x), some (.ref L), some (.int (k : Int)), o4, o5, o6, o7, o8, o9] st =
      some (.nx [some (dPile p), some (fr x), some (.ref L), some (.int (k : Int)), z4, z5, z6, z7, z8, z9], st.set L (.lst (xs ++ (bd p x k).toList.map D.int))) := by
  obtain ⟨r, hr⟩ : ∃ r, p[k]? = some r := ⟨_, List.getElem?_eq_getElem hk⟩
  have e1 : jl p k = lowR (below p k) r := by unfold jl; rw [hr]
  have e2 : jh p k = highR (below p k) r := by unfold jh; rw [hr]
  have t1 := h.ends_tg hk
  have tm := h.mid_tg hk
  have sl := t1.1.sz h.n (by decide)
  have sh := t1.2.sz h.n (by decide)
  have sm := tm.sz h.n (by decide)
  have sx := tx.sz h.n (by omega)
  have w1 := h.wt_drop hk
  have bw : Bt 4000 (wt (p.drop k)) := Bt.mono (m := 17) (show (wt (p.drop k)).natAbs < 2 ^ 17 by
    have a1 : (2 : Int) ^ 17 = 131072 := by decide
    have a2 : (2 : Nat) ^ 17 = 131072 := by decide
    omega) (by decide)
  have en := en_eq h.ok hr st
  have md := md_good (p.drop k) st (h.good.drop k) (drop_ne hk)
  have hv1 := hv_eq (d := dPile (p.drop k)) (p := p.drop k) st (.inl rfl) (by rw [List.length_drop]; have := h.ok.len; omega)
  rw [← e1, ← e2] at en
  have head : ∀ T : Sx, sSeq (sAsg (eCB (mCall 2 F_en) (aCons (eVar 0) (aCons (eVar 3) aNil))) (xTup 2 (xCons (xName 4) (xCons (xName 5) xNil)))) (sSeq (sPar 6 7 (aCons (eCB (mCall 1 F_hv) (aCons (eSl (eVar 0) (oSome (eVar 3)) oNone) aNil)) (aCons (eCB (mCall 1 F_md) (aCons (eSl (eVar 0) (oSome (eVar 3)) oNone) aNil)) aNil))) T) [some (dPile p), some (fr x), some (.ref L), some (.int (k : Int)), o4, o5, o6, o7, o8, o9] st = T [some (dPile p), some (fr x), some (.ref L), some (.int (k : Int)), some (fr (jl p k)), some (fr (jh p k)), some (.int (wt (p.drop k))), some (fr (mid (p.drop k))), o8, o9] st := fun T =>
    (sSeq_at (sAsg_at (call2 (eVar_at rfl) (eVar_at rfl) en) rfl)).trans (sSeq_at (sPar_at (aCons_at (call1E (sl_drop st rfl rfl) hv1) (aCons_at (call1E (sl_drop st rfl rfl) md) aNil_at))))
  unfold bBr
  rw [head]
  unfold bd
  by_cases g1 : jh p k < x
  · rw [if_pos g1, sIf_at (ls_at (eVar_at rfl) (eVar_at rfl) sh sx), decide_eq_true g1, if_pos rfl]
    have q1 := le_eq st sh sm
    have ts := t1.2.sub tm
    have q2 := tm1_eq (p := jh p k - mid (p.drop k)) (t := wt (p.drop k)) st (ts.sz h.n (by decide)) bw
    have q3 := le_eq st sx sh
    refine ⟨some (fr (jl p k)), some (fr (jh p k)), some (.int (wt (p.drop k))), some (fr (mid (p.drop k))), some (fr ((jh p k - mid (p.drop k)) * (wt (p.drop k) : Rat))), some (fr (x - jh p k)), (sSeq_at (sPar_at (aCons_at (call3 (call2 (eVar_at rfl) (eVar_at rfl) q1) (eVar_at rfl) eC_at q2) (aCons_at (call2 (eVar_at rfl) (eVar_at rfl) q3) aNil_at)))).trans ?_⟩
    exact sDrop_at (app_at (eVar_at rfl) hx (aCons_at (dv_at rfl rfl ((ts.mulI (Int.le_of_lt w1.1) w1.2).sz h.n (by decide)) ((tx.sub t1.2).sz h.n (by omega)) (by grind)) aNil_at) hx (Nat.lt_trans lx (by decide)))
  · rw [if_neg g1, sIf_at (ls_at (eVar_at rfl) (eVar_at rfl) sh sx), decide_eq_false g1, if_neg (by decide)]
    by_cases g2 : x < jl p k
    · rw [if_pos g2, sIf_at (ls_at (eVar_at rfl) (eVar_at rfl) sx sl), decide_eq_true g2, if_pos rfl]
      have q1 := le_eq st sm sl
      have ts := tm.sub t1.1
      have q2 := tm1_eq (p := mid (p.drop k) - jl p k) (t := wt (p.drop k)) st (ts.sz h.n (by decide)) bw
      have q3 := le_eq st sl sx
      refine ⟨some (fr (jl p k)), some (fr (jh p k)), some (.int (wt (p.drop k))), some (fr (mid (p.drop k))), some (fr ((mid (p.drop k) - jl p k) * (wt (p.drop k) : Rat))), some (fr (jl p k - x)), (sSeq_at (sPar_at (aCons_at (call3 (call2 (eVar_at rfl) (eVar_at rfl) q1) (eVar_at rfl) eC_at q2) (aCons_at (call2 (eVar_at rfl) (eVar_at rfl) q3) aNil_at)))).trans ?_⟩
      exact sDrop_at (app_at (eVar_at rfl) hx (aCons_at (dv_at rfl rfl ((ts.mulI (Int.le_of_lt w1.1) w1.2).sz h.n (by decide)) ((t1.1.sub tx).sz h.n (by omega)) (by grind)) aNil_at) hx (Nat.lt_trans lx (by decide)))
    · rw [if_neg g2, sIf_at (ls_at (eVar_at rfl) (eVar_at rfl) sx sl), decide_eq_false g2, if_neg (by decide)]
      refine ⟨some (fr (jl p k)), some (fr (jh p k)), some (.int (wt (p.drop k))), some (fr (mid (p.drop k))), o8, o9, ?_⟩
      have e : st.set L (.lst (xs ++ (none : Option Int).toList.map D.int)) = st := by
        rw [show xs ++ (none : Option Int).toList.map D.int = xs from List.append_nil _]
        exact set_same hx
      rw [e]; rfl
theorem ints_plain (ns : List Int) : D.plains (ns.map D.int) = true ∧ D.deps (ns.map D.int) ≤ 60 := by
  induction ns with
  | nil => exact ⟨rfl, Nat.zero_le _⟩
  | cons n ns ih =>
    constructor
    · show (true && D.plains (ns.map D.int)) = true
      rw [ih.1]; rfl
    · show max 0 (D.deps (ns.map D.int)) ≤ 60
      omega
def dOI : Option Int → D
  | none => .non
  | some n => .int n
theorem bds_len (p : Pile) (x : Rat) (n : Nat) : (bds p x n).length ≤ n := by
  unfold bds
  have := List.length_filterMap_le (bd p x) (List.range' 0 n)
  rwa [List.length_range'] at this
theorem bds_succ (p : Pile) (x : Rat) (n : Nat) : bds p x (n + 1) = bds p x n ++ (bd p x n).toList := by
  unfold bds
  rw [List.range'_1_concat, List.filterMap_append, Nat.zero_add]
  congr 1
theorem br_loop {p : Pile} {N M a : Nat} (h : Base p N M) {x : Rat} (tx : Tg N a x) (ha : a ≤ 300) (st : Store) : ∀ (m k : Nat), k + m = p.length → ∀ (o3 o4 o5 o6 o7 o8 o9 : Option D), ∃ z3 z4 z5 z6 z7 z8 z9,
    forL ⟨rgs 0 p.length, none⟩ (xName 3) bBr (rgs k m) [some (dPile p), some (fr x), some (.ref st.length), o3, o4, o5, o6, o7, o8, o9] (st ++ [MO.lst ((bds p x k).map D.int)]) =
      some (.nx [some (dPile p), some (fr x), some (.ref st.length), z3, z4, z5, z6, z7, z8, z9], st ++ [MO.lst ((bds p x p.length).map D.int)])
  | 0, k, e, o3, o4, o5, o6, o7, o8, o9 => by
    have : k = p.length := by omega
    subst this
    exact ⟨o3, o4, o5, o6, o7, o8, o9, forL_nil Src.ok_none⟩
  | m + 1, k, e, o3, o4, o5, o6, o7, o8, o9 => by
    have hl := h.ok.len
    have hb := bds_len p x k
    obtain ⟨q4, q5, q6, q7, q8, q9, e1⟩ := br_turn h (show k < p.length by omega) tx ha o4 o5 o6 o7 o8 o9 (st ++ [MO.lst ((bds p x k).map D.int)]) st.length _ get_app (by rw [List.length_map]; omega)
    obtain ⟨z3, z4, z5, z6, z7, z8, z9, e2⟩ := br_loop h tx ha st m (k + 1) (by omega) (some (.int (k : Int))) q4 q5 q6 q7 q8 q9
    refine ⟨z3, z4, z5, z6, z7, z8, z9, (forL_nx Src.ok_none rfl (e1.trans ?_)).trans e2⟩
    rw [set_app, bds_succ, List.map_append]
theorem br_eq {p : Pile} {N M a : Nat} (h : Base p N M) {x : Rat} (tx : Tg N a x) (ha : a ≤ 300) (st : Store) : F_br [dPile p, fr x] st = some (dOI (tellW p x), st) := by
  have hl := h.ok.len
  obtain ⟨z3, z4, z5, z6, z7, z8, z9, el⟩ := br_loop h tx ha st p.length 0 (by omega) none none none none none none none
  obtain ⟨ip, idp⟩ := ints_plain (bds p x p.length)
  refine gcF_eq (g := [MO.lst ((bds p x p.length).map D.int), MO.lst []]) (defX_rt (env := [some (dPile p), some (fr x), none, none, none, none, none, none, none, none]) rfl ?_) (by cases tellW p x <;> rfl)
  unfold b_br
  refine (sSeq_at (sSet_at (eLst_at aNil_at (by decide)))).trans ?_
  refine (sSeq_at ((sFor_at (rng_at (bLen_pile (p := p) _ rfl) (by omega))).trans el)).trans ?_
  refine sRet_at ?_
  have ht : tV (eOp2 dNe (eVar 2) (eLst aNil)) [some (dPile p), some (fr x), some (.ref st.length), z3, z4, z5, z6, z7, z8, z9] (st ++ [MO.lst ((bds p x p.length).map D.int)]) = some (!((bds p x p.length).map D.int).isEmpty, st ++ [MO.lst ((bds p x p.length).map D.int)] ++ [MO.lst []]) :=
    tV_at ((eOp2_at (eVar_at rfl) (eLst_at aNil_at (by decide))).trans (nil_eq true _ (ap get_app) get_app ip idp))
  rw [eIf_at ht, List.append_assoc]
  unfold tellW
  cases hb : bds p x p.length with
  | nil => rfl
  | cons n r =>
    refine (eCB_at (aCons_at (eVar_at rfl) aNil_at)).trans ?_
    show (match (st ++ [MO.lst ((n :: r).map D.int), MO.lst []])[st.length]? with
      | some (.lst xs) => gMin xs (st ++ [MO.lst ((n :: r).map D.int), MO.lst []])
      | _ => none) = _
    rw [get_app]
    simp only [gMin, intsOf_map]
    rfl
end Dl
end
set_option linter.all false
set_option autoImplicit false
set_option maxRecDepth 100000
/-! M25: law k04, the places told -/
noncomputable section
namespace Dl
open PySem PySem.Spec PyProof.Rows L2
theorem wok_lohi {p : Pile} (hv : Hv p) {W : Int} (hW : 0 < W) {x : Rat} : WOk p W x ↔ (∀ l ∈ lws p W, l ≤ x) ∧ ∀ u ∈ hws p W, x ≤ u := by
  rw [wok_iff hv hW]
  constructor
  · intro h
    constructor
    · intro l hl
      obtain ⟨k, hk, rfl⟩ := List.mem_map.mp hl
      rw [List.mem_range'_1] at hk
      exact (h k (by omega)).1
    · intro l hl
      obtain ⟨k, hk, rfl⟩ := List.mem_map.mp hl
      rw [List.mem_range'_1] at hk
      exact (h k (by omega)).2
  · rintro ⟨h1, h2⟩ k hk
    exact ⟨h1 _ (List.mem_map.mpr ⟨k, by rw [List.mem_range'_1]; omega, rfl⟩), h2 _ (List.mem_map.mpr ⟨k, by rw [List.mem_range'_1]; omega, rfl⟩)⟩
def nearE (i : Nat) (s : Ev) : Ev := (eCB (mCall 3 F_nr) (aCons (eVar i) (aCons s (aCons (eOp2 dPow (eC (.int 10)) (eC (.int 12))) aNil))))
def wdE (e : Ev) : Ev := (eCB (mCall 3 F_wd) (aCons (eVar 1) (aCons (eVar 2) (aCons e aNil))))
def bNo : Sx := (sSeq (sAsg (eOp2 dAdd (eLst (aCons (eVar 4) (aCons (eVar 5) aNil))) (eLc (iR1 (aCons (eC (.int 4)) aNil)) (xName 10) tYesD (eCB (mCall 3 F_btw) (aCons (eVar 0) (aCons (eVar 4) (aCons (eVar 5) aNil)))) [10])) (xName 6))
  (sRet (eOp2 dEq (eLc (iSeq (eVar 6)) (xName 9) (tV (wdE (eVar 9))) (eVar 9) [9]) (eLst aNil))))
def bYes : Sx := (sSeq (sAsg (eVar 3) (xTup 2 (xCons (xName 7) (xCons (xName 8) xNil))))
  (sSeq (sIf (tOrD (tV (eCB (mCall 2 F_ls) (aCons (eVar 7) (aCons (eVar 4) aNil)))) (tOrD (tV (eCB (mCall 2 F_ls) (aCons (eVar 5) (aCons (eVar 8) aNil)))) (tV (eCB (mCall 2 F_ls) (aCons (eVar 8) (aCons (eVar 7) aNil)))))) (sRet (eC (.bl false))) sNext)
  (sSeq (sFor (iLstS (eLst (aCons (eVar 7) (aCons (eVar 8) (aCons (eCB (mCall 3 F_btw) (aCons (eVar 0) (aCons (eVar 7) (aCons (eVar 8) aNil)))) aNil))))) (xName 9) (sIf (tNotD (tV (wdE (eVar 9)))) (sRet (eC (.bl false))) sNext))
  (sSeq (sIf (tAndD (tV (eCB (mCall 2 F_ls) (aCons (eVar 4) (aCons (eVar 7) aNil)))) (tV (wdE (nearE 7 (eOp1 dNeg (eC (.int 1))))))) (sRet (eC (.bl false))) sNext)
  (sRet (eOr (eNot (eCB (mCall 2 F_ls) (aCons (eVar 8) (aCons (eVar 5) aNil)))) (eNot (wdE (nearE 8 (eC (.int 1)))))))))))
def b_ps : Sx := (sSeq (sAsg (eCB (mCall 2 F_pf) (aCons (eVar 1) (aCons (eVar 2) aNil))) (xName 3))
  (sSeq (sAsg (eTup (aCons (eOp2 dIx (eOp2 dIx (eVar 1) (eOp1 dNeg (eC (.int 1)))) (eC (.int 3))) (aCons (eCB (mCall 1 F_lrg) (aCons (eOp2 dIx (eVar 1) (eOp1 dNeg (eC (.int 1)))) aNil)) aNil))) (xTup 2 (xCons (xName 4) (xCons (xName 5) xNil))))
  (sSeq (sIf (tV (eOp1 (dIsN false) (eVar 3))) bNo sNext) bYes)))
def F_ps : List D → M D := gcF (defX 11 b_ps)
open Classical in
theorem wd_at {p : Pile} {N M a : Nat} (h : Base p N M) {W : Int} (hW : 0 < W) (bW : Bt 4001 W) {x : Rat} (tx : Tg N a x) (ha : a ≤ 400) {E : Ev} {ρ : Env1} {st : Store} (h1 : ρ[1]? = some (some (dPile p))) (h2 : ρ[2]? = some (some (.int W))) (hE : E ρ st = some (fr x, st)) : wdE E ρ st = some (.bl (decide (WOk p W x)), st) :=
  call3 (eVar_at h1) (eVar_at h2) hE (wd_eq h hW bW (tx.sz h.n (by omega)) st)
open Classical in
theorem no_w {p : Pile} {N M : Nat} (h : Base p N M) {z : Row} (hz : z ∈ p) {W : Int} (hW : 0 < W) (bW : Bt 4001 W) (hno : ∀ t, z.at_ ≤ t → t ≤ z.rgt → ¬ WOk p W t) {b : Nat} {s : Store} (hb : BagAt b s) (o3 o6 o7 o8 o9 o10 : Option D) :
    Wp (bNo [some (.ref b), some (dPile p), some (.int W), o3, some (fr z.at_), some (fr z.rgt), o6, o7, o8, o9, o10]) s fun f s' => f = .rt (.bl true) ∧ Bg b s s' := by
  have hlt := hb.lt
  have ta := h.at_tg hz
  have tr := h.rgt_tg hz
  have sa := ta.sz h.n (by decide)
  have sr := tr.sz h.n (by decide)
  have hzl : z.at_ ≤ z.rgt := by
    have := (h.hv z hz).2
    have := natCast_pos' this
    unfold Row.rgt
    grind
  have e1 : eLst (aCons (eVar 4) (aCons (eVar 5) aNil)) [some (.ref b), some (dPile p), some (.int W), o3, some (fr z.at_), some (fr z.rgt), o6, o7, o8, o9, o10] s = some (.ref s.length, s ++ [.lst (frs [z.at_, z.rgt])]) := eLst_at (aCons_at (eVar_at rfl) (aCons_at (eVar_at rfl) aNil_at)) two_le
  refine wSeq (wSet (wOp2 (Wp.of e1 ?_)))
  have n6 : (s ++ [MO.lst (frs [z.at_, z.rgt])])[s.length]? = some (.lst (frs [z.at_, z.rgt])) := get_app
  have B1 := (Bg.refl hb).app [MO.lst (frs [z.at_, z.rgt])]
  have hne : s.length ≠ b := by omega
  have hb1 := B1.bag hlt
  generalize s ++ [MO.lst (frs [z.at_, z.rgt])] = s1 at *
  generalize hm : s.length = m6 at *
  have hl1 := B1.len
  refine wLc (fun n src xs acc s5 => ∃ (j i : Nat) (ts : List Rat), xs = rgs j i ∧ j + i = 4 ∧ ts.length = j ∧ acc = frs ts ∧ (∀ t ∈ ts, z.at_ ≤ t ∧ t ≤ z.rgt ∧ Tg N 20 t) ∧ n = s1.length ∧ s5[n]? = some (.lst acc) ∧ src.chk = none ∧ Bg b s1 s5)
    (Wp.of (rng_at (n := 4) (aCons_at eC_at aNil_at) (by decide)) ⟨⟨0, 4, [], rfl, rfl, rfl, rfl, (fun t ht => by cases ht), rfl, get_app, rfl, Bg.new hb1 _⟩, ?_⟩) ?_ ?_
  · rintro acc s5 ⟨j, i, ts, hx, hji, hl, rfl, hts, _, hn, _, B5⟩
    have hi : i = 0 := by
      cases i with
      | zero => rfl
      | succ i => cases hx
    have hne1 : s1.length ≠ b := by have := hb1.lt; omega
    have hlt1 := hb1.lt
    have k6 : s5[m6]? = some (.lst (frs [z.at_, z.rgt])) := B5.keep hne n6
    have ec : dAdd (.ref m6) (.ref s1.length) s5 = some (.ref s5.length, s5 ++ [.lst (frs [z.at_, z.rgt] ++ frs ts)]) := by
      have := cat_at (ρ := [some (.ref m6), some (.ref s1.length)]) (E := eVar 0) (G := eVar 1) (st := s5) (eVar_at rfl) (eVar_at rfl) k6 hn (by show 2 + (frs ts).length < 100; simp [frs]; omega)
      rwa [eOp2_at (eVar_at rfl) (eVar_at rfl)] at this
    refine Wp.of ec ?_
    have e2 : frs [z.at_, z.rgt] ++ frs ts = frs ([z.at_, z.rgt] ++ ts) := by simp [frs]
    rw [e2]
    have hall : ∀ t ∈ [z.at_, z.rgt] ++ ts, z.at_ ≤ t ∧ t ≤ z.rgt ∧ Tg N 20 t := by
      intro t ht
      rcases List.mem_append.mp ht with ht | ht
      · simp only [List.mem_cons, List.not_mem_nil, or_false] at ht
        rcases ht with rfl | rfl
        · exact ⟨Rat.le_refl, hzl, ta.mono (by decide)⟩
        · exact ⟨hzl, Rat.le_refl, tr.mono (by decide)⟩
      · exact hts t ht
    have hlen : ([z.at_, z.rgt] ++ ts).length ≤ sizeLine := by
      rw [List.length_append]
      exact Nat.le_trans (show 2 + ts.length ≤ 10 by omega) (by decide)
    generalize [z.at_, z.rgt] ++ ts = us at *
    have B6 := (B1.trans hb.lt B5).app [MO.lst (frs us)]
    have n7 : (s5 ++ [MO.lst (frs us)])[s5.length]? = some (.lst (frs us)) := get_app
    generalize s5 ++ [MO.lst (frs us)] = s6 at *
    generalize s5.length = m7 at *
    obtain ⟨src, c1, c2, c3⟩ := IsSeq.iSeq (st := s6) (d := .ref m7) (.inr ⟨m7, rfl, n7⟩)
    obtain ⟨zz, e3⟩ := eLc_A (it := iSeq (eVar 6)) (g := xName 9) (t := tV (wdE (eVar 9))) (e := eVar 9) (vs := [9]) (ρ := [some (.ref b), some (dPile p), some (.int W), o3, some (fr z.at_), some (fr z.rgt), some (.ref m7), o7, o8, o9, o10]) (st := s6) (st1 := s6) us fr (fun _ => false) fr (by simp only [iSeq, Dl.M.bnd, eVar, Dl.M.ret, List.getElem?_cons_zero, List.getElem?_cons_succ, c1]) c3 c2 (fun t ht g => by
        obtain ⟨t1, t2, t3⟩ := hall t ht
        refine ⟨_, [], rfl, ?_, fun e => by cases e⟩
        rw [List.append_nil]
        refine tV_at ((wd_at h hW bW t3 (by decide) rfl rfl (eVar_at rfl)).trans ?_)
        rw [decide_eq_false (hno t t1 t2)]) hlen
    have e4 : us.filter (fun _ => false) = [] := by simp
    rw [e4] at e3
    refine wRet (wOp2 (Wp.of e3 (Wp.of (eLst_at aNil_at (by decide)) ?_)))
    refine Wp.of (nil_eq false (xs := []) _ (by rw [List.append_assoc]; exact get_app) get_app rfl (by decide)) ?_
    exact ⟨rfl, (B6.app _).app _⟩
  · rintro n src xs acc s5 ⟨_, _, _, _, _, _, _, _, _, _, hc, _⟩ m e
    rw [hc] at e
    cases e
  · rintro n src x xs acc s5 ⟨j, i, ts, hx, hji, hl, rfl, hts, rfl, hn, hc, B5⟩
    cases i with
    | zero => cases hx
    | succ i =>
    injection hx with h1 h2
    subst h1
    subst h2
    have hlt1 := hb1.lt
    have hne1 : s1.length ≠ b := by omega
    refine Wp.ret (Wp.ret ?_)
    rw [if_pos rfl]
    refine wCB (wCons (wVar rfl (wCons (wVar rfl (wCons (wVar rfl (wNil ?_)))))))
    refine btw_w (b := b) (lo := z.at_) (hi := z.rgt) (B5.bag hlt1) (sa.1.mono (by decide)) (sa.2.mono (by decide)) (sr.1.mono (by decide)) (sr.2.mono (by decide)) (den_pos _) (den_pos _) (Rat.num_divInt_den _) (Rat.num_divInt_den _) fun k o hk ho => ?_
    have mx := mix_in hzl hk
    refine ⟨by rw [List.getElem?_set_ne (Ne.symm hne1)]; exact hn, ?_, j + 1, i, ts ++ [mix z.at_ z.rgt k], rfl, by omega, by rw [List.length_append, hl]; rfl, by simp [frs], ?_, rfl, ?_, hc, (B5.trans hlt1 (Bg.set0 ho)).set (Nat.le_refl _)⟩
    · unfold frs
      rw [List.length_map]
      exact Nat.lt_of_lt_of_le (show ts.length < 20 by omega) (by decide)
    · intro t ht
      rcases List.mem_append.mp ht with ht | ht
      · exact hts t ht
      · rw [List.mem_singleton] at ht
        subst ht
        exact ⟨mx.1, mx.2, (ta.mix tr hk).mono (by decide)⟩
    · rw [setSelf]
      have := (List.getElem?_eq_some_iff.mp hn).1
      simpa using this
end Dl
end
set_option linter.all false
set_option autoImplicit false
set_option maxRecDepth 100000
/-! M26: law k04, the told places hold -/
noncomputable section
namespace Dl
open PySem PySem.Spec PyProof.Rows L2
theorem eNot_at {E : Ev} {ρ : Env1} {st st1 : Store} {c : Bool} (h : E ρ st = some (.bl c, st1)) : eNot E ρ st = some (.bl (!c), st1) := by
  simp only [eNot, Dl.M.bnd, h]; rfl
theorem eOr_at {E G : Ev} {ρ : Env1} {st st1 : Store} {c : Bool} (h : E ρ st = some (.bl c, st1)) : eOr E G ρ st = if c = true then some (.bl true, st1) else G ρ st1 := by
  simp only [eOr, Dl.M.bnd, h]; cases c <;> rfl
theorem tNotD_at {t : Et} {ρ : Env1} {st st1 : Store} {c : Bool} (h : t ρ st = some (c, st1)) : tNotD t ρ st = some (!c, st1) := by
  simp only [tNotD, Dl.M.bnd, h]; rfl
theorem tAndD_at {t u : Et} {ρ : Env1} {st st1 : Store} {c : Bool} (h : t ρ st = some (c, st1)) : tAndD t u ρ st = if c = true then u ρ st1 else some (false, st1) := by
  simp only [tAndD, Dl.M.bnd, h]; cases c <;> rfl
open Classical in
theorem yes_w {p : Pile} {N M : Nat} (h : Base p N M) {z : Row} (hz : z ∈ p) {W : Int} (hW : 0 < W) (W1 : W < 2 ^ 40) (hle : lowW p W z ≤ highW p W z) {b : Nat} {s : Store} (hb : BagAt b s) (o6 o7 o8 o9 o10 : Option D) :
    Wp (bYes [some (.ref b), some (dPile p), some (.int W), some (.tup [fr (lowW p W z), fr (highW p W z)]), some (fr z.at_), some (fr z.rgt), o6, o7, o8, o9, o10]) s fun f s' => f = .rt (.bl true) ∧ Bg b s s' := by
  have hlt := hb.lt
  have bW : Bt 4001 W := Bt.mono (m := 41) (show W.natAbs < 2 ^ 41 by
    have x2 : (2 : Int) ^ 40 = 1099511627776 := by decide
    have x3 : (2 : Nat) ^ 41 = 2199023255552 := by decide
    omega) (by decide)
  have ta := h.at_tg hz
  have tr := h.rgt_tg hz
  have sa := ta.sz h.n (by decide)
  have sr := tr.sz h.n (by decide)
  obtain ⟨tl, tu⟩ := h.lowW_tg hW W1 hz
  have sl := tl.sz h.n (by decide)
  have su := tu.sz h.n (by decide)
  have wl := fun x => wok_lohi (p := p) h.hv hW (x := x)
  have ml := (max_le (f := z.at_) (l := lws p W) (t := lowW p W z)).mp Rat.le_refl
  have mu := (le_min (f := z.rgt) (l := hws p W) (t := highW p W z)).mp Rat.le_refl
  have meml := max_mem z.at_ (lws p W)
  have memu := min_mem z.rgt (hws p W)
  have okx : ∀ x, lowW p W z ≤ x → x ≤ highW p W z → WOk p W x := fun x h1 h2 => (wl x).mpr ⟨fun l hl => Rat.le_trans (ml.2 l hl) h1, fun u hu => Rat.le_trans h2 (mu.2 u hu)⟩
  have nolow : z.at_ < lowW p W z → ∀ x, x < lowW p W z → ¬ WOk p W x := fun g x hx w => by
    rcases List.mem_cons.mp meml with e | e
    · have : lowW p W z = z.at_ := e
      grind
    · have := ((wl x).mp w).1 _ e
      have e2 : lowW p W z = maxR z.at_ (lws p W) := rfl
      grind
  have nohigh : highW p W z < z.rgt → ∀ x, highW p W z < x → ¬ WOk p W x := fun g x hx w => by
    rcases List.mem_cons.mp memu with e | e
    · have : highW p W z = z.rgt := e
      grind
    · have := ((wl x).mp w).2 _ e
      have e2 : highW p W z = minR z.rgt (hws p W) := rfl
      grind
  have l1 : z.at_ ≤ lowW p W z := ml.1
  have u1 : highW p W z ≤ z.rgt := mu.1
  generalize lowW p W z = lo at *
  generalize highW p W z = hi at *
  refine wSeq (Wp.of (a := .nx [some (.ref b), some (dPile p), some (.int W), some (.tup [fr lo, fr hi]), some (fr z.at_), some (fr z.rgt), o6, some (fr lo), some (fr hi), o9, o10]) (st' := s) (sAsg_at (eVar_at rfl) rfl) ?_)
  have c1 := ls_at (ρ := [some (.ref b), some (dPile p), some (.int W), some (.tup [fr lo, fr hi]), some (fr z.at_), some (fr z.rgt), o6, some (fr lo), some (fr hi), o9, o10]) (st := s) (E := eVar 7) (G := eVar 4) (eVar_at rfl) (eVar_at rfl) sl sa
  have c2 := ls_at (ρ := [some (.ref b), some (dPile p), some (.int W), some (.tup [fr lo, fr hi]), some (fr z.at_), some (fr z.rgt), o6, some (fr lo), some (fr hi), o9, o10]) (st := s) (E := eVar 5) (G := eVar 8) (eVar_at rfl) (eVar_at rfl) sr su
  have c3 := ls_at (ρ := [some (.ref b), some (dPile p), some (.int W), some (.tup [fr lo, fr hi]), some (fr z.at_), some (fr z.rgt), o6, some (fr lo), some (fr hi), o9, o10]) (st := s) (E := eVar 8) (G := eVar 7) (eVar_at rfl) (eVar_at rfl) su sl
  rw [decide_eq_false (by grind)] at c1 c2 c3
  refine wSeq (Wp.of (a := .nx [some (.ref b), some (dPile p), some (.int W), some (.tup [fr lo, fr hi]), some (fr z.at_), some (fr z.rgt), o6, some (fr lo), some (fr hi), o9, o10]) (st' := s) (by
    rw [sIf_at (k := false) (st1 := s) (by rw [tOrD_at c1, if_neg (by decide), tOrD_at c2, if_neg (by decide), c3])]; rfl) ?_)
  -- the three places
  have hwd : ∀ x a, Tg N a x → a ≤ 400 → WOk p W x → ∀ (o9 : Option D) (s' : Store), tNotD (tV (wdE (eVar 9))) [some (.ref b), some (dPile p), some (.int W), some (.tup [fr lo, fr hi]), some (fr z.at_), some (fr z.rgt), o6, some (fr lo), some (fr hi), some (fr x), o10] s' = some (false, s') := fun x a tx hax hw o9 s' => by
    have := tV_at ((wd_at h hW bW tx hax (E := eVar 9) (ρ := [some (.ref b), some (dPile p), some (.int W), some (.tup [fr lo, fr hi]), some (fr z.at_), some (fr z.rgt), o6, some (fr lo), some (fr hi), some (fr x), o10]) (st := s') rfl rfl (eVar_at rfl)))
    rw [decide_eq_true hw] at this
    exact tNotD_at this
  refine wSeq (wFor (Wp.bnd (wLst (wCons (wVar rfl (wCons (wVar rfl (wCons (wCB (wCons (wVar rfl (wCons (wVar rfl (wCons (wVar rfl (wNil ?_))))))))))))))))
  refine btw_w (b := b) (lo := lo) (hi := hi) hb (sl.1.mono (by decide)) (sl.2.mono (by decide)) (su.1.mono (by decide)) (su.2.mono (by decide)) (den_pos _) (den_pos _) (Rat.num_divInt_den _) (Rat.num_divInt_den _) fun k o hk ho => ?_
  have mx := mix_in hle hk
  have B1 : Bg b s (s.set b o) := Bg.set0 ho
  generalize s.set b o = s1 at *
  refine wNil ⟨by show 3 ≤ sizeLine; decide, ?_⟩
  have B2 := B1.app [MO.lst [fr lo, fr hi, fr (mix lo hi k)]]
  have n1 : (s1 ++ [MO.lst [fr lo, fr hi, fr (mix lo hi k)]])[s1.length]? = some (.lst (frs [lo, hi, mix lo hi k])) := get_app
  have hne : s1.length ≠ b := by have := (B1.bag hlt).lt; omega
  generalize s1 ++ [MO.lst [fr lo, fr hi, fr (mix lo hi k)]] = s2 at *
  generalize s1.length = m1 at *
  have src : (match s2[m1]? with
    | some (.lst xs) => some ((⟨xs, some m1⟩ : Src), s2)
    | _ => none) = some (⟨frs [lo, hi, mix lo hi k], some m1⟩, s2) := by rw [n1]
  refine Wp.of src ?_
  have hall : ∀ t ∈ [lo, hi, mix lo hi k], WOk p W t ∧ Tg N 300 t := by
    intro t ht
    simp only [List.mem_cons, List.not_mem_nil, or_false] at ht
    rcases ht with rfl | rfl | rfl
    · exact ⟨okx _ Rat.le_refl hle, tl.mono (by decide)⟩
    · exact ⟨okx _ hle Rat.le_refl, tu.mono (by decide)⟩
    · exact ⟨okx _ mx.1 mx.2, (tl.mix tu hk).mono (by decide)⟩
  generalize [lo, hi, mix lo hi k] = ts at *
  refine wForL (fun xs ρ s' => ∃ (post : List Rat) (o9 : Option D), xs = frs post ∧ (∀ t ∈ post, WOk p W t ∧ Tg N 300 t) ∧ ρ = [some (.ref b), some (dPile p), some (.int W), some (.tup [fr lo, fr hi]), some (fr z.at_), some (fr z.rgt), o6, some (fr lo), some (fr hi), o9, o10] ∧ s'[m1]? = some (.lst (frs ts)) ∧ Bg b s s') ?_ ?_ ?_ _ _ _ ?_
  · rintro xs ρ s' ⟨_, _, _, _, _, hm, _⟩
    exact Src.ok_some hm
  · rintro ρ s' ⟨post, o9, _, _, rfl, hm, B3⟩
    obtain ⟨q1, q2⟩ := nr_at (E := eVar 7) (A := eOp1 dNeg (eC (.int 1))) (B := eOp2 dPow (eC (.int 10)) (eC (.int 12))) (ρ := [some (.ref b), some (dPile p), some (.int W), some (.tup [fr lo, fr hi]), some (fr z.at_), some (fr z.rgt), o6, some (fr lo), some (fr hi), o9, o10]) (st := s') (a := -1) (b := 1000000000000) h.ok.pos h.n (eVar_at rfl) (eNeg_at eC_at) ((eOp2_at eC_at eC_at).trans (pow12 s')) tl (by decide) (by decide) (by decide) (by decide)
    have d1 := tV_at (wd_at h hW bW q2 (by decide) (E := nearE 7 (eOp1 dNeg (eC (.int 1)))) (ρ := [some (.ref b), some (dPile p), some (.int W), some (.tup [fr lo, fr hi]), some (fr z.at_), some (fr z.rgt), o6, some (fr lo), some (fr hi), o9, o10]) (st := s') rfl rfl q1)
    have d2 := ls_at (ρ := [some (.ref b), some (dPile p), some (.int W), some (.tup [fr lo, fr hi]), some (fr z.at_), some (fr z.rgt), o6, some (fr lo), some (fr hi), o9, o10]) (st := s') (E := eVar 4) (G := eVar 7) (eVar_at rfl) (eVar_at rfl) sa sl
    have neg := (div_small (a := -1) (b := 1000000000000) (by decide)).2 (by decide)
    have d3 : tAndD (tV (eCB (mCall 2 F_ls) (aCons (eVar 4) (aCons (eVar 7) aNil)))) (tV (wdE (nearE 7 (eOp1 dNeg (eC (.int 1)))))) [some (.ref b), some (dPile p), some (.int W), some (.tup [fr lo, fr hi]), some (fr z.at_), some (fr z.rgt), o6, some (fr lo), some (fr hi), o9, o10] s' = some (false, s') := by
      rw [tAndD_at d2]
      by_cases g : z.at_ < lo
      · rw [decide_eq_true g, if_pos rfl, d1, decide_eq_false (nolow g _ (by grind))]
      · rw [decide_eq_false g]; rfl
    refine wSeq (Wp.of (a := .nx [some (.ref b), some (dPile p), some (.int W), some (.tup [fr lo, fr hi]), some (fr z.at_), some (fr z.rgt), o6, some (fr lo), some (fr hi), o9, o10]) (st' := s') (by rw [sIf_at d3]; rfl) ?_)
    obtain ⟨q3, q4⟩ := nr_at (E := eVar 8) (A := eC (.int 1)) (B := eOp2 dPow (eC (.int 10)) (eC (.int 12))) (ρ := [some (.ref b), some (dPile p), some (.int W), some (.tup [fr lo, fr hi]), some (fr z.at_), some (fr z.rgt), o6, some (fr lo), some (fr hi), o9, o10]) (st := s') (a := 1) (b := 1000000000000) h.ok.pos h.n (eVar_at rfl) eC_at ((eOp2_at eC_at eC_at).trans (pow12 s')) tu (by decide) (by decide) (by decide) (by decide)
    have f1 := wd_at h hW bW q4 (by decide) (E := nearE 8 (eC (.int 1))) (ρ := [some (.ref b), some (dPile p), some (.int W), some (.tup [fr lo, fr hi]), some (fr z.at_), some (fr z.rgt), o6, some (fr lo), some (fr hi), o9, o10]) (st := s') rfl rfl q3
    have f2 := call2 (ρ := [some (.ref b), some (dPile p), some (.int W), some (.tup [fr lo, fr hi]), some (fr z.at_), some (fr z.rgt), o6, some (fr lo), some (fr hi), o9, o10]) (st := s') (E := eVar 8) (G := eVar 5) (eVar_at rfl) (eVar_at rfl) (ls_eq s' su sr)
    have pos := (div_small (a := 1) (b := 1000000000000) (by decide)).1 (by decide)
    have f3 : eOr (eNot (eCB (mCall 2 F_ls) (aCons (eVar 8) (aCons (eVar 5) aNil)))) (eNot (wdE (nearE 8 (eC (.int 1))))) [some (.ref b), some (dPile p), some (.int W), some (.tup [fr lo, fr hi]), some (fr z.at_), some (fr z.rgt), o6, some (fr lo), some (fr hi), o9, o10] s' = some (.bl true, s') := by
      rw [eOr_at (eNot_at f2)]
      by_cases g : hi < z.rgt
      · rw [decide_eq_true g, if_neg (by decide), eNot_at f1, decide_eq_false (nohigh g _ (by grind))]
        rfl
      · rw [decide_eq_false g]; rfl
    exact wRet (Wp.of f3 ⟨rfl, B3⟩)
  · rintro x xs ρ s' ⟨post, o9, hx, hp, rfl, hm, B3⟩
    cases post with
    | nil => cases hx
    | cons t post =>
      injection hx with h1 h2
      subst h1
      subst h2
      obtain ⟨g1, g2⟩ := hp t (by simp)
      refine Wp.ret (Wp.of (a := .nx [some (.ref b), some (dPile p), some (.int W), some (.tup [fr lo, fr hi]), some (fr z.at_), some (fr z.rgt), o6, some (fr lo), some (fr hi), some (fr t), o10]) (st' := s') (by
        show sIf (tNotD (tV (wdE (eVar 9)))) (sRet (eC (.bl false))) sNext [some (.ref b), some (dPile p), some (.int W), some (.tup [fr lo, fr hi]), some (fr z.at_), some (fr z.rgt), o6, some (fr lo), some (fr hi), some (fr t), o10] s' = _
        rw [sIf_at (hwd t 300 g2 (by decide) g1 none s')]; rfl) ?_)
      exact ⟨post, _, rfl, fun t ht => hp t (by simp [ht]), rfl, hm, B3⟩
  · exact ⟨ts, o9, rfl, hall, rfl, n1, B2⟩
theorem ps_w {pre : Pile} {z : Row} {N M : Nat} (h : Base (pre ++ [z]) N M) {W : Int} (hW : 0 < W) (W1 : W < 2 ^ 40) {b : Nat} {st : Store} (hb : BagAt b st) : Wp (F_ps [.ref b, dPile (pre ++ [z]), .int W]) st fun d s => d = .bl true ∧ Bg b st s := by
  have hlt := hb.lt
  have hz : z ∈ pre ++ [z] := by simp
  have ta := h.at_tg hz
  have sa := ta.sz h.n (by decide)
  have lr := lrg_eq (r := z) st sa (h.ok.rows z hz).btl
  have pf := pf_eq h hW W1 st
  have wl := fun x => wok_lohi (p := pre ++ [z]) h.hv hW (x := x)
  refine wGcF (b := b) (wDefX (env := [some (.ref b), some (dPile (pre ++ [z])), some (.int W), none, none, none, none, none, none, none, none]) rfl ?_)
  unfold b_ps
  refine wSeq (wSet (Wp.of (call2 (eVar_at rfl) (eVar_at rfl) pf) ?_))
  generalize hT : (if highW (pre ++ [z]) W z < lowW (pre ++ [z]) W z then D.non else .tup [fr (lowW (pre ++ [z]) W z), fr (highW (pre ++ [z]) W z)]) = T
  refine wSeq (Wp.of (a := .nx [some (.ref b), some (dPile (pre ++ [z])), some (.int W), some T, some (fr z.at_), some (fr z.rgt), none, none, none, none, none]) (st' := st) (sAsg_at (eTup_at (aCons_at ((eOp2_at (last_ix (eVar_at rfl)) eC_at).trans (rngD_ix st)) (aCons_at (call1E (last_ix (eVar_at rfl)) lr) aNil_at)) two_le) rfl) ?_)
  by_cases hlt2 : highW (pre ++ [z]) W z < lowW (pre ++ [z]) W z
  · rw [if_pos hlt2] at hT
    subst hT
    refine wSeq (wIf (Wp.of (a := true) (st' := st) rfl ?_))
    rw [if_pos rfl]
    have bW : Bt 4001 W := Bt.mono (m := 41) (show W.natAbs < 2 ^ 41 by
      have x2 : (2 : Int) ^ 40 = 1099511627776 := by decide
      have x3 : (2 : Nat) ^ 41 = 2199023255552 := by decide
      omega) (by decide)
    refine (no_w h hz hW bW (fun t t1 t2 w => ?_) hb _ _ _ _ _ _).mono ?_
    · obtain ⟨w1, w2⟩ := (wl t).mp w
      have a1 : lowW (pre ++ [z]) W z ≤ t := max_le.mpr ⟨t1, w1⟩
      have a2 : t ≤ highW (pre ++ [z]) W z := le_min.mpr ⟨t2, w2⟩
      grind
    · rintro f s' ⟨rfl, B⟩
      exact ⟨_, rfl, rfl, B, fun o ho => ⟨rfl, Bg.set0 ho⟩⟩
  · rw [if_neg hlt2] at hT
    subst hT
    refine wSeq (wIf (Wp.of (a := false) (st' := st) rfl ?_))
    rw [if_neg (by decide)]
    refine wNext ?_
    refine (yes_w h hz hW W1 (by grind) hb _ _ _ _ _).mono ?_
    rintro f s' ⟨rfl, B⟩
    exact ⟨_, rfl, rfl, B, fun o ho => ⟨rfl, Bg.set0 ho⟩⟩
end Dl
end
set_option linter.all false
set_option autoImplicit false
set_option maxRecDepth 100000
/-! M27: law k04 -/
noncomputable section
namespace Dl
open PySem PySem.Spec PyProof.Rows L2
theorem flo_bt {a b : Rat} (sa : Sz a) (sb : Sz b) : Bt 4000 (flo a b) := by
  unfold flo
  refine Nat.lt_of_le_of_lt (Int.natAbs_ediv_le_natAbs _ _) ?_
  exact (sa.1.mul sb.2)
theorem tell_bt {p : Pile} {N M a : Nat} (h : Base p N M) {x : Rat} (tx : Tg N a x) (ha : a ≤ 300) {B : Int} (hB : tellW p x = some B) : Bt 4000 B := by
  obtain ⟨k, hk, e⟩ := tell_mem hB
  have t1 := h.ends_tg hk
  have tm := h.mid_tg hk
  have w1 := h.wt_drop hk
  unfold bd at e
  split at e
  · cases e
    exact flo_bt (((t1.2.sub tm).mulI (Int.le_of_lt w1.1) w1.2).sz h.n (by decide)) ((tx.sub t1.2).sz h.n (by omega))
  · split at e
    · cases e
      exact flo_bt (((tm.sub t1.1).mulI (Int.le_of_lt w1.1) w1.2).sz h.n (by decide)) ((t1.1.sub tx).sz h.n (by omega))
    · cases e
def wd3 (w : Ev) : Ev := (eCB (mCall 3 F_wd) (aCons (eVar 3) (aCons w (aCons (eVar 7) aNil))))
def bW4 : Sx := (sIf (tNotD (tV (eCB (mCall 3 F_ps) (aCons (eVar 2) (aCons (eVar 3) (aCons (eVar 4) aNil)))))) (sRet (eC (.bl false))) sNext)
def bP4 : Sx := (sSeq (sAsg (eCB (mCall 2 F_br) (aCons (eVar 3) (aCons (eVar 7) aNil))) (xName 8))
  (sIf (tV (eOp1 (dIsN false) (eVar 8))) (sIf (tOrD (tNotD (tV (wd3 (eOp2 dPow (eC (.int 10)) (eC (.int 30)))))) (tNotD (tV (wd3 (eC (.int 1)))))) (sRet (eC (.bl false))) sNext) (sIf (tOrD (tAndD (tV (eOp2 dGt (eVar 8) (eC (.int 0)))) (tNotD (tV (wd3 (eVar 8))))) (tV (wd3 (eOp2 dAdd (eVar 8) (eC (.int 1)))))) (sRet (eC (.bl false))) sNext)))
def tkE : Ev := (eCB (mCall 2 F_tk) (aCons (eVar 2) (aCons (eOp2 dIx (eLst (aCons (eC (.int 20)) (aCons (eC (.int 2000)) aNil))) (eCB (mCall 2 F_tk) (aCons (eVar 2) (aCons (eC (.int 2)) aNil)))) aNil)))
def btE : Ev := (eCB (mCall 3 F_btw) (aCons (eVar 2) (aCons (eVar 5) (aCons (eVar 6) aNil))))
def bK4 : Sx := (sSeq (sAsg (eCB (mCall 2 F_bag) (aCons (eVar 0) (aCons (eVar 1) aNil))) (xName 2))
  (sSeq (sAsg (eCB (mCall 2 (F_pi 4 30 100 4 12 30)) (aCons (eVar 2) (aCons (eC (.int 7)) aNil))) (xName 3))
  (sSeq (sFor (iLstS (eLst (aCons (eC (.int 1)) (aCons (eC (.int 1000000)) (aCons (eOp2 dAdd (eC (.int 1)) tkE) aNil))))) (xName 4) bW4)
  (sSeq (sPar 5 6 (aCons (eOp2 dIx (eOp2 dIx (eVar 3) (eOp1 dNeg (eC (.int 1)))) (eC (.int 3))) (aCons (eCB (mCall 1 F_lrg) (aCons (eOp2 dIx (eVar 3) (eOp1 dNeg (eC (.int 1)))) aNil)) aNil)))
  (sFor (iLstS (eLst (aCons (eVar 5) (aCons (eVar 6) (aCons btE (aCons btE aNil)))))) (xName 7) bP4)))))
def b_l4 : Sx := (sSeq (sFor (iR1 (aCons (eOp2 dAdd (eC (.int 1)) (eCB bMin2 (aCons (eCB bLen (aCons (eVar 0) aNil)) (aCons (eC (.int 8)) aNil)))) aNil)) (xName 1) bK4)
  (sRet (eC (.bl true))))
def F_l4 : List D → M D := defX 9 b_l4
theorem pow30 (st : Store) : dPow (.int 10) (.int 30) st = some (.int 1000000000000000000000000000000, st) := rfl
open Classical in
theorem wd3_at {p : Pile} {N M a : Nat} (h : Base p N M) {W : Int} (hW : 0 < W) (bW : Bt 4001 W) {x : Rat} (tx : Tg N a x) (ha : a ≤ 400) {E : Ev} {ρ : Env1} {st : Store} (h1 : ρ[3]? = some (some (dPile p))) (h2 : ρ[7]? = some (some (fr x))) (hE : E ρ st = some (.int W, st)) : tV (wd3 E) ρ st = some (decide (WOk p W x), st) :=
  tV_at (call3 (eVar_at h1) hE (eVar_at h2) (wd_eq h hW bW (tx.sz h.n (by omega)) st))
open Classical in
theorem p4_ok {p : Pile} {N M : Nat} (h : Base p N M) (hj : joints p = []) {x : Rat} {a : Nat} (tx : Tg N a x) (ha : a ≤ 200) (x0 x1 x2 o4 o5 o6 o8 : Option D) (s : Store) :
    bP4 [x0, x1, x2, some (dPile p), o4, o5, o6, some (fr x), o8] s = some (.nx [x0, x1, x2, some (dPile p), o4, o5, o6, some (fr x), some (dOI (tellW p x))], s) := by
  have br := br_eq h tx (by omega) s
  have ti := fun {W : Int} (hW : 0 < W) => tell_iff (x := x) h.hv hj hW
  unfold bP4
  refine (sSeq_at (sSet_at (call2 (eVar_at rfl) (eVar_at rfl) br))).trans ?_
  show sIf _ _ _ [x0, x1, x2, some (dPile p), o4, o5, o6, some (fr x), some (dOI (tellW p x))] s = _
  cases hB : tellW p x with
  | none =>
    rw [hB] at ti
    have e1 : tV (eOp1 (dIsN false) (eVar 8)) [x0, x1, x2, some (dPile p), o4, o5, o6, some (fr x), some (dOI none)] s = some (true, s) := rfl
    rw [sIf_at e1, if_pos rfl]
    have b30 : Bt 4001 1000000000000000000000000000000 := Bt.mono (m := 100) (by unfold Bt; decide) (by decide)
    have w1 := wd3_at h (W := 1000000000000000000000000000000) (by decide) b30 tx (by omega) (E := eOp2 dPow (eC (.int 10)) (eC (.int 30))) (ρ := [x0, x1, x2, some (dPile p), o4, o5, o6, some (fr x), some (dOI none)]) (st := s) rfl rfl ((eOp2_at eC_at eC_at).trans (pow30 s))
    have w2 := wd3_at h (W := 1) (by decide) (Bt.mono (m := 2) (by unfold Bt; decide) (by decide)) tx (by omega) (E := eC (.int 1)) (ρ := [x0, x1, x2, some (dPile p), o4, o5, o6, some (fr x), some (dOI none)]) (st := s) rfl rfl eC_at
    rw [decide_eq_true ((ti (by decide)).mpr (fun B e => by cases e))] at w1 w2
    rw [sIf_at (k := false) (st1 := s) (by rw [tOrD_at (tNotD_at w1), if_neg (by decide), tNotD_at w2]; rfl)]
    rfl
  | some B =>
    have bB := tell_bt h tx (by omega) hB
    obtain ⟨k, hk, e⟩ := tell_mem hB
    have B0 := bd_nonneg h.hv hj hk e
    rw [hB] at ti
    have e1 : tV (eOp1 (dIsN false) (eVar 8)) [x0, x1, x2, some (dPile p), o4, o5, o6, some (fr x), some (dOI (some B))] s = some (false, s) := rfl
    rw [sIf_at e1, if_neg (by decide)]
    have w2 := wd3_at h (W := B + 1) (by omega) (bB.add (Bt.mono (m := 2) (n := 4000) (i := 1) (by unfold Bt; decide) (by decide)) (Nat.le_refl _)) tx (by omega) (E := eOp2 dAdd (eVar 8) (eC (.int 1))) (ρ := [x0, x1, x2, some (dPile p), o4, o5, o6, some (fr x), some (dOI (some B))]) (st := s) rfl rfl ((eOp2_at (eVar_at rfl) eC_at).trans (dAdd_int s))
    rw [decide_eq_false (fun w => by have := (ti (show 0 < B + 1 by omega)).mp w B rfl; omega)] at w2
    have g0 : tV (eOp2 dGt (eVar 8) (eC (.int 0))) [x0, x1, x2, some (dPile p), o4, o5, o6, some (fr x), some (dOI (some B))] s = some (decide (0 < B), s) := tV_at ((eOp2_at (eVar_at rfl) eC_at).trans (dGt_int s))
    have g1 : tAndD (tV (eOp2 dGt (eVar 8) (eC (.int 0)))) (tNotD (tV (wd3 (eVar 8)))) [x0, x1, x2, some (dPile p), o4, o5, o6, some (fr x), some (dOI (some B))] s = some (false, s) := by
      rw [tAndD_at g0]
      by_cases hp : 0 < B
      · have w1 := wd3_at h hp (bB.mono (by decide)) tx (by omega) (E := eVar 8) (ρ := [x0, x1, x2, some (dPile p), o4, o5, o6, some (fr x), some (dOI (some B))]) (st := s) rfl rfl (eVar_at rfl)
        rw [decide_eq_true ((ti hp).mpr (fun C e => by cases e; exact Int.le_refl _))] at w1
        rw [decide_eq_true hp, if_pos rfl, tNotD_at w1]; rfl
      · rw [decide_eq_false hp]; rfl
    rw [sIf_at (k := false) (st1 := s) (by rw [tOrD_at g1, if_neg (by decide), w2])]
    rfl
theorem takeI_w {i : Nat} {E : Ev} {ρ : Env1} {st : Store} {b : Nat} {Q : D → Store → Prop} (hv : ρ[i]? = some (some (.ref b))) (h : Wp (E ρ) st fun x s => ∃ m : Int, x = .int m ∧ 0 < m ∧ m < 1000000 ∧ BagAt b s ∧ ∀ (k : Int) s', 0 ≤ k → k < m → Bg b s s' → Q (.int k) s') :
    Wp (eCB (mCall 2 F_tk) (aCons (eVar i) (aCons E aNil)) ρ) st Q := by
  refine wCB (wCons (wVar hv (wCons (h.mono fun x s ⟨m, e, h0, h1, hb, q⟩ => wNil ?_))))
  subst e
  exact tk_w hb h0 h1 fun k o k0 k1 ho => q k _ k0 k1 (Bg.set0 ho)
theorem menuI_w {A : Ea} {i : Nat} {ρ : Env1} {st : Store} {b : Nat} {Q : D → Store → Prop} (xs : List Int) (hA : A ρ st = some (xs.map D.int, st)) (hv : ρ[i]? = some (some (.ref b))) (hb : BagAt b st) {m : Int} (hm : m = (xs.length : Int)) (h0 : 0 < xs.length) (h1 : xs.length < 100)
    (q : ∀ x ∈ xs, ∀ s, Bg b st s → Q (.int x) s) : Wp (eOp2 dIx (eLst A) (eCB (mCall 2 F_tk) (aCons (eVar i) (aCons (eC (.int m)) aNil))) ρ) st Q := by
  have e1 : eLst A ρ st = some (.ref st.length, st ++ [.lst (xs.map D.int)]) := eLst_at hA (by
    rw [List.length_map]
    exact Nat.le_trans (Nat.le_of_lt h1) (by decide))
  refine wOp2 (Wp.of e1 (takeI_w hv (wC ⟨m, rfl, by omega, by omega, hb.app _, fun k s' k0 k1 hs => ?_⟩)))
  have hne : st.length ≠ b := by have := hb.lt; omega
  have e2 : s'[st.length]? = some (.lst (xs.map D.int)) := hs.keep hne get_app
  obtain ⟨j, rfl⟩ : ∃ j : Nat, k = j := ⟨k.toNat, by omega⟩
  have hj : j < xs.length := by omega
  refine Wp.of (a := .int xs[j]) (st' := s') ?_ (q _ (List.getElem_mem hj) _ ((Bg.new hb _).trans hb.lt hs))
  rw [lst_ix e2, atI_nat (v := .int xs[j]) (by rw [List.getElem?_map, List.getElem?_eq_getElem hj]; rfl)]
  rfl
theorem tkE_w {ρ : Env1} {st : Store} {b : Nat} {Q : D → Store → Prop} (hv : ρ[2]? = some (some (.ref b))) (hb : BagAt b st) (q : ∀ (k : Int) s, 0 ≤ k → k < 2000 → Bg b st s → Q (.int k) s) : Wp (tkE ρ) st Q := by
  refine takeI_w hv (menuI_w [20, 2000] rfl hv hb rfl (by decide) (by decide) fun m hm s hs => ?_)
  have m30 : 0 < m ∧ m ≤ 2000 := by
    simp at hm
    omega
  exact ⟨m, rfl, m30.1, by omega, hs.bag hb.lt, fun k s2 k0 k1 hs2 => q k s2 k0 (by omega) (hs.trans hb.lt hs2)⟩
theorem l4_true (ns : List Int) (h : ns.length ≤ 63) : ∃ st', F_l4 [.scr ns] [] = some (.bl true, st') := by
  have main : Wp (F_l4 [.scr ns]) [] fun d s => d = .bl true := by
    refine wDefX (env := [some (.scr ns), none, none, none, none, none, none, none, none]) rfl ?_
    refine wSeq (bags_w (N := 0) (n := 0) (c := 8) (z := 7) (by decide) (fun k o s hk ho => ?_) (fun ρ s _ _ => wRet (wC ⟨_, rfl, rfl⟩)) [] none _ rfl)
    match o, ho with
    | [o2, o3, o4, o5, o6, o7, o8], _ =>
    obtain ⟨u, hu, eb⟩ := bag_eq ns k hk s
    have hb : BagAt s.length (s ++ [u]) := ⟨u, get_app, hu⟩
    refine wSeq (wSet (Wp.of (call2 (eVar_at rfl) (eVar_at rfl) eb) ?_))
    generalize s ++ [u] = s0 at *
    generalize s.length = b at *
    have ha : ∀ x ∈ [(4 : Int), 30, 100], 0 < x ∧ x ≤ 100 := by simp
    have hd : ∀ x ∈ [(4 : Int), 12, 30], 0 < x ∧ x ≤ 30 := by simp
    refine wSeq (wSet (wCB (wCons (wVar rfl (wCons (wC (wNil (pi_w (most := 7) hb (by decide) (by decide) ha hd (by decide) (by decide) fun p q1 hp hj hq1 => ?_))))))))
    have B1 : Bg b s0 (s0.set b q1) := Bg.set0 hq1
    have hlt := hb.lt
    generalize s0.set b q1 = s1 at *
    obtain ⟨N, M, hB⟩ := hp.base (by decide) (by decide) (by decide)
    obtain ⟨pre, z, rfl⟩ : ∃ pre z, p = pre ++ [z] := by
      have h0 := hp.l0
      exact ⟨p.dropLast, p.getLast (fun e => by subst e; simp at h0), (List.dropLast_concat_getLast _).symm⟩
    have hz : z ∈ pre ++ [z] := by simp
    -- weights
    refine wSeq (wFor (Wp.bnd (wLst (wCons (wC (wCons (wC (wCons (wOp2 (wC (tkE_w (b := b) rfl (B1.bag hlt) fun t s2 t0 t1 hs2 => Wp.of (dAdd_int _) (wNil ⟨by show 3 ≤ sizeLine; decide, ?_⟩))))))))))))
    have B2 : Bg b s0 s2 := B1.trans hlt hs2
    have n1 : (s2 ++ [MO.lst [D.int 1, .int 1000000, .int (1 + t)]])[s2.length]? = some (.lst ([1, 1000000, 1 + t].map D.int)) := get_app
    have B3 := B2.app [MO.lst [D.int 1, .int 1000000, .int (1 + t)]]
    have hne : s2.length ≠ b := by have := (B2.bag hlt).lt; omega
    generalize s2 ++ [MO.lst [D.int 1, .int 1000000, .int (1 + t)]] = s3 at *
    generalize s2.length = m1 at *
    have src : (match s3[m1]? with
      | some (.lst xs) => some ((⟨xs, some m1⟩ : Src), s3)
      | _ => none) = some (⟨[1, 1000000, 1 + t].map D.int, some m1⟩, s3) := by rw [n1]
    refine Wp.of src ?_
    have hall : ∀ w ∈ [1, 1000000, 1 + t], 0 < w ∧ w < (2 : Int) ^ 40 := by
      have x2 : (2 : Int) ^ 40 = 1099511627776 := by decide
      intro w hw
      simp only [List.mem_cons, List.not_mem_nil, or_false] at hw
      omega
    generalize [1, 1000000, 1 + t] = ws at *
    refine wForL (fun xs ρ s' => ∃ (post : List Int) (o4 o5 o6 o7 o8 : Option D), xs = post.map D.int ∧ (∀ w ∈ post, 0 < w ∧ w < (2 : Int) ^ 40) ∧ ρ = [some (.scr ns), some (.int (k : Int)), some (.ref b), some (dPile (pre ++ [z])), o4, o5, o6, o7, o8] ∧ s'[m1]? = some (.lst (ws.map D.int)) ∧ Bg b s0 s') ?_ ?_ ?_ _ _ _ ?_
    · rintro xs ρ s' ⟨_, _, _, _, _, _, _, _, _, hm, _⟩
      exact Src.ok_some hm
    · rintro ρ s' ⟨post, o4, o5, o6, o7, o8, _, _, rfl, hm, B4⟩
      have ta := hB.at_tg hz
      have tr := hB.rgt_tg hz
      have sa := ta.sz hB.n (by decide)
      have sr := tr.sz hB.n (by decide)
      have hzl : z.at_ ≤ z.rgt := by
        have := (hB.hv z hz).2
        have := natCast_pos' this
        unfold Row.rgt
        grind
      have lr := lrg_eq (r := z) s' sa (hB.ok.rows z hz).btl
      refine wSeq (wPar (Wp.of (aCons_at ((eOp2_at (last_ix (eVar_at rfl)) eC_at).trans (rngD_ix s')) (aCons_at (call1E (last_ix (eVar_at rfl)) lr) aNil_at)) ⟨_, _, rfl, ?_⟩))
      show Wp (sFor _ _ bP4 [some (.scr ns), some (.int (k : Int)), some (.ref b), some (dPile (pre ++ [z])), o4, some (fr z.at_), some (fr z.rgt), o7, o8]) s' _
      have bt : ∀ {s'' : Store} {Q : D → Store → Prop}, Bg b s0 s'' → (∀ (t : Rat) (s3 : Store), Tg N 20 t → Bg b s0 s3 → Q (fr t) s3) → Wp (btE [some (.scr ns), some (.int (k : Int)), some (.ref b), some (dPile (pre ++ [z])), o4, some (fr z.at_), some (fr z.rgt), o7, o8]) s'' Q := fun {s''} {Q} B q => by
        refine wCB (wCons (wVar rfl (wCons (wVar rfl (wCons (wVar rfl (wNil ?_)))))))
        exact btw_w (b := b) (lo := z.at_) (hi := z.rgt) (B.bag hlt) (sa.1.mono (by decide)) (sa.2.mono (by decide)) (sr.1.mono (by decide)) (sr.2.mono (by decide)) (den_pos _) (den_pos _) (Rat.num_divInt_den _) (Rat.num_divInt_den _) fun j o hj ho => q _ _ ((ta.mix tr hj).mono (by decide)) (B.trans hlt (Bg.set0 ho))
      refine wFor (Wp.bnd (wLst (wCons (wVar rfl (wCons (wVar rfl (wCons (bt B4 fun t1 s5 ht1 B5 => wCons (bt B5 fun t2 s6 ht2 B6 => wNil ⟨by show 4 ≤ sizeLine; decide, ?_⟩)))))))))
      have n2 : (s6 ++ [MO.lst [fr z.at_, fr z.rgt, fr t1, fr t2]])[s6.length]? = some (.lst (frs [z.at_, z.rgt, t1, t2])) := get_app
      have B7 := B6.app [MO.lst [fr z.at_, fr z.rgt, fr t1, fr t2]]
      generalize s6 ++ [MO.lst [fr z.at_, fr z.rgt, fr t1, fr t2]] = s7 at *
      generalize s6.length = m2 at *
      have src2 : (match s7[m2]? with
        | some (.lst xs) => some ((⟨xs, some m2⟩ : Src), s7)
        | _ => none) = some (⟨frs [z.at_, z.rgt, t1, t2], some m2⟩, s7) := by rw [n2]
      refine Wp.of src2 ?_
      have hall2 : ∀ t ∈ [z.at_, z.rgt, t1, t2], Tg N 20 t := by
        intro t ht
        simp only [List.mem_cons, List.not_mem_nil, or_false] at ht
        rcases ht with rfl | rfl | rfl | rfl
        · exact ta.mono (by decide)
        · exact tr.mono (by decide)
        · exact ht1
        · exact ht2
      generalize [z.at_, z.rgt, t1, t2] = ts at *
      refine wForL (fun xs ρ s'' => ∃ (post : List Rat) (o4 o5 o6 o7 o8 : Option D), xs = frs post ∧ (∀ w ∈ post, Tg N 20 w) ∧ ρ = [some (.scr ns), some (.int (k : Int)), some (.ref b), some (dPile (pre ++ [z])), o4, o5, o6, o7, o8] ∧ s'' = s7) ?_ ?_ ?_ _ _ _ ?_
      · rintro xs ρ s'' ⟨_, _, _, _, _, _, _, _, _, rfl⟩
        exact Src.ok_some n2
      · rintro ρ s'' ⟨post, o4, o5, o6, o7, o8, _, _, rfl, rfl⟩
        exact ⟨[_, _, _, _, _, _, _], rfl, rfl⟩
      · rintro x xs ρ s'' ⟨post, o4, o5, o6, o7, o8, hx, hp2, rfl, rfl⟩
        cases post with
        | nil => cases hx
        | cons t post =>
          injection hx with h1 h2
          subst h1
          subst h2
          refine Wp.ret (Wp.of (p4_ok hB hj (hp2 t (by simp)) (by decide) _ _ _ _ _ _ _ _) ?_)
          exact ⟨post, _, _, _, _, _, rfl, fun w hw => hp2 w (by simp [hw]), rfl, rfl⟩
      · exact ⟨ts, _, _, _, _, _, rfl, hall2, rfl, rfl⟩
    · rintro x xs ρ s' ⟨post, o4, o5, o6, o7, o8, hx, hp2, rfl, hm, B4⟩
      cases post with
      | nil => cases hx
      | cons w post =>
        injection hx with h1 h2
        subst h1
        subst h2
        obtain ⟨w0, w1⟩ := hp2 w (by simp)
        refine Wp.ret (wIf (wNot (wV (wCB (wCons (wVar rfl (wCons (wVar rfl (wCons (wVar rfl (wNil ?_)))))))))))
        refine (ps_w hB w0 w1 (B4.bag hlt)).mono ?_
        rintro d s'' ⟨rfl, B5⟩
        refine ⟨true, rfl, ?_⟩
        rw [if_neg (by decide)]
        exact wNext ⟨post, _, o5, o6, o7, o8, rfl, fun w hw => hp2 w (by simp [hw]), rfl, B5.keep hne hm, B4.trans hlt B5⟩
    · exact ⟨ws, o4, o5, o6, o7, o8, rfl, hall, rfl, n1, B3⟩
  obtain ⟨d, s, e, rfl⟩ := main
  exact ⟨s, e⟩
end Dl
end
set_option linter.all false
set_option autoImplicit false
set_option maxRecDepth 100000
/-! M28: pushes of pushed piles -/
noncomputable section
namespace Dl
open PySem PySem.Spec PyProof.Rows L2
theorem shift_shift (a b : Rat) (q : Pile) : shift b (shift a q) = shift (a + b) q := by
  unfold shift
  rw [List.map_map]
  apply List.map_congr_left
  intro r _
  show (⟨r.name, r.long, r.heavy, r.at_ + a + b⟩ : Row) = ⟨r.name, r.long, r.heavy, r.at_ + (a + b)⟩
  rw [Rat.add_assoc]
theorem push_push {p : Pile} {n : Nat} (hn : n ≤ p.length) (a b : Rat) : push (push p n a) n b = push p n (a + b) := by
  have e1 : (push p n a).take n = p.take n := by
    unfold push
    rw [List.take_append_of_le_length (by rw [List.length_take]; omega), List.take_take, Nat.min_self]
  have e2 := push_drop_hi (t := a) hn (Nat.le_refl n)
  show (push p n a).take n ++ shift b ((push p n a).drop n) = _
  rw [e1, e2, shift_shift]
  rfl
/-- pushed by what it may be pushed by: what is told moves along -/
theorem pb_moved {p : Pile} {N N' n : Nat} (hn : n ≤ p.length) {lo lo' : Option Rat} {hi hi' t : Rat} (P : PB p N n lo hi) (P' : PB (push p n t) N' n lo' hi') :
    hi' = hi - t ∧ ∀ l l', lo = some l → lo' = some l' → l' = l - t := by
  have key : ∀ s, ((∀ l, lo' = some l → l ≤ s) ∧ s ≤ hi') ↔ ((∀ l, lo = some l → l ≤ t + s) ∧ t + s ≤ hi) := fun s => by
    rw [← P'.iff s, ← P.iff (t + s), push_push hn]
  have h1 : hi' ≤ hi - t := by
    have := ((key hi').mp ⟨fun l e => by have := P'.lo0 l e; have := P'.hi0; grind, Rat.le_refl⟩).2
    grind
  have h2 : hi - t ≤ hi' := by
    have := ((key (hi - t)).mpr ⟨fun l e => by have := P.lo0 l e; have := P.hi0; grind, by grind⟩).2
    exact this
  refine ⟨by grind, fun l l' e e' => ?_⟩
  have h3 : l ≤ t + l' := ((key l').mp ⟨fun m e => by rw [e'] at e; cases e; exact Rat.le_refl, by have := P'.lo0 l' e'; have := P'.hi0; grind⟩).1 l e
  have h4 : l' ≤ l - t := ((key (l - t)).mpr ⟨fun m e2 => by rw [e] at e2; cases e2; grind, by have := P.lo0 l e; have := P.hi0; grind⟩).1 l' e'
  grind
/-! the edge -/
theorem edge_ok {p : Pile} (hv : Hv p) (hj : joints p = []) {n : Nat} {b : Row} (hn : n + 1 < p.length) (hb : p[n]? = some b) : joints (push (p.drop (n + 1)) 0 (-b.rgt)) = [] := by
  rw [joints_idx] at hj ⊢
  have hvq := hv.drop (n + 1)
  have hq : ∀ k, (p.drop (n + 1))[k]? = p[n + 1 + k]? := fun k => by rw [List.getElem?_drop]
  intro k s hs
  have hkl : k < (p.drop (n + 1)).length := by
    have := (List.getElem?_eq_some_iff.mp hs).1
    rwa [push_len] at this
  obtain ⟨s0, hs0⟩ : ∃ s, (p.drop (n + 1))[k]? = some s := ⟨_, List.getElem?_eq_getElem hkl⟩
  rw [push_hi (Nat.zero_le _), hs0] at hs
  cases hs
  have hs1 : p[n + 1 + k]? = some s0 := by rw [← hq]; exact hs0
  have J := hj _ _ hs1
  have hd : (p.drop (n + 1)).drop k = p.drop (n + 1 + k) := List.drop_drop
  cases k with
  | zero =>
    unfold JOk at J ⊢
    rw [push_mid_hi hvq hkl (Nat.zero_le _), hd]
    have e : below p (n + 1 + 0) = some b := hb
    rw [e] at J
    have a1 := at_le_low (some b) s0
    have a2 := high_le_rgt (some b) s0
    have a3 : highR (some b) s0 ≤ b.rgt := by
      simp only [highR]; split <;> grind
    obtain ⟨j1, j2⟩ := J
    generalize mid (p.drop (n + 1 + 0)) = m at *
    show s0.at_ + -b.rgt ≤ m + -b.rgt ∧ m + -b.rgt ≤ (if (0 : Rat) < (s0.sh (-b.rgt)).rgt then 0 else (s0.sh (-b.rgt)).rgt)
    rw [sh_rgt]
    constructor
    · grind
    · split <;> grind
  | succ k =>
    refine (push_above hvq hs0 (by omega)).mpr ?_
    unfold JOk at J ⊢
    rw [hd]
    have e : below (p.drop (n + 1)) (k + 1) = below p (n + 1 + (k + 1)) := by
      show (p.drop (n + 1))[k]? = p[n + 1 + k]?
      exact hq k
    rw [e]
    exact J
theorem Base.sub {p : Pile} {N M : Nat} (h : Base p N M) (k : Nat) : Base (p.drop k) N M := ⟨h.ok.drop k, h.n, h.m, fun r hr => h.nm r (List.mem_of_mem_drop hr)⟩
/-! sizes of a few pushes -/
theorem bnd_gd {p : Pile} {N M : Nat} (h : Base p N M) {n k : Nat} (hn : n < p.length) (hk : k < p.length) (w1 : wt (p.drop n) < 2 ^ 8) (w2 : wt (p.drop k) < 2 ^ 8) {e : Rat} (he : Gd N (M + 10000) e) : ∃ c M', 0 < c ∧ c < 2 ^ 20 ∧ M' < (M + 10000) * 2 ^ 25 ∧ Gd (N * c) M' (bnd1 p n k e) := by
  obtain ⟨m1, m2, _⟩ := h.ok.mid_gd (p.drop k) (fun r hr => List.mem_of_mem_drop hr) (by rw [List.length_drop]; have := h.ok.len; omega) (drop_ne hk)
  have v1 := h.wt_drop hn
  have p8 : (2 : Int) ^ 8 = 256 := by decide
  have n20 : (2 : Nat) ^ 20 = 1048576 := by decide
  have n25 : (2 : Nat) ^ 25 = 33554432 := by decide
  obtain ⟨a, ha⟩ : ∃ a : Nat, wt (p.drop k) = a := ⟨(wt (p.drop k)).toNat, by omega⟩
  obtain ⟨c, hc⟩ : ∃ c : Nat, wt (p.drop n) = c := ⟨(wt (p.drop n)).toNat, by omega⟩
  have ha8 : a < 256 := by omega
  have hc8 : c < 256 := by omega
  have ha0 : 0 < a := by omega
  have hc0 : 0 < c := by omega
  have m1 : Gd (N * (2 * a)) (8 * ((M + 10000) * 10000)) (mid (p.drop k)) := by
    rw [← Nat.mul_assoc]
    rw [ha] at m1
    exact m1
  have g := (((he.mulN (2 * a) (by omega)).sub m1).mulI a).divN c hc0
  refine ⟨2 * a * c, (M + 10000 + 8 * ((M + 10000) * 10000)) * a, Nat.mul_pos (by omega) hc0, ?_, ?_, ?_⟩
  · have : 2 * a * c ≤ 2 * 256 * 256 := Nat.mul_le_mul (by omega) (by omega)
    omega
  · rw [n25]
    have : (M + 10000 + 8 * ((M + 10000) * 10000)) * a ≤ (M + 10000 + 8 * ((M + 10000) * 10000)) * 256 := Nat.mul_le_mul_left _ (by omega)
    omega
  · unfold bnd1
    rw [ha, hc, natC, natC]
    rw [Nat.mul_assoc] at g
    exact g
/-- small enough for a few pushes -/
def Sm (N M : Nat) (x : Rat) : Prop := ∃ c M', 0 < c ∧ c < 2 ^ 20 ∧ M' < (M + 10000) * 2 ^ 26 ∧ Gd (N * c) M' x
theorem ends_gd {p : Pile} {N M : Nat} (h : Base p N M) {k : Nat} (hk : k < p.length) : Gd N (M + 10000) (jl p k) ∧ Gd N (M + 10000) (jh p k) := by
  obtain ⟨r, hr⟩ : ∃ r, p[k]? = some r := ⟨_, List.getElem?_eq_getElem hk⟩
  have hm : r ∈ p := List.mem_of_getElem? hr
  have e1 : jl p k = lowR (below p k) r := by unfold jl; rw [hr]
  have e2 : jh p k = highR (below p k) r := by unfold jh; rw [hr]
  have ga : ∀ r ∈ p, Gd N (M + 10000) r.at_ := fun r hr => (h.ok.rows r hr).gd.mono (by omega)
  have gr : ∀ r ∈ p, Gd N (M + 10000) r.rgt := fun r hr => (h.ok.rows r hr).rgt
  rw [e1, e2]
  cases k with
  | zero =>
    refine ⟨ga r hm, ?_⟩
    show Gd N (M + 10000) (if (0 : Rat) < r.rgt then 0 else r.rgt)
    split
    · exact zero_gd h.ok.pos
    · exact gr r hm
  | succ k =>
    obtain ⟨b, hb⟩ : ∃ b, p[k]? = some b := ⟨_, List.getElem?_eq_getElem (by omega)⟩
    have hbm : b ∈ p := List.mem_of_getElem? hb
    rw [show below p (k + 1) = some b from hb]
    simp only [lowR, highR]
    constructor
    · split
      · exact ga b hbm
      · exact ga r hm
    · split
      · exact gr b hbm
      · exact gr r hm
/-- own middle beside an end -/
theorem own_gd {p : Pile} {N M : Nat} (h : Base p N M) {n : Nat} (hn : n < p.length) (w1 : wt (p.drop n) < 2 ^ 8) {e : Rat} (he : Gd N (M + 10000) e) : Sm N M (e - mid (p.drop n)) := by
  obtain ⟨m1, m2, _⟩ := h.ok.mid_gd (p.drop n) (fun r hr => List.mem_of_mem_drop hr) (by rw [List.length_drop]; have := h.ok.len; omega) (drop_ne hn)
  have p8 : (2 : Int) ^ 8 = 256 := by decide
  have n20 : (2 : Nat) ^ 20 = 1048576 := by decide
  have n26 : (2 : Nat) ^ 26 = 67108864 := by decide
  have g := (he.mulN (2 * (wt (p.drop n)).toNat) (by omega)).sub (by rw [← Nat.mul_assoc]; exact m1)
  refine ⟨2 * (wt (p.drop n)).toNat, M + 10000 + 8 * ((M + 10000) * 10000), by omega, by omega, ?_, g⟩
  rw [n26]
  omega
theorem pb_small {p : Pile} {N M n : Nat} (h : Base p N M) (hj : joints p = []) (hn : n < p.length) (hw : ∀ k, k < p.length → wt (p.drop k) < 2 ^ 8) : ∃ lo hi, PB p N n lo hi ∧ Sm N M hi ∧ ∀ l, lo = some l → Sm N M l := by
  obtain ⟨lo, hi, P⟩ := pb_all h hj hn
  refine ⟨lo, hi, P, ?_⟩
  have up : ∀ {x}, (∃ c M', 0 < c ∧ c < 2 ^ 20 ∧ M' < (M + 10000) * 2 ^ 25 ∧ Gd (N * c) M' x) → Sm N M x := fun {x} ⟨c, M', a, b, d, e⟩ => ⟨c, M', a, b, Nat.lt_of_lt_of_le d (Nat.mul_le_mul_left _ (by decide)), e⟩
  cases n with
  | zero =>
    have c1 := P.call []
    rw [show ((0 : Nat) : Int) = 0 from rfl, pb_eq0 h hn []] at c1
    injection c1 with c1
    injection c1 with c1 _
    injection c1 with c1
    injection c1 with c1 c2
    injection c2 with c2 _
    have e : hi = 0 - mid (p.drop 0) := by
      have : -mid p = hi := by
        have h1 : fr (-mid p) = fr hi := c2
        unfold fr at h1
        injection h1 with h1
        injection h1 with h1 h2
        injection h2 with h2 _
        injection h1 with h1
        injection h2 with h2
        exact Rat.ext h1 (by exact_mod_cast h2)
      rw [List.drop_zero, ← this]; grind
    refine ⟨?_, fun l e => ?_⟩
    · rw [e]; exact own_gd h hn (hw 0 hn) (zero_gd h.ok.pos)
    · have := P.none_iff.mpr rfl
      rw [this] at e
      cases e
  | succ n =>
    obtain ⟨b, hb⟩ : ∃ b, p[n]? = some b := ⟨_, List.getElem?_eq_getElem (by omega)⟩
    have hbm : b ∈ p := List.mem_of_getElem? hb
    have ga := (h.ok.rows b hbm).gd.mono (show M ≤ M + 10000 by omega)
    have gr := (h.ok.rows b hbm).rgt
    have i0 := fun t => push_iff (t := t) h.hv hj hn hb
    have i1 := P.iff
    have hlo : lo ≠ none := fun e => by have := P.none_iff.mp e; omega
    obtain ⟨l, rfl⟩ : ∃ l, lo = some l := by
      cases lo with
      | none => exact absurd rfl hlo
      | some l => exact ⟨l, rfl⟩
    have key : ∀ t, (l ≤ t ∧ t ≤ hi) ↔ (low_ p (n + 1) b ≤ t ∧ t ≤ high_ p (n + 1) b) := fun t => by
      rw [← i0 t, i1 t]; simp
    have b0 := (i0 0).mp (by rw [push_zero]; exact hj)
    have l0 := P.lo0 l rfl
    have h0 := P.hi0
    have k1 := (key l).mp ⟨Rat.le_refl, by grind⟩
    have k2 := (key hi).mp ⟨by grind, Rat.le_refl⟩
    have k3 := (key (low_ p (n + 1) b)).mpr ⟨Rat.le_refl, by grind⟩
    have k4 := (key (high_ p (n + 1) b)).mpr ⟨by grind, Rat.le_refl⟩
    have e1 : l = low_ p (n + 1) b := by grind
    have e2 : hi = high_ p (n + 1) b := by grind
    constructor
    · rw [e2]
      rcases List.mem_cons.mp (min_mem (b.rgt - mid (p.drop (n + 1))) (highs p (n + 1))) with e | e
      · unfold high_; rw [e]; exact own_gd h hn (hw _ hn) gr
      · obtain ⟨k, hk, e⟩ := List.mem_map.mp e
        rw [List.mem_range'_1] at hk
        unfold high_; rw [← e]
        exact up (bnd_gd h hn (show k < p.length by omega) (hw _ hn) (hw _ (by omega)) (ends_gd h (by omega)).2)
    · intro m em
      cases em
      rw [e1]
      rcases List.mem_cons.mp (max_mem (b.at_ - mid (p.drop (n + 1))) (lows p (n + 1))) with e | e
      · unfold low_; rw [e]; exact own_gd h hn (hw _ hn) ga
      · obtain ⟨k, hk, e⟩ := List.mem_map.mp e
        rw [List.mem_range'_1] at hk
        unfold low_; rw [← e]
        exact up (bnd_gd h hn (show k < p.length by omega) (hw _ hn) (hw _ (by omega)) (ends_gd h (by omega)).1)
/-- a pile behind so many pushes -/
structure Turn (p : Pile) (t : Nat) : Prop where
  ex : ∃ N M, RowsOk p N M ∧ N < 2 ^ (280 + 20 * t) ∧ M < 2 ^ (280 + 30 * t)
  nm : ∀ r ∈ p, PyData.strOk r.name = true
  hj : joints p = []
  wt : ∀ r ∈ p, r.heavy ≤ 30
  l0 : 0 < p.length
  l1 : p.length ≤ 5
theorem Turn.base {p : Pile} {t : Nat} (h : Turn p t) (ht : t ≤ 4) : ∃ N M, Base p N M ∧ N < 2 ^ (280 + 20 * t) ∧ M < 2 ^ (280 + 30 * t) := by
  obtain ⟨N, M, a, b, c⟩ := h.ex
  exact ⟨N, M, ⟨a, pow_up b (by omega), pow_up c (by omega), h.nm⟩, b, c⟩
theorem wt_le (q : Pile) (h : ∀ r ∈ q, r.heavy ≤ 30) : wt q ≤ 30 * q.length := by
  induction q with
  | nil => exact Int.le_refl 0
  | cons r q ih =>
    rw [wt_cons]
    have := ih fun x hx => h x (by simp [hx])
    have := h r (by simp)
    simp only [List.length_cons]
    omega
theorem Turn.wts {p : Pile} {t : Nat} (h : Turn p t) (k : Nat) : Dl.wt (p.drop k) < 2 ^ 8 := by
  have h1 := wt_le (p.drop k) fun r hr => h.wt r (List.mem_of_mem_drop hr)
  have h2 := h.l1
  rw [List.length_drop] at h1
  have : (2 : Int) ^ 8 = 256 := by decide
  omega
theorem Turn.push {p : Pile} {t N M : Nat} (h : Turn p t) (ht : t ≤ 3) (hB : Base p N M) (hN : N < 2 ^ (280 + 20 * t)) (hM : M < 2 ^ (280 + 30 * t)) (n : Nat) {x : Rat} (hx : Sm N M x) (hj : joints (Dl.push p n x) = []) : Turn (Dl.push p n x) (t + 1) := by
  obtain ⟨c, M', c0, c1, c2, g⟩ := hx
  have hrow : ∀ r ∈ Dl.push p n x, RowOk (N * c) (M + M') r ∧ PyData.strOk r.name = true ∧ r.heavy ≤ 30 := by
    intro r hr
    rcases List.mem_append.mp hr with hr | hr
    · have hm := List.mem_of_mem_take hr
      exact ⟨(hB.ok.rows r hm).up c c0 (by omega), h.nm r hm, h.wt r hm⟩
    · obtain ⟨y, hy, rfl⟩ := List.mem_map.mp hr
      have hm := List.mem_of_mem_drop hy
      have ro := hB.ok.rows y hm
      exact ⟨⟨ro.l0, ro.l1, ro.h0, ro.h1, (ro.gd.mulN c c0).add g⟩, h.nm y hm, h.wt y hm⟩
  have n1 : N * c < 2 ^ (280 + 20 * (t + 1)) := by
    rw [show 280 + 20 * (t + 1) = (280 + 20 * t) + 20 by omega, Nat.pow_add]
    exact Nat.mul_lt_mul'' hN c1
  have m1 : M + M' < 2 ^ (280 + 30 * (t + 1)) := by
    rw [show 280 + 30 * (t + 1) = (280 + 30 * t) + 30 by omega, Nat.pow_add]
    have e3 : (2 : Nat) ^ 20 ≤ 2 ^ (280 + 30 * t) := Nat.pow_le_pow_right (by decide) (by omega)
    rw [show (2 : Nat) ^ 20 = 1048576 by decide] at e3
    rw [show (2 : Nat) ^ 30 = 1073741824 by decide]
    rw [show (2 : Nat) ^ 26 = 67108864 by decide] at c2
    generalize (2 : Nat) ^ (280 + 30 * t) = A at *
    omega
  refine ⟨⟨N * c, M + M', ⟨pow_up n1 (by omega), pow_up m1 (by omega), fun r hr => (hrow r hr).1, by rw [push_len]; exact hB.ok.len, Nat.mul_pos hB.ok.pos c0⟩, n1, m1⟩, fun r hr => (hrow r hr).2.1, hj, fun r hr => (hrow r hr).2.2, by rw [push_len]; exact h.l0, by rw [push_len]; exact h.l1⟩
end Dl
end
set_option linter.all false
set_option autoImplicit false
set_option maxRecDepth 100000
/-! M29: law k10 -/
noncomputable section
namespace Dl
open PySem PySem.Spec PyProof.Rows L2
def b_of : Sx := (sRet (eOp2 dIx (eVar 1) (eCB (mCall 2 F_tk) (aCons (eVar 0) (aCons (eCB bLen (aCons (eVar 1) aNil)) aNil)))))
def F_of : List D → M D := gcF (defX 2 b_of)
theorem of_w {st : Store} {b n : Nat} {qs : List Rat} {Q : D → Store → Prop} (hb : BagAt b st) (hn : st[n]? = some (.lst (frs qs))) (hnb : n ≠ b) (h0 : 0 < qs.length) (h1 : qs.length < 100) (q : ∀ x ∈ qs, ∀ o, IsBag o → Q (fr x) (st.set b o)) : Wp (F_of [.ref b, .ref n]) st Q := by
  refine wGcF (b := b) (wDefX rfl (wRet (wOp2 (wVar rfl (takeI_w rfl (wCB (wCons (wVar rfl (wNil (Wp.of (a := .int (qs.length : Int)) (st' := st) ?_ ?_))))))))))
  · show (match st[n]? with
      | some (.lst xs) => some (D.int xs.length, st)
      | some (.dk kvs) => some (D.int kvs.length, st)
      | _ => none) = _
    rw [hn]; simp [frs]
  · refine ⟨_, rfl, by omega, by omega, hb, fun k s k0 k1 hs => ?_⟩
    obtain ⟨j, rfl⟩ : ∃ j : Nat, k = j := ⟨k.toNat, by omega⟩
    have hj : j < qs.length := by omega
    have hn2 := hs.keep hnb hn
    refine Wp.of (a := fr qs[j]) (st' := s) ?_ ⟨_, rfl, fr_low _ _, hs, fun o ho => q _ (List.getElem_mem hj) o ho⟩
    rw [lst_ix hn2, atI_nat (v := fr qs[j]) (by unfold frs; rw [List.getElem?_map, List.getElem?_eq_getElem hj]; rfl)]
    rfl
def b_ed : Sx := (sSeq (sAsg (eCB (mCall 1 F_lrg) (aCons (eOp2 dIx (eVar 0) (eOp2 dSub (eVar 1) (eC (.int 1)))) aNil)) (xName 2))
  (sRet (eCB (mCall 3 F_pu) (aCons (eSl (eVar 0) (oSome (eVar 1)) oNone) (aCons (eC (.int 0)) (aCons (eTup (aCons (eOp1 dNeg (eOp2 dIx (eVar 2) (eC (.int 0)))) (aCons (eOp2 dIx (eVar 2) (eC (.int 1))) aNil))) aNil))))))
def F_ed : List D → M D := gcF (defX 3 b_ed)
theorem fr_neg (q : Rat) : D.tup [.int (-q.num), .int q.den] = fr (-q) := by
  unfold fr
  rw [Rat.neg_num, Rat.neg_den]
theorem negE_at {i : Nat} {q : Rat} {ρ : Env1} {st : Store} (h : ρ[i]? = some (some (fr q))) : eTup (aCons (eOp1 dNeg (eOp2 dIx (eVar i) (eC (.int 0)))) (aCons (eOp2 dIx (eVar i) (eC (.int 1))) aNil)) ρ st = some (fr (-q), st) := by
  obtain ⟨y0, y1⟩ := fr_ix q st
  rw [eTup_at (aCons_at (eNeg_at ((eOp2_at (eVar_at h) eC_at).trans y0)) (aCons_at ((eOp2_at (eVar_at h) eC_at).trans y1) aNil_at)) two_le, fr_neg]
theorem ed_eq {p : Pile} {N M n : Nat} {b : Row} (h : Base p N M) (hn : n + 1 < p.length) (hb : p[n]? = some b) (st : Store) : F_ed [dPile p, .int ((n + 1 : Nat) : Int)] st = some (dPile (push (p.drop (n + 1)) 0 (-b.rgt)), st) := by
  have hbm : b ∈ p := List.mem_of_getElem? hb
  have lr := lrg_eq (r := b) st ((h.at_tg hbm).sz h.n (by decide)) (h.ok.rows b hbm).btl
  have ix : dIx (dPile p) (.int (((n + 1 : Nat) : Int) - 1)) st = some (dRow b, st) := by
    rw [show (((n + 1 : Nat) : Int) - 1) = (n : Int) by omega]; exact dPile_ix hb st
  have pu := pu_eq (p := p.drop (n + 1)) (n := 0) (t := -b.rgt) (h.sub (n + 1)).ok.len (fun r hr => ((h.sub (n + 1)).at_tg hr).sz h.n (by decide)) ((h.rgt_tg hbm).neg.sz h.n (by decide)) st
  refine gcF_eq0 (defX_rt (env := [some (dPile p), some (.int ((n + 1 : Nat) : Int)), none]) rfl ?_) (dRows_lows _)
  unfold b_ed
  refine (sSeq_at (sSet_at (call1E ((eOp2_at (eVar_at rfl) ((eOp2_at (eVar_at rfl) eC_at).trans (dSub_int st))).trans ix) lr))).trans ?_
  exact sRet_at (call3 (sl_drop st rfl rfl) eC_at (negE_at rfl) pu)
/-! ### one push -/
def plE (i j : Nat) : Ev := (eCB (mCall 2 F_pl) (aCons (eVar i) (aCons (eTup (aCons (eOp1 dNeg (eOp2 dIx (eVar j) (eC (.int 0)))) (aCons (eOp2 dIx (eVar j) (eC (.int 1))) aNil))) aNil)))
def bT10 : Sx := (sSeq (sAsg (eCB (mCall 2 F_tk) (aCons (eVar 2) (aCons (eCB bLen (aCons (eVar 3) aNil)) aNil))) (xName 5))
  (sSeq (sAsg (eCB (mCall 2 F_pb) (aCons (eVar 3) (aCons (eVar 5) aNil))) (xTup 2 (xCons (xName 6) (xCons (xName 7) xNil))))
  (sSeq (sIf (tV (eOp1 (dIsN false) (eVar 6))) (sAsg (eCB (mCall 2 F_pl) (aCons (eVar 7) (aCons (eTup (aCons (eOp1 dNeg (eC (.int 5))) (aCons (eC (.int 1)) aNil))) aNil))) (xName 6)) sNext)
  (sSeq (sAsg (eCB (mCall 2 F_of) (aCons (eVar 2) (aCons (eLst (aCons (eVar 6) (aCons (eVar 7) (aCons (eTup (aCons (eC (.int 0)) (aCons (eC (.int 1)) aNil))) aNil)))) aNil))) (xName 8))
  (sSeq (sAsg (eCB (mCall 3 F_pu) (aCons (eVar 3) (aCons (eVar 5) (aCons (eVar 8) aNil)))) (xName 3))
  (sSeq (sIf (tOrD (tNotD (tV (eCB (mCall 1 F_sds) (aCons (eVar 3) aNil)))) (tV (eOp2 dNe (eCB (mCall 1 F_jo) (aCons (eVar 3) aNil)) (eLst aNil)))) (sRet (eC (.bl false))) sNext)
  (sSeq (sAsg (eCB (mCall 2 F_pb) (aCons (eVar 3) (aCons (eVar 5) aNil))) (xTup 2 (xCons (xName 9) (xCons (xName 10) xNil))))
  (sSeq (sIf (tV (eOp2 dNe (eVar 10) (plE 7 8))) (sRet (eC (.bl false))) sNext)
  (sIf (tAndD (tV (eOp2 dGt (eVar 5) (eC (.int 0)))) (tV (eOp2 dNe (eVar 9) (plE 6 8)))) (sRet (eC (.bl false))) sNext)))))))))
theorem Sm.sz {N M : Nat} {x : Rat} (h : Sm N M x) (hN : N < 2 ^ 400) (hM : M < 2 ^ 400) : Sz x := by
  obtain ⟨c, M', c0, c1, c2, g⟩ := h
  refine g.sz 420 500 ?_ ?_ (by decide)
  · have e : (2 : Nat) ^ 420 = 2 ^ 400 * 2 ^ 20 := by rw [← Nat.pow_add]
    rw [e]
    exact Nat.mul_lt_mul'' hN c1
  · refine Nat.lt_trans c2 ?_
    have e : (2 : Nat) ^ 500 = 2 ^ 400 * 2 ^ 100 := by rw [← Nat.pow_add]
    have e3 : (2 : Nat) ^ 20 ≤ 2 ^ 400 := Nat.pow_le_pow_right (by decide) (by decide)
    have e4 : (2 : Nat) ^ 30 ≤ 2 ^ 100 := Nat.pow_le_pow_right (by decide) (by decide)
    rw [e]
    refine Nat.lt_of_lt_of_le ?_ (Nat.mul_le_mul_left _ e4)
    rw [show (2 : Nat) ^ 20 = 1048576 by decide] at e3
    rw [show (2 : Nat) ^ 30 = 1073741824 by decide, show (2 : Nat) ^ 26 = 67108864 by decide]
    generalize (2 : Nat) ^ 400 = A at *
    omega
theorem zero_sm {N M : Nat} (h : 0 < N) : Sm N M 0 := ⟨1, 0, by decide, by decide, Nat.mul_pos (by omega) (by decide), by rw [Nat.mul_one]; exact zero_gd h⟩
theorem jo_test {E : Ev} {P : Pile} {ρ : Env1} {st : Store} (hP : Good P) (hj : joints P = []) (hE : E ρ st = some (dPile P, st)) : tV (eOp2 dNe (eCB (mCall 1 F_jo) (aCons E aNil)) (eLst aNil)) ρ st = some (false, st ++ [.lst (dJs (joints P))] ++ [.lst []]) := by
  obtain ⟨N, M, H⟩ := hP.ok
  refine tV_at ?_
  rw [eOp2_at (call1E hE (jo_eq H st)) (eLst_at aNil_at (by decide))]
  refine (nil_eq true (xs := dJs (joints P)) _ (by rw [List.append_assoc]; exact get_app) get_app (dJs_plain (jn_ok P 0 none)) (dJs_dep _)).trans ?_
  rw [hj]; rfl
theorem fr_ne (q : Rat) (st : Store) : dNe (fr q) (fr q) st = some (.bl false, st) := plain_eq true st rfl rfl (by show 1 ≤ 64; decide)
theorem t10_ok {p : Pile} {t : Nat} (h : Turn p t) (ht : t ≤ 3) {b : Nat} {s : Store} (hb : BagAt b s) (x0 x1 o4 o5 o6 o7 o8 o9 o10 o11 o12 o13 : Option D) :
    Wp (bT10 [x0, x1, some (.ref b), some (dPile p), o4, o5, o6, o7, o8, o9, o10, o11, o12, o13]) s fun f s' => ∃ p' o5 o6 o7 o8 o9 o10, f = .nx [x0, x1, some (.ref b), some (dPile p'), o4, o5, o6, o7, o8, o9, o10, o11, o12, o13] ∧ Turn p' (t + 1) ∧ Bg b s s' := by
  have hlt := hb.lt
  obtain ⟨N, M, hB, hN, hM⟩ := h.base (by omega)
  have hpl := h.l0
  have hpl1 := h.l1
  have hNp := hB.ok.pos
  -- the number
  have eL : ∀ (s : Store), eCB bLen (aCons (eVar 3) aNil) [x0, x1, some (.ref b), some (dPile p), o4, o5, o6, o7, o8, o9, o10, o11, o12, o13] s = some (.int (p.length : Int), s) := fun s => by
    rw [eCB_at (aCons_at (eVar_at rfl) aNil_at)]
    show some (D.int (dRows p).length, s) = _
    rw [dRows_len]
  refine wSeq (wSet (takeI_w rfl (Wp.of (eL s) ⟨_, rfl, by omega, by omega, hb, fun n s1 n0 n1 B1 => ?_⟩)))
  obtain ⟨n, rfl⟩ : ∃ j : Nat, n = j := ⟨n.toNat, by omega⟩
  have hn : n < p.length := by omega
  obtain ⟨lo, hi, P, shi, slo⟩ := pb_small hB h.hj hn fun k _ => h.wts k
  have zhi := shi.sz hB.n hB.m
  refine wSeq (Wp.of (a := .nx [x0, x1, some (.ref b), some (dPile p), o4, some (.int (n : Int)), some (dOR lo), some (fr hi), o8, o9, o10, o11, o12, o13]) (st' := s1) (sAsg_at (call2 (eVar_at rfl) (eVar_at rfl) (P.call s1)) rfl) ?_)
  -- a lower end
  obtain ⟨l, e6, sl, hl, hlo⟩ : ∃ l, sIf (tV (eOp1 (dIsN false) (eVar 6))) (sAsg (eCB (mCall 2 F_pl) (aCons (eVar 7) (aCons (eTup (aCons (eOp1 dNeg (eC (.int 5))) (aCons (eC (.int 1)) aNil))) aNil))) (xName 6)) sNext [x0, x1, some (.ref b), some (dPile p), o4, some (.int (n : Int)), some (dOR lo), some (fr hi), o8, o9, o10, o11, o12, o13] s1 = some (.nx [x0, x1, some (.ref b), some (dPile p), o4, some (.int (n : Int)), some (fr l), some (fr hi), o8, o9, o10, o11, o12, o13], s1) ∧ Sm N M l ∧ joints (push p n l) = [] ∧ (n ≠ 0 → lo = some l) := by
    cases lo with
    | none =>
      have n0' := P.none_iff.mp rfl
      have pl := pl_eq2 (p := hi) (q := ((-5 : Int) : Rat)) (c := -5) (d := 1) s1 zhi (Bt.mono (m := 4) (by unfold Bt; decide) (by decide)) bt_one (by decide) (divInt_one _)
      refine ⟨hi + ((-5 : Int) : Rat), ?_, ?_, ?_, fun e => absurd n0' e⟩
      · rw [sIf_at (k := true) (st1 := s1) rfl, if_pos rfl]
        exact sSet_at (call2 (eVar_at rfl) (eTup_at (aCons_at (eNeg_at eC_at) (aCons_at eC_at aNil_at)) two_le) pl)
      · subst n0'
        -- the ground's own middle, five more
        obtain ⟨m1, m2, _⟩ := hB.ok.mid_gd (p.drop 0) (fun r hr => List.mem_of_mem_drop hr) (by rw [List.length_drop]; omega) (drop_ne hn)
        have e0 : hi = -mid p := by
          have i0 := fun t => push_iff0 (t := t) hB.hv h.hj hn
          have k1 := ((P.iff hi).mpr ⟨fun l e => (by cases e), Rat.le_refl⟩)
          have k2 := ((P.iff (-mid p)).mp ((i0 _).mpr Rat.le_refl)).2
          have k3 := (i0 hi).mp k1
          grind
        have w := h.wts 0
        rw [List.drop_zero] at m1 m2 w
        have p8 : (2 : Int) ^ 8 = 256 := by decide
        have n20 : (2 : Nat) ^ 20 = 1048576 := by decide
        have n26 : (2 : Nat) ^ 26 = 67108864 := by decide
        have g5 : Gd (N * 2 * (wt p).toNat) 5 ((-5 : Int) : Rat) := Gd.int' m1.pos (by decide)
        refine ⟨2 * (wt p).toNat, 8 * ((M + 10000) * 10000) + 5, by omega, by omega, by rw [n26]; omega, ?_⟩
        rw [← Nat.mul_assoc, e0]
        exact m1.neg.add g5
      · rw [P.iff]
        refine ⟨fun l e => (by cases e), ?_⟩
        have : ((-5 : Int) : Rat) ≤ 0 := Rat.intCast_le_intCast.mpr (show (-5 : Int) ≤ 0 by decide)
        grind
    | some l =>
      refine ⟨l, ?_, slo l rfl, ?_, fun _ => rfl⟩
      · rw [sIf_at (k := false) (st1 := s1) rfl, if_neg (by decide)]; rfl
      · rw [P.iff]
        exact ⟨fun m e => (by cases e; exact Rat.le_refl), by have := P.lo0 l rfl; have := P.hi0; grind⟩
  refine wSeq (Wp.of e6 ?_)
  -- one of three
  have hhi : joints (push p n hi) = [] := (P.iff hi).mpr ⟨fun l e => by have := P.lo0 l e; have := P.hi0; grind, Rat.le_refl⟩
  have e0' : ∀ s : Store, eTup (aCons (eC (.int 0)) (aCons (eC (.int 1)) aNil)) [x0, x1, some (.ref b), some (dPile p), o4, some (.int (n : Int)), some (fr l), some (fr hi), o8, o9, o10, o11, o12, o13] s = some (fr 0, s) := fun s => e0_at
  have eLs : eLst (aCons (eVar 6) (aCons (eVar 7) (aCons (eTup (aCons (eC (.int 0)) (aCons (eC (.int 1)) aNil))) aNil))) [x0, x1, some (.ref b), some (dPile p), o4, some (.int (n : Int)), some (fr l), some (fr hi), o8, o9, o10, o11, o12, o13] s1 = some (.ref s1.length, s1 ++ [.lst (frs [l, hi, 0])]) :=
    eLst_at (aCons_at (eVar_at rfl) (aCons_at (eVar_at rfl) (aCons_at (e0' s1) aNil_at))) (by show 3 ≤ sizeLine; decide)
  have B2 := B1.app [MO.lst (frs [l, hi, 0])]
  refine wSeq (wSet (wCB (wCons (wVar rfl (wCons (Wp.of eLs (wNil (of_w (qs := [l, hi, 0]) (B2.bag hlt) get_app (by have := (B1.bag hlt).lt; omega) (by show 0 < 3; decide) (by show 3 < 100; decide) fun x hx o ho => ?_))))))))
  have B3 := B2.trans hlt (Bg.set0 ho)
  generalize (s1 ++ [MO.lst (frs [l, hi, 0])]).set b o = s2 at *
  have hx3 : Sm N M x ∧ joints (push p n x) = [] := by
    simp only [List.mem_cons, List.not_mem_nil, or_false] at hx
    rcases hx with rfl | rfl | rfl
    · exact ⟨sl, hl⟩
    · exact ⟨shi, hhi⟩
    · exact ⟨zero_sm hNp, by rw [push_zero]; exact h.hj⟩
  have T := h.push ht hB hN hM n hx3.1 hx3.2
  obtain ⟨N', M', hB', _, _⟩ := T.base (by omega)
  have zx := hx3.1.sz hB.n hB.m
  have zl := sl.sz hB.n hB.m
  have pu := pu_eq (n := n) hB.ok.len (fun r hr => (hB.at_tg hr).sz hB.n (by decide)) zx s2
  refine wSeq (wSet (Wp.of (call3 (eVar_at rfl) (eVar_at rfl) (eVar_at rfl) pu) ?_))
  generalize hp' : push p n x = p' at *
  show Wp (sSeq _ _ [x0, x1, some (.ref b), some (dPile p'), o4, some (.int (n : Int)), some (fr l), some (fr hi), some (fr x), o9, o10, o11, o12, o13]) s2 _
  -- it stands
  have c1 := tV_at (call1 (i := 3) (ρ := [x0, x1, some (.ref b), some (dPile p'), o4, some (.int (n : Int)), some (fr l), some (fr hi), some (fr x), o9, o10, o11, o12, o13]) rfl (sds_eq hB'.good s2))
  rw [T.hj] at c1
  have c2 := jo_test (E := eVar 3) (ρ := [x0, x1, some (.ref b), some (dPile p'), o4, some (.int (n : Int)), some (fr l), some (fr hi), some (fr x), o9, o10, o11, o12, o13]) (st := s2) hB'.good T.hj (eVar_at rfl)
  refine wSeq (Wp.of (a := .nx [x0, x1, some (.ref b), some (dPile p'), o4, some (.int (n : Int)), some (fr l), some (fr hi), some (fr x), o9, o10, o11, o12, o13]) (st' := s2 ++ [.lst (dJs (joints p'))] ++ [.lst []]) (by
    rw [sIf_at (k := false) (by rw [tOrD_at (tNotD_at c1), if_neg (by decide), c2])]; rfl) ?_)
  have B4 := (B3.app [.lst (dJs (joints p'))]).app [.lst []]
  generalize s2 ++ [.lst (dJs (joints p'))] ++ [.lst []] = s3 at *
  -- what is told then
  obtain ⟨lo', hi', P'⟩ := pb_all (n := n) hB' T.hj (by rw [← hp', push_len]; exact hn)
  rw [← hp'] at P'
  obtain ⟨m1, m2⟩ := pb_moved (Nat.le_of_lt hn) P P'
  have P'c := P'.call s3
  rw [hp'] at P'c
  refine wSeq (Wp.of (a := .nx [x0, x1, some (.ref b), some (dPile p'), o4, some (.int (n : Int)), some (fr l), some (fr hi), some (fr x), some (dOR lo'), some (fr hi'), o11, o12, o13]) (st' := s3) (sAsg_at (call2 (eVar_at rfl) (eVar_at rfl) P'c) rfl) ?_)
  have znx : Sz (-x) := by
    constructor
    · rw [Rat.neg_num]; exact zx.1.neg
    · rw [Rat.neg_den]; exact zx.2
  have pl1 := pl_eq s3 zhi znx
  have pl2 := pl_eq s3 zl znx
  rw [← Rat.sub_eq_add_neg, ← m1] at pl1
  have d1 : tV (eOp2 dNe (eVar 10) (plE 7 8)) [x0, x1, some (.ref b), some (dPile p'), o4, some (.int (n : Int)), some (fr l), some (fr hi), some (fr x), some (dOR lo'), some (fr hi'), o11, o12, o13] s3 = some (false, s3) :=
    tV_at ((eOp2_at (eVar_at rfl) (call2 (eVar_at rfl) (negE_at rfl) pl1)).trans (fr_ne _ _))
  refine wSeq (Wp.of (a := .nx [x0, x1, some (.ref b), some (dPile p'), o4, some (.int (n : Int)), some (fr l), some (fr hi), some (fr x), some (dOR lo'), some (fr hi'), o11, o12, o13]) (st' := s3) (by rw [sIf_at d1]; rfl) ?_)
  have g0 : tV (eOp2 dGt (eVar 5) (eC (.int 0))) [x0, x1, some (.ref b), some (dPile p'), o4, some (.int (n : Int)), some (fr l), some (fr hi), some (fr x), some (dOR lo'), some (fr hi'), o11, o12, o13] s3 = some (decide ((0 : Int) < n), s3) := tV_at ((eOp2_at (eVar_at rfl) eC_at).trans (dGt_int s3))
  have g1 : tAndD (tV (eOp2 dGt (eVar 5) (eC (.int 0)))) (tV (eOp2 dNe (eVar 9) (plE 6 8))) [x0, x1, some (.ref b), some (dPile p'), o4, some (.int (n : Int)), some (fr l), some (fr hi), some (fr x), some (dOR lo'), some (fr hi'), o11, o12, o13] s3 = some (false, s3) := by
    rw [tAndD_at g0]
    by_cases hn0 : (0 : Int) < n
    · rw [decide_eq_true hn0, if_pos rfl]
      have elo := hlo (by omega)
      cases lo' with
      | none => have := P'.none_iff.mp rfl; omega
      | some l' =>
        have := m2 l l' elo rfl
        rw [← Rat.sub_eq_add_neg, ← this] at pl2
        exact tV_at ((eOp2_at (eVar_at rfl) (call2 (eVar_at rfl) (negE_at rfl) pl2)).trans (fr_ne _ _))
    · rw [decide_eq_false hn0]; rfl
  refine Wp.of (a := .nx [x0, x1, some (.ref b), some (dPile p'), o4, some (.int (n : Int)), some (fr l), some (fr hi), some (fr x), some (dOR lo'), some (fr hi'), o11, o12, o13]) (st' := s3) (by rw [sIf_at g1]; rfl) ?_
  exact ⟨p', _, _, _, _, _, _, rfl, T, B4⟩
end Dl
end
set_option linter.all false
set_option autoImplicit false
set_option maxRecDepth 100000
/-! M30: law k10 whole -/
noncomputable section
namespace Dl
open PySem PySem.Spec PyProof.Rows L2
def bEd : Sx := (sIf (tNotD (tV (eCB (mCall 1 F_sds) (aCons (eCB (mCall 2 F_ed) (aCons (eVar 3) (aCons (eVar 5) aNil))) aNil)))) (sRet (eC (.bl false))) sNext)
def brE : Ev := (eCB (mCall 2 F_br) (aCons (eVar 3) (aCons (eVar 13) aNil)))
def bPl : Sx := (sIf (tAndD (tV (eOp1 (dIsN true) brE)) (tV (eOp2 dLt brE (eVar 11)))) (sRet (eC (.bl false))) sNext)
def bK10 : Sx := (sSeq (sAsg (eCB (mCall 2 F_bag) (aCons (eVar 0) (aCons (eVar 1) aNil))) (xName 2))
  (sSeq (sAsg (eCB (mCall 2 (F_pi 4 30 100 4 12 30)) (aCons (eVar 2) (aCons (eC (.int 5)) aNil))) (xName 3))
  (sSeq (sFor (iR1 (aCons (eC (.int 4)) aNil)) (xName 4) bT10)
  (sSeq (sFor (iR2 (aCons (eC (.int 1)) (aCons (eCB bLen (aCons (eVar 3) aNil)) aNil))) (xName 5) bEd)
  (sSeq (sAsg (eOp2 dAdd (eC (.int 1)) (eCB (mCall 2 F_tk) (aCons (eVar 2) (aCons (eC (.int 50)) aNil)))) (xName 11))
  (sSeq (sAsg (eCB (mCall 2 F_pf) (aCons (eVar 3) (aCons (eVar 11) aNil))) (xName 12))
  (sIf (tV (eOp1 (dIsN true) (eVar 12))) (sFor (iSeq (eVar 12)) (xName 13) bPl) sNext)))))))
def b_l10 : Sx := (sSeq (sFor (iR1 (aCons (eOp2 dAdd (eC (.int 1)) (eCB bMin2 (aCons (eCB bLen (aCons (eVar 0) aNil)) (aCons (eC (.int 8)) aNil)))) aNil)) (xName 1) bK10)
  (sRet (eC (.bl true))))
def F_l10 : List D → M D := defX 14 b_l10
theorem rng2_at {A : Ea} {ρ : Env1} {st : Store} {n : Nat} (ha : A ρ st = some ([.int 1, .int (n : Int)], st)) (hn : n < 2 ^ 60) : iR2 A ρ st = some (⟨rgs 1 (n - 1), none⟩, st) := by
  have h1 : (2 : Nat) ^ 60 = 1152921504606846976 := by decide
  simp only [iR2, Dl.M.bnd, ha]
  rw [if_pos (by omega)]
  show some ((⟨rngD 1 ((n : Int) - 1).toNat, none⟩ : Src), st) = _
  rw [show (1 : Int) = ((1 : Nat) : Int) from rfl, rngD_rgs, show ((n : Int) - ((1 : Nat) : Int)).toNat = n - 1 by omega]
theorem PileOk.turn {p : Pile} (h : PileOk 280 100 30 5 p) (hj : joints p = []) : Turn p 0 := by
  obtain ⟨N, M, h1, h2, h3⟩ := h.rowsOk (by decide) (by decide) (by decide) (by decide)
  exact ⟨⟨N, M, h1, h2, h3⟩, h.nmOk, hj, fun r hr => (h.small r hr).2.2.2, h.l0, h.l1⟩
theorem ed_turn {p : Pile} {t n : Nat} (h : Turn p t) (ht : t ≤ 4) (hn : n + 1 < p.length) (x0 x1 x2 o4 o6 o7 o8 o9 o10 o11 o12 o13 : Option D) (s : Store) :
    bEd [x0, x1, x2, some (dPile p), o4, some (.int ((n + 1 : Nat) : Int)), o6, o7, o8, o9, o10, o11, o12, o13] s = some (.nx [x0, x1, x2, some (dPile p), o4, some (.int ((n + 1 : Nat) : Int)), o6, o7, o8, o9, o10, o11, o12, o13], s) := by
  obtain ⟨N, M, hB, _, _⟩ := h.base ht
  obtain ⟨b, hb⟩ : ∃ b, p[n]? = some b := ⟨_, List.getElem?_eq_getElem (by omega)⟩
  have hbm : b ∈ p := List.mem_of_getElem? hb
  have ed := ed_eq hB hn hb s
  have g : Good (push (p.drop (n + 1)) 0 (-b.rgt)) := (hB.sub (n + 1)).push 0 (hB.rgt_tg hbm).neg (by decide)
  have c := tV_at (call1E (E := eCB (mCall 2 F_ed) (aCons (eVar 3) (aCons (eVar 5) aNil))) (ρ := [x0, x1, x2, some (dPile p), o4, some (.int ((n + 1 : Nat) : Int)), o6, o7, o8, o9, o10, o11, o12, o13]) (call2 (eVar_at rfl) (eVar_at rfl) ed) (sds_eq g s))
  rw [edge_ok hB.hv h.hj hn hb] at c
  unfold bEd
  rw [sIf_at (tNotD_at c)]; rfl
theorem pl_turn {p : Pile} {N M a : Nat} (h : Base p N M) (hj : joints p = []) {W : Int} (hW : 0 < W) {x : Rat} (tx : Tg N a x) (ha : a ≤ 200) (hw : WOk p W x) (x0 x1 x2 o4 o5 o6 o7 o8 o9 o10 o12 : Option D) (s : Store) :
    bPl [x0, x1, x2, some (dPile p), o4, o5, o6, o7, o8, o9, o10, some (.int W), o12, some (fr x)] s = some (.nx [x0, x1, x2, some (dPile p), o4, o5, o6, o7, o8, o9, o10, some (.int W), o12, some (fr x)], s) := by
  have br : brE [x0, x1, x2, some (dPile p), o4, o5, o6, o7, o8, o9, o10, some (.int W), o12, some (fr x)] s = some (dOI (tellW p x), s) := call2 (eVar_at rfl) (eVar_at rfl) (br_eq h tx (by omega) s)
  have ti := (tell_iff (x := x) h.hv hj hW).mp hw
  have c : tAndD (tV (eOp1 (dIsN true) brE)) (tV (eOp2 dLt brE (eVar 11))) [x0, x1, x2, some (dPile p), o4, o5, o6, o7, o8, o9, o10, some (.int W), o12, some (fr x)] s = some (false, s) := by
    cases hB : tellW p x with
    | none =>
      rw [hB] at br
      rw [tAndD_at (c := false) (tV_at ((eOp1_at br).trans rfl))]; rfl
    | some B =>
      rw [hB] at br ti
      have := ti B rfl
      rw [tAndD_at (c := true) (tV_at ((eOp1_at br).trans rfl)), if_pos rfl]
      refine tV_at ((eOp2_at br (eVar_at rfl)).trans ?_)
      show dLt (.int B) (.int W) s = _
      rw [dLt_int, decide_eq_false (by omega)]
  unfold bPl
  rw [sIf_at c]; rfl
theorem l10_true (ns : List Int) (h : ns.length ≤ 63) : ∃ st', F_l10 [.scr ns] [] = some (.bl true, st') := by
  have main : Wp (F_l10 [.scr ns]) [] fun d s => d = .bl true := by
    refine wDefX (env := [some (.scr ns), none, none, none, none, none, none, none, none, none, none, none, none, none]) rfl ?_
    refine wSeq (bags_w (N := 0) (n := 0) (c := 8) (z := 12) (by decide) (fun k o s hk ho => ?_) (fun ρ s _ _ => wRet (wC ⟨_, rfl, rfl⟩)) [] none _ rfl)
    match o, ho with
    | [o2, o3, o4, o5, o6, o7, o8, o9, o10, o11, o12, o13], _ =>
    obtain ⟨u, hu, eb⟩ := bag_eq ns k hk s
    have hb : BagAt s.length (s ++ [u]) := ⟨u, get_app, hu⟩
    refine wSeq (wSet (Wp.of (call2 (eVar_at rfl) (eVar_at rfl) eb) ?_))
    generalize s ++ [u] = s0 at *
    generalize s.length = b at *
    have ha : ∀ x ∈ [(4 : Int), 30, 100], 0 < x ∧ x ≤ 100 := by simp
    have hd : ∀ x ∈ [(4 : Int), 12, 30], 0 < x ∧ x ≤ 30 := by simp
    refine wSeq (wSet (wCB (wCons (wVar rfl (wCons (wC (wNil (piG_w (most := 5) hb (by decide) (by decide) ha hd (by decide) (by decide) fun p q1 hp hj hq1 => ?_))))))))
    have B1 : Bg b s0 (s0.set b q1) := Bg.set0 hq1
    have hlt := hb.lt
    generalize s0.set b q1 = s1 at *
    have T0 := PileOk.turn hp hj
    refine wSeq (wFor (Wp.of (rng_at (n := 4) (aCons_at eC_at aNil_at) (by decide)) ?_))
    refine wForL (fun xs ρ s => ∃ (j n : Nat) (p : Pile) (o4 o5 o6 o7 o8 o9 o10 o11 o12 o13 : Option D), ρ = [some (.scr ns), some (.int (k : Int)), some (.ref b), some (dPile p), o4, o5, o6, o7, o8, o9, o10, o11, o12, o13] ∧ xs = rgs j n ∧ j + n = 4 ∧ Turn p j ∧ Bg b s0 s) ?_ ?_ ?_ _ _ _ ?_
    · intro xs ρ s _
      exact Src.ok_none
    · rintro ρ s2 ⟨j, n, p, o4, o5, o6, o7, o8, o9, o10, o11, o12, o13, rfl, hx, hjn, T, B2⟩
      have hn0 : n = 0 := by
        cases n with
        | zero => rfl
        | succ n => cases hx
      have hj4 : j ≤ 4 := by omega
      obtain ⟨N, M, hB, _, _⟩ := T.base hj4
      have hl0 := T.l0
      have hl5 := T.l1
      have eA : aCons (eC (.int 1)) (aCons (eCB bLen (aCons (eVar 3) aNil)) aNil) [some (.scr ns), some (.int (k : Int)), some (.ref b), some (dPile p), o4, o5, o6, o7, o8, o9, o10, o11, o12, o13] s2 = some ([.int 1, .int (p.length : Int)], s2) :=
        aCons_at eC_at (bLen_pile s2 rfl)
      refine wSeq (wFor (Wp.of (rng2_at eA (by omega)) ?_))
      refine wForL (fun xs ρ s => ∃ (i m : Nat) (o5 : Option D), ρ = [some (.scr ns), some (.int (k : Int)), some (.ref b), some (dPile p), o4, o5, o6, o7, o8, o9, o10, o11, o12, o13] ∧ xs = rgs (i + 1) m ∧ i + 1 + m = p.length ∧ s = s2) ?_ ?_ ?_ _ _ _ ?_
      · intro xs ρ s _
        exact Src.ok_none
      · rintro ρ s ⟨i, m, o5, rfl, _, _, rfl⟩
        obtain ⟨pre, z, rfl⟩ : ∃ pre z, p = pre ++ [z] := ⟨p.dropLast, p.getLast (fun e => by subst e; simp at hl0), (List.dropLast_concat_getLast _).symm⟩
        have hz : z ∈ pre ++ [z] := by simp
        refine wSeq (wSet (wOp2 (wC (takeI_w rfl (wC ⟨50, rfl, by decide, by decide, B2.bag hlt, fun t s3 t0 t1 hs3 => Wp.of (dAdd_int _) ?_⟩)))))
        have W0 : (0 : Int) < 1 + t := by omega
        have W1 : (1 + t : Int) < 2 ^ 40 := by
          have x2 : (2 : Int) ^ 40 = 1099511627776 := by decide
          omega
        generalize 1 + t = W at *
        have pf := pf_eq hB W0 W1 s3
        refine wSeq (wSet (Wp.of (call2 (eVar_at rfl) (eVar_at rfl) pf) ?_))
        obtain ⟨tl, tu⟩ := hB.lowW_tg W0 W1 hz
        have wl := fun x => wok_lohi (p := pre ++ [z]) hB.hv W0 (x := x)
        have ml := (max_le (f := z.at_) (l := lws (pre ++ [z]) W) (t := lowW (pre ++ [z]) W z)).mp Rat.le_refl
        have mu := (le_min (f := z.rgt) (l := hws (pre ++ [z]) W) (t := highW (pre ++ [z]) W z)).mp Rat.le_refl
        by_cases hlt2 : highW (pre ++ [z]) W z < lowW (pre ++ [z]) W z
        · rw [if_pos hlt2]
          refine wIf (Wp.of (a := false) (st' := s3) rfl ?_)
          rw [if_neg (by decide)]
          exact wNext ⟨[_, _, _, _, _, _, _, _, _, _, _, _], rfl, rfl⟩
        · rw [if_neg hlt2]
          have okx : ∀ x ∈ [lowW (pre ++ [z]) W z, highW (pre ++ [z]) W z], WOk (pre ++ [z]) W x ∧ Tg N 120 x := by
            intro x hx
            have hle : lowW (pre ++ [z]) W z ≤ highW (pre ++ [z]) W z := by grind
            simp only [List.mem_cons, List.not_mem_nil, or_false] at hx
            rcases hx with rfl | rfl
            · exact ⟨(wl _).mpr ⟨ml.2, fun u hu => Rat.le_trans hle (mu.2 u hu)⟩, tl⟩
            · exact ⟨(wl _).mpr ⟨fun l hl => Rat.le_trans (ml.2 l hl) hle, mu.2⟩, tu⟩
          generalize lowW (pre ++ [z]) W z = lo at *
          generalize highW (pre ++ [z]) W z = hi at *
          refine wIf (Wp.of (a := true) (st' := s3) rfl ?_)
          rw [if_pos rfl]
          refine wFor (Wp.bnd (wVar rfl (Wp.ret ?_)))
          refine wForL (fun xs ρ s => ∃ (post : List Rat) (o13 : Option D), xs = frs post ∧ (∀ x ∈ post, WOk (pre ++ [z]) W x ∧ Tg N 120 x) ∧ ρ = [some (.scr ns), some (.int (k : Int)), some (.ref b), some (dPile (pre ++ [z])), o4, o5, o6, o7, o8, o9, o10, some (.int W), some (.tup [fr lo, fr hi]), o13]) ?_ ?_ ?_ _ _ _ ?_
          · intro xs ρ s _
            exact Src.ok_none
          · rintro ρ s ⟨post, o13, _, _, rfl⟩
            exact ⟨[_, _, _, _, _, _, _, _, _, _, _, _], rfl, rfl⟩
          · rintro x xs ρ s ⟨post, o13, hx, hp2, rfl⟩
            cases post with
            | nil => cases hx
            | cons t post =>
              injection hx with h1 h2
              subst h1
              subst h2
              obtain ⟨g1, g2⟩ := hp2 t (by simp)
              refine Wp.ret (Wp.of (pl_turn hB T.hj W0 g2 (by decide) g1 _ _ _ _ _ _ _ _ _ _ _ _) ?_)
              exact ⟨post, _, rfl, fun x hx => hp2 x (by simp [hx]), rfl⟩
          · exact ⟨[lo, hi], _, rfl, okx, rfl⟩
      · rintro x xs ρ s ⟨i, m, o5, rfl, hx, him, rfl⟩
        cases m with
        | zero => cases hx
        | succ m =>
        injection hx with h1 h2
        subst h1
        subst h2
        refine Wp.ret (Wp.of (ed_turn T hj4 (show i + 1 < p.length by omega) _ _ _ _ _ _ _ _ _ _ _ _ _) ?_)
        exact ⟨i + 1, m, _, rfl, rfl, by omega, rfl⟩
      · exact ⟨0, p.length - 1, o5, rfl, rfl, by omega, rfl⟩
    · rintro x xs ρ s2 ⟨j, n, p, o4, o5, o6, o7, o8, o9, o10, o11, o12, o13, rfl, hx, hjn, T, B2⟩
      cases n with
      | zero => cases hx
      | succ n =>
      injection hx with h1 h2
      subst h1
      subst h2
      refine Wp.ret ((t10_ok T (by omega) (B2.bag hlt) _ _ _ _ _ _ _ _ _ _ _ _).mono ?_)
      rintro f s' ⟨p', o5, o6, o7, o8, o9, o10, rfl, T', B'⟩
      exact ⟨j + 1, n, p', _, _, _, _, _, _, _, _, _, _, rfl, rfl, by omega, T', B2.trans hlt B'⟩
    · exact ⟨0, 4, p, o4, o5, o6, o7, o8, o9, o10, o11, o12, o13, rfl, rfl, rfl, T0, B1⟩
  obtain ⟨d, s, e, rfl⟩ := main
  exact ⟨s, e⟩
end Dl
end
set_option linter.all false
set_option autoImplicit false
set_option maxRecDepth 100000
/-! M31: what is told of a thing (k01): whole, within -/
noncomputable section
namespace Dl
open PySem PySem.Spec PyProof.Rows L2
/-- the store has what a thing names -/
def InSt (st : Store) : D → Prop
  | .ref n => ∃ xs, st[n]? = some (.lst xs)
  | .scr _ => False
  | .ty _ => False
  | _ => True
def isW : D → Bool
  | .int _ => true
  | _ => false
def isI : D → Bool
  | .int _ => true
  | .bl _ => true
  | _ => false
def isB : D → Bool
  | .bl _ => true
  | _ => false
def isT : D → Bool
  | .tup _ => true
  | _ => false
def isS : D → Bool
  | .str _ => true
  | _ => false
theorem bIsi_int {d : D} {st : Store} (h : InSt st d) : bIsi [d, .ty "int"] st = some (.bl (isI d), st) := by
  cases d with
  | ref n =>
    obtain ⟨xs, e⟩ := h
    show (match (match st[n]? with
      | some (.lst _) => some "list"
      | some (.dk _) => some "dict"
      | some (.dt _) => some "dict"
      | none => none : Option String) with
      | some a => (kitB a "int").map fun b => (D.bl b, st)
      | none => none) = _
    rw [e]; rfl
  | scr _ => exact h.elim
  | ty _ => exact h.elim
  | _ => rfl
theorem bIsi_bool {d : D} {st : Store} (h : InSt st d) : bIsi [d, .ty "bool"] st = some (.bl (isB d), st) := by
  cases d with
  | ref n =>
    obtain ⟨xs, e⟩ := h
    show (match (match st[n]? with
      | some (.lst _) => some "list"
      | some (.dk _) => some "dict"
      | some (.dt _) => some "dict"
      | none => none : Option String) with
      | some a => (kitB a "bool").map fun b => (D.bl b, st)
      | none => none) = _
    rw [e]; rfl
  | scr _ => exact h.elim
  | ty _ => exact h.elim
  | _ => rfl
theorem bIsi_tup {d : D} {st : Store} (h : InSt st d) : bIsi [d, .ty "tuple"] st = some (.bl (isT d), st) := by
  cases d with
  | ref n =>
    obtain ⟨xs, e⟩ := h
    show (match (match st[n]? with
      | some (.lst _) => some "list"
      | some (.dk _) => some "dict"
      | some (.dt _) => some "dict"
      | none => none : Option String) with
      | some a => (kitB a "tuple").map fun b => (D.bl b, st)
      | none => none) = _
    rw [e]; rfl
  | scr _ => exact h.elim
  | ty _ => exact h.elim
  | _ => rfl
theorem bIsi_str {d : D} {st : Store} (h : InSt st d) : bIsi [d, .ty "str"] st = some (.bl (isS d), st) := by
  cases d with
  | ref n =>
    obtain ⟨xs, e⟩ := h
    show (match (match st[n]? with
      | some (.lst _) => some "list"
      | some (.dk _) => some "dict"
      | some (.dt _) => some "dict"
      | none => none : Option String) with
      | some a => (kitB a "str").map fun b => (D.bl b, st)
      | none => none) = _
    rw [e]; rfl
  | scr _ => exact h.elim
  | ty _ => exact h.elim
  | _ => rfl
theorem eAnd_at {E G : Ev} {ρ : Env1} {st st1 : Store} {c : Bool} (h : E ρ st = some (.bl c, st1)) : eAnd E G ρ st = if c = true then G ρ st1 else some (.bl false, st1) := by
  simp only [eAnd, Dl.M.bnd, h]; cases c <;> rfl
def b_iw : Sx := (sRet (eAnd (eCB bIsi (aCons (eVar 0) (aCons (eC (.ty "int")) aNil))) (eNot (eCB bIsi (aCons (eVar 0) (aCons (eC (.ty "bool")) aNil))))))
def F_iw : List D → M D := gcF (defX 1 b_iw)
theorem isi_at {i : Nat} {ty : String} {d : D} {ρ : Env1} {st : Store} {r : Option (D × Store)} (hi : ρ[i]? = some (some d)) (h : bIsi [d, .ty ty] st = r) : eCB bIsi (aCons (eVar i) (aCons (eC (.ty ty)) aNil)) ρ st = r :=
  (eCB_at (aCons_at (eVar_at hi) (aCons_at eC_at aNil_at))).trans h
theorem iw_eq {d : D} {st : Store} (h : InSt st d) : F_iw [d] st = some (.bl (isW d), st) := by
  refine gcF_eq0 (defX_rt (env := [some d]) rfl (sRet_at ?_)) rfl
  rw [eAnd_at (isi_at rfl (bIsi_int h))]
  have e2 := eNot_at (isi_at (ρ := [some d]) (i := 0) rfl (bIsi_bool h))
  cases d <;> first | rfl | (rw [if_pos rfl, e2]; rfl) | (rw [if_neg (by decide)]; rfl)
end Dl
end
set_option linter.all false
set_option autoImplicit false
set_option maxRecDepth 100000
/-! M32: within bounds (k01) -/
noncomputable section
namespace Dl
open PySem PySem.Spec PyProof.Rows L2
def isIn (d : D) (lo hi : Int) : Bool := match d with
  | .int i => decide (lo ≤ i) && decide (i ≤ hi)
  | _ => false
def b_iwn : Sx := (sRet (eAnd (eCB (mCall 1 F_iw) (aCons (eVar 0) aNil)) (eChain dLe dLe (eVar 1) (eVar 0) (eVar 2))))
def F_iwn : List D → M D := gcF (defX 3 b_iwn)
theorem chain_at {ρ : Env1} {st : Store} {a b c : Ev} {x y z : Int} (ha : a ρ st = some (.int x, st)) (hb : b ρ st = some (.int y, st)) (hc : c ρ st = some (.int z, st)) : eChain dLe dLe a b c ρ st = some (.bl (decide (x ≤ y) && decide (y ≤ z)), st) := by
  simp only [eChain, Dl.M.bnd, ha, hb, dLe_int]
  by_cases h : x ≤ y
  · simp only [decide_eq_true h, hc, dLe_int, Bool.true_and, mBool, Dl.M.bnd, Dl.M.ret]
    try rfl
  · simp only [decide_eq_false h, Bool.false_and]
    try rfl
theorem iwn_eq {d : D} {lo hi : Int} {st : Store} (h : InSt st d) : F_iwn [d, .int lo, .int hi] st = some (.bl (isIn d lo hi), st) := by
  refine gcF_eq0 (defX_rt (env := [some d, some (.int lo), some (.int hi)]) rfl (sRet_at ?_)) rfl
  rw [eAnd_at (call1 rfl (iw_eq h))]
  cases d with
  | int i => rw [if_pos (show isW (.int i) = true from rfl)]; exact chain_at (eVar_at rfl) (eVar_at rfl) (eVar_at rfl)
  | _ => rfl
def b_lwn : Sx := (sRet (eAnd (eCB bIsi (aCons (eVar 0) (aCons (eC (.ty "int")) aNil))) (eAnd (eNot (eCB bIsi (aCons (eVar 0) (aCons (eC (.ty "bool")) aNil)))) (eChain dLe dLe (eVar 1) (eVar 0) (eVar 2)))))
def F_lwn : List D → M D := gcF (defX 3 b_lwn)
theorem lwn_eq {d : D} {lo hi : Int} {st : Store} (h : InSt st d) : F_lwn [d, .int lo, .int hi] st = some (.bl (isIn d lo hi), st) := by
  refine gcF_eq0 (defX_rt (env := [some d, some (.int lo), some (.int hi)]) rfl (sRet_at ?_)) rfl
  rw [eAnd_at (isi_at rfl (bIsi_int h))]
  have e2 := eNot_at (isi_at (ρ := [some d, some (.int lo), some (.int hi)]) (i := 0) rfl (bIsi_bool h))
  cases d with
  | int i =>
    rw [if_pos (show isI (.int i) = true from rfl), eAnd_at e2, if_pos (show (!isB (.int i)) = true from rfl)]
    exact chain_at (eVar_at rfl) (eVar_at rfl) (eVar_at rfl)
  | bl b => rw [if_pos (show isI (.bl b) = true from rfl), eAnd_at e2]; rfl
  | _ => rfl
end Dl
end
set_option linter.all false
set_option autoImplicit false
set_option maxRecDepth 100000
/-! M33: names (k01) -/
noncomputable section
namespace Dl
open PySem PySem.Spec PyProof.Rows L2
def letters : Str := "abcdefghijklmnopqrstuvwxyz"
def lowc (c : Nat) : Bool := decide (c ∈ letters.cps.toList)
def sgn (c : Nat) : D := .str ⟨#[c]⟩
def isN : D → Bool
  | .str x => (decide ((1 : Int) ≤ (x.length : Int)) && decide ((x.length : Int) ≤ 8)) && x.cps.toList.all lowc
  | _ => false
theorem dIn_sgn (neg : Bool) (c : Nat) (st : Store) : dIn neg (sgn c) (.str letters) st = some (.bl (bN neg (lowc c)), st) := rfl
theorem str_len {x : Str} {st : Store} (h : x.length ≤ sizeLine) : bLen [.str x] st = some (.int (x.length : Int), st) := by
  show (if x.length ≤ sizeLine then Dl.M.ret (D.int x.length) else Dl.M.bad) st = _
  rw [if_pos h]; rfl
theorem cps_len (x : Str) : x.cps.toList.length = x.length := by
  show x.cps.toList.length = x.cps.size
  simp
def b_nm : Sx := (sRet (eAnd (eCB bIsi (aCons (eVar 0) (aCons (eC (.ty "str")) aNil))) (eAnd (eChain dLe dLe (eC (.int 1)) (eCB bLen (aCons (eVar 0) aNil)) (eC (.int 8))) (eCB (bOnL gAll) (aCons (eLc (iStrS (eVar 0)) (xName 1) tYesD (eOp2 (dIn false) (eVar 1) (eC (.str "abcdefghijklmnopqrstuvwxyz"))) [1]) aNil)))))
def F_nm : List D → M D := gcF (defX 2 b_nm)
theorem bls_map (bs : List Bool) : blsOf (bs.map D.bl) = some bs := by
  induction bs with
  | nil => rfl
  | cons b bs ih => show (blsOf (bs.map D.bl)).map (b :: ·) = _; rw [ih]; rfl
theorem nm_eq {d : D} {st : Store} (h : InSt st d) (hs : ∀ x, d = .str x → x.length ≤ sizeLine) : F_nm [d] st = some (.bl (isN d), st) := by
  by_cases hd : isS d = true
  · obtain ⟨x, rfl⟩ : ∃ x, d = .str x := by
      cases d with
      | str x => exact ⟨x, rfl⟩
      | _ => cases hd
    have hx := hs x rfl
    obtain ⟨z, e⟩ := eLc_mA (it := iStrS (eVar 0)) (g := xName 1) (e := eOp2 (dIn false) (eVar 1) (eC (.str letters))) (vs := [1]) (ρ := [some (.str x), none]) (st := st) (st1 := st) (s := ⟨sgnD x, none⟩) x.cps.toList sgn (fun c => D.bl (lowc c)) rfl (.inl rfl) rfl (fun c hc z => ⟨_, rfl, fun z => ⟨[], by
      rw [List.append_nil, eOp2_at (x := sgn c) (y := .str letters) (st1 := st ++ z) (st2 := st ++ z) rfl rfl, dIn_sgn]; rfl⟩⟩) (by rw [cps_len]; exact hx)
    have eA : eCB (bOnL gAll) (aCons (eLc (iStrS (eVar 0)) (xName 1) tYesD (eOp2 (dIn false) (eVar 1) (eC (.str letters))) [1]) aNil) [some (.str x), none] st = some (.bl (x.cps.toList.all lowc), st ++ .lst (x.cps.toList.map fun c => D.bl (lowc c)) :: z) := by
      rw [eCB_at (aCons_at e aNil_at)]
      show (match (st ++ MO.lst (x.cps.toList.map fun c => D.bl (lowc c)) :: z)[st.length]? with
        | some (.lst xs) => gAll xs (st ++ MO.lst (x.cps.toList.map fun c => D.bl (lowc c)) :: z)
        | _ => none) = _
      rw [get_app]
      have e2 : (x.cps.toList.map fun c => D.bl (lowc c)) = (x.cps.toList.map lowc).map D.bl := by rw [List.map_map]; rfl
      show (blsOf (x.cps.toList.map fun c => D.bl (lowc c))).map _ = _
      rw [e2, bls_map]
      show some (D.bl ((x.cps.toList.map lowc).all id), _) = _
      rw [List.all_map]; rfl
    have eC := chain_at (ρ := [some (.str x), none]) (st := st) (a := eC (.int 1)) (b := eCB bLen (aCons (eVar 0) aNil)) (c := Dl.eC (.int 8)) (x := 1) (y := (x.length : Int)) (z := 8) eC_at ((eCB_at (aCons_at (eVar_at rfl) aNil_at)).trans (str_len hx)) eC_at
    have e1 := isi_at (ρ := [some (.str x), none]) (i := 0) rfl (bIsi_str h)
    cases hc : (decide ((1 : Int) ≤ (x.length : Int)) && decide ((x.length : Int) ≤ 8)) with
    | true =>
      rw [hc] at eC
      refine gcF_eq (g := .lst (x.cps.toList.map fun c => D.bl (lowc c)) :: z) (defX_rt (env := [some (.str x), none]) rfl (sRet_at ?_)) rfl
      rw [eAnd_at e1, if_pos (show isS (.str x) = true from rfl), eAnd_at eC, if_pos rfl]
      refine eA.trans ?_
      simp only [isN, hc, Bool.true_and]
    | false =>
      rw [hc] at eC
      refine gcF_eq0 (defX_rt (env := [some (.str x), none]) rfl (sRet_at ?_)) rfl
      rw [eAnd_at e1, if_pos (show isS (.str x) = true from rfl), eAnd_at eC, if_neg (by decide)]
      simp only [isN, hc, Bool.false_and]
  · have hd' : isS d = false := by simpa using hd
    have hn : isN d = false := by cases d <;> first | rfl | cases hd'
    refine gcF_eq0 (defX_rt (env := [some d, none]) rfl (sRet_at ?_)) rfl
    rw [eAnd_at (isi_at rfl (bIsi_str h)), hd', hn, if_neg (by decide)]
end Dl
end
set_option linter.all false
set_option autoImplicit false
set_option maxRecDepth 100000
/-! M34: names, as the law looks at them (k01) -/
noncomputable section
namespace Dl
open PySem PySem.Spec PyProof.Rows L2
def b_lnm : Sx := (sSeq (sIf (tOrD (tNotD (tV (eCB bIsi (aCons (eVar 0) (aCons (eC (.ty "str")) aNil))))) (tNotD (tV (eChain dLe dLe (eC (.int 1)) (eCB bLen (aCons (eVar 0) aNil)) (eC (.int 8)))))) (sRet (eC (.bl false))) sNext)
  (sRet (eOp2 dEq (eLc (iStrS (eVar 0)) (xName 1) (tV (eOp2 (dIn true) (eVar 1) (eC (.str "abcdefghijklmnopqrstuvwxyz")))) (eVar 1) [1]) (eLst aNil))))
def F_lnm : List D → M D := gcF (defX 2 b_lnm)
theorem filter_all (l : List Nat) : ((l.filter fun c => !lowc c).map sgn).isEmpty = l.all lowc := by
  induction l with
  | nil => rfl
  | cons c l ih =>
    by_cases h : lowc c = true
    · rw [List.filter_cons_of_neg (by simp [h]), ih, List.all_cons, h]; rfl
    · have h : lowc c = false := by simpa using h
      rw [List.filter_cons_of_pos (by simp [h]), List.all_cons, h]; rfl
theorem sgns_plain {x : Str} (hx : PyData.strOk x = true) : D.plains ((x.cps.toList.filter fun c => !lowc c).map sgn) = true ∧ D.deps ((x.cps.toList.filter fun c => !lowc c).map sgn) ≤ 60 := by
  have hall : ∀ c ∈ x.cps.toList.filter (fun c => !lowc c), c < 1114112 := by
    intro c hc
    have hm := (List.mem_filter.mp hc).1
    have h1 : x.cps.all (fun c => decide (c < 1114112)) = true := hx
    rw [← Array.all_toList] at h1
    have := List.all_eq_true.mp h1 c hm
    simpa using this
  generalize x.cps.toList.filter (fun c => !lowc c) = l at *
  induction l with
  | nil => exact ⟨rfl, Nat.zero_le _⟩
  | cons c l ih =>
    obtain ⟨i1, i2⟩ := ih fun d hd => hall d (by simp [hd])
    have hc := hall c (by simp)
    constructor
    · show (PyData.strOk ⟨#[c]⟩ && D.plains (l.map sgn)) = true
      rw [i1]
      have : PyData.strOk ⟨#[c]⟩ = true := by
        show (#[c] : Array Nat).all (fun c => decide (c < 1114112)) = true
        rw [← Array.all_toList]
        simp [hc]
      rw [this]; rfl
    · show max 0 (D.deps (l.map sgn)) ≤ 60
      omega
theorem lnm_eq {d : D} {st : Store} (h : InSt st d) (hs : ∀ x, d = .str x → x.length ≤ sizeLine ∧ PyData.strOk x = true) : F_lnm [d] st = some (.bl (isN d), st) := by
  by_cases hd : isS d = true
  · obtain ⟨x, rfl⟩ : ∃ x, d = .str x := by
      cases d with
      | str x => exact ⟨x, rfl⟩
      | _ => cases hd
    obtain ⟨hx, hok⟩ := hs x rfl
    have eC := chain_at (ρ := [some (.str x), none]) (st := st) (a := eC (.int 1)) (b := eCB bLen (aCons (eVar 0) aNil)) (c := Dl.eC (.int 8)) (x := 1) (y := (x.length : Int)) (z := 8) eC_at ((eCB_at (aCons_at (eVar_at rfl) aNil_at)).trans (str_len hx)) eC_at
    have e1 := tNotD_at (tV_at (isi_at (ρ := [some (.str x), none]) (i := 0) rfl (bIsi_str h)))
    have e2 := tNotD_at (tV_at eC)
    cases hc : (decide ((1 : Int) ≤ (x.length : Int)) && decide ((x.length : Int) ≤ 8)) with
    | true =>
      rw [hc] at e2
      obtain ⟨z, e⟩ := eLc_A (it := iStrS (eVar 0)) (g := xName 1) (t := tV (eOp2 (dIn true) (eVar 1) (Dl.eC (.str letters)))) (e := eVar 1) (vs := [1]) (ρ := [some (.str x), none]) (st := st) (st1 := st) (s := ⟨sgnD x, none⟩) x.cps.toList sgn (fun c => !lowc c) sgn rfl (.inl rfl) rfl (fun c hc z => ⟨_, [], rfl, by
        rw [List.append_nil]
        refine tV_at ?_
        rw [eOp2_at (x := sgn c) (y := .str letters) (st1 := st ++ z) (st2 := st ++ z) rfl rfl, dIn_sgn]; rfl, fun _ z => ⟨[], by rw [List.append_nil]; rfl⟩⟩) (by rw [cps_len]; exact hx)
      obtain ⟨p1, p2⟩ := sgns_plain hok
      refine gcF_eq (g := (.lst ((x.cps.toList.filter fun c => !lowc c).map sgn) :: z) ++ [.lst []]) (defX_rt (env := [some (.str x), none]) rfl ?_) rfl
      unfold b_lnm
      refine (sSeq_at (ρ1 := [some (.str x), none]) (st1 := st) ?_).trans (sRet_at ?_)
      · rw [sIf_at (k := false) (by rw [tOrD_at e1, if_neg (show ¬ (!isS (.str x)) = true by simp [isS]), e2]; rfl)]; rfl
      · rw [← List.append_assoc]
        refine (eOp2_at (g := dEq) e (eLst_at aNil_at (by decide))).trans ?_
        refine (nil_eq false _ (ap get_app) get_app p1 p2).trans ?_
        rw [if_neg (by decide), filter_all]
        simp only [isN, hc, Bool.true_and]
    | false =>
      rw [hc] at e2
      refine gcF_eq0 (defX_rt (env := [some (.str x), none]) rfl (sSeq_rt ?_)) rfl
      rw [sIf_at (k := true) (by rw [tOrD_at e1, if_neg (show ¬ (!isS (.str x)) = true by simp [isS]), e2]; rfl), if_pos rfl]
      simp only [isN, hc, Bool.false_and]
      rfl
  · have hd' : isS d = false := by simpa using hd
    have hn : isN d = false := by cases d <;> first | rfl | cases hd'
    have e1 := tNotD_at (tV_at (isi_at (ρ := [some d, none]) (i := 0) rfl (bIsi_str h)))
    rw [hd'] at e1
    refine gcF_eq0 (defX_rt (env := [some d, none]) rfl (sSeq_rt ?_)) rfl
    rw [sIf_at (k := true) (by rw [tOrD_at e1]; rfl), if_pos rfl, hn]
    rfl
end Dl
end
set_option linter.all false
set_option autoImplicit false
set_option maxRecDepth 100000
/-! M35: fractions (k01) -/
noncomputable section
namespace Dl
open PySem PySem.Spec PyProof.Rows L2
def isFr : D → Bool
  | .tup [.int a, .int b] => decide (1 ≤ b) && PyData.eqv (py (fr (Rat.divInt a b))) (py (.tup [.int a, .int b]))
  | _ => false
def b_lfr : Sx := (sSeq (sIf (tOrD (tNotD (tV (eCB bIsi (aCons (eVar 0) (aCons (eC (.ty "tuple")) aNil))))) (tV (eOp2 dNe (eCB bLen (aCons (eVar 0) aNil)) (eC (.int 2))))) (sRet (eC (.bl false))) sNext)
  (sSeq (sIf (tOrD (tNotD (tV (eCB (mCall 1 F_iw) (aCons (eOp2 dIx (eVar 0) (eC (.int 0))) aNil)))) (tNotD (tV (eCB (mCall 1 F_iw) (aCons (eOp2 dIx (eVar 0) (eC (.int 1))) aNil))))) (sRet (eC (.bl false))) sNext)
  (sRet (eAnd (eOp2 dGt (eOp2 dIx (eVar 0) (eC (.int 1))) (eC (.int 0))) (eOp2 dEq (eCB (mCall 2 F_low) (aCons (eOp2 dIx (eVar 0) (eC (.int 0))) (aCons (eOp2 dIx (eVar 0) (eC (.int 1))) aNil))) (eVar 0))))))
def F_lfr : List D → M D := gcF (defX 1 b_lfr)
theorem ne_int (a b : Int) (st : Store) : dNe (.int a) (.int b) st = some (.bl (!decide (a = b)), st) := by
  refine (dEq_plain true st rfl rfl (Nat.zero_le _) (Nat.zero_le _)).trans ?_
  by_cases h : a = b <;> simp [py, PyData.eqv, h]
theorem tup_len (xs : List D) (st : Store) : bLen [.tup xs] st = some (.int (xs.length : Int), st) := rfl
theorem two_ints {a b : Int} (hb : Bt 8999 b) (h0 : 0 < b) {st : Store} {ρ : Env1} (hρ : ρ[0]? = some (some (.tup [.int a, .int b]))) :
    eOp2 dEq (eCB (mCall 2 F_low) (aCons (eOp2 dIx (eVar 0) (eC (.int 0))) (aCons (eOp2 dIx (eVar 0) (eC (.int 1))) aNil))) (eVar 0) ρ st = some (.bl (PyData.eqv (py (fr (Rat.divInt a b))) (py (.tup [.int a, .int b]))), st) := by
  have x0 : eOp2 dIx (eVar 0) (eC (.int 0)) ρ st = some (.int a, st) := (eOp2_at (eVar_at hρ) eC_at).trans rfl
  have x1 : eOp2 dIx (eVar 0) (eC (.int 1)) ρ st = some (.int b, st) := (eOp2_at (eVar_at hρ) eC_at).trans rfl
  refine (eOp2_at (g := dEq) (call2 x0 x1 (low_eq st h0 hb)) (eVar_at hρ)).trans ?_
  exact dEq_plain false st rfl rfl (by show 1 ≤ 64; decide) (by show 1 ≤ 64; decide)
theorem isFr_no {xs : List D} (h : ∀ a b, xs ≠ [.int a, .int b]) : isFr (.tup xs) = false := by
  unfold isFr
  split
  · rename_i a b e
    injection e with e
    exact absurd e (h a b)
  · rfl
theorem lfr_eq {d : D} {st : Store} (h : InSt st d) (hi : ∀ xs, d = .tup xs → ∀ x ∈ xs, InSt st x) (hb : ∀ a b, d = .tup [.int a, .int b] → Bt 8999 b) : F_lfr [d] st = some (.bl (isFr d), st) := by
  refine gcF_eq0 (defX_rt (env := [some d]) rfl ?_) rfl
  unfold b_lfr
  have e1 := tNotD_at (tV_at (isi_at (ρ := [some d]) (i := 0) rfl (bIsi_tup h)))
  by_cases hd : isT d = true
  · obtain ⟨xs, rfl⟩ : ∃ xs, d = .tup xs := by
      cases d with
      | tup xs => exact ⟨xs, rfl⟩
      | _ => cases hd
    have e2 := tV_at ((eOp2_at (ρ := [some (.tup xs)]) (g := dNe) ((eCB_at (aCons_at (eVar_at (i := 0) rfl) aNil_at)).trans (tup_len xs st)) eC_at).trans (ne_int xs.length 2 st))
    by_cases hl : xs.length = 2
    · obtain ⟨x, y, rfl⟩ : ∃ x y, xs = [x, y] := by
        match xs, hl with
        | [x, y], _ => exact ⟨x, y, rfl⟩
      have hx := hi _ rfl x (by simp)
      have hy := hi _ rfl y (by simp)
      refine (sSeq_at (ρ1 := [some (.tup [x, y])]) (st1 := st) ?_).trans ?_
      · rw [sIf_at (k := false) (by rw [tOrD_at e1, if_neg (show ¬ (!isT (.tup [x, y])) = true by simp [isT]), e2]; rfl)]; rfl
      have x0 : eOp2 dIx (eVar 0) (eC (.int 0)) [some (.tup [x, y])] st = some (x, st) := (eOp2_at (eVar_at rfl) eC_at).trans rfl
      have x1 : eOp2 dIx (eVar 0) (eC (.int 1)) [some (.tup [x, y])] st = some (y, st) := (eOp2_at (eVar_at rfl) eC_at).trans rfl
      have f0 := tNotD_at (tV_at (call1E x0 (iw_eq hx)))
      have f1 := tNotD_at (tV_at (call1E x1 (iw_eq hy)))
      by_cases w : isW x = true ∧ isW y = true
      · obtain ⟨a, rfl⟩ : ∃ a, x = .int a := by
          cases x with
          | int a => exact ⟨a, rfl⟩
          | _ => cases w.1
        obtain ⟨b, rfl⟩ : ∃ b, y = .int b := by
          cases y with
          | int b => exact ⟨b, rfl⟩
          | _ => cases w.2
        refine (sSeq_at (ρ1 := [some (.tup [.int a, .int b])]) (st1 := st) ?_).trans (sRet_at ?_)
        · rw [sIf_at (k := false) (by rw [tOrD_at f0, if_neg (show ¬ (!isW (.int a)) = true by simp [isW]), f1]; rfl)]; rfl
        · rw [eAnd_at ((eOp2_at (g := dGt) x1 eC_at).trans (dGt_int st))]
          by_cases b0 : 0 < b
          · rw [decide_eq_true b0, if_pos rfl, two_ints (hb a b rfl) b0 rfl]
            simp only [isFr, decide_eq_true (show 1 ≤ b by omega), Bool.true_and]
          · rw [decide_eq_false b0, if_neg (by decide)]
            simp only [isFr, decide_eq_false (show ¬ 1 ≤ b by omega), Bool.false_and]
      · have hn : isFr (.tup [x, y]) = false := isFr_no fun a b e => by
          injection e with q1 q2
          injection q2 with q2 _
          exact w ⟨by rw [q1]; rfl, by rw [q2]; rfl⟩
        refine sSeq_rt ?_
        rw [sIf_at (k := true) (st1 := st) (by
          rw [tOrD_at f0]
          cases hwx : isW x with
          | false => rfl
          | true =>
            have hwy : isW y = false := by
              cases hh : isW y with
              | false => rfl
              | true => exact absurd ⟨hwx, hh⟩ w
            rw [if_neg (by decide), f1, hwy]; rfl), if_pos rfl, hn]
        rfl
    · have hn : isFr (.tup xs) = false := isFr_no fun a b e => by subst e; exact hl rfl
      refine sSeq_rt ?_
      rw [sIf_at (k := true) (st1 := st) (by
        rw [tOrD_at e1, if_neg (show ¬ (!isT (.tup xs)) = true by simp [isT]), e2, decide_eq_false (by omega)]; rfl), if_pos rfl, hn]
      rfl
  · have hd' : isT d = false := by simpa using hd
    have hn : isFr d = false := by
      cases d with
      | tup _ => cases hd'
      | _ => rfl
    rw [hd'] at e1
    refine sSeq_rt ?_
    rw [sIf_at (k := true) (by rw [tOrD_at e1]; rfl), if_pos rfl, hn]
    rfl
end Dl
end
set_option linter.all false
set_option autoImplicit false
set_option maxRecDepth 100000
/-! M36: fractions, as the program looks at them (k01) -/
noncomputable section
namespace Dl
open PySem PySem.Spec PyProof.Rows L2
def b_ifr : Sx := (sSeq (sIf (tOrD (tNotD (tV (eCB bIsi (aCons (eVar 0) (aCons (eC (.ty "tuple")) aNil))))) (tOrD (tV (eOp2 dNe (eCB bLen (aCons (eVar 0) aNil)) (eC (.int 2)))) (tNotD (tV (eCB (bOnL gAll) (aCons (eLc (iSeq (eVar 0)) (xName 1) tYesD (eCB (mCall 1 F_iw) (aCons (eVar 1) aNil)) [1]) aNil)))))) (sRet (eC (.bl false))) sNext)
  (sRet (eAnd (eOp2 dGe (eOp2 dIx (eVar 0) (eC (.int 1))) (eC (.int 1))) (eOp2 dEq (eCB (mCall 2 F_low) (aCons (eOp2 dIx (eVar 0) (eC (.int 0))) (aCons (eOp2 dIx (eVar 0) (eC (.int 1))) aNil))) (eVar 0)))))
def F_ifr : List D → M D := gcF (defX 2 b_ifr)
theorem InSt.app {st : Store} {d : D} (h : InSt st d) (g : Store) : InSt (st ++ g) d := by
  cases d with
  | ref n => obtain ⟨xs, e⟩ := h; exact ⟨xs, ap e⟩
  | _ => exact h
/-- are all parts whole? -/
theorem all_w {xs : List D} {st : Store} (hi : ∀ x ∈ xs, InSt st x) (hl : xs.length ≤ sizeLine) : ∃ g, eCB (bOnL gAll) (aCons (eLc (iSeq (eVar 0)) (xName 1) tYesD (eCB (mCall 1 F_iw) (aCons (eVar 1) aNil)) [1]) aNil) [some (.tup xs), none] st = some (.bl (xs.all isW), st ++ g) := by
  obtain ⟨z, e⟩ := eLc_mA (it := iSeq (eVar 0)) (g := xName 1) (e := eCB (mCall 1 F_iw) (aCons (eVar 1) aNil)) (vs := [1]) (ρ := [some (.tup xs), none]) (st := st) (st1 := st) (s := ⟨xs, none⟩) xs id (fun x => D.bl (isW x)) rfl (.inl rfl) (List.map_id xs).symm (fun x hx z => ⟨_, rfl, fun z => ⟨[], by
    rw [List.append_nil]
    exact call1 (i := 1) rfl (iw_eq ((hi x hx).app z))⟩⟩) hl
  refine ⟨MO.lst (xs.map fun x => D.bl (isW x)) :: z, ?_⟩
  rw [eCB_at (aCons_at e aNil_at)]
  show (match (st ++ MO.lst (xs.map fun x => D.bl (isW x)) :: z)[st.length]? with
    | some (.lst ys) => gAll ys (st ++ MO.lst (xs.map fun x => D.bl (isW x)) :: z)
    | _ => none) = _
  rw [get_app]
  have e2 : (xs.map fun x => D.bl (isW x)) = (xs.map isW).map D.bl := by rw [List.map_map]; rfl
  show (blsOf (xs.map fun x => D.bl (isW x))).map _ = _
  rw [e2, bls_map]
  show some (D.bl ((xs.map isW).all id), _) = _
  rw [List.all_map]; rfl
theorem ifr_eq {d : D} {st : Store} (h : InSt st d) (hi : ∀ xs, d = .tup xs → ∀ x ∈ xs, InSt st x) (hb : ∀ a b, d = .tup [.int a, .int b] → Bt 8999 b) : F_ifr [d] st = some (.bl (isFr d), st) := by
  have e1 := tNotD_at (tV_at (isi_at (ρ := [some d, none]) (i := 0) rfl (bIsi_tup h)))
  by_cases hd : isT d = true
  · obtain ⟨xs, rfl⟩ : ∃ xs, d = .tup xs := by
      cases d with
      | tup xs => exact ⟨xs, rfl⟩
      | _ => cases hd
    have e2 := tV_at ((eOp2_at (ρ := [some (.tup xs), none]) (g := dNe) ((eCB_at (aCons_at (eVar_at (i := 0) rfl) aNil_at)).trans (tup_len xs st)) eC_at).trans (ne_int xs.length 2 st))
    by_cases hl : xs.length = 2
    · obtain ⟨x, y, rfl⟩ : ∃ x y, xs = [x, y] := by
        match xs, hl with
        | [x, y], _ => exact ⟨x, y, rfl⟩
      obtain ⟨g, ea⟩ := all_w (hi _ rfl) (by show 2 ≤ sizeLine; decide)
      have e3 := tNotD_at (tV_at ea)
      have et : ∀ k, ([x, y].all isW) = k → tOrD (tNotD (tV (eCB bIsi (aCons (eVar 0) (aCons (eC (.ty "tuple")) aNil))))) (tOrD (tV (eOp2 dNe (eCB bLen (aCons (eVar 0) aNil)) (eC (.int 2)))) (tNotD (tV (eCB (bOnL gAll) (aCons (eLc (iSeq (eVar 0)) (xName 1) tYesD (eCB (mCall 1 F_iw) (aCons (eVar 1) aNil)) [1]) aNil))))) [some (.tup [x, y]), none] st = some (!k, st ++ g) := fun k hk => by
        rw [tOrD_at e1, if_neg (show ¬ (!isT (.tup [x, y])) = true by simp [isT]), tOrD_at e2, if_neg (by simp), e3, hk]
      by_cases w : isW x = true ∧ isW y = true
      · obtain ⟨a, rfl⟩ : ∃ a, x = .int a := by
          cases x with
          | int a => exact ⟨a, rfl⟩
          | _ => cases w.1
        obtain ⟨b, rfl⟩ : ∃ b, y = .int b := by
          cases y with
          | int b => exact ⟨b, rfl⟩
          | _ => cases w.2
        refine gcF_eq (g := g) (defX_rt (env := [some (.tup [.int a, .int b]), none]) rfl ?_) rfl
        refine (sSeq_at (ρ1 := [some (.tup [.int a, .int b]), none]) (st1 := st ++ g) ?_).trans (sRet_at ?_)
        · rw [sIf_at (et true rfl)]; rfl
        · have x1 : eOp2 dIx (eVar 0) (eC (.int 1)) [some (.tup [.int a, .int b]), none] (st ++ g) = some (.int b, st ++ g) := (eOp2_at (eVar_at rfl) eC_at).trans rfl
          rw [eAnd_at ((eOp2_at (g := dGe) x1 eC_at).trans (dGe_int _))]
          by_cases b0 : 1 ≤ b
          · rw [decide_eq_true b0, if_pos rfl, two_ints (hb a b rfl) (by omega) rfl]
            simp only [isFr, decide_eq_true b0, Bool.true_and]
          · rw [decide_eq_false b0, if_neg (by decide)]
            simp only [isFr, decide_eq_false b0, Bool.false_and]
      · have hn : isFr (.tup [x, y]) = false := isFr_no fun a b e => by
          injection e with q1 q2
          injection q2 with q2 _
          exact w ⟨by rw [q1]; rfl, by rw [q2]; rfl⟩
        have hk : ([x, y].all isW) = false := by
          cases hx : isW x <;> cases hy : isW y <;> simp [hx, hy] at w ⊢
        refine gcF_eq (g := g) (defX_rt (env := [some (.tup [x, y]), none]) rfl (sSeq_rt ?_)) rfl
        rw [sIf_at (et false hk), if_pos (show (!false) = true from rfl), hn]
        rfl
    · have hn : isFr (.tup xs) = false := isFr_no fun a b e => by subst e; exact hl rfl
      refine gcF_eq0 (defX_rt (env := [some (.tup xs), none]) rfl (sSeq_rt ?_)) rfl
      rw [sIf_at (k := true) (st1 := st) (by
        rw [tOrD_at e1, if_neg (show ¬ (!isT (.tup xs)) = true by simp [isT]), tOrD_at e2, decide_eq_false (by omega)]; rfl), if_pos rfl, hn]
      rfl
  · have hd' : isT d = false := by simpa using hd
    have hn : isFr d = false := by
      cases d with
      | tup _ => cases hd'
      | _ => rfl
    rw [hd'] at e1
    refine gcF_eq0 (defX_rt (env := [some d, none]) rfl (sSeq_rt ?_)) rfl
    rw [sIf_at (k := true) (by rw [tOrD_at e1]; rfl), if_pos rfl, hn]
    rfl
end Dl
end
set_option linter.all false
set_option autoImplicit false
set_option maxRecDepth 100000
/-! M37: blocks (k01), the program's look and the law's alike -/
noncomputable section
namespace Dl
open PySem PySem.Spec PyProof.Rows L2
def isBk : D → Bool
  | .tup [n, l, h] => isN n && (isIn l 1 1000 && isIn h 1 1000)
  | _ => false
def b_bk (Fn Fw : List D → M D) : Sx := (sSeq (sIf (tOrD (tNotD (tV (eCB bIsi (aCons (eVar 0) (aCons (eC (.ty "tuple")) aNil))))) (tOrD (tV (eOp2 dNe (eCB bLen (aCons (eVar 0) aNil)) (eC (.int 3)))) (tNotD (tV (eCB (mCall 1 Fn) (aCons (eOp2 dIx (eVar 0) (eC (.int 0))) aNil)))))) (sRet (eC (.bl false))) sNext)
  (sRet (eAnd (eCB (mCall 3 Fw) (aCons (eOp2 dIx (eVar 0) (eC (.int 1))) (aCons (eC (.int 1)) (aCons (eC (.int 1000)) aNil)))) (eCB (mCall 3 Fw) (aCons (eOp2 dIx (eVar 0) (eC (.int 2))) (aCons (eC (.int 1)) (aCons (eC (.int 1000)) aNil)))))))
def F_bk (Fn Fw : List D → M D) : List D → M D := gcF (defX 1 (b_bk Fn Fw))
theorem isBk_no {xs : List D} (h : xs.length ≠ 3) : isBk (.tup xs) = false := by
  unfold isBk
  split
  · rename_i e
    injection e with e
    subst e
    exact absurd rfl h
  · rfl
theorem bk_eq {Fn Fw : List D → M D} {d : D} {st : Store} (h : InSt st d) (hn : ∀ xs, d = .tup xs → ∀ x ∈ xs, Fn [x] st = some (.bl (isN x), st)) (hw : ∀ xs, d = .tup xs → ∀ x ∈ xs, Fw [x, .int 1, .int 1000] st = some (.bl (isIn x 1 1000), st)) : F_bk Fn Fw [d] st = some (.bl (isBk d), st) := by
  refine gcF_eq0 (defX_rt (env := [some d]) rfl ?_) rfl
  unfold b_bk
  have e1 := tNotD_at (tV_at (isi_at (ρ := [some d]) (i := 0) rfl (bIsi_tup h)))
  by_cases hd : isT d = true
  · obtain ⟨xs, rfl⟩ : ∃ xs, d = .tup xs := by
      cases d with
      | tup xs => exact ⟨xs, rfl⟩
      | _ => cases hd
    have e2 := tV_at ((eOp2_at (ρ := [some (.tup xs)]) (g := dNe) ((eCB_at (aCons_at (eVar_at (i := 0) rfl) aNil_at)).trans (tup_len xs st)) eC_at).trans (ne_int xs.length 3 st))
    by_cases hl : xs.length = 3
    · obtain ⟨x, y, z, rfl⟩ : ∃ x y z, xs = [x, y, z] := by
        match xs, hl with
        | [x, y, z], _ => exact ⟨x, y, z, rfl⟩
      have x0 : eOp2 dIx (eVar 0) (eC (.int 0)) [some (.tup [x, y, z])] st = some (x, st) := (eOp2_at (eVar_at rfl) eC_at).trans rfl
      have x1 : eOp2 dIx (eVar 0) (eC (.int 1)) [some (.tup [x, y, z])] st = some (y, st) := (eOp2_at (eVar_at rfl) eC_at).trans rfl
      have x2 : eOp2 dIx (eVar 0) (eC (.int 2)) [some (.tup [x, y, z])] st = some (z, st) := (eOp2_at (eVar_at rfl) eC_at).trans rfl
      have e3 := tNotD_at (tV_at (call1E x0 (hn _ rfl x (by simp))))
      have w1 := call3 x1 eC_at eC_at (hw _ rfl y (by simp))
      have w2 := call3 x2 eC_at eC_at (hw _ rfl z (by simp))
      cases hx : isN x with
      | true =>
        rw [hx] at e3
        refine (sSeq_at (ρ1 := [some (.tup [x, y, z])]) (st1 := st) ?_).trans (sRet_at ?_)
        · rw [sIf_at (k := false) (by rw [tOrD_at e1, if_neg (show ¬ (!isT (.tup [x, y, z])) = true by simp [isT]), tOrD_at e2, if_neg (by simp), e3]; rfl)]; rfl
        · rw [eAnd_at w1]
          cases hy : isIn y 1 1000 with
          | true => rw [if_pos rfl, w2]; simp only [isBk, hx, hy, Bool.true_and]
          | false => rw [if_neg (by decide)]; simp only [isBk, hx, hy, Bool.true_and, Bool.false_and]
      | false =>
        rw [hx] at e3
        refine sSeq_rt ?_
        rw [sIf_at (k := true) (by rw [tOrD_at e1, if_neg (show ¬ (!isT (.tup [x, y, z])) = true by simp [isT]), tOrD_at e2, if_neg (by simp), e3]; rfl), if_pos rfl]
        simp only [isBk, hx, Bool.false_and]
        rfl
    · refine sSeq_rt ?_
      rw [sIf_at (k := true) (st1 := st) (by
        rw [tOrD_at e1, if_neg (show ¬ (!isT (.tup xs)) = true by simp [isT]), tOrD_at e2, decide_eq_false (by omega)]; rfl), if_pos rfl, isBk_no hl]
      rfl
  · have hd' : isT d = false := by simpa using hd
    have hn : isBk d = false := by
      cases d with
      | tup _ => cases hd'
      | _ => rfl
    rw [hd'] at e1
    refine sSeq_rt ?_
    rw [sIf_at (k := true) (by rw [tOrD_at e1]; rfl), if_pos rfl, hn]
    rfl
end Dl
end
set_option linter.all false
set_option autoImplicit false
set_option maxRecDepth 100000
/-! M38: values that a law may hand in (k01, k07), how they stay -/
noncomputable section
namespace Dl
open PySem PySem.Spec PyProof.Rows L2
/-- a text of plain signs -/
def Asc (x : Str) : Prop := ∀ c ∈ x.cps.toList, c < 128
theorem Asc.ok {x : Str} (h : Asc x) : PyData.strOk x = true := by
  show x.cps.all (fun c => decide (c < 0x110000)) = true
  rw [← Array.all_toList, List.all_eq_true]
  intro c hc
  have := h c hc
  exact decide_eq_true (by omega)
/-- nothing within: None, a truth, a number, a text -/
def Atom (B S : Nat) : D → Prop
  | .non => True
  | .bl _ => True
  | .int i => Bt B i
  | .str x => Asc x ∧ x.length ≤ S
  | _ => False
/-- a value, so deep, of such atoms; X: what it may name -/
def Val (X : Nat → Prop) (st : Store) (B S L : Nat) : Nat → D → Prop
  | 0, d => Atom B S d
  | k + 1, d => Atom B S d ∨ (∃ xs, d = .tup xs ∧ xs.length ≤ L ∧ ∀ x ∈ xs, Val X st B S L k x) ∨ (∃ n xs, d = .ref n ∧ X n ∧ st[n]? = some (.lst xs) ∧ xs.length ≤ L ∧ ∀ x ∈ xs, Val X st B S L k x)
variable {X X' : Nat → Prop} {b : Nat} {st st' : Store} {B S L B' S' L' k : Nat} {d : D}
theorem Atom.mono (h : Atom B S d) (hB : B ≤ B') (hS : S ≤ S') : Atom B' S' d := by
  cases d with
  | int i => exact Bt.mono h hB
  | str x => exact ⟨h.1, Nat.le_trans h.2 hS⟩
  | non => trivial
  | bl _ => trivial
  | _ => exact h.elim
theorem Val.atom (h : Atom B S d) : ∀ {k : Nat}, Val X st B S L k d
  | 0 => h
  | _ + 1 => .inl h
theorem Val.tup {xs : List D} (hl : xs.length ≤ L) (h : ∀ x ∈ xs, Val X st B S L k x) : Val X st B S L (k + 1) (.tup xs) := .inr (.inl ⟨xs, rfl, hl, h⟩)
theorem Val.ref {n : Nat} {xs : List D} (hn : X n) (e : st[n]? = some (.lst xs)) (hl : xs.length ≤ L) (h : ∀ x ∈ xs, Val X st B S L k x) : Val X st B S L (k + 1) (.ref n) := .inr (.inr ⟨n, xs, rfl, hn, e, hl, h⟩)
theorem Val.up (hB : B ≤ B') (hS : S ≤ S') (hL : L ≤ L') (hst : ∀ n xs, X n → st[n]? = some (.lst xs) → X' n ∧ st'[n]? = some (.lst xs)) : ∀ {k k' : Nat} {d : D}, k ≤ k' → Val X st B S L k d → Val X' st' B' S' L' k' d
  | 0, k', d, _, h => Val.atom (Atom.mono h hB hS)
  | k + 1, 0, d, hk, h => absurd hk (by omega)
  | k + 1, k' + 1, d, hk, h => by
    rcases h with h | ⟨xs, rfl, hl, h⟩ | ⟨n, xs, rfl, hn, e, hl, h⟩
    · exact .inl (h.mono hB hS)
    · exact Val.tup (by omega) fun x hx => Val.up hB hS hL hst (by omega) (h x hx)
    · exact Val.ref (hst n xs hn e).1 (hst n xs hn e).2 (by omega) fun x hx => Val.up hB hS hL hst (by omega) (h x hx)
theorem Val.bg (hX : ∀ n, X n → n ≠ b) (h : Val X st B S L k d) (hB : Bg b st st') : Val X st' B S L k d := h.up (Nat.le_refl _) (Nat.le_refl _) (Nat.le_refl _) (fun n xs hn e => ⟨hn, hB.keep (hX n hn) e⟩) (Nat.le_refl _)
theorem Val.app (h : Val X st B S L k d) (g : Store) : Val X (st ++ g) B S L k d := h.up (Nat.le_refl _) (Nat.le_refl _) (Nat.le_refl _) (fun n xs hn e => ⟨hn, ap e⟩) (Nat.le_refl _)
theorem Val.deep {k' : Nat} (h : Val X st B S L k d) (hk : k ≤ k') : Val X st B S L k' d := h.up (Nat.le_refl _) (Nat.le_refl _) (Nat.le_refl _) (fun n xs hn e => ⟨hn, e⟩) hk
theorem Val.imp (h : Val X st B S L k d) (hX : ∀ n, X n → n < st.length → X' n) : Val X' st B S L k d := h.up (Nat.le_refl _) (Nat.le_refl _) (Nat.le_refl _) (fun n xs hn e => ⟨hX n hn (List.getElem?_eq_some_iff.mp e).1, e⟩) (Nat.le_refl _)
theorem Val.inSt : ∀ {k : Nat}, Val X st B S L k d → InSt st d
  | 0, h => by cases d <;> first | trivial | exact h.elim
  | k + 1, h => by
    rcases h with h | ⟨xs, rfl, _, _⟩ | ⟨n, xs, rfl, _, e, _, _⟩
    · cases d <;> first | trivial | exact h.elim
    · trivial
    · exact ⟨xs, e⟩
theorem Val.parts {xs : List D} (h : Val X st B S L k (.tup xs)) : xs.length ≤ L ∧ ∃ j, k = j + 1 ∧ ∀ x ∈ xs, Val X st B S L j x := by
  cases k with
  | zero => exact h.elim
  | succ k =>
    rcases h with h | ⟨ys, e, hl, h⟩ | ⟨n, xs, e, _⟩
    · exact h.elim
    · injection e with e; subst e; exact ⟨hl, k, rfl, h⟩
    · cases e
theorem Val.items {n : Nat} (h : Val X st B S L k (.ref n)) : ∃ xs, X n ∧ st[n]? = some (.lst xs) ∧ xs.length ≤ L ∧ ∃ j, k = j + 1 ∧ ∀ x ∈ xs, Val X st B S L j x := by
  cases k with
  | zero => exact h.elim
  | succ k =>
    rcases h with h | ⟨ys, e, _⟩ | ⟨m, xs, e, hn, e2, hl, h⟩
    · exact h.elim
    · cases e
    · injection e with e; subst e; exact ⟨xs, hn, e2, hl, k, rfl, h⟩
theorem Val.str {x : Str} : ∀ {k : Nat}, Val X st B S L k (.str x) → Asc x ∧ x.length ≤ S
  | 0, h => h
  | k + 1, h => by
    rcases h with h | ⟨ys, e, _⟩ | ⟨m, xs, e, _⟩
    · exact h
    · cases e
    · cases e
theorem Val.int {i : Int} : ∀ {k : Nat}, Val X st B S L k (.int i) → Bt B i
  | 0, h => h
  | k + 1, h => by
    rcases h with h | ⟨ys, e, _⟩ | ⟨m, xs, e, _⟩
    · exact h
    · cases e
    · cases e
/-! what the looks want -/
theorem Val.partsIn (h : Val X st B S L k d) : ∀ xs, d = .tup xs → ∀ x ∈ xs, InSt st x := fun xs e x hx => by
  subst e
  obtain ⟨_, j, _, h⟩ := h.parts
  exact (h x hx).inSt
theorem Val.bott (h : Val X st B S L k d) (hB : B ≤ 8999) : ∀ x y, d = .tup [.int x, .int y] → Bt 8999 y := fun x y e => by
  subst e
  obtain ⟨_, j, _, h⟩ := h.parts
  exact (h (.int y) (by simp)).int.mono hB
theorem Val.iw (h : Val X st B S L k d) : F_iw [d] st = some (.bl (isW d), st) := iw_eq h.inSt
theorem Val.nm (h : Val X st B S L k d) (hS : S ≤ sizeLine) : F_nm [d] st = some (.bl (isN d), st) := nm_eq h.inSt fun x e => by subst e; exact Nat.le_trans h.str.2 hS
theorem Val.lnm (h : Val X st B S L k d) (hS : S ≤ sizeLine) : F_lnm [d] st = some (.bl (isN d), st) := lnm_eq h.inSt fun x e => by subst e; exact ⟨Nat.le_trans h.str.2 hS, h.str.1.ok⟩
theorem Val.ifr (h : Val X st B S L k d) (hB : B ≤ 8999) : F_ifr [d] st = some (.bl (isFr d), st) := ifr_eq h.inSt h.partsIn (h.bott hB)
theorem Val.lfr (h : Val X st B S L k d) (hB : B ≤ 8999) : F_lfr [d] st = some (.bl (isFr d), st) := lfr_eq h.inSt h.partsIn (h.bott hB)
theorem Val.bk (h : Val X st B S L k d) (hS : S ≤ sizeLine) : F_bk F_nm F_iwn [d] st = some (.bl (isBk d), st) :=
  bk_eq h.inSt (fun xs e x hx => by subst e; obtain ⟨_, j, _, h⟩ := h.parts; exact (h x hx).nm hS) (fun xs e x hx => by subst e; obtain ⟨_, j, _, h⟩ := h.parts; exact iwn_eq (h x hx).inSt)
theorem Val.lbk (h : Val X st B S L k d) (hS : S ≤ sizeLine) : F_bk F_lnm F_lwn [d] st = some (.bl (isBk d), st) :=
  bk_eq h.inSt (fun xs e x hx => by subst e; obtain ⟨_, j, _, h⟩ := h.parts; exact (h x hx).lnm hS) (fun xs e x hx => by subst e; obtain ⟨_, j, _, h⟩ := h.parts; exact lwn_eq (h x hx).inSt)
/-! rows, piles -/
def isRow : D → Bool
  | .tup [n, l, h, f] => isBk (.tup [n, l, h]) && isFr f
  | _ => false
def rowNm : D → Str
  | .tup (.str x :: _) => x
  | _ => ""
def isPl : D → Bool
  | .tup xs => decide (xs.length ≤ 7) && (xs.all isRow && decide ((xs.map rowNm).Nodup))
  | _ => false
theorem isRow_no {d : D} (h : ∀ n l h f, d ≠ .tup [n, l, h, f]) : isRow d = false := by
  unfold isRow
  split
  · rename_i e
    exact absurd rfl (h _ _ _ _)
  · rfl
theorem isRow_name {d : D} (h : isRow d = true) : ∃ x r, d = .tup (.str x :: r) ∧ isN (.str x) = true := by
  unfold isRow at h
  split at h
  · rename_i n l hh f
    rw [Bool.and_eq_true] at h
    have h1 : (isN n && (isIn l 1 1000 && isIn hh 1 1000)) = true := h.1
    rw [Bool.and_eq_true] at h1
    cases n with
    | str x => exact ⟨x, _, rfl, h1.1⟩
    | _ => exact absurd h1.1 Bool.false_ne_true
  · cases h
/-- the test that a row fails -/
def tRow (i : Nat) (Fb Ff : List D → M D) : Et := (tOrD (tNotD (tV (eCB bIsi (aCons (eVar i) (aCons (eC (.ty "tuple")) aNil))))) (tOrD (tV (eOp2 dNe (eCB bLen (aCons (eVar i) aNil)) (eC (.int 4)))) (tOrD (tNotD (tV (eCB (mCall 1 Fb) (aCons (eSl (eVar i) oNone (oSome (eC (.int 3)))) aNil)))) (tNotD (tV (eCB (mCall 1 Ff) (aCons (eOp2 dIx (eVar i) (eC (.int 3))) aNil)))))))
theorem four {xs : List D} (h : xs.length = 4) : ∃ x y z w, xs = [x, y, z, w] := by
  match xs, h with
  | [x, y, z, w], _ => exact ⟨x, y, z, w, rfl⟩
theorem sl3 {ρ : Env1} {i : Nat} {x y z w : D} (hi : ρ[i]? = some (some (.tup [x, y, z, w]))) (st : Store) : eSl (eVar i) oNone (oSome (eC (.int 3))) ρ st = some (.tup [x, y, z], st) := by
  simp only [eSl, Dl.M.bnd, eVar_at hi, oNone, oSome, eC, Dl.M.ret, dSl]
  have : cutD [x, y, z, w] none (some (3 : Int)) = [x, y, z] := cut_take [x, y, z, w] 3
  rw [this]
theorem row_test {Fb Ff : List D → M D} {ρ : Env1} {i : Nat} (hi : ρ[i]? = some (some d)) (h : Val X st B S L k d) (hb : ∀ xs, d = .tup xs → Fb [.tup (xs.take 3)] st = some (.bl (isBk (.tup (xs.take 3))), st)) (hf : ∀ xs, d = .tup xs → ∀ x ∈ xs, Ff [x] st = some (.bl (isFr x), st)) :
    tRow i Fb Ff ρ st = some (!isRow d, st) := by
  unfold tRow
  have e1 := tNotD_at (tV_at (isi_at hi (bIsi_tup h.inSt)))
  by_cases hd : isT d = true
  · obtain ⟨xs, rfl⟩ : ∃ xs, d = .tup xs := by
      cases d with
      | tup xs => exact ⟨xs, rfl⟩
      | _ => cases hd
    have e2 := tV_at ((eOp2_at (ρ := ρ) (g := dNe) ((eCB_at (aCons_at (eVar_at hi) aNil_at)).trans (tup_len xs st)) eC_at).trans (ne_int xs.length 4 st))
    rw [tOrD_at e1, if_neg (show ¬ (!isT (.tup xs)) = true by simp [isT]), tOrD_at e2]
    by_cases hl : xs.length = 4
    · obtain ⟨x, y, z, w, rfl⟩ := four hl
      rw [if_neg (by simp), tOrD_at (tNotD_at (tV_at (call1E (sl3 hi st) (hb _ rfl))))]
      have x3 : eOp2 dIx (eVar i) (eC (.int 3)) ρ st = some (w, st) := (eOp2_at (eVar_at hi) eC_at).trans rfl
      have e4 := tNotD_at (tV_at (call1E x3 (hf _ rfl w (by simp))))
      rw [e4]
      show (if (!isBk (.tup [x, y, z])) = true then some (true, st) else some (!isFr w, st)) = some (!(isBk (.tup [x, y, z]) && isFr w), st)
      cases isBk (.tup [x, y, z]) <;> rfl
    · rw [if_pos (by simp; omega), isRow_no fun n l h f e => hl (by injection e with e; subst e; rfl)]
      rfl
  · have hd' : isT d = false := by simpa using hd
    rw [hd'] at e1
    rw [tOrD_at e1, if_pos (show (!false) = true from rfl), isRow_no fun n l h f e => by subst e; cases hd']
    rfl
end Dl
end
set_option linter.all false
set_option autoImplicit false
set_option maxRecDepth 100000
/-! M39: piles, the program's look and the law's alike (k01) -/
noncomputable section
namespace Dl
open PySem PySem.Spec PyProof.Rows L2
variable {X X' : Nat → Prop} {b : Nat} {st st' : Store} {B S L B' S' L' k : Nat} {d : D}
/-! ### a dict of the names -/
instance (x : L2.Key) (ks : List L2.Key) : Decidable (x ∈ ks) := decidable_of_iff ((ks.any fun k => decide (k = x)) = true) (by simp [List.any_eq_true])
/-- what keys stand there, a key more -/
def putKs (ks : List Key) (x : Key) : List Key := if x ∈ ks then ks else ks ++ [x]
theorem putD_keys (kvs : List (Key × D)) (x : Key) (v : D) : (putD kvs x v).map (·.1) = putKs (kvs.map (·.1)) x := by
  unfold putD putKs
  have e : (kvs.any fun kv => decide (kv.1 = x)) = decide (x ∈ kvs.map (·.1)) := by
    rw [Bool.eq_iff_iff]
    simp [List.any_eq_true]
  rw [e]
  by_cases h : x ∈ kvs.map (·.1)
  · rw [if_pos (decide_eq_true h), if_pos h, List.map_map]
    apply List.map_congr_left
    intro kv _
    show (if kv.1 = x then (kv.1, v) else kv).1 = kv.1
    split <;> rfl
  · rw [if_neg (by simpa using h), if_neg h, List.map_append]; rfl
def putAll : List Key → List Key → List Key
  | ks, [] => ks
  | ks, x :: xs => putAll (putKs ks x) xs
theorem putAll_len : ∀ (xs ks : List Key), ks.Nodup → (putAll ks xs).length ≤ ks.length + xs.length ∧ ((putAll ks xs).length = ks.length + xs.length ↔ (ks ++ xs).Nodup)
  | [], ks, h => ⟨by simp [putAll], by simp [putAll, h]⟩
  | x :: xs, ks, h => by
    unfold putAll putKs
    by_cases hx : x ∈ ks
    · rw [if_pos hx]
      obtain ⟨h1, h2⟩ := putAll_len xs ks h
      refine ⟨by simp only [List.length_cons]; omega, ⟨fun e => ?_, fun e => ?_⟩⟩
      · simp only [List.length_cons] at e; omega
      · rw [List.nodup_append] at e
        exact absurd rfl (e.2.2 x hx x (by simp))
    · rw [if_neg hx]
      have hn : (ks ++ [x]).Nodup := by
        rw [List.nodup_append]
        exact ⟨h, by simp, fun a ha b hb => by rw [List.mem_singleton] at hb; subst hb; exact fun z => hx (z ▸ ha)⟩
      obtain ⟨h1, h2⟩ := putAll_len xs (ks ++ [x]) hn
      simp only [List.length_append, List.length_cons, List.length_nil] at h1 h2 ⊢
      refine ⟨by omega, ?_⟩
      rw [show ks.length + (xs.length + 1) = ks.length + (0 + 1) + xs.length by omega, h2]
      rw [List.append_assoc]; rfl
/-- a dict comprehension over what another list tells, texts as keys -/
theorem dc_names {α : Type} {it : Ei} {g : Gx} {e f : Ev} {vs : List Nat} {ρ : Env1} {st : Store} {s : Src} (as : List α) (nm : α → Str) (g0 : α → D) (v : D) (hi : it ρ st = some (s, st)) (hin : s.In st) (hds : s.ds = as.map g0)
    (h : ∀ a ∈ as, ∀ z : Store, ∃ ρ1, g (g0 a) (wipeE ρ vs) (st ++ z) = some (ρ1, st ++ z) ∧ e ρ1 (st ++ z) = some (.str (nm a), st ++ z) ∧ f ρ1 (st ++ z) = some (v, st ++ z)) (hl : as.length ≤ sizeLine) :
    ∃ kvs, eDc it g tYesD e f vs ρ st = some (.ref st.length, st ++ [.dk kvs]) ∧ kvs.map (·.1) = putAll [] (as.map fun a => Sum.inr (nm a)) := by
  have key : ∀ (bs : List α) (kvs : List (Key × D)), (∀ a ∈ bs, a ∈ as) → kvs.length + bs.length ≤ as.length → ∃ kvs', dcL s st.length g tYesD e f (wipeE ρ vs) (bs.map g0) (st ++ [.dk kvs]) = some ((), st ++ [.dk kvs']) ∧ kvs'.map (·.1) = putAll (kvs.map (·.1)) (bs.map fun a => Sum.inr (nm a)) := by
    intro bs
    induction bs with
    | nil =>
      intro kvs _ _
      refine ⟨kvs, ?_, rfl⟩
      show dcL s st.length g tYesD e f (wipeE ρ vs) [] (st ++ [.dk kvs]) = _
      unfold dcL
      rw [if_pos (hin.ok _)]
    | cons a bs ih =>
      intro kvs hm hlen
      obtain ⟨ρ1, e1, e2, e3⟩ := h a (hm a (by simp)) [.dk kvs]
      have hlt : kvs.length < sizeLine := by simp only [List.length_cons] at hlen; omega
      have hk : (putD kvs (Sum.inr (nm a)) v).length ≤ kvs.length + 1 := by
        have := congrArg List.length (putD_keys kvs (Sum.inr (nm a)) v)
        simp only [List.length_map] at this
        rw [this]
        unfold putKs
        split <;> simp
      obtain ⟨kvs', e4, e5⟩ := ih (putD kvs (Sum.inr (nm a)) v) (fun x hx => hm x (by simp [hx])) (by simp only [List.length_cons] at hlen; omega)
      refine ⟨kvs', ?_, ?_⟩
      · show dcL s st.length g tYesD e f (wipeE ρ vs) (g0 a :: bs.map g0) (st ++ [.dk kvs]) = _
        conv => lhs; unfold dcL
        rw [if_pos (hin.ok _)]
        simp only [Dl.M.bnd, e1, tYesD, Dl.M.ret, if_true, e2, e3, mPut, keyOf, get_app, if_pos hlt, set_app]
        exact e4
      · rw [e5, putD_keys]; rfl
  obtain ⟨kvs, e1, e2⟩ := key as [] (fun _ h => h) (by simp)
  refine ⟨kvs, ?_, e2⟩
  unfold eDc
  simp only [Dl.M.bnd, hi, hds, e1, Dl.M.ret]
theorem putAll_nodup (xs : List Key) : decide ((putAll [] xs).length = xs.length) = decide xs.Nodup := by
  have h := (putAll_len xs [] List.nodup_nil).2
  simp only [List.length_nil, Nat.zero_add, List.nil_append] at h
  rw [decide_eq_decide]
  exact h
theorem nodup_inr {α : Type} (as : List α) (nm : α → Str) : (as.map fun a => (Sum.inr (nm a) : Key)).Nodup ↔ (as.map nm).Nodup := by
  unfold List.Nodup
  rw [List.pairwise_map, List.pairwise_map]
  constructor
  · intro h; exact h.imp fun hne e => hne (by rw [e])
  · intro h; exact h.imp fun hne e => hne (by injection e)
/-! ### the program's look -/
def b_ipl (Fb Ff : List D → M D) : Sx := (sSeq (sIf (tOrD (tNotD (tV (eCB bIsi (aCons (eVar 0) (aCons (eC (.ty "tuple")) aNil))))) (tV (eOp2 dGt (eCB bLen (aCons (eVar 0) aNil)) (eC (.int 7))))) (sRet (eC (.bl false))) sNext)
  (sSeq (sFor (iSeq (eVar 0)) (xName 1) (sIf (tRow 1 Fb Ff) (sRet (eC (.bl false))) sNext))
  (sRet (eOp2 dEq (eCB bLen (aCons (eDc (iSeq (eVar 0)) (xName 1) tYesD (eOp2 dIx (eVar 1) (eC (.int 0))) (eC (.bl true)) [1]) aNil)) (eCB bLen (aCons (eVar 0) aNil))))))
def F_ipl (Fb Ff : List D → M D) : List D → M D := gcF (defX 2 (b_ipl Fb Ff))
def sq7 : D → Bool
  | .tup xs => decide (xs.length ≤ 7)
  | _ => false
theorem pl_head {ρ : Env1} {T U : Sx} (hi : ρ[0]? = some (some d)) (h : Val X st B S L k d) :
    sIf (tOrD (tNotD (tV (eCB bIsi (aCons (eVar 0) (aCons (eC (.ty "tuple")) aNil))))) (tV (eOp2 dGt (eCB bLen (aCons (eVar 0) aNil)) (eC (.int 7))))) T U ρ st =
      if sq7 d = true then U ρ st else T ρ st := by
  have e1 := tNotD_at (tV_at (isi_at hi (bIsi_tup h.inSt)))
  by_cases hd : isT d = true
  · obtain ⟨xs, rfl⟩ : ∃ xs, d = .tup xs := by
      cases d with
      | tup xs => exact ⟨xs, rfl⟩
      | _ => cases hd
    have e2 := tV_at ((eOp2_at (ρ := ρ) (g := dGt) ((eCB_at (aCons_at (eVar_at hi) aNil_at)).trans (tup_len xs st)) eC_at).trans (dGt_int (a := (xs.length : Int)) (b := 7) st))
    by_cases hl : xs.length ≤ 7
    · rw [sIf_at (k := false) (by rw [tOrD_at e1, if_neg (show ¬ (!isT (.tup xs)) = true by simp [isT]), e2, decide_eq_false (by omega)]), if_neg (by decide), if_pos (show sq7 (.tup xs) = true from decide_eq_true hl)]
    · rw [sIf_at (k := true) (by rw [tOrD_at e1, if_neg (show ¬ (!isT (.tup xs)) = true by simp [isT]), e2, decide_eq_true (by omega)]), if_pos rfl, if_neg (show ¬ sq7 (.tup xs) = true by simp [sq7, hl])]
  · have hd' : isT d = false := by simpa using hd
    have hs : sq7 d = false := by cases d <;> first | rfl | cases hd'
    rw [hd'] at e1
    rw [sIf_at (k := true) (by rw [tOrD_at e1]; rfl), if_pos rfl, hs, if_neg (by decide)]
theorem sq7_ex (h : sq7 d = true) : ∃ xs, d = .tup xs ∧ xs.length ≤ 7 := by
  cases d with
  | tup xs => exact ⟨xs, rfl, of_decide_eq_true h⟩
  | _ => cases h
theorem isPl_no (h : ¬ sq7 d = true) : isPl d = false := by
  cases d with
  | tup xs =>
    have : ¬ xs.length ≤ 7 := fun hl => h (decide_eq_true hl)
    simp [isPl, this]
  | _ => rfl
theorem take3_val {xs : List D} (h : ∀ x ∈ xs, Val X st B S L k x) (hl : xs.length ≤ L) : Val X st B S L (k + 1) (.tup (xs.take 3)) := Val.tup (by rw [List.length_take]; omega) fun x hx => h x (List.mem_of_mem_take hx)
theorem row_at {ρ : Env1} {i : Nat} {Fb Ff : List D → M D} (hFb : ∀ {k : Nat} {d : D}, Val X st B S L k d → Fb [d] st = some (.bl (isBk d), st)) (hFf : ∀ {k : Nat} {d : D}, Val X st B S L k d → Ff [d] st = some (.bl (isFr d), st)) (hi : ρ[i]? = some (some d)) (h : Val X st B S L k d) : tRow i Fb Ff ρ st = some (!isRow d, st) :=
  row_test hi h (fun xs e => by subst e; obtain ⟨hl, j, _, hp⟩ := h.parts; exact hFb (take3_val hp hl)) (fun xs e x hx => by subst e; obtain ⟨_, j, _, hp⟩ := h.parts; exact hFf (hp x hx))
theorem ipl_loop {s : Src} {Fb Ff : List D → M D} (ok : s.ok st) (hFb : ∀ {k : Nat} {d : D}, Val X st B S L k d → Fb [d] st = some (.bl (isBk d), st)) (hFf : ∀ {k : Nat} {d : D}, Val X st B S L k d → Ff [d] st = some (.bl (isFr d), st)) (o0 : Option D) : ∀ (xs : List D) (o : Option D), (∀ x ∈ xs, Val X st B S L k x) →
    ∃ o', forL s (xName 1) (sIf (tRow 1 Fb Ff) (sRet (eC (.bl false))) sNext) xs [o0, o] st = some (if xs.all isRow = true then .nx [o0, o'] else .rt (.bl false), st)
  | [], o, _ => ⟨o, (forL_nil ok).trans rfl⟩
  | x :: xs, o, h => by
    have e := row_at (ρ := [o0, some x]) (i := 1) hFb hFf rfl (h x (by simp))
    cases hr : isRow x with
    | true =>
      obtain ⟨o', e2⟩ := ipl_loop ok hFb hFf o0 xs (some x) fun y hy => h y (by simp [hy])
      refine ⟨o', (forL_nx (ρ1 := [o0, some x]) (st1 := st) (ρ2 := [o0, some x]) (st2 := st) ok rfl ?_).trans ?_⟩
      · rw [sIf_at e, hr]; rfl
      · rw [e2, List.all_cons, hr, Bool.true_and]
    | false =>
      refine ⟨none, (forL_rt (ρ1 := [o0, some x]) (st1 := st) (st2 := st) (d := .bl false) ok rfl ?_).trans ?_⟩
      · rw [sIf_at e, hr]; rfl
      · rw [List.all_cons, hr, Bool.false_and, if_neg (by decide)]
theorem isRow_nm {x : D} (h : isRow x = true) (st : Store) : dIx x (.int 0) st = some (.str (rowNm x), st) := by
  obtain ⟨z, r, rfl, _⟩ := isRow_name h
  show (atI (D.str z :: r) 0).map (fun d => (d, st)) = _
  rw [atI0]; rfl
theorem ipl_eq {Fb Ff : List D → M D} (hFb : ∀ {k : Nat} {d : D}, Val X st B S L k d → Fb [d] st = some (.bl (isBk d), st)) (hFf : ∀ {k : Nat} {d : D}, Val X st B S L k d → Ff [d] st = some (.bl (isFr d), st)) (h : Val X st B S L k d) : F_ipl Fb Ff [d] st = some (.bl (isPl d), st) := by
  have hd := pl_head (ρ := [some d, none]) (T := sRet (eC (.bl false))) (U := sNext) rfl h
  by_cases hx : sq7 d = true
  · rw [if_pos hx] at hd
    obtain ⟨xs, rfl, hl⟩ := sq7_ex hx
    obtain ⟨_, j, _, hp⟩ := h.parts
    obtain ⟨o', el⟩ := ipl_loop (s := ⟨xs, none⟩) Src.ok_none hFb hFf (some (.tup xs)) xs none hp
    have efor : sFor (iSeq (eVar 0)) (xName 1) (sIf (tRow 1 Fb Ff) (sRet (eC (.bl false))) sNext) [some (.tup xs), none] st = some (if xs.all isRow = true then .nx [some (.tup xs), o'] else .rt (.bl false), st) := (sFor_at (s := ⟨xs, none⟩) rfl).trans el
    cases hr : xs.all isRow with
    | true =>
      rw [hr, if_pos rfl] at efor
      have hall : ∀ x ∈ xs, isRow x = true := fun x hx => List.all_eq_true.mp hr x hx
      obtain ⟨kvs, e1, e2⟩ := dc_names (it := iSeq (eVar 0)) (g := xName 1) (e := eOp2 dIx (eVar 1) (eC (.int 0))) (f := eC (.bl true)) (vs := [1]) (ρ := [some (.tup xs), o']) (st := st) (s := ⟨xs, none⟩) xs rowNm id (.bl true) rfl (.inl rfl) (List.map_id xs).symm (fun a ha z => ⟨[some (.tup xs), some a], rfl, by
        rw [eOp2_at (x := a) (y := .int 0) (st1 := st ++ z) (st2 := st ++ z) rfl rfl]
        exact isRow_nm (hall a ha) _, rfl⟩) (Nat.le_trans hl (by decide))
      refine gcF_eq (g := [.dk kvs]) (defX_rt (env := [some (.tup xs), none]) rfl ?_) rfl
      refine (sSeq_at (ρ1 := [some (.tup xs), none]) (st1 := st) hd).trans ((sSeq_at efor).trans (sRet_at ?_))
      have el1 : eCB bLen (aCons (eDc (iSeq (eVar 0)) (xName 1) tYesD (eOp2 dIx (eVar 1) (eC (.int 0))) (eC (.bl true)) [1]) aNil) [some (.tup xs), o'] st = some (.int kvs.length, st ++ [.dk kvs]) := by
        rw [eCB_at (aCons_at e1 aNil_at)]
        show (match (st ++ [MO.dk kvs])[st.length]? with
          | some (.lst xs) => some (D.int xs.length, st ++ [MO.dk kvs])
          | some (.dk kvs2) => some (.int kvs2.length, st ++ [MO.dk kvs])
          | _ => none) = _
        rw [get_app]
      rw [eOp2_at (g := dEq) el1 ((eCB_at (aCons_at (eVar_at rfl) aNil_at)).trans (tup_len xs _)), eq_int]
      have en : kvs.length = (putAll [] (xs.map fun a => Sum.inr (rowNm a))).length := by rw [← e2, List.length_map]
      have hb : decide ((kvs.length : Int) = (xs.length : Int)) = isPl (.tup xs) := by
        have h1 := putAll_nodup (xs.map fun a => (Sum.inr (rowNm a) : Key))
        rw [List.length_map, ← en] at h1
        rw [show decide ((kvs.length : Int) = (xs.length : Int)) = decide (kvs.length = xs.length) from decide_eq_decide.mpr (by omega), h1]
        simp only [isPl, hr, decide_eq_true hl, Bool.true_and]
        exact decide_eq_decide.mpr (nodup_inr xs rowNm)
      rw [hb]
    | false =>
      rw [hr, if_neg (by decide)] at efor
      refine gcF_eq0 (defX_rt (env := [some (.tup xs), none]) rfl ?_) rfl
      refine (sSeq_at (ρ1 := [some (.tup xs), none]) (st1 := st) hd).trans ((sSeq_rt efor).trans ?_)
      simp [isPl, hr]
  · rw [if_neg hx] at hd
    refine gcF_eq0 (defX_rt (env := [some d, none]) rfl ?_) rfl
    refine (sSeq_rt hd).trans ?_
    rw [isPl_no hx]
/-! ### the law's look -/
theorem py_strs (x : Str) : ∀ nms : List Str, ((pys (nms.map D.str)).any fun z => PyData.eqv z (py (.str x))) = decide (x ∈ nms)
  | [] => rfl
  | y :: nms => by
    show (PyData.eqv (py (.str y)) (py (.str x)) || (pys (nms.map D.str)).any fun z => PyData.eqv z (py (.str x))) = _
    rw [py_strs x nms]
    have e : PyData.eqv (py (.str y)) (py (.str x)) = decide (x = y) := by
      by_cases h : x = y
      · subst h; simp [py, PyData.eqv]
      · simp [py, PyData.eqv, h, Ne.symm h]
    rw [e]
    simp [List.mem_cons]
theorem strs_plain : ∀ {nms : List Str}, (∀ z ∈ nms, PyData.strOk z = true) → D.plains (nms.map D.str) = true ∧ D.deps (nms.map D.str) = 0
  | [], _ => ⟨rfl, rfl⟩
  | x :: nms, h => by
    obtain ⟨i1, i2⟩ := strs_plain (nms := nms) fun z hz => h z (by simp [hz])
    constructor
    · show (PyData.strOk x && D.plains (nms.map D.str)) = true
      rw [h x (by simp), i1]; rfl
    · show max 0 (D.deps (nms.map D.str)) = 0
      omega
theorem in_strs {m : Nat} {nms : List Str} {x : Str} (e : st[m]? = some (.lst (nms.map D.str))) (hx : PyData.strOk x = true) (hn : ∀ z ∈ nms, PyData.strOk z = true) (neg : Bool) : dIn neg (.str x) (.ref m) st = some (.bl (bN neg (decide (x ∈ nms))), st) := by
  obtain ⟨p1, p2⟩ := strs_plain hn
  show dInL neg (.str x) m st = _
  unfold dInL
  rw [toPyN_plain st 12 (d := .str x) hx, toPyN_list st 11 e p1]
  simp only
  rw [if_pos ⟨py_shaped (d := .str x) hx (Nat.zero_le _), pys_shaped p1 (by omega)⟩, py_strs]
def bLpl (Fb Ff : List D → M D) : Sx := (sSeq (sIf (tOrD (tNotD (tV (eCB bIsi (aCons (eVar 2) (aCons (eC (.ty "tuple")) aNil))))) (tOrD (tV (eOp2 dNe (eCB bLen (aCons (eVar 2) aNil)) (eC (.int 4)))) (tNotD (tV (eCB (mCall 1 Fb) (aCons (eSl (eVar 2) oNone (oSome (eC (.int 3)))) aNil)))))) (sRet (eC (.bl false))) sNext)
  (sSeq (sIf (tOrD (tNotD (tV (eCB (mCall 1 Ff) (aCons (eOp2 dIx (eVar 2) (eC (.int 3))) aNil)))) (tV (eOp2 (dIn false) (eOp2 dIx (eVar 2) (eC (.int 0))) (eVar 1)))) (sRet (eC (.bl false))) sNext)
  (sDrop (eBM dApp (eVar 1) (aCons (eOp2 dIx (eVar 2) (eC (.int 0))) aNil)))))
def b_lpl (Fb Ff : List D → M D) : Sx := (sSeq (sIf (tOrD (tNotD (tV (eCB bIsi (aCons (eVar 0) (aCons (eC (.ty "tuple")) aNil))))) (tV (eOp2 dGt (eCB bLen (aCons (eVar 0) aNil)) (eC (.int 7))))) (sRet (eC (.bl false))) sNext)
  (sSeq (sAsg (eLst aNil) (xName 1))
  (sSeq (sFor (iSeq (eVar 0)) (xName 2) (bLpl Fb Ff))
  (sRet (eC (.bl true))))))
def F_lpl (Fb Ff : List D → M D) : List D → M D := gcF (defX 3 (b_lpl Fb Ff))
def isRow3 : D → Bool
  | .tup [n, l, h, _] => isBk (.tup [n, l, h])
  | _ => false
theorem row3_test {Fb : List D → M D} {ρ : Env1} {i : Nat} (hi : ρ[i]? = some (some d)) (h : Val X st B S L k d) (hFb : ∀ {k : Nat} {d : D}, Val X st B S L k d → Fb [d] st = some (.bl (isBk d), st)) :
    (tOrD (tNotD (tV (eCB bIsi (aCons (eVar i) (aCons (eC (.ty "tuple")) aNil))))) (tOrD (tV (eOp2 dNe (eCB bLen (aCons (eVar i) aNil)) (eC (.int 4)))) (tNotD (tV (eCB (mCall 1 Fb) (aCons (eSl (eVar i) oNone (oSome (eC (.int 3)))) aNil)))))) ρ st = some (!isRow3 d, st) := by
  have e1 := tNotD_at (tV_at (isi_at hi (bIsi_tup h.inSt)))
  have no : ∀ {d : D}, (∀ n l h f, d ≠ .tup [n, l, h, f]) → isRow3 d = false := by
    intro d h
    unfold isRow3
    split
    · exact absurd rfl (h _ _ _ _)
    · rfl
  by_cases hd : isT d = true
  · obtain ⟨xs, rfl⟩ : ∃ xs, d = .tup xs := by
      cases d with
      | tup xs => exact ⟨xs, rfl⟩
      | _ => cases hd
    obtain ⟨hL, j, _, hp⟩ := h.parts
    have e2 := tV_at ((eOp2_at (ρ := ρ) (g := dNe) ((eCB_at (aCons_at (eVar_at hi) aNil_at)).trans (tup_len xs st)) eC_at).trans (ne_int xs.length 4 st))
    rw [tOrD_at e1, if_neg (show ¬ (!isT (.tup xs)) = true by simp [isT]), tOrD_at e2]
    by_cases hl : xs.length = 4
    · obtain ⟨x, y, z, w, rfl⟩ := four hl
      rw [if_neg (by simp), tNotD_at (tV_at (call1E (sl3 hi st) (hFb (take3_val hp hL))))]
      rfl
    · rw [if_pos (by simp; omega), no fun n l h f e => hl (by injection e with e; subst e; rfl)]
      rfl
  · have hd' : isT d = false := by simpa using hd
    rw [hd'] at e1
    rw [tOrD_at e1, if_pos (show (!false) = true from rfl), no fun n l h f e => by subst e; cases hd']
    rfl
/-- so far so good -/
def scan (acc : List Str) : List D → Bool
  | [] => true
  | x :: xs => isRow x && (!decide (rowNm x ∈ acc) && scan (acc ++ [rowNm x]) xs)
theorem scan_cons (acc : List Str) (x : D) (xs : List D) : scan acc (x :: xs) = (isRow x && (!decide (rowNm x ∈ acc) && scan (acc ++ [rowNm x]) xs)) := rfl
theorem scan_eq : ∀ (xs : List D) (acc : List Str), acc.Nodup → scan acc xs = (xs.all isRow && decide ((acc ++ xs.map rowNm).Nodup))
  | [], acc, h => by simp [scan, h]
  | x :: xs, acc, h => by
    unfold scan
    rw [List.all_cons, Bool.and_assoc]
    congr 1
    by_cases hx : rowNm x ∈ acc
    · rw [decide_eq_true hx]
      have : ¬ (acc ++ (x :: xs).map rowNm).Nodup := fun e => by
        rw [List.nodup_append] at e
        exact e.2.2 _ hx _ (by simp) rfl
      rw [decide_eq_false this]; simp
    · have hn : (acc ++ [rowNm x]).Nodup := by
        rw [List.nodup_append]
        exact ⟨h, by simp, fun a ha b hb => by rw [List.mem_singleton] at hb; subst hb; exact fun z => hx (z ▸ ha)⟩
      rw [decide_eq_false hx, scan_eq xs _ hn, List.append_assoc]
      simp
theorem lpl_turn {Fb Ff : List D → M D} {nms : List Str} {x : D} {o0 : Option D} (hFb : ∀ {k : Nat} {d : D}, Val X (st ++ [.lst (nms.map D.str)]) B S L k d → Fb [d] (st ++ [.lst (nms.map D.str)]) = some (.bl (isBk d), st ++ [.lst (nms.map D.str)])) (hFf : ∀ {k : Nat} {d : D}, Val X (st ++ [.lst (nms.map D.str)]) B S L k d → Ff [d] (st ++ [.lst (nms.map D.str)]) = some (.bl (isFr d), st ++ [.lst (nms.map D.str)]))
    (hn : ∀ z ∈ nms, PyData.strOk z = true) (hl : nms.length < 100) (h : Val X st B S L k x) :
    bLpl Fb Ff [o0, some (.ref st.length), some x] (st ++ [.lst (nms.map D.str)]) = if (isRow x && !decide (rowNm x ∈ nms)) = true then some (.nx [o0, some (.ref st.length), some x], st ++ [.lst ((nms ++ [rowNm x]).map D.str)]) else some (.rt (.bl false), st ++ [.lst (nms.map D.str)]) := by
  have hv := h.app [.lst (nms.map D.str)]
  have t1 := row3_test (ρ := [o0, some (.ref st.length), some x]) (i := 2) (Fb := Fb) rfl hv hFb
  cases h3 : isRow3 x with
  | false =>
    have hr : isRow x = false := by
      cases hh : isRow x with
      | false => rfl
      | true =>
        unfold isRow at hh
        split at hh
        · rename_i n l h2 f
          rw [Bool.and_eq_true] at hh
          have : isRow3 (.tup [n, l, h2, f]) = true := hh.1
          rw [h3] at this; cases this
        · cases hh
    rw [hr, Bool.false_and, if_neg (by decide)]
    refine sSeq_rt ?_
    rw [sIf_at t1, h3]; rfl
  | true =>
    obtain ⟨n, l, hh, f, rfl⟩ : ∃ n l h f, x = .tup [n, l, h, f] := by
      unfold isRow3 at h3
      split at h3
      · exact ⟨_, _, _, _, rfl⟩
      · cases h3
    have h3' : isBk (.tup [n, l, hh]) = true := h3
    obtain ⟨_, j, _, hp⟩ := hv.parts
    obtain ⟨z, rfl⟩ : ∃ z, n = .str z := by
      have h1 : (isN n && (isIn l 1 1000 && isIn hh 1 1000)) = true := h3'
      rw [Bool.and_eq_true] at h1
      cases n with
      | str z => exact ⟨z, rfl⟩
      | _ => exact absurd h1.1 Bool.false_ne_true
    have hz : PyData.strOk z = true := (hp (.str z) (by simp)).str.1.ok
    have hrow : isRow (.tup [.str z, l, hh, f]) = isFr f := by
      show (isBk (.tup [.str z, l, hh]) && isFr f) = _
      rw [h3', Bool.true_and]
    have x3 : eOp2 dIx (eVar 2) (eC (.int 3)) [o0, some (.ref st.length), some (.tup [.str z, l, hh, f])] (st ++ [.lst (nms.map D.str)]) = some (f, st ++ [.lst (nms.map D.str)]) := (eOp2_at (eVar_at rfl) eC_at).trans rfl
    have x0 : eOp2 dIx (eVar 2) (eC (.int 0)) [o0, some (.ref st.length), some (.tup [.str z, l, hh, f])] (st ++ [.lst (nms.map D.str)]) = some (.str z, st ++ [.lst (nms.map D.str)]) := (eOp2_at (eVar_at rfl) eC_at).trans rfl
    have t2 := tNotD_at (tV_at (call1E x3 (hFf (hp f (by simp)))))
    have t3 := tV_at ((eOp2_at (g := dIn false) x0 (eVar_at (i := 1) rfl)).trans (in_strs (x := z) (nms := nms) get_app hz hn false))
    refine (sSeq_at (ρ1 := [o0, some (.ref st.length), some (.tup [.str z, l, hh, f])]) (st1 := st ++ [.lst (nms.map D.str)]) (by rw [sIf_at t1, h3]; rfl)).trans ?_
    rw [hrow]
    cases hf : isFr f with
    | false =>
      rw [hf] at t2
      rw [Bool.false_and, if_neg (by decide)]
      refine sSeq_rt ?_
      rw [sIf_at (by rw [tOrD_at t2]; rfl), if_pos rfl]; rfl
    | true =>
      rw [hf] at t2
      show _ = if (true && !decide (z ∈ nms)) = true then _ else _
      by_cases hm : z ∈ nms
      · rw [decide_eq_true hm] at t3 ⊢
        rw [if_neg (by decide)]
        refine sSeq_rt ?_
        rw [sIf_at (k := true) (by rw [tOrD_at t2, if_neg (by decide), t3]; rfl), if_pos rfl]; rfl
      · rw [decide_eq_false hm] at t3 ⊢
        rw [if_pos (by decide)]
        refine (sSeq_at (ρ1 := [o0, some (.ref st.length), some (.tup [.str z, l, hh, f])]) (st1 := st ++ [.lst (nms.map D.str)]) ?_).trans ?_
        · rw [sIf_at (k := false) (by rw [tOrD_at t2, if_neg (by decide), t3]; rfl), if_neg (by decide)]; rfl
        · refine (sDrop_at (app_at (y := .str z) (eVar_at rfl) get_app (aCons_at x0 aNil_at) get_app (by rw [List.length_map]; exact Nat.lt_trans hl (by decide)))).trans ?_
          rw [set_app, List.map_append]
          rfl
theorem lpl_loop {s : Src} {Fb Ff : List D → M D} (oks : ∀ nms : List Str, s.ok (st ++ [.lst (nms.map D.str)])) (hFb : ∀ (g : Store) {k : Nat} {d : D}, Val X (st ++ g) B S L k d → Fb [d] (st ++ g) = some (.bl (isBk d), st ++ g)) (hFf : ∀ (g : Store) {k : Nat} {d : D}, Val X (st ++ g) B S L k d → Ff [d] (st ++ g) = some (.bl (isFr d), st ++ g)) (o0 : Option D) :
    ∀ (xs : List D) (nms : List Str) (o : Option D), (∀ x ∈ xs, Val X st B S L k x) → (∀ z ∈ nms, PyData.strOk z = true) → nms.length + xs.length < 100 →
    ∃ o' g, forL s (xName 2) (bLpl Fb Ff) xs [o0, some (.ref st.length), o] (st ++ [.lst (nms.map D.str)]) = some (if scan nms xs = true then .nx [o0, some (.ref st.length), o'] else .rt (.bl false), st ++ g)
  | [], nms, o, _, _, _ => ⟨o, _, (forL_nil (oks nms)).trans rfl⟩
  | x :: xs, nms, o, h, hn, hl => by
    have hx := h x (by simp)
    have e := lpl_turn (o0 := o0) (fun {k d} => hFb _) (fun {k d} => hFf _) hn (by simp only [List.length_cons] at hl; omega) hx
    cases hr : (isRow x && !decide (rowNm x ∈ nms)) with
    | true =>
      rw [hr, if_pos rfl] at e
      rw [Bool.and_eq_true] at hr
      have hz : PyData.strOk (rowNm x) = true := by
        obtain ⟨z, r, rfl, _⟩ := isRow_name hr.1
        obtain ⟨_, j, _, hp⟩ := hx.parts
        exact (hp (.str z) (by simp)).str.1.ok
      obtain ⟨o', g, e2⟩ := lpl_loop oks hFb hFf o0 xs (nms ++ [rowNm x]) (some x) (fun y hy => h y (by simp [hy])) (fun z hzm => by
        rcases List.mem_append.mp hzm with q | q
        · exact hn z q
        · rw [List.mem_singleton] at q; rw [q]; exact hz) (by simp only [List.length_cons, List.length_append, List.length_nil] at hl ⊢; omega)
      refine ⟨o', g, (forL_nx (ρ1 := [o0, some (.ref st.length), some x]) (oks nms) rfl e).trans ?_⟩
      rw [e2, scan_cons, hr.1, hr.2, Bool.true_and, Bool.true_and]
    | false =>
      rw [hr, if_neg (by decide)] at e
      refine ⟨none, [.lst (nms.map D.str)], (forL_rt (ρ1 := [o0, some (.ref st.length), some x]) (oks nms) rfl e).trans ?_⟩
      rw [scan_cons, ← Bool.and_assoc, hr, Bool.false_and, if_neg (by decide)]
theorem lpl_eq {Fb Ff : List D → M D} (hFb : ∀ (g : Store) {k : Nat} {d : D}, Val X (st ++ g) B S L k d → Fb [d] (st ++ g) = some (.bl (isBk d), st ++ g)) (hFf : ∀ (g : Store) {k : Nat} {d : D}, Val X (st ++ g) B S L k d → Ff [d] (st ++ g) = some (.bl (isFr d), st ++ g)) (h : Val X st B S L k d) : F_lpl Fb Ff [d] st = some (.bl (isPl d), st) := by
  have hd := pl_head (ρ := [some d, none, none]) (T := sRet (eC (.bl false))) (U := sNext) rfl h
  by_cases hx : sq7 d = true
  · rw [if_pos hx] at hd
    obtain ⟨xs, rfl, hl⟩ := sq7_ex hx
    obtain ⟨_, j, _, hp⟩ := h.parts
    obtain ⟨o', g, el⟩ := lpl_loop (s := ⟨xs, none⟩) (fun _ => Src.ok_none) hFb hFf (some (.tup xs)) xs [] none hp (by simp) (by simp only [List.length_nil]; omega)
    have hs : scan [] xs = isPl (.tup xs) := by
      rw [scan_eq xs [] List.nodup_nil]
      simp only [isPl, decide_eq_true hl, Bool.true_and, List.nil_append]
    have efor : sFor (iSeq (eVar 0)) (xName 2) (bLpl Fb Ff) [some (.tup xs), some (.ref st.length), none] (st ++ [.lst []]) = some (if scan [] xs = true then .nx [some (.tup xs), some (.ref st.length), o'] else .rt (.bl false), st ++ g) := (sFor_at (s := ⟨xs, none⟩) rfl).trans el
    refine gcF_eq (g := g) (defX_rt (env := [some (.tup xs), none, none]) rfl ?_) rfl
    refine (sSeq_at (ρ1 := [some (.tup xs), none, none]) (st1 := st) hd).trans ((sSeq_at (sSet_at (eLst_at aNil_at (by decide)))).trans ?_)
    show sSeq (sFor (iSeq (eVar 0)) (xName 2) (bLpl Fb Ff)) (sRet (eC (.bl true))) [some (.tup xs), some (.ref st.length), none] (st ++ [.lst []]) = _
    rw [hs] at efor
    cases hp : isPl (.tup xs) with
    | true =>
      rw [hp, if_pos rfl] at efor
      exact (sSeq_at efor).trans rfl
    | false =>
      rw [hp, if_neg (by decide)] at efor
      exact sSeq_rt efor
  · rw [if_neg hx] at hd
    refine gcF_eq0 (defX_rt (env := [some d, none, none]) rfl ?_) rfl
    refine (sSeq_rt hd).trans ?_
    rw [isPl_no hx]
end Dl
end
set_option linter.all false
set_option autoImplicit false
set_option maxRecDepth 100000
/-! M40: things of any kind, spoilt things (k01, k07) -/
noncomputable section
namespace Dl
open PySem PySem.Spec PyProof.Rows L2
variable {X X' : Nat → Prop} {b : Nat} {st st' : Store} {B S L B' S' L' k : Nat} {d : D}
/-! ### texts -/
theorem Asc.app {x y : Str} (hx : Asc x) (hy : Asc y) : Asc (x ++ y) := by
  intro c hc
  have e : (x ++ y).cps.toList = x.cps.toList ++ y.cps.toList := by
    show (x.cps ++ y.cps).toList = _
    simp
  rw [e, List.mem_append] at hc
  rcases hc with h | h
  · exact hx c h
  · exact hy c h
theorem app_len (x y : Str) : (x ++ y).length = x.length + y.length := by
  show (x.cps ++ y.cps).size = x.cps.size + y.cps.size
  simp
theorem Asc.cut {x : Str} (hx : Asc x) (lo hi : Option Int) : Asc (cutS x lo hi) := by
  intro c hc
  unfold cutS at hc
  simp only at hc
  exact hx c (List.mem_of_mem_drop (List.mem_of_mem_take hc))
theorem cut_len (x : Str) (lo hi : Option Int) : (cutS x lo hi).length ≤ x.length := by
  unfold cutS
  show (List.toArray _).size ≤ x.cps.size
  rw [List.size_toArray, List.length_take, List.length_drop, Array.length_toList]
  omega
theorem Asc.up {x : Str} (hx : Asc x) : Asc (Txt.upper x) ∧ (Txt.upper x).length = x.length := by
  rw [upper_ascii hx]
  refine ⟨fun c hc => ?_, ?_⟩
  · simp only [Array.toList_map, List.mem_map] at hc
    obtain ⟨a, ha, rfl⟩ := hc
    have := hx a ha
    unfold up1
    split <;> omega
  · show (x.cps.map up1).size = x.cps.size
    simp
theorem Asc.int (i : Int) : Asc (toString i : String) := by
  intro c hc
  rw [signs_ofString] at hc
  obtain ⟨ch, hm, rfl⟩ := List.mem_map.mp hc
  rcases int_sign i ch hm with h | h
  · have := digit_range h; omega
  · rw [h]; decide
theorem int_log {i : Int} (h : Bt B i) (hB : B ≤ 1900) : i.natAbs.log2 < 1920 := by
  by_cases h0 : i.natAbs = 0
  · rw [h0]; decide
  · exact (Nat.log2_lt h0).mpr (Nat.lt_of_lt_of_le h (Nat.pow_le_pow_right (by decide) (by omega)))
theorem int_len {i : Int} (h : Bt B i) (hB : B ≤ 1900) : (((toString i : String) : Str)).length ≤ 1921 := by
  rw [PySem.ofString_length]
  exact int_text_length_le (k := 1920) (by decide) (int_log h hB)
/-! ### written data -/
mutual
def okD (B S L : Nat) : Nat → D → Bool
  | _, .non => true
  | _, .bl _ => true
  | _, .int i => decide (i.natAbs < 2 ^ B)
  | _, .str x => x.cps.toList.all (fun c => decide (c < 128)) && decide (x.length ≤ S)
  | k + 1, .tup xs => decide (xs.length ≤ L) && okDs B S L k xs
  | _, _ => false
def okDs (B S L : Nat) : Nat → List D → Bool
  | _, [] => true
  | k, x :: xs => okD B S L k x && okDs B S L k xs
end
mutual
theorem okD_val {X : Nat → Prop} {st : Store} {B S L : Nat} : ∀ {k : Nat} {d : D}, okD B S L k d = true → Val X st B S L k d
  | k, .non, _ => Val.atom (d := .non) (show Atom B S .non from trivial)
  | k, .bl c, _ => Val.atom (d := .bl c) (show Atom B S (.bl c) from trivial)
  | 0, .int i, h => Val.atom (d := .int i) (show Bt B i by unfold okD at h; simpa [Bt] using h)
  | k + 1, .int i, h => Val.atom (d := .int i) (show Bt B i by unfold okD at h; simpa [Bt] using h)
  | 0, .str x, h => Val.atom (by
    unfold okD at h
    rw [Bool.and_eq_true] at h
    exact ⟨fun c hc => by simpa using List.all_eq_true.mp h.1 c hc, of_decide_eq_true h.2⟩)
  | k + 1, .str x, h => Val.atom (by
    unfold okD at h
    rw [Bool.and_eq_true] at h
    exact ⟨fun c hc => by simpa using List.all_eq_true.mp h.1 c hc, of_decide_eq_true h.2⟩)
  | 0, .tup xs, h => by unfold okD at h; cases h
  | k + 1, .tup xs, h => by
    unfold okD at h
    rw [Bool.and_eq_true] at h
    exact Val.tup (of_decide_eq_true h.1) (okDs_val h.2)
  | 0, .ref _, h => by unfold okD at h; cases h
  | k + 1, .ref _, h => by unfold okD at h; cases h
  | 0, .scr _, h => by unfold okD at h; cases h
  | k + 1, .scr _, h => by unfold okD at h; cases h
  | 0, .ty _, h => by unfold okD at h; cases h
  | k + 1, .ty _, h => by unfold okD at h; cases h
theorem okDs_val {X : Nat → Prop} {st : Store} {B S L : Nat} : ∀ {k : Nat} {ds : List D}, okDs B S L k ds = true → ∀ x ∈ ds, Val X st B S L k x
  | k, [], _, x, hx => by simp at hx
  | k, d :: ds, h, x, hx => by
    unfold okDs at h
    rw [Bool.and_eq_true] at h
    rcases List.mem_cons.mp hx with e | hx
    · rw [e]; exact okD_val h.1
    · exact okDs_val h.2 x hx
end
/-! ### any thing -/
def odds1 : List D := [.non, .bl true, .bl false, .int 0, .int 1, .int (-1), .int 5, .int 1000000000000000000000000000000, .str "", .str "ann", .tup []]
def odds2 : List D := [.tup [.int 1, .int 2], .tup [.int (-1), .int 2], .tup [.int 2, .int 4], .tup [.int 0, .int 2], .tup [.int 1, .int (-2)]]
def odds3 : List D := [.tup [.non], .tup [.str "ann", .int 1, .int 1], .tup [.str "ann", .int 0, .int 1], .tup [.tup [.str "ann", .int 1, .int 1, .tup [.int 0, .int 1]]], .tup [.str "ann", .int 1, .int 1, .tup [.int 0, .int 1]]]
def odds (n : Nat) : List D := odds1 ++ .ref n :: odds2 ++ odds3
theorem odds_ok : okDs 110 8 30 3 odds1 = true ∧ okDs 110 8 30 3 odds2 = true ∧ okDs 110 8 30 3 odds3 = true := by decide +kernel
theorem odds_len (n : Nat) : (odds n).length = 22 := rfl
theorem odds_val {n : Nat} (hn : X n) (e : st[n]? = some (.lst [])) : ∀ x ∈ odds n, Val X st 110 8 30 3 x := by
  intro x hx
  unfold odds at hx
  rw [List.mem_append, List.mem_append, List.mem_cons] at hx
  rcases hx with (h | h | h) | h
  · exact okDs_val odds_ok.1 x h
  · subst h
    exact Val.ref hn e (by decide) fun x hx => by simp at hx
  · exact okDs_val odds_ok.2.1 x h
  · exact okDs_val odds_ok.2.2 x h
def aOd1 : Ea := (aCons (eC .non) (aCons (eC (.bl true)) (aCons (eC (.bl false)) (aCons (eC (.int 0)) (aCons (eC (.int 1)) (aCons (eOp1 dNeg (eC (.int 1))) (aCons (eC (.int 5)) (aCons (eOp2 dPow (eC (.int 10)) (eC (.int 30))) (aCons (eC (.str "")) (aCons (eC (.str "ann")) (aCons (eTup aNil) (aCons (eLst aNil) (aCons (eTup (aCons (eC (.int 1)) (aCons (eC (.int 2)) aNil))) (aCons (eTup (aCons (eOp1 dNeg (eC (.int 1))) (aCons (eC (.int 2)) aNil))) (aCons (eTup (aCons (eC (.int 2)) (aCons (eC (.int 4)) aNil))) (aCons (eTup (aCons (eC (.int 0)) (aCons (eC (.int 2)) aNil))) (aCons (eTup (aCons (eC (.int 1)) (aCons (eOp1 dNeg (eC (.int 2))) aNil))) aNil)))))))))))))))))
def aOd2 : Ea := (aCons (eTup (aCons (eC .non) aNil)) (aCons (eTup (aCons (eC (.str "ann")) (aCons (eC (.int 1)) (aCons (eC (.int 1)) aNil)))) (aCons (eTup (aCons (eC (.str "ann")) (aCons (eC (.int 0)) (aCons (eC (.int 1)) aNil)))) (aCons (eTup (aCons (eTup (aCons (eC (.str "ann")) (aCons (eC (.int 1)) (aCons (eC (.int 1)) (aCons (eTup (aCons (eC (.int 0)) (aCons (eC (.int 1)) aNil))) aNil))))) aNil)) (aCons (eTup (aCons (eC (.str "ann")) (aCons (eC (.int 1)) (aCons (eC (.int 1)) (aCons (eTup (aCons (eC (.int 0)) (aCons (eC (.int 1)) aNil))) aNil))))) aNil)))))
def b_odd : Sx := (sSeq (sAsg (eLst aOd1) (xName 1))
  (sSeq (sAsg (eOp2 dAdd (eVar 1) (eLst aOd2)) (xName 1))
  (sRet (eOp2 dIx (eVar 1) (eCB (mCall 2 F_tk) (aCons (eVar 0) (aCons (eCB bLen (aCons (eVar 1) aNil)) aNil)))))))
def F_odd : List D → M D := defX 2 b_odd
theorem od1_at (ρ : Env1) (st : Store) : aOd1 ρ st = some (odds1 ++ .ref st.length :: odds2, st ++ [.lst []]) := by
  unfold aOd1
  have c : ∀ {d : D} {s : Store}, eC d ρ s = some (d, s) := rfl
  have t0 : ∀ {s : Store}, eTup aNil ρ s = some (.tup [], s) := fun {s} => eTup_at aNil_at (by decide)
  have t2 : ∀ {a b : Ev} {x y : D} {s : Store}, a ρ s = some (x, s) → b ρ s = some (y, s) → eTup (aCons a (aCons b aNil)) ρ s = some (.tup [x, y], s) := fun h1 h2 => eTup_at (aCons_at h1 (aCons_at h2 aNil_at)) (two_lists _ _)
  have n1 : ∀ {i : Int} {s : Store}, eOp1 dNeg (eC (.int i)) ρ s = some (.int (-i), s) := rfl
  have p : ∀ {s : Store}, eOp2 dPow (eC (.int 10)) (eC (.int 30)) ρ s = some (.int 1000000000000000000000000000000, s) := fun {s} => (eOp2_at eC_at eC_at).trans (pow30 s)
  have l0 : eLst aNil ρ st = some (.ref st.length, st ++ [.lst []]) := eLst_at aNil_at (by decide)
  exact aCons_at c (aCons_at c (aCons_at c (aCons_at c (aCons_at c (aCons_at n1 (aCons_at c (aCons_at p (aCons_at c (aCons_at c (aCons_at t0 (aCons_at l0 (aCons_at (t2 c c) (aCons_at (t2 n1 c) (aCons_at (t2 c c) (aCons_at (t2 c c) (aCons_at (t2 c n1) aNil_at))))))))))))))))
theorem od2_at (ρ : Env1) (st : Store) : aOd2 ρ st = some (odds3, st) := by
  unfold aOd2
  have c : ∀ {d : D}, eC d ρ st = some (d, st) := rfl
  have t1 : ∀ {a : Ev} {x : D}, a ρ st = some (x, st) → eTup (aCons a aNil) ρ st = some (.tup [x], st) := fun h1 => eTup_at (aCons_at h1 aNil_at) (one_list _)
  have t2 : ∀ {a b : Ev} {x y : D}, a ρ st = some (x, st) → b ρ st = some (y, st) → eTup (aCons a (aCons b aNil)) ρ st = some (.tup [x, y], st) := fun h1 h2 => eTup_at (aCons_at h1 (aCons_at h2 aNil_at)) (two_lists _ _)
  have t3 : ∀ {a b c : Ev} {x y z : D}, a ρ st = some (x, st) → b ρ st = some (y, st) → c ρ st = some (z, st) → eTup (aCons a (aCons b (aCons c aNil))) ρ st = some (.tup [x, y, z], st) := fun h1 h2 h3 => eTup_at (aCons_at h1 (aCons_at h2 (aCons_at h3 aNil_at))) (by show 3 ≤ sizeLine; decide)
  have t4 : ∀ {a b c e : Ev} {x y z w : D}, a ρ st = some (x, st) → b ρ st = some (y, st) → c ρ st = some (z, st) → e ρ st = some (w, st) → eTup (aCons a (aCons b (aCons c (aCons e aNil)))) ρ st = some (.tup [x, y, z, w], st) := fun h1 h2 h3 h4 => eTup_at (aCons_at h1 (aCons_at h2 (aCons_at h3 (aCons_at h4 aNil_at)))) (by show 4 ≤ sizeLine; decide)
  exact aCons_at (t1 c) (aCons_at (t3 c c c) (aCons_at (t3 c c c) (aCons_at (t1 (t4 c c c (t2 c c))) (aCons_at (t4 c c c (t2 c c)) aNil_at))))
theorem bLen_ref {n : Nat} {xs : List D} (e : st[n]? = some (.lst xs)) : bLen [.ref n] st = some (.int xs.length, st) := by
  show (match st[n]? with
    | some (.lst xs) => some (D.int xs.length, st)
    | some (.dk kvs) => some (.int kvs.length, st)
    | _ => none) = _
  rw [e]
theorem add_lists {m n : Nat} {xs ys : List D} (h1 : st[m]? = some (.lst xs)) (h2 : st[n]? = some (.lst ys)) (hl : xs.length + ys.length ≤ sizeLine) : dAdd (.ref m) (.ref n) st = some (.ref st.length, st ++ [.lst (xs ++ ys)]) := by
  show (match st[m]?, st[n]? with
    | some (.lst xs), some (.lst ys) => if xs.length + ys.length ≤ sizeLine then mNew (.lst (xs ++ ys)) st else none
    | _, _ => none) = _
  rw [h1, h2]
  simp only
  rw [if_pos hl]; rfl
theorem odd_w {Q : D → Store → Prop} (hb : BagAt b st) (q : ∀ d s, Bg b st s → Val (fun n => st.length ≤ n) s 110 8 30 3 d → Q d s) : Wp (F_odd [.ref b]) st Q := by
  refine wDefX (env := [some (.ref b), none]) rfl ?_
  have hlt := hb.lt
  refine wSeq (wSet (Wp.of (eLst_at (od1_at _ st) (by show 17 ≤ sizeLine; decide)) ?_))
  have s1 : (st ++ [MO.lst []] ++ [MO.lst (odds1 ++ .ref st.length :: odds2)]) = st ++ [MO.lst [], MO.lst (odds1 ++ .ref st.length :: odds2)] := by simp
  rw [s1]
  have l1 : (st ++ [MO.lst ([] : List D)]).length = st.length + 1 := by simp
  rw [l1]
  refine wSeq (wSet (wOp2 (wVar rfl (Wp.of (eLst_at (od2_at _ _) (by show 5 ≤ sizeLine; decide)) ?_))))
  have e1 : (st ++ [MO.lst [], MO.lst (odds1 ++ .ref st.length :: odds2)] ++ [MO.lst odds3])[st.length + 1]? = some (.lst (odds1 ++ .ref st.length :: odds2)) := by
    rw [List.append_assoc, get_off]; rfl
  have l2 : (st ++ [MO.lst [], MO.lst (odds1 ++ .ref st.length :: odds2)]).length = st.length + 2 := by simp
  have e2 : (st ++ [MO.lst [], MO.lst (odds1 ++ .ref st.length :: odds2)] ++ [MO.lst odds3])[(st ++ [MO.lst [], MO.lst (odds1 ++ .ref st.length :: odds2)]).length]? = some (.lst odds3) := get_app
  refine Wp.of (add_lists e1 e2 (by show 17 + 5 ≤ sizeLine; decide)) ?_
  generalize hs2 : st ++ [MO.lst [], MO.lst (odds1 ++ .ref st.length :: odds2)] ++ [MO.lst odds3] = s2
  have B2 : Bg b st (s2 ++ [MO.lst (odds1 ++ .ref st.length :: odds2 ++ odds3)]) := by
    rw [← hs2]
    exact (((Bg.refl hb).app _).app _).app _
  have eo : (s2 ++ [MO.lst (odds1 ++ .ref st.length :: odds2 ++ odds3)])[st.length]? = some (.lst []) := by
    rw [← hs2, List.append_assoc, List.append_assoc]
    exact get_app
  have ei : (s2 ++ [MO.lst (odds1 ++ .ref st.length :: odds2 ++ odds3)])[s2.length]? = some (.lst (odds st.length)) := get_app
  generalize s2 ++ [MO.lst (odds1 ++ .ref st.length :: odds2 ++ odds3)] = s3 at *
  generalize hi : s2.length = i at *
  have hib : i ≠ b := by
    rw [← hi, ← hs2]; simp; omega
  refine wRet (wOp2 (wVar rfl (wCB (wCons (wVar rfl (wCons (wCB (wCons (wVar rfl (wNil (Wp.of (bLen_ref ei) ?_)))))))))))
  refine wNil ?_
  rw [odds_len]
  refine tk_w (B2.bag hlt) (by decide) (by decide) fun m o m0 m1 ho => ?_
  have B3 : Bg b st (s3.set b o) := B2.trans hlt (Bg.set0 ho)
  have ei' : (s3.set b o)[i]? = some (.lst (odds st.length)) := by rw [List.getElem?_set_ne (Ne.symm hib)]; exact ei
  have eo' : (s3.set b o)[st.length]? = some (.lst []) := by rw [List.getElem?_set_ne (by omega)]; exact eo
  obtain ⟨j, rfl⟩ := Int.eq_ofNat_of_zero_le m0
  have hj : j < (odds st.length).length := by rw [odds_len]; omega
  refine Wp.of (a := (odds st.length)[j]) (st' := s3.set b o) ?_ ⟨_, rfl, q _ _ B3 (odds_val (X := fun n => st.length ≤ n) (Nat.le_refl _) eo' _ (List.getElem_mem hj))⟩
  rw [lst_ix ei', atI_n (j := j) rfl (List.getElem?_eq_getElem hj)]
  rfl
end Dl
end
set_option linter.all false
set_option autoImplicit false
set_option maxRecDepth 100000
/-! M41: spoilt things (k01, k07) -/
noncomputable section
namespace Dl
open PySem PySem.Spec PyProof.Rows L2
variable {X : Nat → Prop} {b : Nat} {st st' : Store} {B S L k : Nat} {d : D}
def isSq : D → Bool
  | .tup _ => true
  | .ref _ => true
  | _ => false
theorem bIsi_sq {d : D} {st : Store} (h : InSt st d) : bIsi [d, .tup [.ty "tuple", .ty "list"]] st = some (.bl (isSq d), st) := by
  cases d with
  | ref n =>
    obtain ⟨xs, e⟩ := h
    show (match (match st[n]? with
      | some (.lst _) => some "list"
      | some (.dk _) => some "dict"
      | some (.dt _) => some "dict"
      | none => none : Option String), tysOf [.ty "tuple", .ty "list"] with
      | some a, some ns => (kitAnyB a ns).map fun b => (D.bl b, st)
      | _, _ => none) = _
    rw [e]; rfl
  | scr _ => exact h.elim
  | ty _ => exact h.elim
  | _ => rfl
def eTl : Ev := eTup (aCons (eC (.ty "tuple")) (aCons (eC (.ty "list")) aNil))
def sSpq (F : List D → M D) : Sx := (sSeq (sAsg (eCB bList (aCons (eVar 1) aNil)) (xName 3))
  (sSeq (sAsg (eCB (mCall 2 F_tk) (aCons (eVar 0) (aCons (eCB bLen (aCons (eVar 3) aNil)) aNil))) (xName 4))
  (sSeq (sIf (tV (eOp2 dEq (eVar 2) (eC (.int 1)))) (sAsg (eOp2 dAddX (eSl (eVar 3) oNone (oSome (eVar 4))) (eSl (eVar 3) (oSome (eOp2 dAddX (eVar 4) (eC (.int 1)))) oNone)) (xName 3)) (sIf (tV (eOp2 dEq (eVar 2) (eC (.int 2)))) (sAsg (eOp2 dAddX (eSl (eVar 3) oNone (oSome (eOp2 dAddX (eVar 4) (eC (.int 1))))) (eSl (eVar 3) (oSome (eVar 4)) oNone)) (xName 3)) (sIf (tV (eOp2 dEq (eVar 2) (eC (.int 3)))) (sSeq (sAsg (eCB (mCall 2 F_tk) (aCons (eVar 0) (aCons (eCB bLen (aCons (eVar 3) aNil)) aNil))) (xName 5))
  (sAsg (eTup (aCons (eOp2 dIx (eVar 3) (eVar 5)) (aCons (eOp2 dIx (eVar 3) (eVar 4)) aNil))) (xTup 2 (xCons (xSub (eVar 3) (eVar 4)) (xCons (xSub (eVar 3) (eVar 5)) xNil))))) (sIf (tV (eOp2 dEq (eVar 2) (eC (.int 4)))) (sRet (eIf (tV (eCB bIsi (aCons (eVar 1) (aCons (eC (.ty "tuple")) aNil)))) (eVar 3) (eCB bTuple (aCons (eVar 3) aNil)))) (sAsg (eCB (mCall 2 F) (aCons (eVar 0) (aCons (eOp2 dIx (eVar 3) (eVar 4)) aNil))) (xSub (eVar 3) (eVar 4)))))))
  (sRet (eIf (tV (eCB bIsi (aCons (eVar 1) (aCons (eC (.ty "tuple")) aNil)))) (eCB bTuple (aCons (eVar 3) aNil)) (eVar 3))))))
def sSps : Sx := (sRet (eOp2 dIx (eLst (aCons (eOp2 dAddX (eVar 1) (eC (.str "a"))) (aCons (eSl (eVar 1) oNone (oSome (eOp1 dNegX (eC (.int 1))))) (aCons (eOp2 dAddX (eVar 1) (eC (.str " "))) (aCons (eOp1 dUp (eVar 1)) (aCons (eOp2 dAddX (eVar 1) (eVar 1)) (aCons (eOp2 dAddX (eC (.str "z")) (eVar 1)) (aCons (eC (.str "")) aNil)))))))) (eOp2 dSubX (eVar 2) (eC (.int 2)))))
def sSpi : Sx := (sRet (eOp2 dIx (eLst (aCons (eOp2 dAddX (eVar 1) (eC (.int 1))) (aCons (eOp2 dSubX (eVar 1) (eC (.int 1))) (aCons (eOp1 dNegX (eVar 1)) (aCons (eOp2 dAddX (eVar 1) (eC (.int 1000))) (aCons (eCB bStrX (aCons (eVar 1) aNil)) (aCons (eOp2 dAddX (eVar 1) (eC (.int 50))) (aCons (eTup (aCons (eVar 1) aNil)) aNil)))))))) (eOp2 dSubX (eVar 2) (eC (.int 2)))))
def b_sp (F : List D → M D) : Sx := (sSeq (sAsg (eCB (mCall 2 F_tk) (aCons (eVar 0) (aCons (eC (.int 9)) aNil))) (xName 2))
  (sSeq (sIf (tAndD (tV (eCB bIsi (aCons (eVar 1) (aCons eTl aNil)))) (tAndD (tV (eOp2 dGt (eCB bLen (aCons (eVar 1) aNil)) (eC (.int 0)))) (tV (eOp2 dGt (eVar 2) (eC (.int 0)))))) (sSpq F) sNext)
  (sSeq (sIf (tAndD (tV (eCB bIsi (aCons (eVar 1) (aCons (eC (.ty "str")) aNil)))) (tV (eOp2 dGt (eVar 2) (eC (.int 1))))) sSps sNext)
  (sSeq (sIf (tAndD (tV (eCB bIsi (aCons (eVar 1) (aCons (eC (.ty "int")) aNil)))) (tV (eOp2 dGt (eVar 2) (eC (.int 1))))) sSpi sNext)
  (sRet (eCB (mCall 1 F_odd) (aCons (eVar 0) aNil)))))))
def F_sp : Nat → List D → M D
  | 0 => fun _ => M.bad
  | k + 1 => defX 6 (b_sp (F_sp k))
/-! ### a sequence -/
theorem IsSeq.lst {xs : List D} (h : IsSeq st d xs) : bList [d] st = some (.ref st.length, st ++ [.lst xs]) := by
  rcases h with rfl | ⟨n, rfl, e⟩
  · rfl
  · show (match st[n]? with
      | some (.lst xs) => mNew (.lst xs) st
      | _ => none) = _
    rw [e]; rfl
theorem IsSeq.len {xs : List D} (h : IsSeq st d xs) : bLen [d] st = some (.int xs.length, st) := by
  rcases h with rfl | ⟨n, rfl, e⟩
  · rfl
  · exact bLen_ref e
theorem bTuple_ref {n : Nat} {xs : List D} (e : st[n]? = some (.lst xs)) : bTuple [.ref n] st = some (.tup xs, st) := by
  show (match st[n]? with
    | some (.lst xs) => some (D.tup xs, st)
    | _ => none) = _
  rw [e]
theorem Val.seq {xs : List D} (h : Val X st B S L k d) (hs : IsSeq st d xs) : xs.length ≤ L ∧ ∃ j, k = j + 1 ∧ ∀ x ∈ xs, Val X st B S L j x := by
  rcases hs with rfl | ⟨n, rfl, e⟩
  · exact h.parts
  · obtain ⟨ys, _, e2, hl, hj⟩ := h.items
    rw [e] at e2
    injection e2 with e2; injection e2 with e2; subst e2
    exact ⟨hl, hj⟩
/-- what is left: as a tuple, as a list -/
theorem sp_end {Q : Fl → Store → Prop} {ρ : Env1} {n : Nat} {ys : List D} (h1 : ρ[1]? = some (some d)) (h3 : ρ[3]? = some (some (.ref n))) (hd : InSt st d) (e : st[n]? = some (.lst ys)) (q1 : Q (.rt (.tup ys)) st) (q2 : Q (.rt (.ref n)) st) :
    Wp (sRet (eIf (tV (eCB bIsi (aCons (eVar 1) (aCons (eC (.ty "tuple")) aNil)))) (eCB bTuple (aCons (eVar 3) aNil)) (eVar 3)) ρ) st Q ∧ Wp (sRet (eIf (tV (eCB bIsi (aCons (eVar 1) (aCons (eC (.ty "tuple")) aNil)))) (eVar 3) (eCB bTuple (aCons (eVar 3) aNil))) ρ) st Q := by
  have e1 := tV_at (isi_at h1 (bIsi_tup hd))
  have e2 : eCB bTuple (aCons (eVar 3) aNil) ρ st = some (.tup ys, st) := (eCB_at (aCons_at (eVar_at h3) aNil_at)).trans (bTuple_ref e)
  have e3 : eVar 3 ρ st = some (.ref n, st) := eVar_at h3
  constructor
  · refine wRet (wIfE (Wp.of e1 ?_))
    cases isT d with
    | true => exact Wp.of e2 q1
    | false => exact Wp.of e3 q2
  · refine wRet (wIfE (Wp.of e1 ?_))
    cases isT d with
    | true => exact Wp.of e3 q2
    | false => exact Wp.of e2 q1
/-- a part of a list -/
theorem sl_ref {ρ : Env1} {i n : Nat} {xs : List D} {lo hi : Eo} {l h : Option Int} (hi' : ρ[i]? = some (some (.ref n))) (e : st[n]? = some (.lst xs)) (h1 : lo ρ st = some (l, st)) (h2 : hi ρ st = some (h, st)) : eSl (eVar i) lo hi ρ st = some (.ref st.length, st ++ [.lst (cutD xs l h)]) := by
  simp only [eSl, Dl.M.bnd, eVar_at hi', h1, h2]
  show (match st[n]? with
    | some (.lst xs) => mNew (.lst (cutD xs l h)) st
    | _ => none) = _
  rw [e]; rfl
/-- so much at most: what each turn may bring -/
structure Fits (B S L : Nat) : Prop where
  b1 : 110 ≤ B
  b2 : B ≤ 1890
  s1 : 2000 ≤ S
  s2 : S ≤ 5000000
  l1 : 30 ≤ L
  l2 : L ≤ 100000
def Nxt (X : Nat → Prop) (b : Nat) (st : Store) (B S L k : Nat) (d : D) (s : Store) : Prop := Bg b st s ∧ Val (fun n => X n ∨ st.length ≤ n) s (B + 1) (2 * S + 2) (L + 1) (k + 4) d
theorem Val.nx {k' : Nat} {s : Store} (hX : ∀ n, X n → n ≠ b) (hB : Bg b st s) (h : Val X st B S L k d) (hk : k ≤ k' + 4) (N : Nat) : Val (fun n => X n ∨ N ≤ n) s (B + 1) (2 * S + 2) (L + 1) (k' + 4) d := h.up (by omega) (by omega) (by omega) (fun n _ hn e => ⟨.inl hn, hB.keep (hX n hn) e⟩) hk
theorem spq_w (Z : Fits B S L) (hX : ∀ n, X n → n ≠ b) {F : List D → M D} {m : Int} {xs : List D} {j : Nat} {o3 o4 o5 : Option D} {st0 : Store} (hlt : b < st0.length) (B0 : Bg b st0 st) (m0 : 0 < m) (hs : IsSeq st d xs) (hv : Val X st B S L (j + 1) d) (h0 : 0 < xs.length) (hl : xs.length ≤ L) (hx : ∀ x ∈ xs, Val X st B S L j x)
    (hF : ∀ {X : Nat → Prop} {s : Store} {x : D}, (∀ n, X n → n ≠ b) → BagAt b s → Val X s B S L j x → Wp (F [.ref b, x]) s fun d' s' => Nxt X b s B S L j d' s') :
    Wp (sSpq F [some (.ref b), some d, some (.int m), o3, o4, o5]) st fun f s => ∃ d', f = .rt d' ∧ Nxt X b st0 B S L (j + 1) d' s := by
  have hlt1 : b < st.length := Nat.lt_of_lt_of_le hlt B0.len
  have hle0 : st0.length ≤ st.length := B0.len
  have hb : BagAt b st := B0.bag hlt
  have hsz : L + 1 ≤ sizeLine := Nat.le_trans (Nat.add_le_add_right Z.l2 1) (by decide)
  refine wSeq (wSet (wCB (wCons (wVar rfl (wNil (Wp.of hs.lst ?_))))))
  have B1 : Bg b st (st ++ [.lst xs]) := Bg.new hb _
  have e1 : (st ++ [MO.lst xs])[st.length]? = some (.lst xs) := get_app
  refine wSeq (wSet (take_w rfl (wCB (wCons (wVar rfl (wNil (Wp.of (bLen_ref e1) ⟨_, rfl, by omega, ?_, B1.bag hlt1, fun p s2 p0 p1 B2 => ?_⟩)))))))
  · have := Z.l2; omega
  have hnb : st.length ≠ b := by omega
  obtain ⟨p, rfl⟩ := Int.eq_ofNat_of_zero_le p0
  have hp : p < xs.length := by omega
  have e2 : s2[st.length]? = some (.lst xs) := B2.keep hnb e1
  have B3 : Bg b st s2 := B1.trans hlt1 B2
  have hle2 : st.length < s2.length := (List.getElem?_eq_some_iff.mp e2).1
  have fin : ∀ {ρ : Env1} {n : Nat} {ys : List D} {s : Store} {Q : Fl → Store → Prop}, ρ[1]? = some (some d) → ρ[3]? = some (some (.ref n)) → st.length ≤ n → Bg b st s → s[n]? = some (.lst ys) → ys.length ≤ L + 1 → (∀ y ∈ ys, Val (fun n => X n ∨ st0.length ≤ n) s (B + 1) (2 * S + 2) (L + 1) (j + 4) y) → (∀ d', Nxt X b st0 B S L (j + 1) d' s → Q (.rt d') s) →
      Wp (sRet (eIf (tV (eCB bIsi (aCons (eVar 1) (aCons (eC (.ty "tuple")) aNil)))) (eCB bTuple (aCons (eVar 3) aNil)) (eVar 3)) ρ) s Q ∧ Wp (sRet (eIf (tV (eCB bIsi (aCons (eVar 1) (aCons (eC (.ty "tuple")) aNil)))) (eVar 3) (eCB bTuple (aCons (eVar 3) aNil))) ρ) s Q := by
    intro ρ n ys s Q h1 h3 hn Bs e hy hv' q
    have B4 : Bg b st0 s := B0.trans hlt Bs
    refine sp_end h1 h3 (hv.bg hX Bs).inSt e (q _ ⟨B4, ?_⟩) (q _ ⟨B4, ?_⟩)
    · exact (Val.tup hy hv' : Val _ s _ _ _ (j + 4 + 1) _)
    · exact (Val.ref (.inr (by omega)) e hy hv' : Val _ s _ _ _ (j + 4 + 1) _)
  have upx : ∀ {s : Store}, Bg b st s → ∀ x ∈ xs, Val (fun n => X n ∨ st0.length ≤ n) s (B + 1) (2 * S + 2) (L + 1) (j + 4) x := fun Bs x hm => (hx x hm).nx hX Bs (by omega) _
  have eqm : ∀ (c : Int) (o : Env1) (s : Store), o[2]? = some (some (.int m)) → tV (eOp2 dEq (eVar 2) (eC (.int c))) o s = some (decide (m = c), s) := fun c o s h => tV_at ((eOp2_at (eVar_at h) eC_at).trans (eq_int m c s))
  have plus1 : ∀ (o : Env1) (s : Store), o[4]? = some (some (.int (p : Int))) → oSome (eOp2 dAddX (eVar 4) (eC (.int 1))) o s = some (some ((p + 1 : Nat) : Int), s) := fun o s h => by
    have : eOp2 dAddX (eVar 4) (eC (.int 1)) o s = some (.int ((p : Int) + 1), s) := (eOp2_at (eVar_at h) eC_at).trans rfl
    simp only [oSome, Dl.M.bnd, this, Dl.M.ret]; rfl
  have at4 : ∀ (o : Env1) (s : Store), o[4]? = some (some (.int (p : Int))) → oSome (eVar 4) o s = some (some ((p : Nat) : Int), s) := fun o s h => by
    simp only [oSome, Dl.M.bnd, eVar_at h, Dl.M.ret]
  have two : ∀ {lo hi lo2 hi2 : Eo} {l h l2 h2 : Option Int} {o : Env1}, o[3]? = some (some (.ref st.length)) → (∀ s, lo o s = some (l, s)) → (∀ s, hi o s = some (h, s)) → (∀ s, lo2 o s = some (l2, s)) → (∀ s, hi2 o s = some (h2, s)) → (cutD xs l h).length + (cutD xs l2 h2).length ≤ L + 1 →
      ∃ n s, eOp2 dAddX (eSl (eVar 3) lo hi) (eSl (eVar 3) lo2 hi2) o s2 = some (.ref n, s) ∧ st.length ≤ n ∧ Bg b st s ∧ s[n]? = some (.lst (cutD xs l h ++ cutD xs l2 h2)) := by
    intro lo hi lo2 hi2 l h l2 h2 o h3 g1 g2 g3 g4 hlen
    have a1 := sl_ref h3 e2 (g1 s2) (g2 s2)
    have e3 : (s2 ++ [MO.lst (cutD xs l h)])[st.length]? = some (.lst xs) := ap e2
    have a2 := sl_ref h3 e3 (g3 _) (g4 _)
    refine ⟨_, _, (eOp2_at a1 a2).trans (add_lists (xs := cutD xs l h) (ys := cutD xs l2 h2) (ap get_app) get_app (by omega)), ?_, ((B3.app _).app _).app _, get_app⟩
    simp; omega
  refine wSeq (wIf (Wp.of (eqm 1 _ _ rfl) ?_))
  by_cases c1 : m = 1
  · rw [decide_eq_true c1, if_pos rfl]
    obtain ⟨n, s, ea, hn, Bs, en⟩ := two (o := [some (.ref b), some d, some (.int m), some (.ref st.length), some (.int (p : Int)), o5]) (lo := oNone) (hi := oSome (eVar 4)) (lo2 := oSome (eOp2 dAddX (eVar 4) (eC (.int 1)))) (hi2 := oNone) rfl (fun _ => rfl) (fun s => at4 _ s rfl) (fun s => plus1 _ s rfl) (fun _ => rfl) (by
      rw [cut_take, cut_drop, List.length_take, List.length_drop]; omega)
    rw [cut_take, cut_drop] at en
    refine wSet (Wp.of ea ?_)
    refine (fin (n := n) (ys := xs.take p ++ xs.drop (p + 1)) rfl rfl hn Bs en (by rw [List.length_append, List.length_take, List.length_drop]; omega) (fun y hy => ?_) fun d' hd => ⟨d', rfl, hd⟩).1
    rcases List.mem_append.mp hy with h | h
    · exact upx Bs y (List.mem_of_mem_take h)
    · exact upx Bs y (List.mem_of_mem_drop h)
  rw [decide_eq_false c1, if_neg (by decide)]
  refine wIf (Wp.of (eqm 2 _ _ rfl) ?_)
  by_cases c2 : m = 2
  · rw [decide_eq_true c2, if_pos rfl]
    obtain ⟨n, s, ea, hn, Bs, en⟩ := two (o := [some (.ref b), some d, some (.int m), some (.ref st.length), some (.int (p : Int)), o5]) (lo := oNone) (hi := oSome (eOp2 dAddX (eVar 4) (eC (.int 1)))) (lo2 := oSome (eVar 4)) (hi2 := oNone) rfl (fun _ => rfl) (fun s => plus1 _ s rfl) (fun s => at4 _ s rfl) (fun _ => rfl) (by
      rw [cut_take, cut_drop, List.length_take, List.length_drop]; omega)
    rw [cut_take, cut_drop] at en
    refine wSet (Wp.of ea ?_)
    refine (fin (n := n) (ys := xs.take (p + 1) ++ xs.drop p) rfl rfl hn Bs en (by rw [List.length_append, List.length_take, List.length_drop]; omega) (fun y hy => ?_) fun d' hd => ⟨d', rfl, hd⟩).1
    rcases List.mem_append.mp hy with h | h
    · exact upx Bs y (List.mem_of_mem_take h)
    · exact upx Bs y (List.mem_of_mem_drop h)
  rw [decide_eq_false c2, if_neg (by decide)]
  refine wIf (Wp.of (eqm 3 _ _ rfl) ?_)
  have ixp : ∀ {o : Env1} {i v n q : Nat} {s : Store} {zs : List D} {z : D}, o[v]? = some (some (.ref n)) → o[i]? = some (some (.int (q : Int))) → s[n]? = some (.lst zs) → zs[q]? = some z → eOp2 dIx (eVar v) (eVar i) o s = some (z, s) := fun {o i v n q s zs z} g1 g2 g3 g4 => by
    rw [eOp2_at (eVar_at g1) (eVar_at g2), lst_ix g3, atI_n (j := q) rfl g4]; rfl
  by_cases c3 : m = 3
  · rw [decide_eq_true c3, if_pos rfl]
    refine wSeq (wSet (take_w rfl (wCB (wCons (wVar rfl (wNil (Wp.of (bLen_ref e2) ⟨_, rfl, by omega, ?_, B3.bag hlt1, fun q s3 q0 q1 B4 => ?_⟩)))))))
    · have := Z.l2; omega
    obtain ⟨q, rfl⟩ := Int.eq_ofNat_of_zero_le q0
    have hq : q < xs.length := by omega
    have e3 : s3[st.length]? = some (.lst xs) := B4.keep hnb e2
    have B5 : Bg b st s3 := B3.trans hlt1 B4
    have hl3 : st.length < s3.length := (List.getElem?_eq_some_iff.mp e3).1
    have t1 : eOp2 dIx (eVar 3) (eVar 5) [some (.ref b), some d, some (.int m), some (.ref st.length), some (.int (p : Int)), some (.int (q : Int))] s3 = some (xs[q], s3) := ixp rfl rfl e3 (List.getElem?_eq_getElem hq)
    have t2 : eOp2 dIx (eVar 3) (eVar 4) [some (.ref b), some d, some (.int m), some (.ref st.length), some (.int (p : Int)), some (.int (q : Int))] s3 = some (xs[p], s3) := ixp rfl rfl e3 (List.getElem?_eq_getElem hp)
    have t3 : xTup 2 (xCons (xSub (eVar 3) (eVar 4)) (xCons (xSub (eVar 3) (eVar 5)) xNil)) (.tup [xs[q], xs[p]]) [some (.ref b), some d, some (.int m), some (.ref st.length), some (.int (p : Int)), some (.int (q : Int))] s3 = some ([some (.ref b), some d, some (.int m), some (.ref st.length), some (.int (p : Int)), some (.int (q : Int))], s3.set st.length (.lst ((xs.set p xs[q]).set q xs[p]))) := by
      have u1 := xSub_at (o := eVar 3) (i := eVar 4) (ρ := [some (.ref b), some d, some (.int m), some (.ref st.length), some (.int (p : Int)), some (.int (q : Int))]) (d := xs[q]) (eVar_at rfl) (eVar_at rfl) e3 hp
      have e4 : (s3.set st.length (.lst (xs.set p xs[q])))[st.length]? = some (.lst (xs.set p xs[q])) := List.getElem?_set_self hl3
      have u2 := xSub_at (o := eVar 3) (i := eVar 5) (ρ := [some (.ref b), some d, some (.int m), some (.ref st.length), some (.int (p : Int)), some (.int (q : Int))]) (d := xs[p]) (eVar_at rfl) (eVar_at rfl) e4 (by rw [List.length_set]; exact hq)
      rw [List.set_set] at u2
      show (if ([xs[q], xs[p]] : List D).length = 2 then xCons (xSub (eVar 3) (eVar 4)) (xCons (xSub (eVar 3) (eVar 5)) xNil) [xs[q], xs[p]] _ else Dl.M.bad) s3 = _
      rw [if_pos (show [xs[q], xs[p]].length = 2 from rfl)]
      simp only [xCons, xNil, Dl.M.bnd, u1, u2, Dl.M.ret]
    refine wAsg (Wp.of (eTup_at (aCons_at t1 (aCons_at t2 aNil_at)) (two_lists _ _)) (Wp.of t3 ?_))
    have Bs : Bg b st (s3.set st.length (.lst ((xs.set p xs[q]).set q xs[p]))) := B5.set (Nat.le_refl _)
    refine (fin (n := st.length) (ys := (xs.set p xs[q]).set q xs[p]) rfl rfl (Nat.le_refl _) Bs (List.getElem?_set_self hl3) (by rw [List.length_set, List.length_set]; omega) (fun y hy => ?_) fun d' hd => ⟨d', rfl, hd⟩).1
    rcases List.mem_or_eq_of_mem_set hy with h | rfl
    · rcases List.mem_or_eq_of_mem_set h with h | rfl
      · exact upx Bs y h
      · exact upx Bs _ (List.getElem_mem hq)
    · exact upx Bs _ (List.getElem_mem hp)
  rw [decide_eq_false c3, if_neg (by decide)]
  refine wIf (Wp.of (eqm 4 _ _ rfl) ?_)
  by_cases c4 : m = 4
  · rw [decide_eq_true c4, if_pos rfl]
    refine (fin (n := st.length) (ys := xs) rfl rfl (Nat.le_refl _) B3 e2 (by omega) (upx B3) fun d' hd => ⟨d', rfl, hd⟩).2
  rw [decide_eq_false c4, if_neg (by decide)]
  have t2 : eOp2 dIx (eVar 3) (eVar 4) [some (.ref b), some d, some (.int m), some (.ref st.length), some (.int (p : Int)), o5] s2 = some (xs[p], s2) := ixp rfl rfl e2 (List.getElem?_eq_getElem hp)
  have hxp : Val (fun n => X n ∧ n < st.length) s2 B S L j xs[p] := by
    have h1 : Val (fun n => X n ∧ n < st.length) st B S L j xs[p] := (hx _ (List.getElem_mem hp)).imp fun n hn hn' => ⟨hn, hn'⟩
    exact h1.bg (b := b) (fun n hn => hX n hn.1) B3
  refine wAsg (wCB (wCons (wVar rfl (wCons (Wp.of t2 (wNil ((hF (fun n hn => hX n hn.1) (B3.bag hlt1) hxp).mono fun d' s' hd => ?_)))))))
  obtain ⟨B4, hd'⟩ := hd
  have e3 : s'[st.length]? = some (.lst xs) := B4.keep hnb e2
  have hl3 : st.length < s'.length := (List.getElem?_eq_some_iff.mp e3).1
  have B5 : Bg b st s' := B3.trans hlt1 B4
  refine Wp.of (xSub_at (o := eVar 3) (i := eVar 4) (eVar_at rfl) (eVar_at rfl) e3 hp) ?_
  have Bs : Bg b st (s'.set st.length (.lst (xs.set p d'))) := B5.set (Nat.le_refl _)
  have hd2 : Val (fun n => X n ∨ st0.length ≤ n) (s'.set st.length (.lst (xs.set p d'))) (B + 1) (2 * S + 2) (L + 1) (j + 4) d' := by
    refine hd'.up (Nat.le_refl _) (Nat.le_refl _) (Nat.le_refl _) (fun n ys hn e => ?_) (Nat.le_refl _)
    rcases hn with ⟨h1, h2⟩ | h1
    · exact ⟨.inl h1, by rw [List.getElem?_set_ne (by omega)]; exact e⟩
    · exact ⟨.inr (by omega), by rw [List.getElem?_set_ne (by omega)]; exact e⟩
  refine (fin (n := st.length) (ys := xs.set p d') rfl rfl (Nat.le_refl _) Bs (List.getElem?_set_self hl3) (by rw [List.length_set]; omega) (fun y hy => ?_) fun d' hd => ⟨d', rfl, hd⟩).1
  rcases List.mem_or_eq_of_mem_set hy with h | rfl
  · exact upx Bs y h
  · exact hd2
end Dl
end
set_option linter.all false
set_option autoImplicit false
set_option maxRecDepth 100000
/-! M42: spoilt things, all kinds (k01, k07) -/
noncomputable section
namespace Dl
open PySem PySem.Spec PyProof.Rows L2
variable {X : Nat → Prop} {b : Nat} {st st' : Store} {B S L k : Nat} {d : D}
theorem add_strs {x y : Str} (h : x.length + y.length ≤ sizeLine) (st : Store) : dAddX (.str x) (.str y) st = some (.str (x ++ y), st) := by
  show (if x.length + y.length ≤ sizeLine then Dl.M.ret (D.str (x ++ y)) else Dl.M.bad) st = _
  rw [if_pos h]; rfl
theorem sl_str {ρ : Env1} {i : Nat} {x : Str} {lo hi : Eo} {l h : Option Int} (hi' : ρ[i]? = some (some (.str x))) (h1 : lo ρ st = some (l, st)) (h2 : hi ρ st = some (h, st)) (hx : x.length ≤ sizeLine) : eSl (eVar i) lo hi ρ st = some (.str (cutS x l h), st) := by
  simp only [eSl, Dl.M.bnd, eVar_at hi', h1, h2]
  show (if x.length ≤ sizeLine then Dl.M.ret (D.str (cutS x l h)) else Dl.M.bad) st = _
  rw [if_pos hx]; rfl
theorem up_at {x : Str} (h : x.length ≤ 5592405) (st : Store) : dUp (.str x) st = some (.str (Txt.upper x), st) := by
  show (if x.length ≤ 5592405 then Dl.M.ret (D.str (Txt.upper x)) else Dl.M.bad) st = _
  rw [if_pos h]; rfl
theorem asc_a : Asc "a" ∧ Asc " " ∧ Asc "z" ∧ Asc "" ∧ Asc "True" ∧ Asc "False" := by
  refine ⟨?_, ?_, ?_, ?_, ?_, ?_⟩ <;> (intro c hc; revert c; decide +kernel)
theorem len_a : (Str.ofString "a").length = 1 ∧ (Str.ofString " ").length = 1 ∧ (Str.ofString "z").length = 1 ∧ (Str.ofString "").length = 0 ∧ (Str.ofString "True").length = 4 ∧ (Str.ofString "False").length = 5 := by decide +kernel
/-- one of seven, by a draw -/
theorem seven_w {Q : Fl → Store → Prop} {ρ : Env1} {A : Ea} {ds : List D} {m : Int} (h2 : ρ[2]? = some (some (.int m))) (m2 : 2 ≤ m) (m9 : m < 9) (hA : A ρ st = some (ds, st)) (h7 : ds.length = 7) (q : ∀ x ∈ ds, Q (.rt x) (st ++ [.lst ds])) :
    Wp (sRet (eOp2 dIx (eLst A) (eOp2 dSubX (eVar 2) (eC (.int 2)))) ρ) st Q := by
  obtain ⟨j, e⟩ := Int.eq_ofNat_of_zero_le (show 0 ≤ m - 2 by omega)
  have hj : j < ds.length := by omega
  have e1 : eOp2 dSubX (eVar 2) (eC (.int 2)) ρ (st ++ [.lst ds]) = some (.int (m - 2), st ++ [.lst ds]) := (eOp2_at (eVar_at h2) eC_at).trans (dSub_int _)
  refine wRet (Wp.of (a := ds[j]) (st' := st ++ [.lst ds]) ?_ (q _ (List.getElem_mem hj)))
  rw [eOp2_at (eLst_at hA (by rw [h7]; decide)) e1, lst_ix get_app, atI_n (j := j) e (List.getElem?_eq_getElem hj)]
  rfl
theorem sps_w (Z : Fits B S L) {x : Str} {m : Int} {o3 o4 o5 : Option D} {st0 : Store} (hlt : b < st0.length) (B0 : Bg b st0 st) (m2 : 2 ≤ m) (m9 : m < 9) (hx : Asc x) (hl : x.length ≤ S) :
    Wp (sSps [some (.ref b), some (.str x), some (.int m), o3, o4, o5]) st fun f s => ∃ d', f = .rt d' ∧ Nxt X b st0 B S L k d' s := by
  have hS : S ≤ 5000000 := Z.s2
  have hz : 16000000 ≤ sizeLine := by decide
  obtain ⟨a1, a2, a3, a4, _, _⟩ := asc_a
  obtain ⟨l1, l2, l3, l4, _, _⟩ := len_a
  have v1 : eVar 1 [some (.ref b), some (.str x), some (.int m), o3, o4, o5] st = some (.str x, st) := rfl
  have ng : oSome (eOp1 dNegX (eC (.int 1))) [some (.ref b), some (.str x), some (.int m), o3, o4, o5] st = some (some (-1), st) := rfl
  have hS2 := Z.s1
  refine seven_w (ds := [.str (x ++ Str.ofString "a"), .str (cutS x none (some (-1))), .str (x ++ Str.ofString " "), .str (Txt.upper x), .str (x ++ x), .str (Str.ofString "z" ++ x), .str (Str.ofString "")]) rfl m2 m9 ?_ rfl ?_
  · refine aCons_at ((eOp2_at v1 eC_at).trans (add_strs (by omega) st)) (aCons_at (sl_str rfl rfl ng (by omega)) (aCons_at ((eOp2_at v1 eC_at).trans (add_strs (by omega) st)) (aCons_at ((eOp1_at v1).trans (up_at (by omega) st)) (aCons_at ((eOp2_at v1 v1).trans (add_strs (by omega) st)) (aCons_at ((eOp2_at eC_at v1).trans (add_strs (by omega) st)) (aCons_at eC_at aNil_at))))))
  · intro y hy
    refine ⟨y, rfl, B0.app _, Val.atom ?_⟩
    have up := hx.up
    simp only [List.mem_cons, List.not_mem_nil, or_false] at hy
    rcases hy with rfl | rfl | rfl | rfl | rfl | rfl | rfl
    · exact ⟨hx.app a1, by rw [app_len]; omega⟩
    · exact ⟨hx.cut _ _, by have := cut_len x none (some (-1)); omega⟩
    · exact ⟨hx.app a2, by rw [app_len]; omega⟩
    · exact ⟨up.1, by rw [up.2]; omega⟩
    · exact ⟨hx.app hx, by rw [app_len]; omega⟩
    · exact ⟨a3.app hx, by rw [app_len]; omega⟩
    · exact ⟨a4, by omega⟩
theorem dNegX_int (i : Int) (st : Store) : dNegX (.int i) st = some (.int (-i), st) := rfl
theorem spi_w (Z : Fits B S L) {i : Int} {m : Int} {o3 o4 o5 : Option D} {st0 : Store} (hlt : b < st0.length) (B0 : Bg b st0 st) (m2 : 2 ≤ m) (m9 : m < 9) (hi : Bt B i) :
    Wp (sSpi [some (.ref b), some (.int i), some (.int m), o3, o4, o5]) st fun f s => ∃ d', f = .rt d' ∧ Nxt X b st0 B S L k d' s := by
  have hlog := int_log hi (by have := Z.b2; omega)
  have hlen := int_len hi (by have := Z.b2; omega)
  have v1 : eVar 1 [some (.ref b), some (.int i), some (.int m), o3, o4, o5] st = some (.int i, st) := rfl
  have hstr : bStrX [.int i] st = some (.str (toString i : String), st) := by
    show (if i.natAbs.log2 < 1920 then Dl.M.ret (D.str (toString i : String)) else Dl.M.bad) st = _
    rw [if_pos hlog]; rfl
  have hadd : ∀ c : Int, dAddX (.int i) (.int c) st = some (.int (i + c), st) := fun c => rfl
  have hsub : dSubX (.int i) (.int 1) st = some (.int (i - 1), st) := dSub_int st
  refine seven_w (ds := [.int (i + 1), .int (i - 1), .int (-i), .int (i + 1000), .str (toString i : String), .int (i + 50), .tup [.int i]]) rfl m2 m9 ?_ rfl ?_
  · refine aCons_at ((eOp2_at v1 eC_at).trans (hadd 1)) (aCons_at ((eOp2_at v1 eC_at).trans hsub) (aCons_at ((eOp1_at v1).trans (dNegX_int i st)) (aCons_at ((eOp2_at v1 eC_at).trans (hadd 1000)) (aCons_at ((eCB_at (aCons_at v1 aNil_at)).trans hstr) (aCons_at ((eOp2_at v1 eC_at).trans (hadd 50)) (aCons_at (eTup_at (aCons_at v1 aNil_at) (one_list _)) aNil_at))))))
  · have big : ∀ c : Int, Bt 10 c → Bt (B + 1) (i + c) := fun c hc => by
      have := Bt.add hc hi (by have := Z.b1; omega)
      rw [Int.add_comm]; exact this
    intro y hy
    have at_ : ∀ z : Int, Bt (B + 1) z → Val (fun n => X n ∨ st0.length ≤ n) (st ++ [MO.lst [.int (i + 1), .int (i - 1), .int (-i), .int (i + 1000), .str (toString i : String), .int (i + 50), .tup [.int i]]]) (B + 1) (2 * S + 2) (L + 1) (k + 4) (.int z) := fun z hz => Val.atom (d := .int z) hz
    refine ⟨y, rfl, B0.app _, ?_⟩
    simp only [List.mem_cons, List.not_mem_nil, or_false] at hy
    rcases hy with rfl | rfl | rfl | rfl | rfl | rfl | rfl
    · exact at_ _ (big 1 (by unfold Bt; decide))
    · exact at_ _ (by rw [Int.sub_eq_add_neg]; exact big (-1) (by unfold Bt; decide))
    · exact at_ _ (hi.neg.mono (by omega))
    · exact at_ _ (big 1000 (by unfold Bt; decide))
    · exact Val.atom (d := .str (toString i : String)) ⟨Asc.int i, by have := Z.s1; omega⟩
    · exact at_ _ (big 50 (by unfold Bt; decide))
    · exact (Val.tup (k := k + 3) (by show 1 ≤ L + 1; omega) fun x hx => by
        rw [List.mem_singleton] at hx; subst hx
        exact Val.atom (d := .int i) (hi.mono (by omega)))
theorem spb_w (Z : Fits B S L) {i : Bool} {m : Int} {o3 o4 o5 : Option D} {st0 : Store} (hlt : b < st0.length) (B0 : Bg b st0 st) (m2 : 2 ≤ m) (m9 : m < 9) :
    Wp (sSpi [some (.ref b), some (.bl i), some (.int m), o3, o4, o5]) st fun f s => ∃ d', f = .rt d' ∧ Nxt X b st0 B S L k d' s := by
  have v1 : eVar 1 [some (.ref b), some (.bl i), some (.int m), o3, o4, o5] st = some (.bl i, st) := rfl
  have hstr : bStrX [.bl i] st = some (.str (if i = true then Str.ofString "True" else Str.ofString "False"), st) := rfl
  have hadd : ∀ c : Int, dAddX (.bl i) (.int c) st = some (.int (dBi i + c), st) := fun c => rfl
  have hsub : dSubX (.bl i) (.int 1) st = some (.int (dBi i - 1), st) := rfl
  have hneg : dNegX (.bl i) st = some (.int (-(dBi i)), st) := rfl
  refine seven_w (ds := [.int (dBi i + 1), .int (dBi i - 1), .int (-(dBi i)), .int (dBi i + 1000), .str (if i = true then Str.ofString "True" else Str.ofString "False"), .int (dBi i + 50), .tup [.bl i]]) rfl m2 m9 ?_ rfl ?_
  · refine aCons_at ((eOp2_at v1 eC_at).trans (hadd 1)) (aCons_at ((eOp2_at v1 eC_at).trans hsub) (aCons_at ((eOp1_at v1).trans hneg) (aCons_at ((eOp2_at v1 eC_at).trans (hadd 1000)) (aCons_at ((eCB_at (aCons_at v1 aNil_at)).trans hstr) (aCons_at ((eOp2_at v1 eC_at).trans (hadd 50)) (aCons_at (eTup_at (aCons_at v1 aNil_at) (one_list _)) aNil_at))))))
  · have big : ∀ c : Int, Bt 20 c → Bt (B + 1) c := fun c hc => hc.mono (by have := Z.b1; omega)
    intro y hy
    refine ⟨y, rfl, B0.app _, ?_⟩
    have at_ : ∀ {s : Store} (z : Int), Bt 20 z → Val (fun n => X n ∨ st0.length ≤ n) s (B + 1) (2 * S + 2) (L + 1) (k + 4) (.int z) := fun z hz => Val.atom (d := .int z) (big z hz)
    obtain ⟨_, _, _, _, a5, a6⟩ := asc_a
    obtain ⟨_, _, _, _, l5, l6⟩ := len_a
    have hS := Z.s1
    simp only [List.mem_cons, List.not_mem_nil, or_false] at hy
    rcases hy with rfl | rfl | rfl | rfl | rfl | rfl | rfl
    · exact at_ _ (by cases i <;> (unfold Bt; decide))
    · exact at_ _ (by cases i <;> (unfold Bt; decide))
    · exact at_ _ (by cases i <;> (unfold Bt; decide))
    · exact at_ _ (by cases i <;> (unfold Bt; decide))
    · cases i
      · exact Val.atom (d := .str "False") ⟨a6, by omega⟩
      · exact Val.atom (d := .str "True") ⟨a5, by omega⟩
    · exact at_ _ (by cases i <;> (unfold Bt; decide))
    · exact (Val.tup (k := k + 3) (by show 1 ≤ L + 1; omega) fun x hx => by
        rw [List.mem_singleton] at hx; subst hx
        exact Val.atom (d := .bl i) trivial)
/-- the last way out -/
theorem spo_w (Z : Fits B S L) {ρ : Env1} {st0 : Store} (h0 : ρ[0]? = some (some (.ref b))) (hlt : b < st0.length) (B0 : Bg b st0 st) : Wp (sRet (eCB (mCall 1 F_odd) (aCons (eVar 0) aNil)) ρ) st fun f s => ∃ d', f = .rt d' ∧ Nxt X b st0 B S L k d' s := by
  refine wRet (wCB (wCons (wVar h0 (wNil (odd_w (B0.bag hlt) fun d s Bs h => ⟨d, rfl, B0.trans hlt Bs, ?_⟩)))))
  have := B0.len
  have z1 := Z.b1
  have z2 := Z.s1
  have z3 := Z.l1
  exact h.up (by omega) (by omega) (by omega) (fun n xs hn e => ⟨.inr (by omega), e⟩) (by omega)
theorem sp_w (Z : Fits B S L) : ∀ (f : Nat) {X : Nat → Prop} {st : Store} {k : Nat} {d : D}, k < f → (∀ n, X n → n ≠ b) → BagAt b st → Val X st B S L k d → Wp (F_sp f [.ref b, d]) st fun d' s => Nxt X b st B S L k d' s
  | 0, _, _, k, _, hk, _, _, _ => absurd hk (by omega)
  | f + 1, X, st, k, d, hk, hX, hb, hv => by
    have hlt := hb.lt
    refine wDefX (env := [some (.ref b), some d, none, none, none, none]) rfl ?_
    refine wSeq (wSet (takeC_w rfl hb (by decide) (by decide) fun m s1 m0 m9 B1 => ?_))
    have hv1 : Val X s1 B S L k d := hv.bg hX B1
    have i1 : eCB bIsi (aCons (eVar 1) (aCons eTl aNil)) [some (.ref b), some d, some (.int m), none, none, none] s1 = some (.bl (isSq d), s1) := (eCB_at (aCons_at (eVar_at rfl) (aCons_at (eTup_at (aCons_at eC_at (aCons_at eC_at aNil_at)) (two_lists _ _)) aNil_at))).trans (bIsi_sq hv1.inSt)
    have i2 := isi_at (ρ := [some (.ref b), some d, some (.int m), none, none, none]) (i := 1) rfl (bIsi_str hv1.inSt)
    have i3 := isi_at (ρ := [some (.ref b), some d, some (.int m), none, none, none]) (i := 1) rfl (bIsi_int hv1.inSt)
    have g1 : tV (eOp2 dGt (eVar 2) (eC (.int 1))) [some (.ref b), some d, some (.int m), none, none, none] s1 = some (decide (1 < m), s1) := tV_at ((eOp2_at (eVar_at rfl) eC_at).trans (dGt_int s1))
    have g0 : tV (eOp2 dGt (eVar 2) (eC (.int 0))) [some (.ref b), some d, some (.int m), none, none, none] s1 = some (decide (0 < m), s1) := tV_at ((eOp2_at (eVar_at rfl) eC_at).trans (dGt_int s1))
    have skip : ∀ {c : Et} {T U : Sx} {Q : Fl → Store → Prop}, c [some (.ref b), some d, some (.int m), none, none, none] s1 = some (false, s1) → Wp (U [some (.ref b), some d, some (.int m), none, none, none]) s1 Q → Wp (sSeq (sIf c T sNext) U [some (.ref b), some d, some (.int m), none, none, none]) s1 Q := fun hc hu => wSeq (wIf (Wp.of hc (by rw [if_neg (by decide)]; exact wNext hu)))
    have tail : isS d = false → isI d = false → Wp (sSeq (sIf (tAndD (tV (eCB bIsi (aCons (eVar 1) (aCons (eC (.ty "str")) aNil)))) (tV (eOp2 dGt (eVar 2) (eC (.int 1))))) sSps sNext)
        (sSeq (sIf (tAndD (tV (eCB bIsi (aCons (eVar 1) (aCons (eC (.ty "int")) aNil)))) (tV (eOp2 dGt (eVar 2) (eC (.int 1))))) sSpi sNext)
        (sRet (eCB (mCall 1 F_odd) (aCons (eVar 0) aNil)))) [some (.ref b), some d, some (.int m), none, none, none]) s1 fun f s => ∃ d', f = .rt d' ∧ Nxt X b st B S L k d' s := fun n1 n2 =>
      skip (by rw [tAndD_at (tV_at i2), n1]; rfl) (skip (by rw [tAndD_at (tV_at i3), n2]; rfl) (spo_w Z rfl hlt B1))
    have seq : ∀ xs, IsSeq s1 d xs → isSq d = true → isS d = false → isI d = false → Wp (sSeq (sIf (tAndD (tV (eCB bIsi (aCons (eVar 1) (aCons eTl aNil)))) (tAndD (tV (eOp2 dGt (eCB bLen (aCons (eVar 1) aNil)) (eC (.int 0)))) (tV (eOp2 dGt (eVar 2) (eC (.int 0)))))) (sSpq (F_sp f)) sNext)
        (sSeq (sIf (tAndD (tV (eCB bIsi (aCons (eVar 1) (aCons (eC (.ty "str")) aNil)))) (tV (eOp2 dGt (eVar 2) (eC (.int 1))))) sSps sNext)
        (sSeq (sIf (tAndD (tV (eCB bIsi (aCons (eVar 1) (aCons (eC (.ty "int")) aNil)))) (tV (eOp2 dGt (eVar 2) (eC (.int 1))))) sSpi sNext)
        (sRet (eCB (mCall 1 F_odd) (aCons (eVar 0) aNil))))) [some (.ref b), some d, some (.int m), none, none, none]) s1 fun f s => ∃ d', f = .rt d' ∧ Nxt X b st B S L k d' s := by
      intro xs hs n0 n1 n2
      have gl : tV (eOp2 dGt (eCB bLen (aCons (eVar 1) aNil)) (eC (.int 0))) [some (.ref b), some d, some (.int m), none, none, none] s1 = some (decide (0 < (xs.length : Int)), s1) := tV_at ((eOp2_at ((eCB_at (aCons_at (eVar_at rfl) aNil_at)).trans hs.len) eC_at).trans (dGt_int s1))
      obtain ⟨hl, j, rfl, hp⟩ := hv1.seq hs
      by_cases hc : 0 < xs.length ∧ 0 < m
      · refine wSeq (wIf (Wp.of (a := true) (st' := s1) (by rw [tAndD_at (tV_at i1), n0, if_pos rfl, tAndD_at gl, decide_eq_true (by omega), if_pos rfl, g0, decide_eq_true hc.2]) ?_))
        rw [if_pos rfl]
        refine (spq_w Z hX hlt B1 hc.2 hs hv1 hc.1 hl hp fun hX' hb' hv' => sp_w Z f (by omega) hX' hb' hv').mono ?_
        rintro fl s ⟨d', rfl, hn⟩
        exact ⟨d', rfl, hn⟩
      · refine skip ?_ (tail n1 n2)
        rw [tAndD_at (tV_at i1), n0, if_pos rfl, tAndD_at gl]
        by_cases h0 : 0 < xs.length
        · rw [decide_eq_true (by omega), if_pos rfl, g0, decide_eq_false (fun h => hc ⟨h0, h⟩)]
        · rw [decide_eq_false (by omega), if_neg (by decide)]
    cases d with
    | tup xs => exact seq xs (.inl rfl) rfl rfl rfl
    | ref n =>
      obtain ⟨xs, _, e, _⟩ := hv1.items
      exact seq xs (.inr ⟨n, rfl, e⟩) rfl rfl rfl
    | non => exact skip (by rw [tAndD_at (tV_at i1)]; rfl) (tail rfl rfl)
    | scr _ => exact (hv1.inSt).elim
    | ty _ => exact (hv1.inSt).elim
    | str x =>
      refine skip (by rw [tAndD_at (tV_at i1)]; rfl) ?_
      by_cases hm : 1 < m
      · refine wSeq (wIf (Wp.of (a := true) (st' := s1) (by rw [tAndD_at (tV_at i2), if_pos (show isS (.str x) = true from rfl), g1, decide_eq_true hm]) ?_))
        rw [if_pos rfl]
        refine (sps_w (X := X) (k := k) Z hlt B1 (by omega) m9 hv1.str.1 hv1.str.2).mono ?_
        rintro fl s ⟨d', rfl, hn⟩
        exact ⟨d', rfl, hn⟩
      · exact skip (by rw [tAndD_at (tV_at i2), if_pos (show isS (.str x) = true from rfl), g1, decide_eq_false hm]) (skip (by rw [tAndD_at (tV_at i3)]; rfl) (spo_w Z rfl hlt B1))
    | int i =>
      refine skip (by rw [tAndD_at (tV_at i1)]; rfl) (skip (by rw [tAndD_at (tV_at i2)]; rfl) ?_)
      by_cases hm : 1 < m
      · refine wSeq (wIf (Wp.of (a := true) (st' := s1) (by rw [tAndD_at (tV_at i3), if_pos (show isI (.int i) = true from rfl), g1, decide_eq_true hm]) ?_))
        rw [if_pos rfl]
        refine (spi_w (X := X) (k := k) Z hlt B1 (by omega) m9 hv1.int).mono ?_
        rintro fl s ⟨d', rfl, hn⟩
        exact ⟨d', rfl, hn⟩
      · exact skip (by rw [tAndD_at (tV_at i3), if_pos (show isI (.int i) = true from rfl), g1, decide_eq_false hm]) (spo_w Z rfl hlt B1)
    | bl i =>
      refine skip (by rw [tAndD_at (tV_at i1)]; rfl) (skip (by rw [tAndD_at (tV_at i2)]; rfl) ?_)
      by_cases hm : 1 < m
      · refine wSeq (wIf (Wp.of (a := true) (st' := s1) (by rw [tAndD_at (tV_at i3), if_pos (show isI (.bl i) = true from rfl), g1, decide_eq_true hm]) ?_))
        rw [if_pos rfl]
        refine (spb_w (X := X) (k := k) Z hlt B1 (by omega) m9).mono ?_
        rintro fl s ⟨d', rfl, hn⟩
        exact ⟨d', rfl, hn⟩
      · exact skip (by rw [tAndD_at (tV_at i3), if_pos (show isI (.bl i) = true from rfl), g1, decide_eq_false hm]) (spo_w Z rfl hlt B1)
end Dl
end
set_option linter.all false
set_option autoImplicit false
set_option maxRecDepth 100000
/-! M43: law k01 -/
noncomputable section
namespace Dl
open PySem PySem.Spec PyProof.Rows L2
variable {X : Nat → Prop} {b : Nat} {st st' : Store} {B S L k : Nat} {d : D}
/-! ### one of some -/
theorem ofG_w {xs : List D} {Q : D → Store → Prop} (hb : BagAt b st) (hs : d = .tup xs ∨ ∃ n, n ≠ b ∧ d = .ref n ∧ st[n]? = some (.lst xs)) (h0 : 0 < xs.length) (h1 : xs.length < 1000000) (hl : ∀ x ∈ xs, x.low 0 = true) (q : ∀ x ∈ xs, ∀ o, IsBag o → Q x (st.set b o)) : Wp (F_of [.ref b, d]) st Q := by
  have hsq : IsSeq st d xs := hs.imp id fun ⟨n, _, h⟩ => ⟨n, h⟩
  refine wGcF (b := b) (wDefX rfl (wRet (wOp2 (wVar rfl (take_w rfl (wCB (wCons (wVar rfl (wNil (Wp.of (a := .int (xs.length : Int)) (st' := st) hsq.len ?_))))))))))
  refine ⟨_, rfl, by omega, by omega, hb, fun k s k0 k1 hB => ?_⟩
  obtain ⟨j, rfl⟩ := Int.eq_ofNat_of_zero_le k0
  have hj : j < xs.length := by omega
  have hs2 : IsSeq s d xs := by
    rcases hs with h | ⟨n, hn, h, e⟩
    · exact .inl h
    · exact .inr ⟨n, h, hB.keep hn e⟩
  refine Wp.of (a := xs[j]) (st' := s) ?_ ⟨_, rfl, hl _ (List.getElem_mem hj), hB, fun o ho => q _ (List.getElem_mem hj) o ho⟩
  rw [hs2.ix, atI_n (j := j) rfl (List.getElem?_eq_getElem hj)]; rfl
/-! ### told alike -/
def F_pl1 : List D → M D := F_ipl (F_bk F_nm F_iwn) F_ifr
def F_pl2 : List D → M D := F_lpl (F_bk F_lnm F_lwn) F_lfr
theorem Val.pl1 (h : Val X st B S L k d) (hB : B ≤ 8999) (hS : S ≤ sizeLine) : F_pl1 [d] st = some (.bl (isPl d), st) := ipl_eq (fun h => h.bk hS) (fun h => h.ifr hB) h
theorem Val.pl2 (h : Val X st B S L k d) (hB : B ≤ 8999) (hS : S ≤ sizeLine) : F_pl2 [d] st = some (.bl (isPl d), st) := lpl_eq (fun g {k d} h => h.lbk hS) (fun g {k d} h => h.lfr hB) h
theorem eqv_bool (a : Bool) : PyData.eqv (.bool a) (.bool a) = true := by cases a <;> decide
theorem ne_bl (a : Bool) (st : Store) : dNe (.bl a) (.bl a) st = some (.bl false, st) := by
  refine (dEq_plain true st rfl rfl (Nat.zero_le _) (Nat.zero_le _)).trans ?_
  show some (D.bl (if true = true then !PyData.eqv (.bool a) (.bool a) else PyData.eqv (.bool a) (.bool a)), st) = _
  rw [eqv_bool]; rfl
theorem ne_bls (a c : Bool) {m n : Nat} (hm : st[m]? = some (.lst [.bl a, .bl c])) (hn : st[n]? = some (.lst [.bl a, .bl c])) : dNe (.ref m) (.ref n) st = some (.bl false, st) := by
  refine (dEq_lists true st hm hn rfl rfl (Nat.zero_le _) (Nat.zero_le _)).trans ?_
  show some (D.bl (!(PyData.eqv (.bool a) (.bool a) && (PyData.eqv (.bool c) (.bool c) && true))), st) = _
  rw [eqv_bool, eqv_bool]; rfl
/-! ### the law's pieces -/
def sTell : Sx := (sIf (tOrD (tV (eOp2 dNe (eCB (mCall 1 F_pl1) (aCons (eVar 8) aNil)) (eCB (mCall 1 F_pl2) (aCons (eVar 8) aNil)))) (tV (eOp2 dNe (eCB (mCall 1 (F_bk F_nm F_iwn)) (aCons (eVar 8) aNil)) (eCB (mCall 1 (F_bk F_lnm F_lwn)) (aCons (eVar 8) aNil))))) (sRet (eC (.bl false))) sNext)
theorem tell_at {ρ : Env1} (h8 : ρ[8]? = some (some d)) (h : Val X st B S L k d) (hB : B ≤ 8999) (hS : S ≤ sizeLine) : sTell ρ st = some (.nx ρ, st) := by
  unfold sTell
  have t1 := tV_at ((eOp2_at (g := dNe) (call1 h8 (h.pl1 hB hS)) (call1 h8 (h.pl2 hB hS))).trans (ne_bl _ st))
  have t2 := tV_at ((eOp2_at (g := dNe) (call1 h8 (h.bk hS)) (call1 h8 (h.lbk hS))).trans (ne_bl _ st))
  rw [sIf_at (k := false) (by rw [tOrD_at t1, if_neg (by decide), t2]), if_neg (by decide)]; rfl
def eTold : Ev := (eLst (aCons (eCB (mCall 1 F_pl1) (aCons (eVar 3) aNil)) (aCons (eCB (mCall 1 (F_bk F_nm F_iwn)) (aCons (eVar 4) aNil)) aNil)))
def eDue : Ev := (eLst (aCons (eCB (mCall 1 F_pl2) (aCons (eVar 3) aNil)) (aCons (eCB (mCall 1 (F_bk F_lnm F_lwn)) (aCons (eVar 4) aNil)) aNil)))
def eNob : Ev := (eLc (iSeq (eVar 10)) (xName 12) (tNotD (tV (eCB bIsi (aCons (eVar 12) (aCons (eC (.ty "bool")) aNil))))) (eVar 12) [12])
def sTurn : Sx := (sSeq (sAsg eTold (xName 10))
  (sSeq (sIf (tV (eOp2 dNe (eVar 10) eDue)) (sRet (eC (.bl false))) sNext)
  (sSeq (sIf (tV (eOp2 dNe eNob (eLst aNil))) (sRet (eC (.bl false))) sNext)
  (sPar 3 4 (aCons (eCB (mCall 2 (F_sp 30)) (aCons (eVar 2) (aCons (eVar 3) aNil))) (aCons (eCB (mCall 2 (F_sp 30)) (aCons (eVar 2) (aCons (eVar 4) aNil))) aNil))))))
theorem turn_w (Z : Fits B S L) {x0 x1 o5 o6 o7 o8 o9 o10 o11 o12 : Option D} {v w : D} {Q : Fl → Store → Prop} (hX : ∀ n, X n → n ≠ b) (hb : BagAt b st) (hv : Val X st B S L k v) (hw : Val X st B S L k w) (hk : k < 30)
    (q : ∀ v' w' s o10', Bg b st s → Val (fun n => X n ∨ st.length ≤ n) s (B + 1) (2 * S + 2) (L + 1) (k + 4) v' → Val (fun n => X n ∨ st.length ≤ n) s (B + 1) (2 * S + 2) (L + 1) (k + 4) w' → Q (.nx [x0, x1, some (.ref b), some v', some w', o5, o6, o7, o8, o9, o10', o11, o12]) s) :
    Wp (sTurn [x0, x1, some (.ref b), some v, some w, o5, o6, o7, o8, o9, o10, o11, o12]) st Q := by
  have hB : B ≤ 8999 := by have := Z.b2; omega
  have hS : S ≤ sizeLine := Nat.le_trans Z.s2 (by decide)
  have hlt := hb.lt
  refine wSeq (wSet (Wp.of (eLst_at (aCons_at (call1 rfl (hv.pl1 hB hS)) (aCons_at (call1 rfl (hw.bk hS)) aNil_at)) (two_lists _ _)) ?_))
  generalize ht : [D.bl (isPl v), D.bl (isBk w)] = told
  have n1 : (st ++ [MO.lst told])[st.length]? = some (.lst told) := get_app
  have B1 : Bg b st (st ++ [MO.lst told]) := Bg.new hb _
  have hv1 := hv.app [MO.lst told]
  have hw1 := hw.app [MO.lst told]
  generalize st ++ [MO.lst told] = s1 at *
  have hlt1 : b < s1.length := Nat.lt_of_lt_of_le hlt B1.len
  have t1 : eDue [x0, x1, some (.ref b), some v, some w, o5, o6, o7, o8, o9, some (.ref st.length), o11, o12] s1 = some (.ref s1.length, s1 ++ [.lst told]) := by
    rw [← ht]
    exact eLst_at (aCons_at (call1 rfl (hv1.pl2 hB hS)) (aCons_at (call1 rfl (hw1.lbk hS)) aNil_at)) (two_lists _ _)
  have t2 : tV (eOp2 dNe (eVar 10) eDue) [x0, x1, some (.ref b), some v, some w, o5, o6, o7, o8, o9, some (.ref st.length), o11, o12] s1 = some (false, s1 ++ [.lst told]) :=
    tV_at ((eOp2_at (eVar_at rfl) t1).trans (ne_bls (isPl v) (isBk w) (by rw [ht]; exact ap n1) (by rw [ht]; exact get_app)))
  refine wSeq (wIf (Wp.of t2 ?_))
  rw [if_neg (by decide)]
  refine wNext ?_
  have n2 : (s1 ++ [MO.lst told])[st.length]? = some (.lst told) := ap n1
  have B2 : Bg b st (s1 ++ [MO.lst told]) := B1.app _
  have hv2 := hv1.app [MO.lst told]
  have hw2 := hw1.app [MO.lst told]
  generalize s1 ++ [MO.lst told] = s2 at *
  obtain ⟨z, e⟩ := eLc_A (it := iSeq (eVar 10)) (g := xName 12) (t := tNotD (tV (eCB bIsi (aCons (eVar 12) (aCons (eC (.ty "bool")) aNil))))) (e := eVar 12) (vs := [12]) (ρ := [x0, x1, some (.ref b), some v, some w, o5, o6, o7, o8, o9, some (.ref st.length), o11, o12]) (st := s2) (st1 := s2) (s := ⟨told, some st.length⟩) [isPl v, isBk w] D.bl (fun _ => false) D.bl (by
      show (match s2[st.length]? with
        | some (.lst xs) => some ((⟨xs, some st.length⟩ : Src), s2)
        | _ => none) = _
      rw [n2]) (.inr ⟨_, rfl, (List.getElem?_eq_some_iff.mp n2).1, n2⟩) ht.symm (fun c hc z => ⟨_, [], rfl, by
      rw [List.append_nil]
      exact tNotD_at (tV_at (isi_at (i := 12) rfl (bIsi_bool (d := .bl c) trivial))), fun h => by cases h⟩) (by show 2 ≤ sizeLine; decide)
  have t3 : tV (eOp2 dNe eNob (eLst aNil)) [x0, x1, some (.ref b), some v, some w, o5, o6, o7, o8, o9, some (.ref st.length), o11, o12] s2 = some (false, s2 ++ MO.lst [] :: z ++ [.lst []]) := by
    refine tV_at ((eOp2_at e (eLst_at aNil_at (by decide))).trans ?_)
    refine (nil_eq true _ (xs := []) (ap get_app) get_app rfl (Nat.zero_le _)).trans ?_
    rfl
  refine wSeq (wIf (Wp.of t3 ?_))
  rw [if_neg (by decide)]
  refine wNext ?_
  have B3 : Bg b st (s2 ++ MO.lst [] :: z ++ [.lst []]) := (B2.app _).app _
  have hv3 := (hv2.app (MO.lst [] :: z)).app [.lst []]
  have hw3 := (hw2.app (MO.lst [] :: z)).app [.lst []]
  generalize s2 ++ MO.lst [] :: z ++ [MO.lst []] = s3 at *
  refine wPar (wCons (wCB (wCons (wVar rfl (wCons (wVar rfl (wNil ((sp_w Z 30 hk hX (B3.bag hlt) hv3).mono fun v' s4 hn => ?_))))))))
  obtain ⟨B4, hv'⟩ := hn
  have B5 : Bg b st s4 := B3.trans hlt B4
  have hw4 : Val X s4 B S L k w := hw3.bg hX B4
  have hlt3 : st.length ≤ s3.length := B3.len
  refine wCons (wCB (wCons (wVar rfl (wCons (wVar rfl (wNil ((sp_w Z 30 hk hX (B5.bag hlt) hw4).mono fun w' s5 hn2 => wNil ⟨v', w', rfl, ?_⟩)))))))
  obtain ⟨B6, hw'⟩ := hn2
  have hlt4 : b < s4.length := (B5.bag hlt).lt
  refine q v' w' s5 _ (B5.trans hlt B6) ?_ ?_
  · have hle : s3.length ≤ s4.length := B4.len
    refine hv'.up (Nat.le_refl _) (Nat.le_refl _) (Nat.le_refl _) (fun n xs hn e => ?_) (Nat.le_refl _)
    rcases hn with h | h
    · exact ⟨.inl h, B6.keep (hX n h) e⟩
    · exact ⟨.inr (by omega), B6.keep (by omega) e⟩
  · exact hw'.imp fun n hn _ => by
      rcases hn with h | h
      · exact .inl h
      · have := B5.len; exact .inr (by omega)
/-! what is drawn first -/
theorem fr_atoms {N M : Nat} {q : Rat} (h : Gd N M q) (hN : N < 2 ^ 500) (hM : M < 2 ^ 500) : Bt 1000 q.num ∧ Bt 1000 (q.den : Int) := by
  obtain ⟨h1, h2⟩ := h.bts
  have e : (2 : Nat) ^ 1000 = 2 ^ 500 * 2 ^ 500 := by rw [← Nat.pow_add]
  have e2 : (2 : Nat) ^ 500 ≤ 2 ^ 1000 := Nat.pow_le_pow_right (by decide) (by decide)
  constructor
  · show q.num.natAbs < 2 ^ 1000
    rw [e]
    exact Nat.lt_of_le_of_lt h2 (Nat.mul_lt_mul'' hM hN)
  · show ((q.den : Int)).natAbs < 2 ^ 1000
    rw [Int.natAbs_natCast]
    exact Nat.lt_of_le_of_lt h1 (Nat.lt_of_lt_of_le hN e2)
theorem names7_val : ∀ z ∈ names7, Asc z ∧ z.length ≤ 3 := by
  intro z hz
  have h : (names7.all fun z => z.cps.toList.all (fun c => decide (c < 128)) && decide (z.length ≤ 3)) = true := by decide +kernel
  have h1 := List.all_eq_true.mp h z hz
  rw [Bool.and_eq_true] at h1
  exact ⟨fun c hc => by simpa using List.all_eq_true.mp h1.1 c hc, of_decide_eq_true h1.2⟩
theorem bt1000 {i : Int} (h0 : 0 ≤ i) (h1 : i ≤ 10000) : Bt 1000 i := by
  refine Bt.mono (m := 14) ?_ (by decide)
  have : (2 : Nat) ^ 14 = 16384 := by decide
  show i.natAbs < 2 ^ 14
  omega
theorem row_val {e : Nat} {p : Pile} {N M : Nat} (hN : N < 2 ^ 500) (hM : M < 2 ^ 500) {r : Row} (hg : Gd N M r.at_) (hs : BlkOk 100 30 r.blk) (hn : r.name ∈ names7) : Val X st 1000 2000 30 2 (dRow r) := by
  obtain ⟨b1, b2⟩ := fr_atoms hg hN hM
  obtain ⟨n1, n2⟩ := names7_val _ hn
  obtain ⟨l1, l2, w1, w2⟩ := hs
  have l1 : 1 ≤ r.long := l1
  have l2 : r.long ≤ 100 := l2
  have w1 : 1 ≤ r.heavy := w1
  have w2 : r.heavy ≤ 30 := w2
  refine Val.tup (k := 1) (by show 4 ≤ 30; decide) fun x hx => ?_
  simp only [List.mem_cons, List.not_mem_nil, or_false] at hx
  rcases hx with rfl | rfl | rfl | rfl
  · exact Val.atom (d := .str r.name) ⟨n1, by omega⟩
  · exact Val.atom (d := .int r.long) (bt1000 (by omega) (by omega))
  · exact Val.atom (d := .int r.heavy) (bt1000 (by omega) (by omega))
  · refine Val.tup (k := 0) (by show 2 ≤ 30; decide) fun y hy => ?_
    simp only [List.mem_cons, List.not_mem_nil, or_false] at hy
    rcases hy with rfl | rfl
    · exact Val.atom (d := .int r.at_.num) b1
    · exact Val.atom (d := .int (r.at_.den : Int)) b2
theorem pile_val {p : Pile} (hp : PileOk 500 100 30 7 p) : Val X st 1000 2000 30 3 (dPile p) ∧ ∀ x ∈ dRows p, Val X st 1000 2000 30 2 x := by
  obtain ⟨N, M, _, hN, hM, hg⟩ := hp.gd
  have h : ∀ x ∈ dRows p, Val X st 1000 2000 30 2 x := by
    intro x hx
    unfold dRows at hx
    obtain ⟨r, hr, rfl⟩ := List.mem_map.mp hx
    exact row_val (e := 0) (p := p) hN hM (hg r hr) (hp.small r hr) (List.mem_of_mem_take (hp.nms.mem_iff.mp (List.mem_map_of_mem hr)))
  exact ⟨Val.tup (k := 2) (by rw [dRows_len]; have := hp.l1; omega) h, h⟩
theorem blk_val {bs : List Blk} (hbs : BlksOk 100 30 7 bs) : ∀ x ∈ dBlks bs, Val X st 1000 2000 30 3 x := by
  intro x hx
  unfold dBlks at hx
  obtain ⟨r, hr, rfl⟩ := List.mem_map.mp hx
  have hn : r.name ∈ names7 := by
    have : r.name ∈ bs.map Blk.name := List.mem_map_of_mem hr
    rw [hbs.names] at this
    exact List.mem_of_mem_take this
  obtain ⟨n1, n2⟩ := names7_val _ hn
  obtain ⟨l1, l2, w1, w2⟩ := hbs.ok r hr
  refine Val.tup (k := 2) (by show 3 ≤ 30; decide) fun x hx => ?_
  simp only [List.mem_cons, List.not_mem_nil, or_false] at hx
  rcases hx with rfl | rfl | rfl
  · exact Val.atom (d := .str r.name) ⟨n1, by omega⟩
  · exact Val.atom (d := .int r.long) (bt1000 (by omega) (by omega))
  · exact Val.atom (d := .int r.heavy) (bt1000 (by omega) (by omega))
end Dl
end
set_option linter.all false
set_option autoImplicit false
set_option maxRecDepth 100000
/-! M44: law k01, whole -/
noncomputable section
namespace Dl
open PySem PySem.Spec PyProof.Rows L2
def eEight : Ev := (eCB bTuple (aCons (eLc (iStrS (eC (.str "abcdefgh"))) (xName 11) tYesD (eTup (aCons (eOp2 dAdd (eC (.str "b")) (eVar 11)) (aCons (eC (.int 1)) (aCons (eC (.int 1)) (aCons (eTup (aCons (eC (.int 0)) (aCons (eC (.int 1)) aNil))) aNil))))) [11]) aNil))
def ofE : Ev := (eCB (mCall 2 F_of) (aCons (eVar 2) (aCons (eLst (aCons (eC (.int 0)) (aCons (eC (.int 1)) (aCons (eC (.int 1000)) (aCons (eC (.int 1001)) aNil))))) aNil)))
def eEdge : Ev := (eTup (aCons (eC (.str "ann")) (aCons ofE (aCons ofE aNil))))
def eSome : Ev := (eLst (aCons (eVar 5) (aCons (eSl (eVar 5) oNone (oSome (eC (.int 7)))) (aCons (eOp2 dAdd (eVar 3) (eSl (eVar 3) oNone (oSome (eC (.int 1))))) (aCons (eCB bList (aCons (eVar 3) aNil)) (aCons (eVar 6) (aCons (eTup (aCons (eOp2 dAdd (eVar 6) (eTup (aCons (eTup (aCons (eOp1 dNeg (eC (.int 1))) (aCons (eC (.int 2)) aNil))) aNil))) aNil)) (aCons (eTup aNil) aNil))))))))
def bK1 : Sx := (sSeq (sAsg (eCB (mCall 2 F_bag) (aCons (eVar 0) (aCons (eVar 1) aNil))) (xName 2))
  (sSeq (sPar 3 4 (aCons (eCB (mCall 2 (F_an 4 30 100 4 12 30)) (aCons (eVar 2) (aCons (eC (.int 7)) aNil))) (aCons (eCB (mCall 2 F_of) (aCons (eVar 2) (aCons (eCB (mCall 2 (F_bl 4 30 100 4 12 30)) (aCons (eVar 2) (aCons (eC (.int 7)) aNil))) aNil))) aNil)))
  (sSeq (sAsg eEight (xName 5))
  (sSeq (sAsg eEdge (xName 6))
  (sSeq (sAsg eSome (xName 7))
  (sSeq (sFor (iSeq (eOp2 dAdd (eVar 7) (eLst (aCons (eCB (mCall 1 F_odd) (aCons (eVar 2) aNil)) aNil)))) (xName 8) sTell)
  (sFor (iR1 (aCons (eC (.int 6)) aNil)) (xName 9) sTurn)))))))
def b_l1 : Sx := (sSeq (sFor (iR1 (aCons (eOp2 dAdd (eC (.int 1)) (eCB bMin2 (aCons (eCB bLen (aCons (eVar 0) aNil)) (aCons (eC (.int 30)) aNil)))) aNil)) (xName 1) bK1)
  (sRet (eC (.bl true))))
def F_l1 : List D → M D := defX 13 b_l1
/-! ### eight blocks -/
def eightRow (c : Nat) : D := .tup [.str (Str.ofString "b" ++ ⟨#[c]⟩), .int 1, .int 1, .tup [.int 0, .int 1]]
def abc8 : List Nat := [97, 98, 99, 100, 101, 102, 103, 104]
def eightD : List D := abc8.map eightRow
theorem eight_ok : okDs 1000 2000 30 2 eightD = true := by decide +kernel
theorem abc8_eq : (Str.ofString "abcdefgh").cps.toList = abc8 := by decide +kernel
theorem add_str2 {x y : Str} (h : x.length + y.length ≤ sizeLine) (st : Store) : dAdd (.str x) (.str y) st = some (.str (x ++ y), st) := by
  show (if x.length + y.length ≤ sizeLine then Dl.M.ret (D.str (x ++ y)) else Dl.M.bad) st = _
  rw [if_pos h]; rfl
theorem eight_at {ρ : Env1} {st : Store} (hρ : 11 < ρ.length) : ∃ g, eEight ρ st = some (.tup eightD, st ++ g) := by
  obtain ⟨z, e⟩ := eLc_mA (it := iStrS (eC (.str "abcdefgh"))) (g := xName 11) (e := eTup (aCons (eOp2 dAdd (eC (.str "b")) (eVar 11)) (aCons (eC (.int 1)) (aCons (eC (.int 1)) (aCons (eTup (aCons (eC (.int 0)) (aCons (eC (.int 1)) aNil))) aNil))))) (vs := [11]) (ρ := ρ) (st := st) (st1 := st) (s := ⟨sgnD (Str.ofString "abcdefgh"), none⟩) abc8 sgn eightRow rfl (.inl rfl) (by
      show (Str.ofString "abcdefgh").cps.toList.map (fun c => D.str ⟨#[c]⟩) = _
      rw [abc8_eq]; rfl) (fun c hc z => ⟨_, rfl, fun z => ⟨[], by
      rw [List.append_nil]
      have hv : eVar 11 ((wipeE ρ [11]).set 11 (some (sgn c))) (st ++ z) = some (sgn c, st ++ z) := eVar_at (wipe1 ρ 11 (some (sgn c)) hρ)
      refine eTup_at (aCons_at ((eOp2_at eC_at hv).trans (add_str2 (x := Str.ofString "b") (y := ⟨#[c]⟩) ?_ _)) (aCons_at eC_at (aCons_at eC_at (aCons_at (eTup_at (aCons_at eC_at (aCons_at eC_at aNil_at)) (two_lists _ _)) aNil_at)))) (by show 4 ≤ sizeLine; decide)
      have h1 : (Str.ofString "b").length = 1 := by decide +kernel
      rw [h1]
      show 1 + 1 ≤ sizeLine
      decide⟩⟩) (by show 8 ≤ sizeLine; decide)
  exact ⟨MO.lst (abc8.map eightRow) :: z, (eCB_at (aCons_at e aNil_at)).trans (bTuple_ref get_app)⟩
theorem add_tups {xs ys : List D} (h : xs.length + ys.length ≤ sizeLine) (st : Store) : dAdd (.tup xs) (.tup ys) st = some (.tup (xs ++ ys), st) := by
  show (if xs.length + ys.length ≤ sizeLine then Dl.M.ret (D.tup (xs ++ ys)) else Dl.M.bad) st = _
  rw [if_pos h]; rfl
theorem sl_tup {ρ : Env1} {i : Nat} {xs : List D} {lo hi : Eo} {l h : Option Int} {st : Store} (hi' : ρ[i]? = some (some (.tup xs))) (h1 : lo ρ st = some (l, st)) (h2 : hi ρ st = some (h, st)) : eSl (eVar i) lo hi ρ st = some (.tup (cutD xs l h), st) := by
  simp only [eSl, Dl.M.bnd, eVar_at hi', h1, h2]
  rfl
def menu4 : List D := [.int 0, .int 1, .int 1000, .int 1001]
theorem of4_w {ρ : Env1} {st : Store} {b : Nat} {Q : D → Store → Prop} (h2 : ρ[2]? = some (some (.ref b))) (hb : BagAt b st) (q : ∀ (x : Int) s, 0 ≤ x → x ≤ 1001 → Bg b st s → Q (.int x) s) : Wp (ofE ρ) st Q := by
  have hlt := hb.lt
  refine wCB (wCons (wVar h2 (wCons (Wp.of (eLst_at (ds := menu4) (aCons_at eC_at (aCons_at eC_at (aCons_at eC_at (aCons_at eC_at aNil_at)))) (by show 4 ≤ sizeLine; decide)) (wNil ?_)))))
  refine ofG_w (xs := menu4) (hb.app _) (.inr ⟨st.length, by omega, rfl, get_app⟩) (by decide) (by decide) (by decide) fun x hx o ho => ?_
  have B1 : Bg b st ((st ++ [MO.lst menu4]).set b o) := (Bg.new hb _).trans hlt (Bg.set0 ho)
  simp only [menu4, List.mem_cons, List.not_mem_nil, or_false] at hx
  rcases hx with rfl | rfl | rfl | rfl <;> exact q _ _ (by decide) (by decide) B1
theorem pow3 {t : Nat} (h : t ≤ 6) : 1 ≤ 3 ^ t ∧ 3 ^ t ≤ 729 := by
  match t, h with
  | 0, _ => decide
  | 1, _ => decide
  | 2, _ => decide
  | 3, _ => decide
  | 4, _ => decide
  | 5, _ => decide
  | 6, _ => decide
theorem k1_w {ns : List Int} {k : Nat} {s : Store} (hk : k < 1000) (o2 o3 o4 o5 o6 o7 o8 o9 o10 o11 o12 : Option D) :
    Wp (bK1 [some (.scr ns), some (.int (k : Int)), o2, o3, o4, o5, o6, o7, o8, o9, o10, o11, o12]) s fun f _ => ∃ o', f = .nx (some (.scr ns) :: some (.int (k : Int)) :: o') ∧ o'.length = 11 := by
  obtain ⟨u, hu, eb⟩ := bag_eq ns k hk s
  have hb : BagAt s.length (s ++ [u]) := ⟨u, get_app, hu⟩
  refine wSeq (wSet (Wp.of (call2 (eVar_at rfl) (eVar_at rfl) eb) ?_))
  generalize s ++ [u] = s0 at *
  generalize s.length = b at *
  have ha : ∀ x ∈ [(4 : Int), 30, 100], 0 < x ∧ x ≤ 100 := by simp
  have hd : ∀ x ∈ [(4 : Int), 12, 30], 0 < x ∧ x ≤ 30 := by simp
  have hlt := hb.lt
  refine wSeq (wPar (wCons (wCB (wCons (wVar rfl (wCons (wC (wNil (an_w (most := 7) hb (by decide) (by decide) ha hd (by decide) (by decide) fun p q1 hp hq1 => ?_)))))))))
  have B1 : Bg b s0 (s0.set b q1) := Bg.set0 hq1
  generalize s0.set b q1 = s1 at *
  refine wCons (wCB (wCons (wVar rfl (wCons (wCB (wCons (wVar rfl (wCons (wC (wNil (bl_w (most := 7) (B1.bag hlt) (by decide) (by decide) ha hd (by decide) (by decide) fun bs q2 hbs hq2 => ?_)))))))))))
  have B2 : Bg b s0 (s1.set b q2) := B1.trans hlt (Bg.set0 hq2)
  generalize s1.set b q2 = s2 at *
  have hbl : (dBlks bs).length = bs.length := by unfold dBlks; simp
  refine wNil (ofG_w (xs := dBlks bs) (B2.bag hlt) (.inl rfl) (by rw [hbl]; exact hbs.l0) (by rw [hbl]; have := hbs.l1; omega) (fun x hx => ?_) fun block hblock q3 hq3 => wNil ⟨_, _, rfl, ?_⟩)
  · unfold dBlks at hx
    obtain ⟨r, _, rfl⟩ := List.mem_map.mp hx
    rfl
  have B3 : Bg b s0 (s2.set b q3) := B2.trans hlt (Bg.set0 hq3)
  generalize s2.set b q3 = s3 at *
  obtain ⟨g4, e4⟩ := eight_at (ρ := [some (.scr ns), some (.int (k : Int)), some (.ref b), some (dPile p), some block, o5, o6, o7, o8, o9, o10, o11, o12]) (st := s3) (by show 11 < 13; decide)
  refine wSeq (wSet (Wp.of e4 ?_))
  have B4 : Bg b s0 (s3 ++ g4) := B3.app _
  generalize s3 ++ g4 = s4 at *
  refine wSeq (wSet (wTup (wCons (wC (wCons (of4_w rfl (B4.bag hlt) fun x1 s5 x10 x11 B5' => wCons (of4_w rfl (B5'.bag (B4.bag hlt).lt) fun x2 s6 x20 x21 B6' => wNil ?_)))))))
  have B6 : Bg b s0 s6 := (B4.trans hlt B5').trans hlt B6'
  refine ⟨by show 3 ≤ sizeLine; decide, ?_⟩
  -- some things
  have c7 : oSome (eC (.int 7)) [some (.scr ns), some (.int (k : Int)), some (.ref b), some (dPile p), some block, some (.tup eightD), some (.tup [.str "ann", .int x1, .int x2]), o7, o8, o9, o10, o11, o12] s6 = some (some (7 : Int), s6) := rfl
  have c1 : oSome (eC (.int 1)) [some (.scr ns), some (.int (k : Int)), some (.ref b), some (dPile p), some block, some (.tup eightD), some (.tup [.str "ann", .int x1, .int x2]), o7, o8, o9, o10, o11, o12] s6 = some (some (1 : Int), s6) := rfl
  have hpl : (dRows p).length ≤ 7 := by rw [dRows_len]; exact hp.l1
  have t7 : cutD eightD none (some (7 : Int)) = eightD.take 7 := cut_take eightD 7
  have t1 : cutD (dRows p) none (some (1 : Int)) = (dRows p).take 1 := cut_take (dRows p) 1
  have e7 : eSome [some (.scr ns), some (.int (k : Int)), some (.ref b), some (dPile p), some block, some (.tup eightD), some (.tup [.str "ann", .int x1, .int x2]), o7, o8, o9, o10, o11, o12] s6 = some (.ref (s6.length + 1), s6 ++ [.lst (dRows p)] ++ [.lst [.tup eightD, .tup (eightD.take 7), .tup (dRows p ++ (dRows p).take 1), .ref s6.length, .tup [.str "ann", .int x1, .int x2], .tup [.tup ([.str "ann", .int x1, .int x2] ++ [.tup [.int (-1), .int 2]])], .tup []]]) := by
    have a2 := sl_tup (i := 5) (xs := eightD) (hi := oSome (eC (.int 7))) (lo := oNone) (ρ := [some (.scr ns), some (.int (k : Int)), some (.ref b), some (dPile p), some block, some (.tup eightD), some (.tup [.str "ann", .int x1, .int x2]), o7, o8, o9, o10, o11, o12]) (st := s6) rfl rfl c7
    have a3 := sl_tup (i := 3) (xs := dRows p) (hi := oSome (eC (.int 1))) (lo := oNone) (ρ := [some (.scr ns), some (.int (k : Int)), some (.ref b), some (dPile p), some block, some (.tup eightD), some (.tup [.str "ann", .int x1, .int x2]), o7, o8, o9, o10, o11, o12]) (st := s6) rfl rfl c1
    rw [t7] at a2
    rw [t1] at a3
    have l1 : (s6 ++ [MO.lst (dRows p)]).length = s6.length + 1 := by simp
    rw [← l1]
    refine eLst_at (aCons_at (eVar_at rfl) (aCons_at a2 (aCons_at ((eOp2_at (eVar_at (x := .tup (dRows p)) rfl) a3).trans (add_tups (by rw [List.length_take]; exact Nat.le_trans (show _ ≤ 8 by omega) (by decide)) s6)) (aCons_at ((eCB_at (aCons_at (eVar_at rfl) aNil_at)).trans (IsSeq.lst (xs := dRows p) (.inl rfl))) (aCons_at (eVar_at rfl) (aCons_at (eTup_at (aCons_at ((eOp2_at (eVar_at rfl) (eTup_at (aCons_at (eTup_at (aCons_at ((eOp1_at eC_at).trans rfl) (aCons_at eC_at aNil_at)) (two_lists _ _)) aNil_at) (one_list _))).trans (add_tups (by show 3 + 1 ≤ sizeLine; decide) _)) aNil_at) (one_list _)) (aCons_at (eTup_at aNil_at (by decide)) aNil_at))))))) (by show 7 ≤ sizeLine; decide)
  refine wSeq (wSet (Wp.of e7 ?_))
  generalize hsome : [D.tup eightD, .tup (eightD.take 7), .tup (dRows p ++ (dRows p).take 1), .ref s6.length, .tup [.str "ann", .int x1, .int x2], .tup [.tup ([.str "ann", .int x1, .int x2] ++ [.tup [.int (-1), .int 2]])], .tup []] = some7
  have B7 : Bg b s0 (s6 ++ [MO.lst (dRows p)] ++ [MO.lst some7]) := (B6.app _).app _
  have hlt6 : b < s6.length := Nat.lt_of_lt_of_le hlt B6.len
  have n7 : (s6 ++ [MO.lst (dRows p)] ++ [MO.lst some7])[s6.length + 1]? = some (.lst some7) := by
    have l1 : (s6 ++ [MO.lst (dRows p)]).length = s6.length + 1 := by simp
    rw [← l1]; exact get_app
  have n6 : (s6 ++ [MO.lst (dRows p)] ++ [MO.lst some7])[s6.length]? = some (.lst (dRows p)) := ap get_app
  have hx1 : Bt 1000 x1 := bt1000 x10 (by omega)
  have hx2 : Bt 1000 x2 := bt1000 x20 (by omega)
  have v7 : ∀ y ∈ some7, Val (fun n => n ≠ b) (s6 ++ [MO.lst (dRows p)] ++ [MO.lst some7]) 1000 2000 30 4 y := by
    have vr := (pile_val (X := fun n => n ≠ b) (st := s6 ++ [MO.lst (dRows p)] ++ [MO.lst some7]) hp).2
    have v8 := okDs_val (X := fun n => n ≠ b) (st := s6 ++ [MO.lst (dRows p)] ++ [MO.lst some7]) eight_ok
    have ann : Val (fun n => n ≠ b) (s6 ++ [MO.lst (dRows p)] ++ [MO.lst some7]) 1000 2000 30 0 (.str "ann") := Val.atom (d := .str "ann") ⟨(names7_val "ann" (by decide +kernel)).1, by have := (names7_val "ann" (by decide +kernel)).2; omega⟩
    have e3 : ∀ z ∈ [D.str "ann", .int x1, .int x2], Val (fun n => n ≠ b) (s6 ++ [MO.lst (dRows p)] ++ [MO.lst some7]) 1000 2000 30 0 z := by
      intro z hz
      simp only [List.mem_cons, List.not_mem_nil, or_false] at hz
      rcases hz with rfl | rfl | rfl
      · exact ann
      · exact Val.atom (d := .int x1) hx1
      · exact Val.atom (d := .int x2) hx2
    intro y hy
    rw [← hsome] at hy
    simp only [List.mem_cons, List.not_mem_nil, or_false] at hy
    rcases hy with rfl | rfl | rfl | rfl | rfl | rfl | rfl
    · exact (Val.tup (k := 2) (by show 8 ≤ 30; decide) v8).deep (by decide)
    · exact (Val.tup (k := 2) (by show 7 ≤ 30; decide) fun x hx => v8 x (List.mem_of_mem_take hx)).deep (by decide)
    · refine (Val.tup (k := 2) (by rw [List.length_append, List.length_take]; omega) fun x hx => ?_).deep (by decide)
      rcases List.mem_append.mp hx with h | h
      · exact vr x h
      · exact vr x (List.mem_of_mem_take h)
    · exact (Val.ref (k := 2) (X := fun n => n ≠ b) (show s6.length ≠ b by omega) n6 (by omega) vr).deep (by decide)
    · exact (Val.tup (k := 0) (by show 3 ≤ 30; decide) e3).deep (by decide)
    · refine (Val.tup (k := 2) (by show 1 ≤ 30; decide) fun x hx => ?_).deep (by decide)
      rw [List.mem_singleton] at hx
      subst hx
      refine Val.tup (k := 1) (by show 4 ≤ 30; decide) fun z hz => ?_
      rcases List.mem_append.mp hz with h | h
      · exact (e3 z h).deep (by decide)
      · rw [List.mem_singleton] at h
        subst h
        exact okD_val (by decide +kernel)
    · exact Val.tup (k := 3) (by decide) fun x hx => by simp at hx
  generalize s6 ++ [MO.lst (dRows p)] ++ [MO.lst some7] = s7 at *
  have hlt7 : b < s7.length := Nat.lt_of_lt_of_le hlt B7.len
  -- things of any kind
  refine wSeq (wFor (Wp.bnd (wOp2 (wVar rfl (wLst (wCons (wCB (wCons (wVar rfl (wNil (odd_w (B7.bag hlt) fun odd s8 B8' hodd => wNil ?_)))))))))))
  refine ⟨one_list _, ?_⟩
  have B8 : Bg b s0 s8 := B7.trans hlt B8'
  have n8 : s8[s6.length + 1]? = some (.lst some7) := B8'.keep (by omega) n7
  have h7len : some7.length = 7 := by rw [← hsome]; rfl
  refine Wp.of (add_lists (ap n8) get_app (by rw [h7len]; show 7 + 1 ≤ sizeLine; decide)) ?_
  generalize hy : some7 ++ [odd] = things
  have B9 : Bg b s0 (s8 ++ [MO.lst [odd]] ++ [MO.lst things]) := (B8.app _).app _
  have n9 : (s8 ++ [MO.lst [odd]] ++ [MO.lst things])[(s8 ++ [MO.lst [odd]]).length]? = some (.lst things) := get_app
  have v9 : ∀ y ∈ things, Val (fun n => n ≠ b) (s8 ++ [MO.lst [odd]] ++ [MO.lst things]) 1000 2000 30 4 y := by
    intro y hyy
    rw [← hy] at hyy
    rcases List.mem_append.mp hyy with h | h
    · exact (((v7 y h).bg (b := b) (fun n hn => hn) B8').app _).app _
    · rw [List.mem_singleton] at h
      subst h
      exact ((hodd.up (X' := fun n => n ≠ b) (by decide) (by decide) (by decide) (fun n xs (hn : s7.length ≤ n) e => ⟨show n ≠ b by omega, e⟩) (by decide) : Val _ _ 1000 2000 30 4 _).app _).app _
  generalize s8 ++ [MO.lst [odd]] = s8' at *
  generalize s8' ++ [MO.lst things] = s9 at *
  refine Wp.of (a := (⟨things, some s8'.length⟩ : Src)) (st' := s9) (by
    show (match s9[s8'.length]? with
      | some (.lst xs) => some ((⟨xs, some s8'.length⟩ : Src), s9)
      | _ => none) = _
    rw [n9]) ?_
  refine wForL (fun xs ρ st => st = s9 ∧ (∃ o8, ρ = [some (.scr ns), some (.int (k : Int)), some (.ref b), some (dPile p), some block, some (.tup eightD), some (.tup [.str "ann", .int x1, .int x2]), some (.ref (s6.length + 1)), o8, o9, o10, o11, o12]) ∧ ∀ y ∈ xs, Val (fun n => n ≠ b) s9 1000 2000 30 4 y) ?_ ?_ ?_ _ _ _ ⟨rfl, ⟨_, rfl⟩, v9⟩
  · rintro xs ρ st ⟨rfl, _, _⟩
    exact Src.ok_some n9
  rotate_left
  · rintro x xs ρ st ⟨rfl, ⟨o8, rfl⟩, hv⟩
    refine Wp.ret (Wp.of (tell_at (d := x) rfl (hv x (by simp)) (by decide) (by decide)) ?_)
    exact ⟨rfl, ⟨_, rfl⟩, fun y hy => hv y (by simp [hy])⟩
  rintro ρ st ⟨rfl, ⟨o8, rfl⟩, _⟩
  -- the turns
  have hlt9 : b < st.length := Nat.lt_of_lt_of_le hlt B9.len
  have vp : Val (fun n => n ≠ b) st 1000 2000 30 3 (dPile p) := (pile_val hp).1
  have vb : Val (fun n => n ≠ b) st 1000 2000 30 3 block := blk_val hbs block hblock
  have er : aCons (eC (.int ((6 : Nat) : Int))) aNil [some (.scr ns), some (.int (k : Int)), some (.ref b), some (dPile p), some block, some (.tup eightD), some (.tup [.str "ann", .int x1, .int x2]), some (.ref (s6.length + 1)), o8, o9, o10, o11, o12] st = some ([.int ((6 : Nat) : Int)], st) := rfl
  refine wFor (Wp.of (rng_at er (by decide)) ?_)
  refine wForL (fun xs ρ st => ∃ (t n : Nat) (v w : D) (o9 o10 : Option D), ρ = [some (.scr ns), some (.int (k : Int)), some (.ref b), some v, some w, some (.tup eightD), some (.tup [.str "ann", .int x1, .int x2]), some (.ref (s6.length + 1)), o8, o9, o10, o11, o12] ∧ xs = rgs t n ∧ t + n = 6 ∧ BagAt b st ∧ Val (fun n => n ≠ b) st (1000 + t) (2000 * 3 ^ t) (30 + t) (3 + 4 * t) v ∧ Val (fun n => n ≠ b) st (1000 + t) (2000 * 3 ^ t) (30 + t) (3 + 4 * t) w) ?_ ?_ ?_ _ _ _ ⟨0, 6, dPile p, block, o9, o10, rfl, rfl, rfl, B9.bag hlt, vp, vb⟩
  · intro xs ρ st _
    exact Src.ok_none
  · rintro ρ st ⟨t, n, v, w, o9, o10, rfl, _, _, _, _, _⟩
    exact ⟨_, rfl, rfl⟩
  · rintro x xs ρ st ⟨t, n, v, w, o9, o10, rfl, hx, htn, hb', hv, hw⟩
    cases n with
    | zero => cases hx
    | succ n =>
    injection hx with h1 h2
    subst h1
    subst h2
    have p3 := pow3 (show t ≤ 6 by omega)
    have p4 := pow3 (show t + 1 ≤ 6 by omega)
    have e3 : 3 ^ (t + 1) = 3 * 3 ^ t := by rw [Nat.pow_succ, Nat.mul_comm]
    have hlt' := hb'.lt
    rw [e3] at p4
    refine Wp.ret (turn_w (B := 1000 + t) (S := 2000 * 3 ^ t) (L := 30 + t) (k := 3 + 4 * t) ⟨by omega, by omega, by omega, by omega, by omega, by omega⟩ (fun n hn => hn) hb' hv hw (by omega) fun v' w' s' o10' Bs hv' hw' => ?_)
    refine ⟨t + 1, n, v', w', _, o10', rfl, rfl, by omega, Bs.bag hlt', ?_, ?_⟩
    · exact hv'.up (by omega) (by rw [e3]; omega) (by omega) (fun n xs hn e => ⟨by rcases hn with h | h; exact h; show n ≠ b; omega, e⟩) (by omega)
    · exact hw'.up (by omega) (by rw [e3]; omega) (by omega) (fun n xs hn e => ⟨by rcases hn with h | h; exact h; show n ≠ b; omega, e⟩) (by omega)
theorem l1_true (ns : List Int) (h : ns.length ≤ 63) : ∃ st', F_l1 [.scr ns] [] = some (.bl true, st') := by
  have main : Wp (F_l1 [.scr ns]) [] fun d s => d = .bl true := by
    refine wDefX (env := [some (.scr ns), none, none, none, none, none, none, none, none, none, none, none, none]) rfl ?_
    refine wSeq (bags_w (N := 0) (n := 0) (c := 30) (z := 11) (by decide) (fun k o s hk ho => ?_) (fun ρ s _ _ => wRet (wC ⟨_, rfl, rfl⟩)) [] none _ rfl)
    match o, ho with
    | [o2, o3, o4, o5, o6, o7, o8, o9, o10, o11, o12], _ => exact k1_w hk o2 o3 o4 o5 o6 o7 o8 o9 o10 o11 o12
  obtain ⟨d, s, e, rfl⟩ := main
  exact ⟨s, e⟩
end Dl
end
set_option Elab.async false
set_option linter.all false
set_option maxRecDepth 100000
namespace Dl
open PySem PySem.Spec PyProof.Rows L2
noncomputable def b_is_whole : Sx := (sRet (eAnd (eCB bIsi (aCons (eVar 0) (aCons (eC (.ty "int")) aNil))) (eNot (eCB bIsi (aCons (eVar 0) (aCons (eC (.ty "bool")) aNil))))))
noncomputable def F_is_whole : List D → M D := gcF (defX 1 b_is_whole)
noncomputable def b_is_within : Sx := (sRet (eAnd (eCB (mCall 1 F_is_whole) (aCons (eVar 0) aNil)) (eChain dLe dLe (eVar 1) (eVar 0) (eVar 2))))
noncomputable def F_is_within : List D → M D := gcF (defX 3 b_is_within)
noncomputable def b_is_name : Sx := (sRet (eAnd (eCB bIsi (aCons (eVar 0) (aCons (eC (.ty "str")) aNil))) (eAnd (eChain dLe dLe (eC (.int 1)) (eCB bLen (aCons (eVar 0) aNil)) (eC (.int 8))) (eCB (bOnL gAll) (aCons (eLc (iStrS (eVar 0)) (xName 1) tYesD (eOp2 (dIn false) (eVar 1) (eC (.str "abcdefghijklmnopqrstuvwxyz"))) [1]) aNil)))))
noncomputable def F_is_name : List D → M D := gcF (defX 2 b_is_name)
noncomputable def b_lowest : Sx := (sSeq (sPar 2 3 (aCons (eCB bAbs (aCons (eVar 0) aNil)) (aCons (eVar 1) aNil)))
  (sSeq (sWhile (fuelAt 3) (tV (eOp2 dGt (eVar 3) (eC (.int 0)))) (sPar 2 3 (aCons (eVar 3) (aCons (eOp2 dMod (eVar 2) (eVar 3)) aNil))))
  (sRet (eTup (aCons (eOp2 dDiv (eVar 0) (eVar 2)) (aCons (eOp2 dDiv (eVar 1) (eVar 2)) aNil))))))
noncomputable def F_lowest : List D → M D := gcF (defX 4 b_lowest)
noncomputable def b_is_fraction : Sx := (sSeq (sIf (tOrD (tNotD (tV (eCB bIsi (aCons (eVar 0) (aCons (eC (.ty "tuple")) aNil))))) (tOrD (tV (eOp2 dNe (eCB bLen (aCons (eVar 0) aNil)) (eC (.int 2)))) (tNotD (tV (eCB (bOnL gAll) (aCons (eLc (iSeq (eVar 0)) (xName 1) tYesD (eCB (mCall 1 F_is_whole) (aCons (eVar 1) aNil)) [1]) aNil)))))) (sRet (eC (.bl false))) sNext)
  (sRet (eAnd (eOp2 dGe (eOp2 dIx (eVar 0) (eC (.int 1))) (eC (.int 1))) (eOp2 dEq (eCB (mCall 2 F_lowest) (aCons (eOp2 dIx (eVar 0) (eC (.int 0))) (aCons (eOp2 dIx (eVar 0) (eC (.int 1))) aNil))) (eVar 0)))))
noncomputable def F_is_fraction : List D → M D := gcF (defX 2 b_is_fraction)
noncomputable def b_is_block : Sx := (sSeq (sIf (tOrD (tNotD (tV (eCB bIsi (aCons (eVar 0) (aCons (eC (.ty "tuple")) aNil))))) (tOrD (tV (eOp2 dNe (eCB bLen (aCons (eVar 0) aNil)) (eC (.int 3)))) (tNotD (tV (eCB (mCall 1 F_is_name) (aCons (eOp2 dIx (eVar 0) (eC (.int 0))) aNil)))))) (sRet (eC (.bl false))) sNext)
  (sRet (eAnd (eCB (mCall 3 F_is_within) (aCons (eOp2 dIx (eVar 0) (eC (.int 1))) (aCons (eC (.int 1)) (aCons (eC (.int 1000)) aNil)))) (eCB (mCall 3 F_is_within) (aCons (eOp2 dIx (eVar 0) (eC (.int 2))) (aCons (eC (.int 1)) (aCons (eC (.int 1000)) aNil)))))))
noncomputable def F_is_block : List D → M D := gcF (defX 1 b_is_block)
noncomputable def b_is_pile : Sx := (sSeq (sIf (tOrD (tNotD (tV (eCB bIsi (aCons (eVar 0) (aCons (eC (.ty "tuple")) aNil))))) (tV (eOp2 dGt (eCB bLen (aCons (eVar 0) aNil)) (eC (.int 7))))) (sRet (eC (.bl false))) sNext)
  (sSeq (sFor (iSeq (eVar 0)) (xName 1) (sIf (tOrD (tNotD (tV (eCB bIsi (aCons (eVar 1) (aCons (eC (.ty "tuple")) aNil))))) (tOrD (tV (eOp2 dNe (eCB bLen (aCons (eVar 1) aNil)) (eC (.int 4)))) (tOrD (tNotD (tV (eCB (mCall 1 F_is_block) (aCons (eSl (eVar 1) oNone (oSome (eC (.int 3)))) aNil)))) (tNotD (tV (eCB (mCall 1 F_is_fraction) (aCons (eOp2 dIx (eVar 1) (eC (.int 3))) aNil))))))) (sRet (eC (.bl false))) sNext))
  (sRet (eOp2 dEq (eCB bLen (aCons (eDc (iSeq (eVar 0)) (xName 1) tYesD (eOp2 dIx (eVar 1) (eC (.int 0))) (eC (.bl true)) [1]) aNil)) (eCB bLen (aCons (eVar 0) aNil))))))
noncomputable def F_is_pile : List D → M D := gcF (defX 2 b_is_pile)
noncomputable def b__law_bag : Sx := (sSeq (sAsg (eC (.int 0)) (xName 2))
  (sSeq (sIf (tV (eOp2 dLt (eVar 1) (eCB bLen (aCons (eVar 0) aNil)))) (sAsg (eCB bAbs (aCons (eOp2 dIx (eVar 0) (eVar 1)) aNil)) (xName 2)) sNext)
  (sSeq (sIf (tV (eOp2 dLt (eVar 2) (eOp2 dPow (eC (.int 10)) (eC (.int 18))))) (sRet (eLst (aCons (eC (.int 0)) (aCons (eOp2 dAdd (eC (.int 1)) (eOp2 dMod (eOp2 dAdd (eOp2 dMul (eVar 2) (eC (.int 7919))) (eOp2 dMul (eC (.int 104729)) (eVar 1))) (eC (.int 2147483646)))) aNil)))) sNext)
  (sRet (eLst (aCons (eVar 2) (aCons (eOp2 dAdd (eC (.int 1)) (eOp2 dMod (eOp2 dAdd (eVar 2) (eVar 1)) (eC (.int 2147483646)))) aNil)))))))
noncomputable def F__law_bag : List D → M D := gcL (defX 3 b__law_bag)
noncomputable def b__law_take : Sx := (sSeq (sIf (tV (eOp2 dGt (eOp2 dIx (eVar 0) (eC (.int 0))) (eC (.int 0)))) (sSeq (sAsg (eOp2 dMod (eOp2 dIx (eVar 0) (eC (.int 0))) (eVar 1)) (xName 2))
  (sSeq (sAsg (eOp2 dDiv (eOp2 dIx (eVar 0) (eC (.int 0))) (eVar 1)) (xSub (eVar 0) (eC (.int 0))))
  (sRet (eVar 2)))) sNext)
  (sSeq (sAsg (eOp2 dMod (eOp2 dMul (eOp2 dIx (eVar 0) (eC (.int 1))) (eC (.int 48271))) (eC (.int 2147483647))) (xSub (eVar 0) (eC (.int 1))))
  (sRet (eOp2 dMod (eOp2 dDiv (eOp2 dMod (eOp2 dMul (eOp2 dIx (eVar 0) (eC (.int 1))) (eOp2 dIx (eVar 0) (eC (.int 1)))) (eC (.int 2147483629))) (eC (.int 64))) (eVar 1)))))
noncomputable def F__law_take : List D → M D := gcF (defX 3 b__law_take)
noncomputable def b__law_of : Sx := (sRet (eOp2 dIx (eVar 1) (eCB (mCall 2 F__law_take) (aCons (eVar 0) (aCons (eCB bLen (aCons (eVar 1) aNil)) aNil)))))
noncomputable def F__law_of : List D → M D := gcF (defX 2 b__law_of)
noncomputable def b__law_whole : Sx := (sRet (eAnd (eCB bIsi (aCons (eVar 0) (aCons (eC (.ty "int")) aNil))) (eNot (eCB bIsi (aCons (eVar 0) (aCons (eC (.ty "bool")) aNil))))))
noncomputable def F__law_whole : List D → M D := gcF (defX 1 b__law_whole)
noncomputable def b__law_within : Sx := (sRet (eAnd (eCB bIsi (aCons (eVar 0) (aCons (eC (.ty "int")) aNil))) (eAnd (eNot (eCB bIsi (aCons (eVar 0) (aCons (eC (.ty "bool")) aNil)))) (eChain dLe dLe (eVar 1) (eVar 0) (eVar 2)))))
noncomputable def F__law_within : List D → M D := gcF (defX 3 b__law_within)
noncomputable def b__law_is_name : Sx := (sSeq (sIf (tOrD (tNotD (tV (eCB bIsi (aCons (eVar 0) (aCons (eC (.ty "str")) aNil))))) (tNotD (tV (eChain dLe dLe (eC (.int 1)) (eCB bLen (aCons (eVar 0) aNil)) (eC (.int 8)))))) (sRet (eC (.bl false))) sNext)
  (sRet (eOp2 dEq (eLc (iStrS (eVar 0)) (xName 1) (tV (eOp2 (dIn true) (eVar 1) (eC (.str "abcdefghijklmnopqrstuvwxyz")))) (eVar 1) [1]) (eLst aNil))))
noncomputable def F__law_is_name : List D → M D := gcF (defX 2 b__law_is_name)
noncomputable def b__law_odd : Sx := (sSeq (sAsg (eLst (aCons (eC .non) (aCons (eC (.bl true)) (aCons (eC (.bl false)) (aCons (eC (.int 0)) (aCons (eC (.int 1)) (aCons (eOp1 dNeg (eC (.int 1))) (aCons (eC (.int 5)) (aCons (eOp2 dPow (eC (.int 10)) (eC (.int 30))) (aCons (eC (.str "")) (aCons (eC (.str "ann")) (aCons (eTup aNil) (aCons (eLst aNil) (aCons (eTup (aCons (eC (.int 1)) (aCons (eC (.int 2)) aNil))) (aCons (eTup (aCons (eOp1 dNeg (eC (.int 1))) (aCons (eC (.int 2)) aNil))) (aCons (eTup (aCons (eC (.int 2)) (aCons (eC (.int 4)) aNil))) (aCons (eTup (aCons (eC (.int 0)) (aCons (eC (.int 2)) aNil))) (aCons (eTup (aCons (eC (.int 1)) (aCons (eOp1 dNeg (eC (.int 2))) aNil))) aNil)))))))))))))))))) (xName 1))
  (sSeq (sAsg (eOp2 dAdd (eVar 1) (eLst (aCons (eTup (aCons (eC .non) aNil)) (aCons (eTup (aCons (eC (.str "ann")) (aCons (eC (.int 1)) (aCons (eC (.int 1)) aNil)))) (aCons (eTup (aCons (eC (.str "ann")) (aCons (eC (.int 0)) (aCons (eC (.int 1)) aNil)))) (aCons (eTup (aCons (eTup (aCons (eC (.str "ann")) (aCons (eC (.int 1)) (aCons (eC (.int 1)) (aCons (eTup (aCons (eC (.int 0)) (aCons (eC (.int 1)) aNil))) aNil))))) aNil)) (aCons (eTup (aCons (eC (.str "ann")) (aCons (eC (.int 1)) (aCons (eC (.int 1)) (aCons (eTup (aCons (eC (.int 0)) (aCons (eC (.int 1)) aNil))) aNil))))) aNil))))))) (xName 1))
  (sRet (eOp2 dIx (eVar 1) (eCB (mCall 2 F__law_take) (aCons (eVar 0) (aCons (eCB bLen (aCons (eVar 1) aNil)) aNil)))))))
noncomputable def F__law_odd : List D → M D := defX 2 b__law_odd
noncomputable def b__law_spoilt (F : List D → M D) : Sx := (sSeq (sAsg (eCB (mCall 2 F__law_take) (aCons (eVar 0) (aCons (eC (.int 9)) aNil))) (xName 2))
  (sSeq (sIf (tAndD (tV (eCB bIsi (aCons (eVar 1) (aCons (eTup (aCons (eC (.ty "tuple")) (aCons (eC (.ty "list")) aNil))) aNil)))) (tAndD (tV (eOp2 dGt (eCB bLen (aCons (eVar 1) aNil)) (eC (.int 0)))) (tV (eOp2 dGt (eVar 2) (eC (.int 0)))))) (sSeq (sAsg (eCB bList (aCons (eVar 1) aNil)) (xName 3))
  (sSeq (sAsg (eCB (mCall 2 F__law_take) (aCons (eVar 0) (aCons (eCB bLen (aCons (eVar 3) aNil)) aNil))) (xName 4))
  (sSeq (sIf (tV (eOp2 dEq (eVar 2) (eC (.int 1)))) (sAsg (eOp2 dAddX (eSl (eVar 3) oNone (oSome (eVar 4))) (eSl (eVar 3) (oSome (eOp2 dAddX (eVar 4) (eC (.int 1)))) oNone)) (xName 3)) (sIf (tV (eOp2 dEq (eVar 2) (eC (.int 2)))) (sAsg (eOp2 dAddX (eSl (eVar 3) oNone (oSome (eOp2 dAddX (eVar 4) (eC (.int 1))))) (eSl (eVar 3) (oSome (eVar 4)) oNone)) (xName 3)) (sIf (tV (eOp2 dEq (eVar 2) (eC (.int 3)))) (sSeq (sAsg (eCB (mCall 2 F__law_take) (aCons (eVar 0) (aCons (eCB bLen (aCons (eVar 3) aNil)) aNil))) (xName 5))
  (sAsg (eTup (aCons (eOp2 dIx (eVar 3) (eVar 5)) (aCons (eOp2 dIx (eVar 3) (eVar 4)) aNil))) (xTup 2 (xCons (xSub (eVar 3) (eVar 4)) (xCons (xSub (eVar 3) (eVar 5)) xNil))))) (sIf (tV (eOp2 dEq (eVar 2) (eC (.int 4)))) (sRet (eIf (tV (eCB bIsi (aCons (eVar 1) (aCons (eC (.ty "tuple")) aNil)))) (eVar 3) (eCB bTuple (aCons (eVar 3) aNil)))) (sAsg (eCB (mCall 2 F) (aCons (eVar 0) (aCons (eOp2 dIx (eVar 3) (eVar 4)) aNil))) (xSub (eVar 3) (eVar 4)))))))
  (sRet (eIf (tV (eCB bIsi (aCons (eVar 1) (aCons (eC (.ty "tuple")) aNil)))) (eCB bTuple (aCons (eVar 3) aNil)) (eVar 3)))))) sNext)
  (sSeq (sIf (tAndD (tV (eCB bIsi (aCons (eVar 1) (aCons (eC (.ty "str")) aNil)))) (tV (eOp2 dGt (eVar 2) (eC (.int 1))))) (sRet (eOp2 dIx (eLst (aCons (eOp2 dAddX (eVar 1) (eC (.str "a"))) (aCons (eSl (eVar 1) oNone (oSome (eOp1 dNegX (eC (.int 1))))) (aCons (eOp2 dAddX (eVar 1) (eC (.str " "))) (aCons (eOp1 dUp (eVar 1)) (aCons (eOp2 dAddX (eVar 1) (eVar 1)) (aCons (eOp2 dAddX (eC (.str "z")) (eVar 1)) (aCons (eC (.str "")) aNil)))))))) (eOp2 dSubX (eVar 2) (eC (.int 2))))) sNext)
  (sSeq (sIf (tAndD (tV (eCB bIsi (aCons (eVar 1) (aCons (eC (.ty "int")) aNil)))) (tV (eOp2 dGt (eVar 2) (eC (.int 1))))) (sRet (eOp2 dIx (eLst (aCons (eOp2 dAddX (eVar 1) (eC (.int 1))) (aCons (eOp2 dSubX (eVar 1) (eC (.int 1))) (aCons (eOp1 dNegX (eVar 1)) (aCons (eOp2 dAddX (eVar 1) (eC (.int 1000))) (aCons (eCB bStrX (aCons (eVar 1) aNil)) (aCons (eOp2 dAddX (eVar 1) (eC (.int 50))) (aCons (eTup (aCons (eVar 1) aNil)) aNil)))))))) (eOp2 dSubX (eVar 2) (eC (.int 2))))) sNext)
  (sRet (eCB (mCall 1 F__law_odd) (aCons (eVar 0) aNil)))))))
noncomputable def F__law_spoilt : Nat → List D → M D
  | 0 => fun _ => M.bad
  | k + 1 => defX 6 (b__law_spoilt (F__law_spoilt k))
noncomputable def b__law_lowest : Sx := (sSeq (sPar 2 3 (aCons (eCB bAbs (aCons (eVar 0) aNil)) (aCons (eVar 1) aNil)))
  (sSeq (sWhile (fuelAt 3) (tV (eOp2 dGt (eVar 3) (eC (.int 0)))) (sPar 2 3 (aCons (eVar 3) (aCons (eOp2 dMod (eVar 2) (eVar 3)) aNil))))
  (sRet (eTup (aCons (eOp2 dDiv (eVar 0) (eVar 2)) (aCons (eOp2 dDiv (eVar 1) (eVar 2)) aNil))))))
noncomputable def F__law_lowest : List D → M D := gcF (defX 4 b__law_lowest)
noncomputable def b__law_plus : Sx := (sRet (eCB (mCall 2 F__law_lowest) (aCons (eOp2 dAdd (eOp2 dMul (eOp2 dIx (eVar 0) (eC (.int 0))) (eOp2 dIx (eVar 1) (eC (.int 1)))) (eOp2 dMul (eOp2 dIx (eVar 1) (eC (.int 0))) (eOp2 dIx (eVar 0) (eC (.int 1))))) (aCons (eOp2 dMul (eOp2 dIx (eVar 0) (eC (.int 1))) (eOp2 dIx (eVar 1) (eC (.int 1)))) aNil))))
noncomputable def F__law_plus : List D → M D := gcF (defX 2 b__law_plus)
noncomputable def b__law_part : Sx := (sSeq (sAsg (eOp2 dAdd (eC (.int 1)) (eCB (mCall 2 F__law_take) (aCons (eVar 0) (aCons (eOp2 dIx (eLst (aCons (eC (.int 1)) (aCons (eC (.int 4)) (aCons (eC (.int 30)) aNil)))) (eCB (mCall 2 F__law_take) (aCons (eVar 0) (aCons (eC (.int 3)) aNil)))) aNil)))) (xName 1))
  (sSeq (sAsg (eOp2 dIx (eLst (aCons (eC (.int 3)) (aCons (eC (.int 40)) (aCons (eC (.int 2000)) aNil)))) (eCB (mCall 2 F__law_take) (aCons (eVar 0) (aCons (eC (.int 3)) aNil)))) (xName 2))
  (sRet (eCB (mCall 2 F__law_lowest) (aCons (eOp2 dSub (eCB (mCall 2 F__law_take) (aCons (eVar 0) (aCons (eOp2 dAdd (eOp2 dMul (eC (.int 2)) (eVar 2)) (eC (.int 1))) aNil))) (eVar 2)) (aCons (eVar 1) aNil))))))
noncomputable def F__law_part : List D → M D := gcF (defX 3 b__law_part)
noncomputable def b__law_blocks : Sx := (sSeq (sAsg (eLst aNil) (xName 2))
  (sSeq (sFor (iSeq (eSl (eLst (aCons (eC (.str "ann")) (aCons (eC (.str "bo")) (aCons (eC (.str "cy")) (aCons (eC (.str "dee")) (aCons (eC (.str "eli")) (aCons (eC (.str "fay")) (aCons (eC (.str "gus")) aNil)))))))) oNone (oSome (eOp2 dAdd (eC (.int 1)) (eCB (mCall 2 F__law_take) (aCons (eVar 0) (aCons (eVar 1) aNil))))))) (xName 3) (sSeq (sAsg (eOp2 dIx (eLst (aCons (eC (.int 4)) (aCons (eC (.int 30)) (aCons (eC (.int 100)) aNil)))) (eCB (mCall 2 F__law_take) (aCons (eVar 0) (aCons (eC (.int 3)) aNil)))) (xName 4))
  (sDrop (eBM dApp (eVar 2) (aCons (eTup (aCons (eVar 3) (aCons (eOp2 dAdd (eC (.int 1)) (eCB (mCall 2 F__law_take) (aCons (eVar 0) (aCons (eVar 4) aNil)))) (aCons (eOp2 dAdd (eC (.int 1)) (eCB (mCall 2 F__law_take) (aCons (eVar 0) (aCons (eOp2 dIx (eLst (aCons (eC (.int 4)) (aCons (eC (.int 12)) (aCons (eC (.int 30)) aNil)))) (eCB (mCall 2 F__law_take) (aCons (eVar 0) (aCons (eC (.int 3)) aNil)))) aNil)))) aNil)))) aNil)))))
  (sRet (eCB bTuple (aCons (eVar 2) aNil)))))
noncomputable def F__law_blocks : List D → M D := gcF (defX 5 b__law_blocks)
noncomputable def b__law_mixed : Sx := (sSeq (sAsg (eLst aNil) (xName 2))
  (sSeq (sFor (iSeq (eVar 1)) (xName 3) (sDrop (eBM dIns (eVar 2) (aCons (eCB (mCall 2 F__law_take) (aCons (eVar 0) (aCons (eOp2 dAdd (eCB bLen (aCons (eVar 2) aNil)) (eC (.int 1))) aNil))) (aCons (eVar 3) aNil)))))
  (sRet (eVar 2))))
noncomputable def F__law_mixed : List D → M D := gcL (defX 4 b__law_mixed)
noncomputable def b__law_middle : Sx := (sSeq (sAsg (eTup (aCons (eC (.int 0)) (aCons (eC (.int 1)) aNil))) (xTup 2 (xCons (xName 1) (xCons (xName 2) xNil))))
  (sSeq (sFor (iSeq (eVar 0)) (xTup 4 (xCons (xName 3) (xCons (xName 4) (xCons (xName 5) (xCons (xName 6) xNil))))) (sSeq (sAsg (eOp2 dMul (eVar 5) (eOp2 dAdd (eOp2 dMul (eC (.int 2)) (eOp2 dIx (eVar 6) (eC (.int 0)))) (eOp2 dMul (eVar 4) (eOp2 dIx (eVar 6) (eC (.int 1)))))) (xName 7))
  (sAsg (eCB (mCall 2 F__law_lowest) (aCons (eOp2 dAdd (eOp2 dMul (eVar 1) (eOp2 dIx (eVar 6) (eC (.int 1)))) (eOp2 dMul (eVar 7) (eVar 2))) (aCons (eOp2 dMul (eVar 2) (eOp2 dIx (eVar 6) (eC (.int 1)))) aNil))) (xTup 2 (xCons (xName 1) (xCons (xName 2) xNil))))))
  (sRet (eCB (mCall 2 F__law_lowest) (aCons (eVar 1) (aCons (eOp2 dMul (eOp2 dMul (eVar 2) (eC (.int 2))) (eCB (bOnL gSum) (aCons (eLc (iSeq (eVar 0)) (xName 8) tYesD (eOp2 dIx (eVar 8) (eC (.int 2))) [8]) aNil))) aNil))))))
noncomputable def F__law_middle : List D → M D := gcF (defX 9 b__law_middle)
noncomputable def b__law_right : Sx := (sRet (eCB (mCall 2 F__law_lowest) (aCons (eOp2 dAdd (eOp2 dIx (eOp2 dIx (eVar 0) (eC (.int 3))) (eC (.int 0))) (eOp2 dMul (eOp2 dIx (eVar 0) (eC (.int 1))) (eOp2 dIx (eOp2 dIx (eVar 0) (eC (.int 3))) (eC (.int 1))))) (aCons (eOp2 dIx (eOp2 dIx (eVar 0) (eC (.int 3))) (eC (.int 1))) aNil))))
noncomputable def F__law_right : List D → M D := gcF (defX 1 b__law_right)
noncomputable def b__law_between : Sx := (sSeq (sAsg (eCB (mCall 2 F__law_take) (aCons (eVar 0) (aCons (eC (.int 5)) aNil))) (xName 3))
  (sSeq (sPar 4 5 (aCons (eOp2 dMul (eOp2 dIx (eVar 1) (eC (.int 0))) (eOp2 dIx (eVar 2) (eC (.int 1)))) (aCons (eOp2 dMul (eOp2 dIx (eVar 2) (eC (.int 0))) (eOp2 dIx (eVar 1) (eC (.int 1)))) aNil)))
  (sRet (eCB (mCall 2 F__law_lowest) (aCons (eOp2 dAdd (eOp2 dMul (eVar 4) (eOp2 dSub (eC (.int 4)) (eVar 3))) (eOp2 dMul (eVar 5) (eVar 3))) (aCons (eOp2 dMul (eOp2 dMul (eC (.int 4)) (eOp2 dIx (eVar 1) (eC (.int 1)))) (eOp2 dIx (eVar 2) (eC (.int 1)))) aNil))))))
noncomputable def F__law_between : List D → M D := gcF (defX 6 b__law_between)
noncomputable def b__law_pile : Sx := (sSeq (sAsg (eLst aNil) (xName 2))
  (sSeq (sFor (iSeq (eCB (mCall 2 F__law_mixed) (aCons (eVar 0) (aCons (eCB (mCall 2 F__law_blocks) (aCons (eVar 0) (aCons (eVar 1) aNil))) aNil)))) (xTup 3 (xCons (xName 3) (xCons (xName 4) (xCons (xName 5) xNil)))) (sSeq (sAsg (eCB (mCall 1 F__law_part) (aCons (eVar 0) aNil)) (xName 6))
  (sSeq (sIf (tV (eOp2 dNe (eVar 2) (eLst aNil))) (sSeq (sAsg (eCB (mCall 1 F__law_middle) (aCons (eVar 2) aNil)) (xName 7))
  (sAsg (eCB (mCall 3 F__law_between) (aCons (eVar 0) (aCons (eTup (aCons (eOp2 dSub (eOp2 dIx (eVar 7) (eC (.int 0))) (eOp2 dMul (eVar 4) (eOp2 dIx (eVar 7) (eC (.int 1))))) (aCons (eOp2 dIx (eVar 7) (eC (.int 1))) aNil))) (aCons (eVar 7) aNil)))) (xName 6))) sNext)
  (sAsg (eOp2 dAdd (eLst (aCons (eTup (aCons (eVar 3) (aCons (eVar 4) (aCons (eVar 5) (aCons (eVar 6) aNil))))) aNil)) (eVar 2)) (xName 2)))))
  (sSeq (sPar 8 9 (aCons (eCB (mCall 1 F__law_middle) (aCons (eVar 2) aNil)) (aCons (eCB (mCall 1 F__law_right) (aCons (eOp2 dIx (eVar 2) (eC (.int 0))) aNil)) aNil)))
  (sSeq (sAsg (eCB (mCall 3 F__law_between) (aCons (eVar 0) (aCons (eTup (aCons (eOp1 dNeg (eOp2 dIx (eVar 9) (eC (.int 0)))) (aCons (eOp2 dIx (eVar 9) (eC (.int 1))) aNil))) (aCons (eTup (aCons (eOp1 dNeg (eOp2 dIx (eVar 8) (eC (.int 0)))) (aCons (eOp2 dIx (eVar 8) (eC (.int 1))) aNil))) aNil)))) (xName 10))
  (sRet (eCB bTuple (aCons (eLc (iSeq (eVar 2)) (xName 11) tYesD (eOp2 dAdd (eSl (eVar 11) oNone (oSome (eC (.int 3)))) (eTup (aCons (eCB (mCall 2 F__law_plus) (aCons (eOp2 dIx (eVar 11) (eC (.int 3))) (aCons (eVar 10) aNil))) aNil))) [11]) aNil)))))))
noncomputable def F__law_pile : List D → M D := gcF (defX 12 b__law_pile)
noncomputable def b__law_any : Sx := (sSeq (sAsg (eCB (mCall 2 F__law_pile) (aCons (eVar 0) (aCons (eVar 1) aNil))) (xName 2))
  (sSeq (sAsg (eCB (mCall 2 F__law_take) (aCons (eVar 0) (aCons (eC (.int 3)) aNil))) (xName 3))
  (sSeq (sIf (tV (eOp2 dEq (eVar 3) (eC (.int 0)))) (sRet (eVar 2)) sNext)
  (sSeq (sAsg (eCB (mCall 2 F__law_take) (aCons (eVar 0) (aCons (eCB bLen (aCons (eVar 2) aNil)) aNil))) (xName 4))
  (sSeq (sAsg (eOp2 dAdd (eSl (eOp2 dIx (eVar 2) (eVar 4)) oNone (oSome (eC (.int 3)))) (eTup (aCons (eCB (mCall 2 F__law_plus) (aCons (eOp2 dIx (eOp2 dIx (eVar 2) (eVar 4)) (eC (.int 3))) (aCons (eCB (mCall 1 F__law_part) (aCons (eVar 0) aNil)) aNil))) aNil))) (xName 5))
  (sSeq (sIf (tV (eOp2 dEq (eVar 3) (eC (.int 1)))) (sRet (eOp2 dAdd (eOp2 dAdd (eSl (eVar 2) oNone (oSome (eVar 4))) (eTup (aCons (eVar 5) aNil))) (eSl (eVar 2) (oSome (eOp2 dAdd (eVar 4) (eC (.int 1)))) oNone))) sNext)
  (sRet (eCB bTuple (aCons (eLc (iSeq (eVar 2)) (xName 6) tYesD (eOp2 dAdd (eSl (eVar 6) oNone (oSome (eC (.int 3)))) (eTup (aCons (eCB (mCall 1 F__law_part) (aCons (eVar 0) aNil)) aNil))) [6]) aNil)))))))))
noncomputable def F__law_any : List D → M D := gcF (defX 7 b__law_any)
noncomputable def b__law_is_fraction : Sx := (sSeq (sIf (tOrD (tNotD (tV (eCB bIsi (aCons (eVar 0) (aCons (eC (.ty "tuple")) aNil))))) (tV (eOp2 dNe (eCB bLen (aCons (eVar 0) aNil)) (eC (.int 2))))) (sRet (eC (.bl false))) sNext)
  (sSeq (sIf (tOrD (tNotD (tV (eCB (mCall 1 F__law_whole) (aCons (eOp2 dIx (eVar 0) (eC (.int 0))) aNil)))) (tNotD (tV (eCB (mCall 1 F__law_whole) (aCons (eOp2 dIx (eVar 0) (eC (.int 1))) aNil))))) (sRet (eC (.bl false))) sNext)
  (sRet (eAnd (eOp2 dGt (eOp2 dIx (eVar 0) (eC (.int 1))) (eC (.int 0))) (eOp2 dEq (eCB (mCall 2 F__law_lowest) (aCons (eOp2 dIx (eVar 0) (eC (.int 0))) (aCons (eOp2 dIx (eVar 0) (eC (.int 1))) aNil))) (eVar 0))))))
noncomputable def F__law_is_fraction : List D → M D := gcF (defX 1 b__law_is_fraction)
noncomputable def b__law_is_block : Sx := (sSeq (sIf (tOrD (tNotD (tV (eCB bIsi (aCons (eVar 0) (aCons (eC (.ty "tuple")) aNil))))) (tOrD (tV (eOp2 dNe (eCB bLen (aCons (eVar 0) aNil)) (eC (.int 3)))) (tNotD (tV (eCB (mCall 1 F__law_is_name) (aCons (eOp2 dIx (eVar 0) (eC (.int 0))) aNil)))))) (sRet (eC (.bl false))) sNext)
  (sRet (eAnd (eCB (mCall 3 F__law_within) (aCons (eOp2 dIx (eVar 0) (eC (.int 1))) (aCons (eC (.int 1)) (aCons (eC (.int 1000)) aNil)))) (eCB (mCall 3 F__law_within) (aCons (eOp2 dIx (eVar 0) (eC (.int 2))) (aCons (eC (.int 1)) (aCons (eC (.int 1000)) aNil)))))))
noncomputable def F__law_is_block : List D → M D := gcF (defX 1 b__law_is_block)
noncomputable def b__law_is_pile : Sx := (sSeq (sIf (tOrD (tNotD (tV (eCB bIsi (aCons (eVar 0) (aCons (eC (.ty "tuple")) aNil))))) (tV (eOp2 dGt (eCB bLen (aCons (eVar 0) aNil)) (eC (.int 7))))) (sRet (eC (.bl false))) sNext)
  (sSeq (sAsg (eLst aNil) (xName 1))
  (sSeq (sFor (iSeq (eVar 0)) (xName 2) (sSeq (sIf (tOrD (tNotD (tV (eCB bIsi (aCons (eVar 2) (aCons (eC (.ty "tuple")) aNil))))) (tOrD (tV (eOp2 dNe (eCB bLen (aCons (eVar 2) aNil)) (eC (.int 4)))) (tNotD (tV (eCB (mCall 1 F__law_is_block) (aCons (eSl (eVar 2) oNone (oSome (eC (.int 3)))) aNil)))))) (sRet (eC (.bl false))) sNext)
  (sSeq (sIf (tOrD (tNotD (tV (eCB (mCall 1 F__law_is_fraction) (aCons (eOp2 dIx (eVar 2) (eC (.int 3))) aNil)))) (tV (eOp2 (dIn false) (eOp2 dIx (eVar 2) (eC (.int 0))) (eVar 1)))) (sRet (eC (.bl false))) sNext)
  (sDrop (eBM dApp (eVar 1) (aCons (eOp2 dIx (eVar 2) (eC (.int 0))) aNil))))))
  (sRet (eC (.bl true))))))
noncomputable def F__law_is_pile : List D → M D := gcF (defX 3 b__law_is_pile)
noncomputable def b_law01 : Sx := (sSeq (sFor (iR1 (aCons (eOp2 dAdd (eC (.int 1)) (eCB bMin2 (aCons (eCB bLen (aCons (eVar 0) aNil)) (aCons (eC (.int 30)) aNil)))) aNil)) (xName 1) (sSeq (sAsg (eCB (mCall 2 F__law_bag) (aCons (eVar 0) (aCons (eVar 1) aNil))) (xName 2))
  (sSeq (sPar 3 4 (aCons (eCB (mCall 2 F__law_any) (aCons (eVar 2) (aCons (eC (.int 7)) aNil))) (aCons (eCB (mCall 2 F__law_of) (aCons (eVar 2) (aCons (eCB (mCall 2 F__law_blocks) (aCons (eVar 2) (aCons (eC (.int 7)) aNil))) aNil))) aNil)))
  (sSeq (sAsg (eCB bTuple (aCons (eLc (iStrS (eC (.str "abcdefgh"))) (xName 11) tYesD (eTup (aCons (eOp2 dAdd (eC (.str "b")) (eVar 11)) (aCons (eC (.int 1)) (aCons (eC (.int 1)) (aCons (eTup (aCons (eC (.int 0)) (aCons (eC (.int 1)) aNil))) aNil))))) [11]) aNil)) (xName 5))
  (sSeq (sAsg (eTup (aCons (eC (.str "ann")) (aCons (eCB (mCall 2 F__law_of) (aCons (eVar 2) (aCons (eLst (aCons (eC (.int 0)) (aCons (eC (.int 1)) (aCons (eC (.int 1000)) (aCons (eC (.int 1001)) aNil))))) aNil))) (aCons (eCB (mCall 2 F__law_of) (aCons (eVar 2) (aCons (eLst (aCons (eC (.int 0)) (aCons (eC (.int 1)) (aCons (eC (.int 1000)) (aCons (eC (.int 1001)) aNil))))) aNil))) aNil)))) (xName 6))
  (sSeq (sAsg (eLst (aCons (eVar 5) (aCons (eSl (eVar 5) oNone (oSome (eC (.int 7)))) (aCons (eOp2 dAdd (eVar 3) (eSl (eVar 3) oNone (oSome (eC (.int 1))))) (aCons (eCB bList (aCons (eVar 3) aNil)) (aCons (eVar 6) (aCons (eTup (aCons (eOp2 dAdd (eVar 6) (eTup (aCons (eTup (aCons (eOp1 dNeg (eC (.int 1))) (aCons (eC (.int 2)) aNil))) aNil))) aNil)) (aCons (eTup aNil) aNil)))))))) (xName 7))
  (sSeq (sFor (iSeq (eOp2 dAdd (eVar 7) (eLst (aCons (eCB (mCall 1 F__law_odd) (aCons (eVar 2) aNil)) aNil)))) (xName 8) (sIf (tOrD (tV (eOp2 dNe (eCB (mCall 1 F_is_pile) (aCons (eVar 8) aNil)) (eCB (mCall 1 F__law_is_pile) (aCons (eVar 8) aNil)))) (tV (eOp2 dNe (eCB (mCall 1 F_is_block) (aCons (eVar 8) aNil)) (eCB (mCall 1 F__law_is_block) (aCons (eVar 8) aNil))))) (sRet (eC (.bl false))) sNext))
  (sFor (iR1 (aCons (eC (.int 6)) aNil)) (xName 9) (sSeq (sAsg (eLst (aCons (eCB (mCall 1 F_is_pile) (aCons (eVar 3) aNil)) (aCons (eCB (mCall 1 F_is_block) (aCons (eVar 4) aNil)) aNil))) (xName 10))
  (sSeq (sIf (tV (eOp2 dNe (eVar 10) (eLst (aCons (eCB (mCall 1 F__law_is_pile) (aCons (eVar 3) aNil)) (aCons (eCB (mCall 1 F__law_is_block) (aCons (eVar 4) aNil)) aNil))))) (sRet (eC (.bl false))) sNext)
  (sSeq (sIf (tV (eOp2 dNe (eLc (iSeq (eVar 10)) (xName 12) (tNotD (tV (eCB bIsi (aCons (eVar 12) (aCons (eC (.ty "bool")) aNil))))) (eVar 12) [12]) (eLst aNil))) (sRet (eC (.bl false))) sNext)
  (sPar 3 4 (aCons (eCB (mCall 2 (F__law_spoilt 30)) (aCons (eVar 2) (aCons (eVar 3) aNil))) (aCons (eCB (mCall 2 (F__law_spoilt 30)) (aCons (eVar 2) (aCons (eVar 4) aNil))) aNil))))))))))))))
  (sRet (eC (.bl true))))
noncomputable def F_law01 : List D → M D := defX 13 b_law01
end Dl
set_option linter.all false
set_option autoImplicit false
set_option maxRecDepth 100000
namespace Dl
open PySem PySem.Spec PyProof.Rows L2
theorem fin01 (ns : List Int) (h : ns.length ≤ 63) : ∃ st', F_law01 [.scr ns] [] = some (.bl true, st') := by
  have e : F_law01 = F_l1 := rfl
  rw [e]
  exact l1_true ns h
end Dl
set_option Elab.async false
set_option linter.all false
set_option maxRecDepth 100000
set_option maxHeartbeats 4000000
namespace G
open PySem PySem.Spec PyProof.Rows L2 Dl
def top (i : Nat) : Stmt := PySem.Challenge.pw_edgestack_k01_blocks_and_piles_told.main.body.getD i (.Pass ⟨0, 0, 0, 0⟩)
abbrev s_is_whole : Stmt := top 4
def d_is_whole : He.DefD := ⟨("is_whole", none), "is_whole", "is_whole", defArgs s_is_whole, defBody s_is_whole, defScope s_is_whole, [], []⟩
abbrev s_is_within : Stmt := top 5
def d_is_within : He.DefD := ⟨("is_within", none), "is_within", "is_within", defArgs s_is_within, defBody s_is_within, defScope s_is_within, [], []⟩
abbrev s_is_name : Stmt := top 6
def d_is_name : He.DefD := ⟨("is_name", none), "is_name", "is_name", defArgs s_is_name, defBody s_is_name, defScope s_is_name, [], []⟩
abbrev s_lowest : Stmt := top 7
def d_lowest : He.DefD := ⟨("lowest", none), "lowest", "lowest", defArgs s_lowest, defBody s_lowest, defScope s_lowest, [], []⟩
abbrev s_is_fraction : Stmt := top 8
def d_is_fraction : He.DefD := ⟨("is_fraction", none), "is_fraction", "is_fraction", defArgs s_is_fraction, defBody s_is_fraction, defScope s_is_fraction, [], []⟩
abbrev s_is_block : Stmt := top 9
def d_is_block : He.DefD := ⟨("is_block", none), "is_block", "is_block", defArgs s_is_block, defBody s_is_block, defScope s_is_block, [], []⟩
abbrev s_is_pile : Stmt := top 10
def d_is_pile : He.DefD := ⟨("is_pile", none), "is_pile", "is_pile", defArgs s_is_pile, defBody s_is_pile, defScope s_is_pile, [], []⟩
abbrev s__law_bag : Stmt := top 12
def d__law_bag : He.DefD := ⟨("_law_bag", none), "_law_bag", "_law_bag", defArgs s__law_bag, defBody s__law_bag, defScope s__law_bag, [], []⟩
abbrev s__law_take : Stmt := top 13
def d__law_take : He.DefD := ⟨("_law_take", none), "_law_take", "_law_take", defArgs s__law_take, defBody s__law_take, defScope s__law_take, [], []⟩
abbrev s__law_of : Stmt := top 14
def d__law_of : He.DefD := ⟨("_law_of", none), "_law_of", "_law_of", defArgs s__law_of, defBody s__law_of, defScope s__law_of, [], []⟩
abbrev s__law_whole : Stmt := top 15
def d__law_whole : He.DefD := ⟨("_law_whole", none), "_law_whole", "_law_whole", defArgs s__law_whole, defBody s__law_whole, defScope s__law_whole, [], []⟩
abbrev s__law_within : Stmt := top 16
def d__law_within : He.DefD := ⟨("_law_within", none), "_law_within", "_law_within", defArgs s__law_within, defBody s__law_within, defScope s__law_within, [], []⟩
abbrev s__law_is_name : Stmt := top 17
def d__law_is_name : He.DefD := ⟨("_law_is_name", none), "_law_is_name", "_law_is_name", defArgs s__law_is_name, defBody s__law_is_name, defScope s__law_is_name, [], []⟩
abbrev s__law_spoilt : Stmt := top 18
def d__law_spoilt : He.DefD := ⟨("_law_spoilt", none), "_law_spoilt", "_law_spoilt", defArgs s__law_spoilt, defBody s__law_spoilt, defScope s__law_spoilt, [], []⟩
abbrev s__law_odd : Stmt := top 19
def d__law_odd : He.DefD := ⟨("_law_odd", none), "_law_odd", "_law_odd", defArgs s__law_odd, defBody s__law_odd, defScope s__law_odd, [], []⟩
abbrev s__law_lowest : Stmt := top 20
def d__law_lowest : He.DefD := ⟨("_law_lowest", none), "_law_lowest", "_law_lowest", defArgs s__law_lowest, defBody s__law_lowest, defScope s__law_lowest, [], []⟩
abbrev s__law_plus : Stmt := top 21
def d__law_plus : He.DefD := ⟨("_law_plus", none), "_law_plus", "_law_plus", defArgs s__law_plus, defBody s__law_plus, defScope s__law_plus, [], []⟩
abbrev s__law_part : Stmt := top 22
def d__law_part : He.DefD := ⟨("_law_part", none), "_law_part", "_law_part", defArgs s__law_part, defBody s__law_part, defScope s__law_part, [], []⟩
abbrev s__law_blocks : Stmt := top 23
def d__law_blocks : He.DefD := ⟨("_law_blocks", none), "_law_blocks", "_law_blocks", defArgs s__law_blocks, defBody s__law_blocks, defScope s__law_blocks, [], []⟩
abbrev s__law_mixed : Stmt := top 24
def d__law_mixed : He.DefD := ⟨("_law_mixed", none), "_law_mixed", "_law_mixed", defArgs s__law_mixed, defBody s__law_mixed, defScope s__law_mixed, [], []⟩
abbrev s__law_middle : Stmt := top 25
def d__law_middle : He.DefD := ⟨("_law_middle", none), "_law_middle", "_law_middle", defArgs s__law_middle, defBody s__law_middle, defScope s__law_middle, [], []⟩
abbrev s__law_right : Stmt := top 26
def d__law_right : He.DefD := ⟨("_law_right", none), "_law_right", "_law_right", defArgs s__law_right, defBody s__law_right, defScope s__law_right, [], []⟩
abbrev s__law_between : Stmt := top 27
def d__law_between : He.DefD := ⟨("_law_between", none), "_law_between", "_law_between", defArgs s__law_between, defBody s__law_between, defScope s__law_between, [], []⟩
abbrev s__law_pile : Stmt := top 28
def d__law_pile : He.DefD := ⟨("_law_pile", none), "_law_pile", "_law_pile", defArgs s__law_pile, defBody s__law_pile, defScope s__law_pile, [], []⟩
abbrev s__law_any : Stmt := top 29
def d__law_any : He.DefD := ⟨("_law_any", none), "_law_any", "_law_any", defArgs s__law_any, defBody s__law_any, defScope s__law_any, [], []⟩
abbrev s__law_is_fraction : Stmt := top 30
def d__law_is_fraction : He.DefD := ⟨("_law_is_fraction", none), "_law_is_fraction", "_law_is_fraction", defArgs s__law_is_fraction, defBody s__law_is_fraction, defScope s__law_is_fraction, [], []⟩
abbrev s__law_is_block : Stmt := top 31
def d__law_is_block : He.DefD := ⟨("_law_is_block", none), "_law_is_block", "_law_is_block", defArgs s__law_is_block, defBody s__law_is_block, defScope s__law_is_block, [], []⟩
abbrev s__law_is_pile : Stmt := top 32
def d__law_is_pile : He.DefD := ⟨("_law_is_pile", none), "_law_is_pile", "_law_is_pile", defArgs s__law_is_pile, defBody s__law_is_pile, defScope s__law_is_pile, [], []⟩
abbrev s_law : Stmt := top 33
def d_law : He.DefD := ⟨("law", none), "law", "law", defArgs s_law, defBody s_law, defScope s_law, [], []⟩
def fn : List He.DefD := [d_is_whole, d_is_within, d_is_name, d_lowest, d_is_fraction, d_is_block, d_is_pile, d__law_bag, d__law_take, d__law_of, d__law_whole, d__law_within, d__law_is_name, d__law_spoilt, d__law_odd, d__law_lowest, d__law_plus, d__law_part, d__law_blocks, d__law_mixed, d__law_middle, d__law_right, d__law_between, d__law_pile, d__law_any, d__law_is_fraction, d__law_is_block, d__law_is_pile, d_law]
def fa : List He.Fa := [.glo "is_whole", .glo "is_within", .glo "is_name", .glo "lowest", .glo "is_fraction", .glo "is_block", .glo "is_pile", .glo "_law_bag", .glo "_law_take", .glo "_law_of", .glo "_law_whole", .glo "_law_within", .glo "_law_is_name", .glo "_law_spoilt", .glo "_law_odd", .glo "_law_lowest", .glo "_law_plus", .glo "_law_part", .glo "_law_blocks", .glo "_law_mixed", .glo "_law_middle", .glo "_law_right", .glo "_law_between", .glo "_law_pile", .glo "_law_any", .glo "_law_is_fraction", .glo "_law_is_block", .glo "_law_is_pile", .glo "law", .free "abs", .free "all", .free "bool", .free "int", .free "isinstance", .free "len", .free "list", .free "min", .free "range", .free "str", .free "sum", .free "tuple", .str "LETTERS" "abcdefghijklmnopqrstuvwxyz", .int "MOST_ROWS" 7, .int "MOST_PART" 1000]
def loose0 : List Str := ["LETTERS", "MOST_ROWS", "MOST_PART", "is_whole", "is_within", "is_name", "lowest", "is_fraction", "is_block", "is_pile", "_law_bag", "_law_take", "_law_of", "_law_whole", "_law_within", "_law_is_name", "_law_spoilt", "_law_odd", "_law_lowest", "_law_plus", "_law_part", "_law_blocks", "_law_mixed", "_law_middle", "_law_right", "_law_between", "_law_pile", "_law_any", "_law_is_fraction", "_law_is_block"]
def loose1 : List Str := ["_law_is_pile"]
def loose : List Str := loose0 ++ loose1
section
variable {K : PySem.W.Frag} {mg : Str → Option Value}
structure Tx (K : PySem.W.Frag) (mg : Str → Option Value) : Prop where
  ex : ∃ h : Heap, K.In h ∧ h.Ns mainGlobals mg
  c : He.SaysD fa fn K
theorem Tx.glo (T : Tx K mg) (i : Nat) {x : Str} (h : fa[i]? = some (.glo x) := by rfl) : mg x = some (.ref (He.ga K x)) := by
  obtain ⟨_, X, G⟩ := T.ex
  exact He.glo_ok X G (T.c.fact i h)
theorem Tx.free (T : Tx K mg) (i : Nat) {x : Str} (h : fa[i]? = some (.free x) := by rfl) : mg x = none := by
  obtain ⟨_, X, G⟩ := T.ex
  exact He.free_ok X G (T.c.fact i h)
theorem Tx.int_ (T : Tx K mg) (i : Nat) {x : Str} {n : Int} (h : fa[i]? = some (.int x n) := by rfl) : ∃ t, mg x = some (.int n t) := by
  obtain ⟨_, X, G⟩ := T.ex
  exact He.int_ok X G (T.c.fact i h)
theorem Tx.str_ (T : Tx K mg) (i : Nat) {x y : Str} (h : fa[i]? = some (.str x y) := by rfl) : ∃ t, mg x = some (.str y t) := by
  obtain ⟨_, X, G⟩ := T.ex
  exact He.str_ok X G (T.c.fact i h)
theorem Tx.def_ (T : Tx K mg) (i : Nat) {d : He.DefD} (h : fn[i]? = some d := by rfl) : ∃ fd, FunD K d.name d.qual d.params d.body d.scope (d.dvs K) (d.kws K) (He.fAd K d.at_) fd := T.c.def_ i h
theorem Tx.con_LETTERS (T : Tx K mg) : ∃ t, True ∧ mg "LETTERS" = some (.str "abcdefghijklmnopqrstuvwxyz" t) := let ⟨t, h⟩ := T.str_ 41; ⟨t, trivial, h⟩
theorem Tx.con_MOST_ROWS (T : Tx K mg) : ∃ t, True ∧ mg "MOST_ROWS" = some (.int 7 t) := let ⟨t, h⟩ := T.int_ 42; ⟨t, trivial, h⟩
theorem Tx.con_MOST_PART (T : Tx K mg) : ∃ t, True ∧ mg "MOST_PART" = some (.int 1000 t) := let ⟨t, h⟩ := T.int_ 43; ⟨t, trivial, h⟩
end
section
variable {P : Program} {w : World} {K : PySem.W.Frag} {mg : Str → Option Value} {base : Heap}
abbrev N_is_whole : List Str := ["thing"]
theorem sc_is_whole : FnScope N_is_whole ["thing"] (defScope s_is_whole) := ⟨rfl, rfl, rfl, by decide +kernel, rfl, by decide +kernel, by decide +kernel⟩
theorem ok_is_whole (T : Tx K mg) : Ok P w K mg base 1 "is_whole" ["thing"] F_is_whole := by
  obtain ⟨fd, Fd⟩ := T.def_ 0 (d := d_is_whole) rfl
  refine Ok.gcF (Ok.of Fd sc_is_whole (T.glo 0) (Fd.bindsN fun _ _ _ _ _ _ us hl => match us, hl with | [_], _ => rfl) fun cdv A outer s H E hr => ?_)
  exact (pssd_one (psd_ret (ped_and (ped_cb call_isiA cd_isi (by rfl) (T.free 33) (by decide +kernel) (pad_cons (ped_var 0) (pad_cons (ped_ty (by rfl) (T.free 32) (by decide +kernel)) pad_nil))) (ped_one (ped_not (ped_cb call_isiA cd_isi (by rfl) (T.free 33) (by decide +kernel) (pad_cons (ped_var 0) (pad_cons (ped_ty (by rfl) (T.free 31) (by decide +kernel)) pad_nil))))))))
abbrev N_is_within : List Str := ["thing", "least", "most"]
theorem sc_is_within : FnScope N_is_within ["thing", "least", "most"] (defScope s_is_within) := ⟨rfl, rfl, rfl, by decide +kernel, rfl, by decide +kernel, by decide +kernel⟩
theorem ok_is_within (T : Tx K mg) : Ok P w K mg base 2 "is_within" ["thing", "least", "most"] F_is_within := by
  obtain ⟨fd, Fd⟩ := T.def_ 1 (d := d_is_within) rfl
  refine Ok.gcF (Ok.of Fd sc_is_within (T.glo 1) (Fd.bindsN fun _ _ _ _ _ _ us hl => match us, hl with | [_, _, _], _ => rfl) fun cdv A outer s H E hr => ?_)
  exact (pssd_one (psd_ret (ped_and (ped_call (ok_is_whole T) hr (pad_cons (ped_var 0) pad_nil)) (ped_one (ped_ch cmp_le cmp_le (ped_var 1) (ped_var 0) (ped_var 2))))))
abbrev N_is_name : List Str := ["thing", "sign"]
theorem sc_is_name : FnScope N_is_name ["thing"] (defScope s_is_name) := ⟨rfl, rfl, rfl, by decide +kernel, rfl, by decide +kernel, by decide +kernel⟩
theorem ok_is_name (T : Tx K mg) : Ok P w K mg base 1 "is_name" ["thing"] F_is_name := by
  obtain ⟨fd, Fd⟩ := T.def_ 2 (d := d_is_name) rfl
  obtain ⟨_, c_LETTERS⟩ := T.con_LETTERS
  refine Ok.gcF (Ok.of Fd sc_is_name (T.glo 2) (Fd.bindsN fun _ _ _ _ _ _ us hl => match us, hl with | [_], _ => rfl) fun cdv A outer s H E hr => ?_)
  exact (pssd_one (psd_ret (ped_and (ped_cb call_isiA cd_isi (by rfl) (T.free 33) (by decide +kernel) (pad_cons (ped_var 0) (pad_cons (ped_ty (by rfl) (T.free 38) (by decide +kernel)) pad_nil))) (ped_and (ped_ch cmp_le cmp_le ped_int (ped_cb call_lenA cd_len (by rfl) (T.free 34) (by decide +kernel) (pad_cons (ped_var 0) pad_nil)) ped_int) (ped_one (ped_cb (cr_all rfl) cd_all (by rfl) (T.free 30) (by decide +kernel) (pad_cons (ped_lc (own := [("sign", 1)]) rfl sc_is_name.nd (pid_str (ped_var 0)) (blkOk_by (N := N_is_name) (sc := defScope s_is_name) (by decide +kernel)) (fun _ _ _ _ _ => (pgd_name 1 sc_is_name.nd)) (fun _ _ _ _ _ => ptsd_nil) (fun _ _ _ _ _ => (ped_in hr (ped_var 1) (ped_glob (v := .str "abcdefghijklmnopqrstuvwxyz") (by rfl) c_LETTERS.2 ⟨_, rfl⟩ fun _ _ => .str "abcdefghijklmnopqrstuvwxyz")))) pad_nil)))))))
abbrev N_lowest : List Str := ["top", "bottom", "one", "other"]
theorem sc_lowest : FnScope N_lowest ["top", "bottom"] (defScope s_lowest) := ⟨rfl, rfl, rfl, by decide +kernel, rfl, by decide +kernel, by decide +kernel⟩
theorem ok_lowest (T : Tx K mg) : Ok P w K mg base 1 "lowest" ["top", "bottom"] F_lowest := by
  obtain ⟨fd, Fd⟩ := T.def_ 3 (d := d_lowest) rfl
  refine Ok.gcF (Ok.of Fd sc_lowest (T.glo 3) (Fd.bindsN fun _ _ _ _ _ _ us hl => match us, hl with | [_, _], _ => rfl) fun cdv A outer s H E hr => ?_)
  exact (pssd_cons (psd_par (i := 2) (j := 3) rfl sc_lowest.nd (pad_cons (ped_cb call_abs cd_abs (by rfl) (T.free 29) (by decide +kernel) (pad_cons (ped_var 0) pad_nil)) (pad_cons (ped_var 1) pad_nil)))
    (pssd_cons (psd_while (fuelAt 3) PassesOwn.never (ptd_c cmp_gt (ped_var 3) ped_int) (pssd_one (psd_par (i := 2) (j := 3) rfl sc_lowest.nd (pad_cons (ped_var 3) (pad_cons (ped_mod (ped_var 2) (ped_var 3)) pad_nil)))))
    (pssd_one (psd_ret (ped_tup (pad_cons (ped_div (ped_var 0) (ped_var 2)) (pad_cons (ped_div (ped_var 1) (ped_var 2)) pad_nil)))))))
abbrev N_is_fraction : List Str := ["thing", "part"]
theorem sc_is_fraction : FnScope N_is_fraction ["thing"] (defScope s_is_fraction) := ⟨rfl, rfl, rfl, by decide +kernel, rfl, by decide +kernel, by decide +kernel⟩
theorem ok_is_fraction (T : Tx K mg) : Ok P w K mg base 2 "is_fraction" ["thing"] F_is_fraction := by
  obtain ⟨fd, Fd⟩ := T.def_ 4 (d := d_is_fraction) rfl
  refine Ok.gcF (Ok.of Fd sc_is_fraction (T.glo 4) (Fd.bindsN fun _ _ _ _ _ _ us hl => match us, hl with | [_], _ => rfl) fun cdv A outer s H E hr => ?_)
  exact (pssd_cons (psd_if (ptd_w (pwd_or (ptd_not (ptd_v (ped_cb call_isiA cd_isi (by rfl) (T.free 33) (by decide +kernel) (pad_cons (ped_var 0) (pad_cons (ped_ty (by rfl) (T.free 40) (by decide +kernel)) pad_nil))))) (pwd_or (ptd_c (cmp_ne hr) (ped_cb call_lenA cd_len (by rfl) (T.free 34) (by decide +kernel) (pad_cons (ped_var 0) pad_nil)) ped_int) (pwd_or1 (ptd_not (ptd_v (ped_cb (cr_all rfl) cd_all (by rfl) (T.free 30) (by decide +kernel) (pad_cons (ped_lc (own := [("part", 1)]) rfl sc_is_fraction.nd (pid_any (ped_var 0)) (blkOk_by (N := N_is_fraction) (sc := defScope s_is_fraction) (by decide +kernel)) (fun _ _ _ _ _ => (pgd_name 1 sc_is_fraction.nd)) (fun _ _ _ _ _ => ptsd_nil) (fun _ _ _ _ _ => (ped_call (ok_is_whole T) hr (pad_cons (ped_var 1) pad_nil)))) pad_nil)))))))) (pssd_one (psd_ret ped_bl)) pssd_nil)
    (pssd_one (psd_ret (ped_and (ped_c cmp_ge (ped_ix (ped_var 0) ped_int) ped_int) (ped_one (ped_c (cmp_eq hr) (ped_call (ok_lowest T) hr (pad_cons (ped_ix (ped_var 0) ped_int) (pad_cons (ped_ix (ped_var 0) ped_int) pad_nil))) (ped_var 0)))))))
abbrev N_is_block : List Str := ["thing"]
theorem sc_is_block : FnScope N_is_block ["thing"] (defScope s_is_block) := ⟨rfl, rfl, rfl, by decide +kernel, rfl, by decide +kernel, by decide +kernel⟩
theorem ok_is_block (T : Tx K mg) : Ok P w K mg base 3 "is_block" ["thing"] F_is_block := by
  obtain ⟨fd, Fd⟩ := T.def_ 5 (d := d_is_block) rfl
  obtain ⟨_, c_MOST_PART⟩ := T.con_MOST_PART
  refine Ok.gcF (Ok.of Fd sc_is_block (T.glo 5) (Fd.bindsN fun _ _ _ _ _ _ us hl => match us, hl with | [_], _ => rfl) fun cdv A outer s H E hr => ?_)
  exact (pssd_cons (psd_if (ptd_w (pwd_or (ptd_not (ptd_v (ped_cb call_isiA cd_isi (by rfl) (T.free 33) (by decide +kernel) (pad_cons (ped_var 0) (pad_cons (ped_ty (by rfl) (T.free 40) (by decide +kernel)) pad_nil))))) (pwd_or (ptd_c (cmp_ne hr) (ped_cb call_lenA cd_len (by rfl) (T.free 34) (by decide +kernel) (pad_cons (ped_var 0) pad_nil)) ped_int) (pwd_or1 (ptd_not (ptd_v (ped_call (ok_is_name T) hr (pad_cons (ped_ix (ped_var 0) ped_int) pad_nil)))))))) (pssd_one (psd_ret ped_bl)) pssd_nil)
    (pssd_one (psd_ret (ped_and (ped_call (ok_is_within T) hr (pad_cons (ped_ix (ped_var 0) ped_int) (pad_cons ped_int (pad_cons (ped_glob (v := .int 1000) (by rfl) c_MOST_PART.2 ⟨_, rfl⟩ fun _ _ => .int 1000) pad_nil)))) (ped_one (ped_call (ok_is_within T) hr (pad_cons (ped_ix (ped_var 0) ped_int) (pad_cons ped_int (pad_cons (ped_glob (v := .int 1000) (by rfl) c_MOST_PART.2 ⟨_, rfl⟩ fun _ _ => .int 1000) pad_nil)))))))))
abbrev N_is_pile : List Str := ["thing", "row"]
theorem sc_is_pile : FnScope N_is_pile ["thing"] (defScope s_is_pile) := ⟨rfl, rfl, rfl, by decide +kernel, rfl, by decide +kernel, by decide +kernel⟩
theorem ok_is_pile (T : Tx K mg) : Ok P w K mg base 4 "is_pile" ["thing"] F_is_pile := by
  obtain ⟨fd, Fd⟩ := T.def_ 6 (d := d_is_pile) rfl
  obtain ⟨_, c_MOST_ROWS⟩ := T.con_MOST_ROWS
  refine Ok.gcF (Ok.of Fd sc_is_pile (T.glo 6) (Fd.bindsN fun _ _ _ _ _ _ us hl => match us, hl with | [_], _ => rfl) fun cdv A outer s H E hr => ?_)
  exact (pssd_cons (psd_if (ptd_w (pwd_or (ptd_not (ptd_v (ped_cb call_isiA cd_isi (by rfl) (T.free 33) (by decide +kernel) (pad_cons (ped_var 0) (pad_cons (ped_ty (by rfl) (T.free 40) (by decide +kernel)) pad_nil))))) (pwd_or1 (ptd_c cmp_gt (ped_cb call_lenA cd_len (by rfl) (T.free 34) (by decide +kernel) (pad_cons (ped_var 0) pad_nil)) (ped_glob (v := .int 7) (by rfl) c_MOST_ROWS.2 ⟨_, rfl⟩ fun _ _ => .int 7))))) (pssd_one (psd_ret ped_bl)) pssd_nil)
    (pssd_cons (psd_for PassesOwn.never rfl (pid_any (ped_var 0)) (pgd_name 1 sc_is_pile.nd) (pssd_one (psd_if (ptd_w (pwd_or (ptd_not (ptd_v (ped_cb call_isiA cd_isi (by rfl) (T.free 33) (by decide +kernel) (pad_cons (ped_var 1) (pad_cons (ped_ty (by rfl) (T.free 40) (by decide +kernel)) pad_nil))))) (pwd_or (ptd_c (cmp_ne hr) (ped_cb call_lenA cd_len (by rfl) (T.free 34) (by decide +kernel) (pad_cons (ped_var 1) pad_nil)) ped_int) (pwd_or (ptd_not (ptd_v (ped_call (ok_is_block T) hr (pad_cons (ped_sl (ped_var 1) pod_none (pod_some ped_int)) pad_nil)))) (pwd_or1 (ptd_not (ptd_v (ped_call (ok_is_fraction T) hr (pad_cons (ped_ix (ped_var 1) ped_int) pad_nil))))))))) (pssd_one (psd_ret ped_bl)) pssd_nil)))
    (pssd_one (psd_ret (ped_c (cmp_eq hr) (ped_cb call_lenA cd_len (by rfl) (T.free 34) (by decide +kernel) (pad_cons (ped_dc (own := [("row", 1)]) rfl sc_is_pile.nd (pid_any (ped_var 0)) (blkOk_by (N := N_is_pile) (sc := defScope s_is_pile) (by decide +kernel)) (fun _ _ _ _ _ => (pgd_name 1 sc_is_pile.nd)) (fun _ _ _ _ _ => ptsd_nil) (fun _ _ _ _ _ => (ped_ix (ped_var 1) ped_int)) (fun _ _ _ _ _ => ped_bl)) pad_nil)) (ped_cb call_lenA cd_len (by rfl) (T.free 34) (by decide +kernel) (pad_cons (ped_var 0) pad_nil)))))))
abbrev N__law_bag : List Str := ["script", "k", "cell"]
theorem sc__law_bag : FnScope N__law_bag ["script", "k"] (defScope s__law_bag) := ⟨rfl, rfl, rfl, by decide +kernel, rfl, by decide +kernel, by decide +kernel⟩
theorem ok__law_bag (T : Tx K mg) : Ok P w K mg base 1 "_law_bag" ["script", "k"] F__law_bag := by
  obtain ⟨fd, Fd⟩ := T.def_ 7 (d := d__law_bag) rfl
  refine Ok.gcL (Ok.of Fd sc__law_bag (T.glo 7) (Fd.bindsN fun _ _ _ _ _ _ us hl => match us, hl with | [_, _], _ => rfl) fun cdv A outer s H E hr => ?_)
  exact (pssd_cons (psd_set (i := 2) sc__law_bag.nd ped_int)
    (pssd_cons (psd_if (ptd_c cmp_lt (ped_var 1) (ped_cb call_lenA cd_len (by rfl) (T.free 34) (by decide +kernel) (pad_cons (ped_var 0) pad_nil))) (pssd_one (psd_set (i := 2) sc__law_bag.nd (ped_cb call_abs cd_abs (by rfl) (T.free 29) (by decide +kernel) (pad_cons (ped_ix (ped_var 0) (ped_var 1)) pad_nil)))) pssd_nil)
    (pssd_cons (psd_if (ptd_c cmp_lt (ped_var 2) (ped_pow ped_int ped_int)) (pssd_one (psd_ret (ped_lst (pad_cons ped_int (pad_cons (ped_add ped_int (ped_mod (ped_add (ped_mul (ped_var 2) ped_int) (ped_mul ped_int (ped_var 1))) ped_int)) pad_nil))))) pssd_nil)
    (pssd_one (psd_ret (ped_lst (pad_cons (ped_var 2) (pad_cons (ped_add ped_int (ped_mod (ped_add (ped_var 2) (ped_var 1)) ped_int)) pad_nil))))))))
abbrev N__law_take : List Str := ["bag", "many", "found"]
theorem sc__law_take : FnScope N__law_take ["bag", "many"] (defScope s__law_take) := ⟨rfl, rfl, rfl, by decide +kernel, rfl, by decide +kernel, by decide +kernel⟩
theorem ok__law_take (T : Tx K mg) : Ok P w K mg base 1 "_law_take" ["bag", "many"] F__law_take := by
  obtain ⟨fd, Fd⟩ := T.def_ 8 (d := d__law_take) rfl
  refine Ok.gcF (Ok.of Fd sc__law_take (T.glo 8) (Fd.bindsN fun _ _ _ _ _ _ us hl => match us, hl with | [_, _], _ => rfl) fun cdv A outer s H E hr => ?_)
  exact (pssd_cons (psd_if (ptd_c cmp_gt (ped_ix (ped_var 0) ped_int) ped_int) (pssd_cons (psd_set (i := 2) sc__law_take.nd (ped_mod (ped_ix (ped_var 0) ped_int) (ped_var 1)))
    (pssd_cons (psd_asg (ped_div (ped_ix (ped_var 0) ped_int) (ped_var 1)) (pgd_sub (ped_var 0) ped_int))
    (pssd_one (psd_ret (ped_var 2))))) pssd_nil)
    (pssd_cons (psd_asg (ped_mod (ped_mul (ped_ix (ped_var 0) ped_int) ped_int) ped_int) (pgd_sub (ped_var 0) ped_int))
    (pssd_one (psd_ret (ped_mod (ped_div (ped_mod (ped_mul (ped_ix (ped_var 0) ped_int) (ped_ix (ped_var 0) ped_int)) ped_int) ped_int) (ped_var 1))))))
abbrev N__law_of : List Str := ["bag", "some"]
theorem sc__law_of : FnScope N__law_of ["bag", "some"] (defScope s__law_of) := ⟨rfl, rfl, rfl, by decide +kernel, rfl, by decide +kernel, by decide +kernel⟩
theorem ok__law_of (T : Tx K mg) : Ok P w K mg base 2 "_law_of" ["bag", "some"] F__law_of := by
  obtain ⟨fd, Fd⟩ := T.def_ 9 (d := d__law_of) rfl
  refine Ok.gcF (Ok.of Fd sc__law_of (T.glo 9) (Fd.bindsN fun _ _ _ _ _ _ us hl => match us, hl with | [_, _], _ => rfl) fun cdv A outer s H E hr => ?_)
  exact (pssd_one (psd_ret (ped_ix (ped_var 1) (ped_call (ok__law_take T) hr (pad_cons (ped_var 0) (pad_cons (ped_cb call_lenA cd_len (by rfl) (T.free 34) (by decide +kernel) (pad_cons (ped_var 1) pad_nil)) pad_nil))))))
abbrev N__law_whole : List Str := ["thing"]
theorem sc__law_whole : FnScope N__law_whole ["thing"] (defScope s__law_whole) := ⟨rfl, rfl, rfl, by decide +kernel, rfl, by decide +kernel, by decide +kernel⟩
theorem ok__law_whole (T : Tx K mg) : Ok P w K mg base 1 "_law_whole" ["thing"] F__law_whole := by
  obtain ⟨fd, Fd⟩ := T.def_ 10 (d := d__law_whole) rfl
  refine Ok.gcF (Ok.of Fd sc__law_whole (T.glo 10) (Fd.bindsN fun _ _ _ _ _ _ us hl => match us, hl with | [_], _ => rfl) fun cdv A outer s H E hr => ?_)
  exact (pssd_one (psd_ret (ped_and (ped_cb call_isiA cd_isi (by rfl) (T.free 33) (by decide +kernel) (pad_cons (ped_var 0) (pad_cons (ped_ty (by rfl) (T.free 32) (by decide +kernel)) pad_nil))) (ped_one (ped_not (ped_cb call_isiA cd_isi (by rfl) (T.free 33) (by decide +kernel) (pad_cons (ped_var 0) (pad_cons (ped_ty (by rfl) (T.free 31) (by decide +kernel)) pad_nil))))))))
abbrev N__law_within : List Str := ["thing", "least", "most"]
theorem sc__law_within : FnScope N__law_within ["thing", "least", "most"] (defScope s__law_within) := ⟨rfl, rfl, rfl, by decide +kernel, rfl, by decide +kernel, by decide +kernel⟩
theorem ok__law_within (T : Tx K mg) : Ok P w K mg base 1 "_law_within" ["thing", "least", "most"] F__law_within := by
  obtain ⟨fd, Fd⟩ := T.def_ 11 (d := d__law_within) rfl
  refine Ok.gcF (Ok.of Fd sc__law_within (T.glo 11) (Fd.bindsN fun _ _ _ _ _ _ us hl => match us, hl with | [_, _, _], _ => rfl) fun cdv A outer s H E hr => ?_)
  exact (pssd_one (psd_ret (ped_and (ped_cb call_isiA cd_isi (by rfl) (T.free 33) (by decide +kernel) (pad_cons (ped_var 0) (pad_cons (ped_ty (by rfl) (T.free 32) (by decide +kernel)) pad_nil))) (ped_and (ped_not (ped_cb call_isiA cd_isi (by rfl) (T.free 33) (by decide +kernel) (pad_cons (ped_var 0) (pad_cons (ped_ty (by rfl) (T.free 31) (by decide +kernel)) pad_nil)))) (ped_one (ped_ch cmp_le cmp_le (ped_var 1) (ped_var 0) (ped_var 2)))))))
abbrev N__law_is_name : List Str := ["thing", "sign"]
theorem sc__law_is_name : FnScope N__law_is_name ["thing"] (defScope s__law_is_name) := ⟨rfl, rfl, rfl, by decide +kernel, rfl, by decide +kernel, by decide +kernel⟩
theorem ok__law_is_name (T : Tx K mg) : Ok P w K mg base 1 "_law_is_name" ["thing"] F__law_is_name := by
  obtain ⟨fd, Fd⟩ := T.def_ 12 (d := d__law_is_name) rfl
  refine Ok.gcF (Ok.of Fd sc__law_is_name (T.glo 12) (Fd.bindsN fun _ _ _ _ _ _ us hl => match us, hl with | [_], _ => rfl) fun cdv A outer s H E hr => ?_)
  exact (pssd_cons (psd_if (ptd_w (pwd_or (ptd_not (ptd_v (ped_cb call_isiA cd_isi (by rfl) (T.free 33) (by decide +kernel) (pad_cons (ped_var 0) (pad_cons (ped_ty (by rfl) (T.free 38) (by decide +kernel)) pad_nil))))) (pwd_or1 (ptd_not (ptd_ch cmp_le cmp_le ped_int (ped_cb call_lenA cd_len (by rfl) (T.free 34) (by decide +kernel) (pad_cons (ped_var 0) pad_nil)) ped_int))))) (pssd_one (psd_ret ped_bl)) pssd_nil)
    (pssd_one (psd_ret (ped_c (cmp_eq hr) (ped_lc (own := [("sign", 1)]) rfl sc__law_is_name.nd (pid_str (ped_var 0)) (blkOk_by (N := N__law_is_name) (sc := defScope s__law_is_name) (by decide +kernel)) (fun _ _ _ _ _ => (pgd_name 1 sc__law_is_name.nd)) (fun _ _ _ _ _ => (ptsd_one (ptd_inn hr (ped_var 1) ped_str))) (fun _ _ _ _ _ => (ped_var 1))) (ped_lst pad_nil)))))
abbrev N__law_odd : List Str := ["bag", "some"]
theorem sc__law_odd : FnScope N__law_odd ["bag"] (defScope s__law_odd) := ⟨rfl, rfl, rfl, by decide +kernel, rfl, by decide +kernel, by decide +kernel⟩
theorem ok__law_odd (T : Tx K mg) : Ok P w K mg base 2 "_law_odd" ["bag"] F__law_odd := by
  obtain ⟨fd, Fd⟩ := T.def_ 14 (d := d__law_odd) rfl
  refine Ok.of Fd sc__law_odd (T.glo 14) (Fd.bindsN fun _ _ _ _ _ _ us hl => match us, hl with | [_], _ => rfl) fun cdv A outer s H E hr => ?_
  exact (pssd_cons (psd_set (i := 1) sc__law_odd.nd (ped_lst (pad_cons ped_non (pad_cons ped_bl (pad_cons ped_bl (pad_cons ped_int (pad_cons ped_int (pad_cons (ped_neg ped_int) (pad_cons ped_int (pad_cons (ped_pow ped_int ped_int) (pad_cons ped_str (pad_cons ped_str (pad_cons (ped_tup pad_nil) (pad_cons (ped_lst pad_nil) (pad_cons (ped_tup (pad_cons ped_int (pad_cons ped_int pad_nil))) (pad_cons (ped_tup (pad_cons (ped_neg ped_int) (pad_cons ped_int pad_nil))) (pad_cons (ped_tup (pad_cons ped_int (pad_cons ped_int pad_nil))) (pad_cons (ped_tup (pad_cons ped_int (pad_cons ped_int pad_nil))) (pad_cons (ped_tup (pad_cons ped_int (pad_cons (ped_neg ped_int) pad_nil))) pad_nil)))))))))))))))))))
    (pssd_cons (psd_set (i := 1) sc__law_odd.nd (ped_add (ped_var 1) (ped_lst (pad_cons (ped_tup (pad_cons ped_non pad_nil)) (pad_cons (ped_tup (pad_cons ped_str (pad_cons ped_int (pad_cons ped_int pad_nil)))) (pad_cons (ped_tup (pad_cons ped_str (pad_cons ped_int (pad_cons ped_int pad_nil)))) (pad_cons (ped_tup (pad_cons (ped_tup (pad_cons ped_str (pad_cons ped_int (pad_cons ped_int (pad_cons (ped_tup (pad_cons ped_int (pad_cons ped_int pad_nil))) pad_nil))))) pad_nil)) (pad_cons (ped_tup (pad_cons ped_str (pad_cons ped_int (pad_cons ped_int (pad_cons (ped_tup (pad_cons ped_int (pad_cons ped_int pad_nil))) pad_nil))))) pad_nil))))))))
    (pssd_one (psd_ret (ped_ix (ped_var 1) (ped_call (ok__law_take T) hr (pad_cons (ped_var 0) (pad_cons (ped_cb call_lenA cd_len (by rfl) (T.free 34) (by decide +kernel) (pad_cons (ped_var 1) pad_nil)) pad_nil))))))))
abbrev N__law_spoilt : List Str := ["bag", "thing", "kind_so", "rows", "at", "other"]
theorem sc__law_spoilt : FnScope N__law_spoilt ["bag", "thing"] (defScope s__law_spoilt) := ⟨rfl, rfl, rfl, by decide +kernel, rfl, by decide +kernel, by decide +kernel⟩
theorem ok__law_spoilt (T : Tx K mg) : ∀ n : Nat, Ok P w K mg base (2 + n) "_law_spoilt" ["bag", "thing"] (F__law_spoilt n)
  | 0 => by
    obtain ⟨fd, Fd⟩ := T.def_ 13 (d := d__law_spoilt) rfl
    exact Ok.never (f := He.ga K "_law_spoilt") (T.glo 13) Fd.kp (Fd.bindsN fun _ _ _ _ _ _ us hl => match us, hl with | [_, _], _ => rfl)
  | n + 1 => by
    have IH : Ok P w K mg base (2 + n) "_law_spoilt" ["bag", "thing"] (F__law_spoilt n) := ok__law_spoilt T n
    obtain ⟨fd, Fd⟩ := T.def_ 13 (d := d__law_spoilt) rfl
    show Ok P w K mg base (2 + n + 1) "_law_spoilt" ["bag", "thing"] (defX 6 (b__law_spoilt (F__law_spoilt n)))
    refine Ok.of Fd sc__law_spoilt (T.glo 13) (Fd.bindsN fun _ _ _ _ _ _ us hl => match us, hl with | [_, _], _ => rfl) fun cdv A outer s H E hr => ?_
    exact (pssd_cons (psd_set (i := 2) sc__law_spoilt.nd (ped_call (ok__law_take T) hr (pad_cons (ped_var 0) (pad_cons ped_int pad_nil)) (hk := by show _ ≤ 2 + n; omega)))
    (pssd_cons (psd_if (ptd_w (pwd_and (ptd_v (ped_cb call_isiA cd_isi (by rfl) (T.free 33) (by decide +kernel) (pad_cons (ped_var 1) (pad_cons (ped_tup (pad_cons (ped_ty (by rfl) (T.free 40) (by decide +kernel)) (pad_cons (ped_ty (by rfl) (T.free 35) (by decide +kernel)) pad_nil))) pad_nil)))) (pwd_and (ptd_c cmp_gt (ped_cb call_lenA cd_len (by rfl) (T.free 34) (by decide +kernel) (pad_cons (ped_var 1) pad_nil)) ped_int) (pwd_and1 (ptd_c cmp_gt (ped_var 2) ped_int))))) (pssd_cons (psd_set (i := 3) sc__law_spoilt.nd (ped_ct call_list_of cd_list (by rfl) (T.free 35) (by decide +kernel) (pad_cons (ped_var 1) pad_nil)))
    (pssd_cons (psd_set (i := 4) sc__law_spoilt.nd (ped_call (ok__law_take T) hr (pad_cons (ped_var 0) (pad_cons (ped_cb call_lenA cd_len (by rfl) (T.free 34) (by decide +kernel) (pad_cons (ped_var 3) pad_nil)) pad_nil)) (hk := by show _ ≤ 2 + n; omega)))
    (pssd_cons (psd_if (ptd_c (cmp_eq hr) (ped_var 2) ped_int) (pssd_one (psd_set (i := 3) sc__law_spoilt.nd (ped_addX (ped_sl (ped_var 3) pod_none (pod_some (ped_var 4))) (ped_sl (ped_var 3) (pod_some (ped_addX (ped_var 4) ped_int)) pod_none)))) (pssd_one (psd_if (ptd_c (cmp_eq hr) (ped_var 2) ped_int) (pssd_one (psd_set (i := 3) sc__law_spoilt.nd (ped_addX (ped_sl (ped_var 3) pod_none (pod_some (ped_addX (ped_var 4) ped_int))) (ped_sl (ped_var 3) (pod_some (ped_var 4)) pod_none)))) (pssd_one (psd_if (ptd_c (cmp_eq hr) (ped_var 2) ped_int) (pssd_cons (psd_set (i := 5) sc__law_spoilt.nd (ped_call (ok__law_take T) hr (pad_cons (ped_var 0) (pad_cons (ped_cb call_lenA cd_len (by rfl) (T.free 34) (by decide +kernel) (pad_cons (ped_var 3) pad_nil)) pad_nil)) (hk := by show _ ≤ 2 + n; omega)))
    (pssd_one (psd_asg (ped_tup (pad_cons (ped_ix (ped_var 3) (ped_var 5)) (pad_cons (ped_ix (ped_var 3) (ped_var 4)) pad_nil))) (pgd_tup rfl (pgsd_cons (pgd_sub (ped_var 3) (ped_var 4)) (pgsd_cons (pgd_sub (ped_var 3) (ped_var 5)) pgsd_nil)))))) (pssd_one (psd_if (ptd_c (cmp_eq hr) (ped_var 2) ped_int) (pssd_one (psd_ret (ped_ifx (ptd_v (ped_cb call_isiA cd_isi (by rfl) (T.free 33) (by decide +kernel) (pad_cons (ped_var 1) (pad_cons (ped_ty (by rfl) (T.free 40) (by decide +kernel)) pad_nil)))) (ped_var 3) (ped_ct call_tuple_of cd_tuple (by rfl) (T.free 40) (by decide +kernel) (pad_cons (ped_var 3) pad_nil))))) (pssd_one (psd_asg (ped_callN IH hr (pad_cons (ped_var 0) (pad_cons (ped_ix (ped_var 3) (ped_var 4)) pad_nil)) (hk := Nat.le_refl _)) (pgd_sub (ped_var 3) (ped_var 4)))))))))))
    (pssd_one (psd_ret (ped_ifx (ptd_v (ped_cb call_isiA cd_isi (by rfl) (T.free 33) (by decide +kernel) (pad_cons (ped_var 1) (pad_cons (ped_ty (by rfl) (T.free 40) (by decide +kernel)) pad_nil)))) (ped_ct call_tuple_of cd_tuple (by rfl) (T.free 40) (by decide +kernel) (pad_cons (ped_var 3) pad_nil)) (ped_var 3))))))) pssd_nil)
    (pssd_cons (psd_if (ptd_w (pwd_and (ptd_v (ped_cb call_isiA cd_isi (by rfl) (T.free 33) (by decide +kernel) (pad_cons (ped_var 1) (pad_cons (ped_ty (by rfl) (T.free 38) (by decide +kernel)) pad_nil)))) (pwd_and1 (ptd_c cmp_gt (ped_var 2) ped_int)))) (pssd_one (psd_ret (ped_ix (ped_lst (pad_cons (ped_addX (ped_var 1) ped_str) (pad_cons (ped_sl (ped_var 1) pod_none (pod_some (ped_negX ped_int))) (pad_cons (ped_addX (ped_var 1) ped_str) (pad_cons (ped_up (ped_var 1)) (pad_cons (ped_addX (ped_var 1) (ped_var 1)) (pad_cons (ped_addX ped_str (ped_var 1)) (pad_cons ped_str pad_nil)))))))) (ped_subX (ped_var 2) ped_int)))) pssd_nil)
    (pssd_cons (psd_if (ptd_w (pwd_and (ptd_v (ped_cb call_isiA cd_isi (by rfl) (T.free 33) (by decide +kernel) (pad_cons (ped_var 1) (pad_cons (ped_ty (by rfl) (T.free 32) (by decide +kernel)) pad_nil)))) (pwd_and1 (ptd_c cmp_gt (ped_var 2) ped_int)))) (pssd_one (psd_ret (ped_ix (ped_lst (pad_cons (ped_addX (ped_var 1) ped_int) (pad_cons (ped_subX (ped_var 1) ped_int) (pad_cons (ped_negX (ped_var 1)) (pad_cons (ped_addX (ped_var 1) ped_int) (pad_cons (ped_ct call_strX cd_strX (by rfl) (T.free 38) (by decide +kernel) (pad_cons (ped_var 1) pad_nil)) (pad_cons (ped_addX (ped_var 1) ped_int) (pad_cons (ped_tup (pad_cons (ped_var 1) pad_nil)) pad_nil)))))))) (ped_subX (ped_var 2) ped_int)))) pssd_nil)
    (pssd_one (psd_ret (ped_call (ok__law_odd T) hr (pad_cons (ped_var 0) pad_nil) (hk := by show _ ≤ 2 + n; omega))))))))
abbrev N__law_lowest : List Str := ["top", "bottom", "one", "other"]
theorem sc__law_lowest : FnScope N__law_lowest ["top", "bottom"] (defScope s__law_lowest) := ⟨rfl, rfl, rfl, by decide +kernel, rfl, by decide +kernel, by decide +kernel⟩
theorem ok__law_lowest (T : Tx K mg) : Ok P w K mg base 1 "_law_lowest" ["top", "bottom"] F__law_lowest := by
  obtain ⟨fd, Fd⟩ := T.def_ 15 (d := d__law_lowest) rfl
  refine Ok.gcF (Ok.of Fd sc__law_lowest (T.glo 15) (Fd.bindsN fun _ _ _ _ _ _ us hl => match us, hl with | [_, _], _ => rfl) fun cdv A outer s H E hr => ?_)
  exact (pssd_cons (psd_par (i := 2) (j := 3) rfl sc__law_lowest.nd (pad_cons (ped_cb call_abs cd_abs (by rfl) (T.free 29) (by decide +kernel) (pad_cons (ped_var 0) pad_nil)) (pad_cons (ped_var 1) pad_nil)))
    (pssd_cons (psd_while (fuelAt 3) PassesOwn.never (ptd_c cmp_gt (ped_var 3) ped_int) (pssd_one (psd_par (i := 2) (j := 3) rfl sc__law_lowest.nd (pad_cons (ped_var 3) (pad_cons (ped_mod (ped_var 2) (ped_var 3)) pad_nil)))))
    (pssd_one (psd_ret (ped_tup (pad_cons (ped_div (ped_var 0) (ped_var 2)) (pad_cons (ped_div (ped_var 1) (ped_var 2)) pad_nil)))))))
abbrev N__law_plus : List Str := ["one", "other"]
theorem sc__law_plus : FnScope N__law_plus ["one", "other"] (defScope s__law_plus) := ⟨rfl, rfl, rfl, by decide +kernel, rfl, by decide +kernel, by decide +kernel⟩
theorem ok__law_plus (T : Tx K mg) : Ok P w K mg base 2 "_law_plus" ["one", "other"] F__law_plus := by
  obtain ⟨fd, Fd⟩ := T.def_ 16 (d := d__law_plus) rfl
  refine Ok.gcF (Ok.of Fd sc__law_plus (T.glo 16) (Fd.bindsN fun _ _ _ _ _ _ us hl => match us, hl with | [_, _], _ => rfl) fun cdv A outer s H E hr => ?_)
  exact (pssd_one (psd_ret (ped_call (ok__law_lowest T) hr (pad_cons (ped_add (ped_mul (ped_ix (ped_var 0) ped_int) (ped_ix (ped_var 1) ped_int)) (ped_mul (ped_ix (ped_var 1) ped_int) (ped_ix (ped_var 0) ped_int))) (pad_cons (ped_mul (ped_ix (ped_var 0) ped_int) (ped_ix (ped_var 1) ped_int)) pad_nil)))))
abbrev N__law_part : List Str := ["bag", "bottom", "wide"]
theorem sc__law_part : FnScope N__law_part ["bag"] (defScope s__law_part) := ⟨rfl, rfl, rfl, by decide +kernel, rfl, by decide +kernel, by decide +kernel⟩
theorem ok__law_part (T : Tx K mg) : Ok P w K mg base 2 "_law_part" ["bag"] F__law_part := by
  obtain ⟨fd, Fd⟩ := T.def_ 17 (d := d__law_part) rfl
  refine Ok.gcF (Ok.of Fd sc__law_part (T.glo 17) (Fd.bindsN fun _ _ _ _ _ _ us hl => match us, hl with | [_], _ => rfl) fun cdv A outer s H E hr => ?_)
  exact (pssd_cons (psd_set (i := 1) sc__law_part.nd (ped_add ped_int (ped_call (ok__law_take T) hr (pad_cons (ped_var 0) (pad_cons (ped_ix (ped_lst (pad_cons ped_int (pad_cons ped_int (pad_cons ped_int pad_nil)))) (ped_call (ok__law_take T) hr (pad_cons (ped_var 0) (pad_cons ped_int pad_nil)))) pad_nil)))))
    (pssd_cons (psd_set (i := 2) sc__law_part.nd (ped_ix (ped_lst (pad_cons ped_int (pad_cons ped_int (pad_cons ped_int pad_nil)))) (ped_call (ok__law_take T) hr (pad_cons (ped_var 0) (pad_cons ped_int pad_nil)))))
    (pssd_one (psd_ret (ped_call (ok__law_lowest T) hr (pad_cons (ped_sub (ped_call (ok__law_take T) hr (pad_cons (ped_var 0) (pad_cons (ped_add (ped_mul ped_int (ped_var 2)) ped_int) pad_nil))) (ped_var 2)) (pad_cons (ped_var 1) pad_nil)))))))
abbrev N__law_blocks : List Str := ["bag", "most", "found", "name", "wide"]
theorem sc__law_blocks : FnScope N__law_blocks ["bag", "most"] (defScope s__law_blocks) := ⟨rfl, rfl, rfl, by decide +kernel, rfl, by decide +kernel, by decide +kernel⟩
theorem ok__law_blocks (T : Tx K mg) : Ok P w K mg base 2 "_law_blocks" ["bag", "most"] F__law_blocks := by
  obtain ⟨fd, Fd⟩ := T.def_ 18 (d := d__law_blocks) rfl
  refine Ok.gcF (Ok.of Fd sc__law_blocks (T.glo 18) (Fd.bindsN fun _ _ _ _ _ _ us hl => match us, hl with | [_, _], _ => rfl) fun cdv A outer s H E hr => ?_)
  exact (pssd_cons (psd_set (i := 2) sc__law_blocks.nd (ped_lst pad_nil))
    (pssd_cons (psd_for PassesOwn.never rfl (pid_any (ped_sl (ped_lst (pad_cons ped_str (pad_cons ped_str (pad_cons ped_str (pad_cons ped_str (pad_cons ped_str (pad_cons ped_str (pad_cons ped_str pad_nil)))))))) pod_none (pod_some (ped_add ped_int (ped_call (ok__law_take T) hr (pad_cons (ped_var 0) (pad_cons (ped_var 1) pad_nil))))))) (pgd_name 3 sc__law_blocks.nd) (pssd_cons (psd_set (i := 4) sc__law_blocks.nd (ped_ix (ped_lst (pad_cons ped_int (pad_cons ped_int (pad_cons ped_int pad_nil)))) (ped_call (ok__law_take T) hr (pad_cons (ped_var 0) (pad_cons ped_int pad_nil)))))
    (pssd_one (psd_drop (ped_app (ped_var 2) (pad_cons (ped_tup (pad_cons (ped_var 3) (pad_cons (ped_add ped_int (ped_call (ok__law_take T) hr (pad_cons (ped_var 0) (pad_cons (ped_var 4) pad_nil)))) (pad_cons (ped_add ped_int (ped_call (ok__law_take T) hr (pad_cons (ped_var 0) (pad_cons (ped_ix (ped_lst (pad_cons ped_int (pad_cons ped_int (pad_cons ped_int pad_nil)))) (ped_call (ok__law_take T) hr (pad_cons (ped_var 0) (pad_cons ped_int pad_nil)))) pad_nil)))) pad_nil)))) pad_nil))))))
    (pssd_one (psd_ret (ped_ct call_tuple_of cd_tuple (by rfl) (T.free 40) (by decide +kernel) (pad_cons (ped_var 2) pad_nil))))))
abbrev N__law_mixed : List Str := ["bag", "some", "found", "one"]
theorem sc__law_mixed : FnScope N__law_mixed ["bag", "some"] (defScope s__law_mixed) := ⟨rfl, rfl, rfl, by decide +kernel, rfl, by decide +kernel, by decide +kernel⟩
theorem ok__law_mixed (T : Tx K mg) : Ok P w K mg base 2 "_law_mixed" ["bag", "some"] F__law_mixed := by
  obtain ⟨fd, Fd⟩ := T.def_ 19 (d := d__law_mixed) rfl
  refine Ok.gcL (Ok.of Fd sc__law_mixed (T.glo 19) (Fd.bindsN fun _ _ _ _ _ _ us hl => match us, hl with | [_, _], _ => rfl) fun cdv A outer s H E hr => ?_)
  exact (pssd_cons (psd_set (i := 2) sc__law_mixed.nd (ped_lst pad_nil))
    (pssd_cons (psd_for PassesOwn.never rfl (pid_any (ped_var 1)) (pgd_name 3 sc__law_mixed.nd) (pssd_one (psd_drop (ped_ins (ped_var 2) (pad_cons (ped_call (ok__law_take T) hr (pad_cons (ped_var 0) (pad_cons (ped_add (ped_cb call_lenA cd_len (by rfl) (T.free 34) (by decide +kernel) (pad_cons (ped_var 2) pad_nil)) ped_int) pad_nil))) (pad_cons (ped_var 3) pad_nil))))))
    (pssd_one (psd_ret (ped_var 2)))))
abbrev N__law_middle : List Str := ["rows", "top", "bottom", "name", "long", "heavy", "at", "more", "row"]
theorem sc__law_middle : FnScope N__law_middle ["rows"] (defScope s__law_middle) := ⟨rfl, rfl, rfl, by decide +kernel, rfl, by decide +kernel, by decide +kernel⟩
theorem ok__law_middle (T : Tx K mg) : Ok P w K mg base 2 "_law_middle" ["rows"] F__law_middle := by
  obtain ⟨fd, Fd⟩ := T.def_ 20 (d := d__law_middle) rfl
  refine Ok.gcF (Ok.of Fd sc__law_middle (T.glo 20) (Fd.bindsN fun _ _ _ _ _ _ us hl => match us, hl with | [_], _ => rfl) fun cdv A outer s H E hr => ?_)
  exact (pssd_cons (psd_asg (ped_tup (pad_cons ped_int (pad_cons ped_int pad_nil))) (pgd_tup rfl (pgsd_cons (pgd_name 1 sc__law_middle.nd) (pgsd_cons (pgd_name 2 sc__law_middle.nd) pgsd_nil))))
    (pssd_cons (psd_for PassesOwn.never rfl (pid_any (ped_var 0)) (pgd_tup rfl (pgsd_cons (pgd_name 3 sc__law_middle.nd) (pgsd_cons (pgd_name 4 sc__law_middle.nd) (pgsd_cons (pgd_name 5 sc__law_middle.nd) (pgsd_cons (pgd_name 6 sc__law_middle.nd) pgsd_nil))))) (pssd_cons (psd_set (i := 7) sc__law_middle.nd (ped_mul (ped_var 5) (ped_add (ped_mul ped_int (ped_ix (ped_var 6) ped_int)) (ped_mul (ped_var 4) (ped_ix (ped_var 6) ped_int)))))
    (pssd_one (psd_asg (ped_call (ok__law_lowest T) hr (pad_cons (ped_add (ped_mul (ped_var 1) (ped_ix (ped_var 6) ped_int)) (ped_mul (ped_var 7) (ped_var 2))) (pad_cons (ped_mul (ped_var 2) (ped_ix (ped_var 6) ped_int)) pad_nil))) (pgd_tup rfl (pgsd_cons (pgd_name 1 sc__law_middle.nd) (pgsd_cons (pgd_name 2 sc__law_middle.nd) pgsd_nil)))))))
    (pssd_one (psd_ret (ped_call (ok__law_lowest T) hr (pad_cons (ped_var 1) (pad_cons (ped_mul (ped_mul (ped_var 2) ped_int) (ped_cb (cr_sum rfl) cd_sum (by rfl) (T.free 39) (by decide +kernel) (pad_cons (ped_lc (own := [("row", 8)]) rfl sc__law_middle.nd (pid_any (ped_var 0)) (blkOk_by (N := N__law_middle) (sc := defScope s__law_middle) (by decide +kernel)) (fun _ _ _ _ _ => (pgd_name 8 sc__law_middle.nd)) (fun _ _ _ _ _ => ptsd_nil) (fun _ _ _ _ _ => (ped_ix (ped_var 8) ped_int))) pad_nil))) pad_nil)))))))
abbrev N__law_right : List Str := ["row"]
theorem sc__law_right : FnScope N__law_right ["row"] (defScope s__law_right) := ⟨rfl, rfl, rfl, by decide +kernel, rfl, by decide +kernel, by decide +kernel⟩
theorem ok__law_right (T : Tx K mg) : Ok P w K mg base 2 "_law_right" ["row"] F__law_right := by
  obtain ⟨fd, Fd⟩ := T.def_ 21 (d := d__law_right) rfl
  refine Ok.gcF (Ok.of Fd sc__law_right (T.glo 21) (Fd.bindsN fun _ _ _ _ _ _ us hl => match us, hl with | [_], _ => rfl) fun cdv A outer s H E hr => ?_)
  exact (pssd_one (psd_ret (ped_call (ok__law_lowest T) hr (pad_cons (ped_add (ped_ix (ped_ix (ped_var 0) ped_int) ped_int) (ped_mul (ped_ix (ped_var 0) ped_int) (ped_ix (ped_ix (ped_var 0) ped_int) ped_int))) (pad_cons (ped_ix (ped_ix (ped_var 0) ped_int) ped_int) pad_nil)))))
abbrev N__law_between : List Str := ["bag", "low", "high", "part", "one", "other"]
theorem sc__law_between : FnScope N__law_between ["bag", "low", "high"] (defScope s__law_between) := ⟨rfl, rfl, rfl, by decide +kernel, rfl, by decide +kernel, by decide +kernel⟩
theorem ok__law_between (T : Tx K mg) : Ok P w K mg base 2 "_law_between" ["bag", "low", "high"] F__law_between := by
  obtain ⟨fd, Fd⟩ := T.def_ 22 (d := d__law_between) rfl
  refine Ok.gcF (Ok.of Fd sc__law_between (T.glo 22) (Fd.bindsN fun _ _ _ _ _ _ us hl => match us, hl with | [_, _, _], _ => rfl) fun cdv A outer s H E hr => ?_)
  exact (pssd_cons (psd_set (i := 3) sc__law_between.nd (ped_call (ok__law_take T) hr (pad_cons (ped_var 0) (pad_cons ped_int pad_nil))))
    (pssd_cons (psd_par (i := 4) (j := 5) rfl sc__law_between.nd (pad_cons (ped_mul (ped_ix (ped_var 1) ped_int) (ped_ix (ped_var 2) ped_int)) (pad_cons (ped_mul (ped_ix (ped_var 2) ped_int) (ped_ix (ped_var 1) ped_int)) pad_nil)))
    (pssd_one (psd_ret (ped_call (ok__law_lowest T) hr (pad_cons (ped_add (ped_mul (ped_var 4) (ped_sub ped_int (ped_var 3))) (ped_mul (ped_var 5) (ped_var 3))) (pad_cons (ped_mul (ped_mul ped_int (ped_ix (ped_var 1) ped_int)) (ped_ix (ped_var 2) ped_int)) pad_nil)))))))
abbrev N__law_pile : List Str := ["bag", "most", "rows", "name", "long", "heavy", "at", "here", "far", "room", "by", "row"]
theorem sc__law_pile : FnScope N__law_pile ["bag", "most"] (defScope s__law_pile) := ⟨rfl, rfl, rfl, by decide +kernel, rfl, by decide +kernel, by decide +kernel⟩
theorem ok__law_pile (T : Tx K mg) : Ok P w K mg base 3 "_law_pile" ["bag", "most"] F__law_pile := by
  obtain ⟨fd, Fd⟩ := T.def_ 23 (d := d__law_pile) rfl
  refine Ok.gcF (Ok.of Fd sc__law_pile (T.glo 23) (Fd.bindsN fun _ _ _ _ _ _ us hl => match us, hl with | [_, _], _ => rfl) fun cdv A outer s H E hr => ?_)
  exact (pssd_cons (psd_set (i := 2) sc__law_pile.nd (ped_lst pad_nil))
    (pssd_cons (psd_for PassesOwn.never rfl (pid_any (ped_call (ok__law_mixed T) hr (pad_cons (ped_var 0) (pad_cons (ped_call (ok__law_blocks T) hr (pad_cons (ped_var 0) (pad_cons (ped_var 1) pad_nil))) pad_nil)))) (pgd_tup rfl (pgsd_cons (pgd_name 3 sc__law_pile.nd) (pgsd_cons (pgd_name 4 sc__law_pile.nd) (pgsd_cons (pgd_name 5 sc__law_pile.nd) pgsd_nil)))) (pssd_cons (psd_set (i := 6) sc__law_pile.nd (ped_call (ok__law_part T) hr (pad_cons (ped_var 0) pad_nil)))
    (pssd_cons (psd_if (ptd_c (cmp_ne hr) (ped_var 2) (ped_lst pad_nil)) (pssd_cons (psd_set (i := 7) sc__law_pile.nd (ped_call (ok__law_middle T) hr (pad_cons (ped_var 2) pad_nil)))
    (pssd_one (psd_set (i := 6) sc__law_pile.nd (ped_call (ok__law_between T) hr (pad_cons (ped_var 0) (pad_cons (ped_tup (pad_cons (ped_sub (ped_ix (ped_var 7) ped_int) (ped_mul (ped_var 4) (ped_ix (ped_var 7) ped_int))) (pad_cons (ped_ix (ped_var 7) ped_int) pad_nil))) (pad_cons (ped_var 7) pad_nil))))))) pssd_nil)
    (pssd_one (psd_set (i := 2) sc__law_pile.nd (ped_add (ped_lst (pad_cons (ped_tup (pad_cons (ped_var 3) (pad_cons (ped_var 4) (pad_cons (ped_var 5) (pad_cons (ped_var 6) pad_nil))))) pad_nil)) (ped_var 2)))))))
    (pssd_cons (psd_par (i := 8) (j := 9) rfl sc__law_pile.nd (pad_cons (ped_call (ok__law_middle T) hr (pad_cons (ped_var 2) pad_nil)) (pad_cons (ped_call (ok__law_right T) hr (pad_cons (ped_ix (ped_var 2) ped_int) pad_nil)) pad_nil)))
    (pssd_cons (psd_set (i := 10) sc__law_pile.nd (ped_call (ok__law_between T) hr (pad_cons (ped_var 0) (pad_cons (ped_tup (pad_cons (ped_neg (ped_ix (ped_var 9) ped_int)) (pad_cons (ped_ix (ped_var 9) ped_int) pad_nil))) (pad_cons (ped_tup (pad_cons (ped_neg (ped_ix (ped_var 8) ped_int)) (pad_cons (ped_ix (ped_var 8) ped_int) pad_nil))) pad_nil)))))
    (pssd_one (psd_ret (ped_ct call_tuple_of cd_tuple (by rfl) (T.free 40) (by decide +kernel) (pad_cons (ped_lc (own := [("row", 11)]) rfl sc__law_pile.nd (pid_any (ped_var 2)) (blkOk_by (N := N__law_pile) (sc := defScope s__law_pile) (by decide +kernel)) (fun _ _ _ _ _ => (pgd_name 11 sc__law_pile.nd)) (fun _ _ _ _ _ => ptsd_nil) (fun _ _ _ _ _ => (ped_add (ped_sl (ped_var 11) pod_none (pod_some ped_int)) (ped_tup (pad_cons (ped_call (ok__law_plus T) hr (pad_cons (ped_ix (ped_var 11) ped_int) (pad_cons (ped_var 10) pad_nil))) pad_nil))))) pad_nil))))))))
abbrev N__law_any : List Str := ["bag", "most", "pile", "kind_so", "at", "row", "one"]
theorem sc__law_any : FnScope N__law_any ["bag", "most"] (defScope s__law_any) := ⟨rfl, rfl, rfl, by decide +kernel, rfl, by decide +kernel, by decide +kernel⟩
theorem ok__law_any (T : Tx K mg) : Ok P w K mg base 4 "_law_any" ["bag", "most"] F__law_any := by
  obtain ⟨fd, Fd⟩ := T.def_ 24 (d := d__law_any) rfl
  refine Ok.gcF (Ok.of Fd sc__law_any (T.glo 24) (Fd.bindsN fun _ _ _ _ _ _ us hl => match us, hl with | [_, _], _ => rfl) fun cdv A outer s H E hr => ?_)
  exact (pssd_cons (psd_set (i := 2) sc__law_any.nd (ped_call (ok__law_pile T) hr (pad_cons (ped_var 0) (pad_cons (ped_var 1) pad_nil))))
    (pssd_cons (psd_set (i := 3) sc__law_any.nd (ped_call (ok__law_take T) hr (pad_cons (ped_var 0) (pad_cons ped_int pad_nil))))
    (pssd_cons (psd_if (ptd_c (cmp_eq hr) (ped_var 3) ped_int) (pssd_one (psd_ret (ped_var 2))) pssd_nil)
    (pssd_cons (psd_set (i := 4) sc__law_any.nd (ped_call (ok__law_take T) hr (pad_cons (ped_var 0) (pad_cons (ped_cb call_lenA cd_len (by rfl) (T.free 34) (by decide +kernel) (pad_cons (ped_var 2) pad_nil)) pad_nil))))
    (pssd_cons (psd_set (i := 5) sc__law_any.nd (ped_add (ped_sl (ped_ix (ped_var 2) (ped_var 4)) pod_none (pod_some ped_int)) (ped_tup (pad_cons (ped_call (ok__law_plus T) hr (pad_cons (ped_ix (ped_ix (ped_var 2) (ped_var 4)) ped_int) (pad_cons (ped_call (ok__law_part T) hr (pad_cons (ped_var 0) pad_nil)) pad_nil))) pad_nil))))
    (pssd_cons (psd_if (ptd_c (cmp_eq hr) (ped_var 3) ped_int) (pssd_one (psd_ret (ped_add (ped_add (ped_sl (ped_var 2) pod_none (pod_some (ped_var 4))) (ped_tup (pad_cons (ped_var 5) pad_nil))) (ped_sl (ped_var 2) (pod_some (ped_add (ped_var 4) ped_int)) pod_none)))) pssd_nil)
    (pssd_one (psd_ret (ped_ct call_tuple_of cd_tuple (by rfl) (T.free 40) (by decide +kernel) (pad_cons (ped_lc (own := [("one", 6)]) rfl sc__law_any.nd (pid_any (ped_var 2)) (blkOk_by (N := N__law_any) (sc := defScope s__law_any) (by decide +kernel)) (fun _ _ _ _ _ => (pgd_name 6 sc__law_any.nd)) (fun _ _ _ _ _ => ptsd_nil) (fun _ _ _ _ _ => (ped_add (ped_sl (ped_var 6) pod_none (pod_some ped_int)) (ped_tup (pad_cons (ped_call (ok__law_part T) hr (pad_cons (ped_var 0) pad_nil)) pad_nil))))) pad_nil))))))))))
abbrev N__law_is_fraction : List Str := ["thing"]
theorem sc__law_is_fraction : FnScope N__law_is_fraction ["thing"] (defScope s__law_is_fraction) := ⟨rfl, rfl, rfl, by decide +kernel, rfl, by decide +kernel, by decide +kernel⟩
theorem ok__law_is_fraction (T : Tx K mg) : Ok P w K mg base 2 "_law_is_fraction" ["thing"] F__law_is_fraction := by
  obtain ⟨fd, Fd⟩ := T.def_ 25 (d := d__law_is_fraction) rfl
  refine Ok.gcF (Ok.of Fd sc__law_is_fraction (T.glo 25) (Fd.bindsN fun _ _ _ _ _ _ us hl => match us, hl with | [_], _ => rfl) fun cdv A outer s H E hr => ?_)
  exact (pssd_cons (psd_if (ptd_w (pwd_or (ptd_not (ptd_v (ped_cb call_isiA cd_isi (by rfl) (T.free 33) (by decide +kernel) (pad_cons (ped_var 0) (pad_cons (ped_ty (by rfl) (T.free 40) (by decide +kernel)) pad_nil))))) (pwd_or1 (ptd_c (cmp_ne hr) (ped_cb call_lenA cd_len (by rfl) (T.free 34) (by decide +kernel) (pad_cons (ped_var 0) pad_nil)) ped_int)))) (pssd_one (psd_ret ped_bl)) pssd_nil)
    (pssd_cons (psd_if (ptd_w (pwd_or (ptd_not (ptd_v (ped_call (ok__law_whole T) hr (pad_cons (ped_ix (ped_var 0) ped_int) pad_nil)))) (pwd_or1 (ptd_not (ptd_v (ped_call (ok__law_whole T) hr (pad_cons (ped_ix (ped_var 0) ped_int) pad_nil))))))) (pssd_one (psd_ret ped_bl)) pssd_nil)
    (pssd_one (psd_ret (ped_and (ped_c cmp_gt (ped_ix (ped_var 0) ped_int) ped_int) (ped_one (ped_c (cmp_eq hr) (ped_call (ok__law_lowest T) hr (pad_cons (ped_ix (ped_var 0) ped_int) (pad_cons (ped_ix (ped_var 0) ped_int) pad_nil))) (ped_var 0))))))))
abbrev N__law_is_block : List Str := ["thing"]
theorem sc__law_is_block : FnScope N__law_is_block ["thing"] (defScope s__law_is_block) := ⟨rfl, rfl, rfl, by decide +kernel, rfl, by decide +kernel, by decide +kernel⟩
theorem ok__law_is_block (T : Tx K mg) : Ok P w K mg base 2 "_law_is_block" ["thing"] F__law_is_block := by
  obtain ⟨fd, Fd⟩ := T.def_ 26 (d := d__law_is_block) rfl
  refine Ok.gcF (Ok.of Fd sc__law_is_block (T.glo 26) (Fd.bindsN fun _ _ _ _ _ _ us hl => match us, hl with | [_], _ => rfl) fun cdv A outer s H E hr => ?_)
  exact (pssd_cons (psd_if (ptd_w (pwd_or (ptd_not (ptd_v (ped_cb call_isiA cd_isi (by rfl) (T.free 33) (by decide +kernel) (pad_cons (ped_var 0) (pad_cons (ped_ty (by rfl) (T.free 40) (by decide +kernel)) pad_nil))))) (pwd_or (ptd_c (cmp_ne hr) (ped_cb call_lenA cd_len (by rfl) (T.free 34) (by decide +kernel) (pad_cons (ped_var 0) pad_nil)) ped_int) (pwd_or1 (ptd_not (ptd_v (ped_call (ok__law_is_name T) hr (pad_cons (ped_ix (ped_var 0) ped_int) pad_nil)))))))) (pssd_one (psd_ret ped_bl)) pssd_nil)
    (pssd_one (psd_ret (ped_and (ped_call (ok__law_within T) hr (pad_cons (ped_ix (ped_var 0) ped_int) (pad_cons ped_int (pad_cons ped_int pad_nil)))) (ped_one (ped_call (ok__law_within T) hr (pad_cons (ped_ix (ped_var 0) ped_int) (pad_cons ped_int (pad_cons ped_int pad_nil)))))))))
abbrev N__law_is_pile : List Str := ["thing", "names", "row"]
theorem sc__law_is_pile : FnScope N__law_is_pile ["thing"] (defScope s__law_is_pile) := ⟨rfl, rfl, rfl, by decide +kernel, rfl, by decide +kernel, by decide +kernel⟩
theorem ok__law_is_pile (T : Tx K mg) : Ok P w K mg base 3 "_law_is_pile" ["thing"] F__law_is_pile := by
  obtain ⟨fd, Fd⟩ := T.def_ 27 (d := d__law_is_pile) rfl
  refine Ok.gcF (Ok.of Fd sc__law_is_pile (T.glo 27) (Fd.bindsN fun _ _ _ _ _ _ us hl => match us, hl with | [_], _ => rfl) fun cdv A outer s H E hr => ?_)
  exact (pssd_cons (psd_if (ptd_w (pwd_or (ptd_not (ptd_v (ped_cb call_isiA cd_isi (by rfl) (T.free 33) (by decide +kernel) (pad_cons (ped_var 0) (pad_cons (ped_ty (by rfl) (T.free 40) (by decide +kernel)) pad_nil))))) (pwd_or1 (ptd_c cmp_gt (ped_cb call_lenA cd_len (by rfl) (T.free 34) (by decide +kernel) (pad_cons (ped_var 0) pad_nil)) ped_int)))) (pssd_one (psd_ret ped_bl)) pssd_nil)
    (pssd_cons (psd_set (i := 1) sc__law_is_pile.nd (ped_lst pad_nil))
    (pssd_cons (psd_for PassesOwn.never rfl (pid_any (ped_var 0)) (pgd_name 2 sc__law_is_pile.nd) (pssd_cons (psd_if (ptd_w (pwd_or (ptd_not (ptd_v (ped_cb call_isiA cd_isi (by rfl) (T.free 33) (by decide +kernel) (pad_cons (ped_var 2) (pad_cons (ped_ty (by rfl) (T.free 40) (by decide +kernel)) pad_nil))))) (pwd_or (ptd_c (cmp_ne hr) (ped_cb call_lenA cd_len (by rfl) (T.free 34) (by decide +kernel) (pad_cons (ped_var 2) pad_nil)) ped_int) (pwd_or1 (ptd_not (ptd_v (ped_call (ok__law_is_block T) hr (pad_cons (ped_sl (ped_var 2) pod_none (pod_some ped_int)) pad_nil)))))))) (pssd_one (psd_ret ped_bl)) pssd_nil)
    (pssd_cons (psd_if (ptd_w (pwd_or (ptd_not (ptd_v (ped_call (ok__law_is_fraction T) hr (pad_cons (ped_ix (ped_var 2) ped_int) pad_nil)))) (pwd_or1 (ptd_in hr (ped_ix (ped_var 2) ped_int) (ped_var 1))))) (pssd_one (psd_ret ped_bl)) pssd_nil)
    (pssd_one (psd_drop (ped_app (ped_var 1) (pad_cons (ped_ix (ped_var 2) ped_int) pad_nil)))))))
    (pssd_one (psd_ret ped_bl)))))
abbrev N_law : List Str := ["script", "k", "bag", "pile", "block", "eight", "edge", "some", "thing", "turn", "told", "letter", "said"]
theorem sc_law : FnScope N_law ["script"] (defScope s_law) := ⟨rfl, rfl, rfl, by decide +kernel, rfl, by decide +kernel, by decide +kernel⟩
theorem ok_law (T : Tx K mg) {fd : FuncData} (Fd : FunD K "law" "law" (defArgs s_law) (defBody s_law) (defScope s_law) [] [] (He.ga K "law") fd) : FnOk P w K mg base CX0 34 (He.ga K "law") fd ["script"] (SpOf K 1 F_law01) := by
  refine fn_body Fd sc_law fun cdv A outer s H E hr => ?_
  exact (pssd_cons (psd_for PassesOwn.never rfl (pid_r1 (by rfl) (T.free 37) (pad_cons (ped_add ped_int (ped_cb (call_min2 rfl) cd_min2 (by rfl) (T.free 36) (by decide +kernel) (pad_cons (ped_cb call_lenA cd_len (by rfl) (T.free 34) (by decide +kernel) (pad_cons (ped_var 0) pad_nil)) (pad_cons ped_int pad_nil)))) pad_nil)) (pgd_name 1 sc_law.nd) (pssd_cons (psd_set (i := 2) sc_law.nd (ped_call (ok__law_bag T) hr (pad_cons (ped_var 0) (pad_cons (ped_var 1) pad_nil))))
    (pssd_cons (psd_par (i := 3) (j := 4) rfl sc_law.nd (pad_cons (ped_call (ok__law_any T) hr (pad_cons (ped_var 2) (pad_cons ped_int pad_nil))) (pad_cons (ped_call (ok__law_of T) hr (pad_cons (ped_var 2) (pad_cons (ped_call (ok__law_blocks T) hr (pad_cons (ped_var 2) (pad_cons ped_int pad_nil))) pad_nil))) pad_nil)))
    (pssd_cons (psd_set (i := 5) sc_law.nd (ped_ct call_tuple_of cd_tuple (by rfl) (T.free 40) (by decide +kernel) (pad_cons (ped_lc (own := [("letter", 11)]) rfl sc_law.nd (pid_str ped_str) (blkOk_by (N := N_law) (sc := defScope s_law) (by decide +kernel)) (fun _ _ _ _ _ => (pgd_name 11 sc_law.nd)) (fun _ _ _ _ _ => ptsd_nil) (fun _ _ _ _ _ => (ped_tup (pad_cons (ped_add ped_str (ped_var 11)) (pad_cons ped_int (pad_cons ped_int (pad_cons (ped_tup (pad_cons ped_int (pad_cons ped_int pad_nil))) pad_nil))))))) pad_nil)))
    (pssd_cons (psd_set (i := 6) sc_law.nd (ped_tup (pad_cons ped_str (pad_cons (ped_call (ok__law_of T) hr (pad_cons (ped_var 2) (pad_cons (ped_lst (pad_cons ped_int (pad_cons ped_int (pad_cons ped_int (pad_cons ped_int pad_nil))))) pad_nil))) (pad_cons (ped_call (ok__law_of T) hr (pad_cons (ped_var 2) (pad_cons (ped_lst (pad_cons ped_int (pad_cons ped_int (pad_cons ped_int (pad_cons ped_int pad_nil))))) pad_nil))) pad_nil)))))
    (pssd_cons (psd_set (i := 7) sc_law.nd (ped_lst (pad_cons (ped_var 5) (pad_cons (ped_sl (ped_var 5) pod_none (pod_some ped_int)) (pad_cons (ped_add (ped_var 3) (ped_sl (ped_var 3) pod_none (pod_some ped_int))) (pad_cons (ped_ct call_list_of cd_list (by rfl) (T.free 35) (by decide +kernel) (pad_cons (ped_var 3) pad_nil)) (pad_cons (ped_var 6) (pad_cons (ped_tup (pad_cons (ped_add (ped_var 6) (ped_tup (pad_cons (ped_tup (pad_cons (ped_neg ped_int) (pad_cons ped_int pad_nil))) pad_nil))) pad_nil)) (pad_cons (ped_tup pad_nil) pad_nil)))))))))
    (pssd_cons (psd_for PassesOwn.never rfl (pid_any (ped_add (ped_var 7) (ped_lst (pad_cons (ped_call (ok__law_odd T) hr (pad_cons (ped_var 2) pad_nil)) pad_nil)))) (pgd_name 8 sc_law.nd) (pssd_one (psd_if (ptd_w (pwd_or (ptd_c (cmp_ne hr) (ped_call (ok_is_pile T) hr (pad_cons (ped_var 8) pad_nil)) (ped_call (ok__law_is_pile T) hr (pad_cons (ped_var 8) pad_nil))) (pwd_or1 (ptd_c (cmp_ne hr) (ped_call (ok_is_block T) hr (pad_cons (ped_var 8) pad_nil)) (ped_call (ok__law_is_block T) hr (pad_cons (ped_var 8) pad_nil)))))) (pssd_one (psd_ret ped_bl)) pssd_nil)))
    (pssd_one (psd_for PassesOwn.never rfl (pid_r1 (by rfl) (T.free 37) (pad_cons ped_int pad_nil)) (pgd_name 9 sc_law.nd) (pssd_cons (psd_set (i := 10) sc_law.nd (ped_lst (pad_cons (ped_call (ok_is_pile T) hr (pad_cons (ped_var 3) pad_nil)) (pad_cons (ped_call (ok_is_block T) hr (pad_cons (ped_var 4) pad_nil)) pad_nil))))
    (pssd_cons (psd_if (ptd_c (cmp_ne hr) (ped_var 10) (ped_lst (pad_cons (ped_call (ok__law_is_pile T) hr (pad_cons (ped_var 3) pad_nil)) (pad_cons (ped_call (ok__law_is_block T) hr (pad_cons (ped_var 4) pad_nil)) pad_nil)))) (pssd_one (psd_ret ped_bl)) pssd_nil)
    (pssd_cons (psd_if (ptd_c (cmp_ne hr) (ped_lc (own := [("said", 12)]) rfl sc_law.nd (pid_any (ped_var 10)) (blkOk_by (N := N_law) (sc := defScope s_law) (by decide +kernel)) (fun _ _ _ _ _ => (pgd_name 12 sc_law.nd)) (fun _ _ _ _ _ => (ptsd_one (ptd_not (ptd_v (ped_cb call_isiA cd_isi (by rfl) (T.free 33) (by decide +kernel) (pad_cons (ped_var 12) (pad_cons (ped_ty (by rfl) (T.free 31) (by decide +kernel)) pad_nil))))))) (fun _ _ _ _ _ => (ped_var 12))) (ped_lst pad_nil)) (pssd_one (psd_ret ped_bl)) pssd_nil)
    (pssd_one (psd_par (i := 3) (j := 4) rfl sc_law.nd (pad_cons (ped_callN (ok__law_spoilt T 30) hr (pad_cons (ped_var 2) (pad_cons (ped_var 3) pad_nil))) (pad_cons (ped_callN (ok__law_spoilt T 30) hr (pad_cons (ped_var 2) (pad_cons (ped_var 4) pad_nil))) pad_nil))))))))))))))))
    (pssd_one (psd_ret ped_bl)))
end
end G
namespace G
open PySem PySem.Spec PyProof.Rows L2 Dl
abbrev R : PySem.W.OpenRow := PySem.W.OpenLaw.row PySem.Challenge.rw_edgestack_k01_blocks_and_piles_told
abbrev hk : PySem.W.Hook := He.hookD 4 fa fn
def ob (s : PySem.W.SharedT) : He.AlD := He.obsDG 4 fa fn (HandSHeadRun.getT s)
theorem ob_eq (s : PySem.W.SharedT) : ob s = hk.obs s.abs := He.obsDG_eq (HandSHeadRun.getT_eq s)
theorem run (w : World) : HandSHeadRun.RunEq R (PySem.W.view R.prog [33]) hk ob 6000 loose w := by
  intro os
  kernel_rfl
end G
open PySem PySem.W PySem.Calls PyProof.Rows
theorem PySem.Challenge.cw_edgestack_k01_blocks_and_piles_told_holds : PySem.Challenge.rw_edgestack_k01_blocks_and_piles_told.Holds := by
  w_on; o_law
  refine HandSHeadRun.head_any (r := OpenLaw.row PySem.Challenge.rw_edgestack_k01_blocks_and_piles_told) (q := view (OpenLaw.row PySem.Challenge.rw_edgestack_k01_blocks_and_piles_told).prog [33]) (H := G.hk) (ob := G.ob) (M := 6000) (loose := G.loose) (d := HandSHeadRun.topDef (OpenLaw.row PySem.Challenge.rw_edgestack_k01_blocks_and_piles_told).prog 33) (kwd := []) G.ob_eq
    (by kernel_rfl) (fun s => by kernel_rfl) G.run (by kernel_rfl) (by kernel_rfl) (by kernel_rfl) (by rfl) (by first | assumption | decide +kernel) (by decide +kernel) ⟨rfl, rfl, rfl, rfl, rfl, by decide +kernel⟩ ?hw ?hc
  case hw => w_witness2
  case hc =>
    refine L2.walk_ofE (l := PySem.Challenge.rw_edgestack_k01_blocks_and_piles_told) (n := 63) (k := 200) (x := "script") (CX := L2.CX0) rfl (by decide) (by kernel_rfl) ⟨rfl, by decide, by decide⟩ ?F (fun _ _ _ _ z => z)
    intro w mg fa h Y Gm hmg0
    obtain ⟨K, KX, c⟩ := Y
    have hmg : mg ("law" : PySem.Str) = some (.ref fa) := by
      have e : (HandSHeadRun.topDef (OpenLaw.row PySem.Challenge.rw_edgestack_k01_blocks_and_piles_told).prog 33).name = ("law" : PySem.Str) := by kernel_rfl
      rw [← e]
      exact hmg0
    have T : G.Tx K mg := ⟨⟨h, KX, Gm⟩, c⟩
    obtain ⟨fd, Fd⟩ := T.def_ 28 (d := G.d_law) rfl
    have e2 := hmg.symm.trans (T.glo 28)
    cases e2
    have b := L2.FunD.bindsA (ps := ["script"]) Fd fun _ _ _ _ _ _ us hl => match us, hl with | [_], _ => rfl
    refine ⟨K, fd, Dl.SpOf K 1 Dl.F_law01, KX, fun s v => b s [v] rfl, fun H a ns hl hO hS => Dl.law_start hO hS (Dl.fin01 ns hl), fun base _ _ => ?_⟩
    exact (G.ok_law T Fd).mono (by decide)
