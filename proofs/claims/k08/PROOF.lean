import PyProof.Rows.All
import Wide.All
import OpenK.AllK
import Wide.FinOn
import HandS.ForMost
import HandS.Wide
import HandS.Zip
import HandS.Walk
import HandS.TupMul
import HandS.TupAny
import KE.GoesNew
import HandS.Deep
import HandS.IsInst
import KE.SortData
import HandS.Dict
import HandS.Conv
import PyProof.Rows.TupDisplay
import KE.SortKeyHeap
import PySem.Challenge.RW_raftwalk_k08_whole_alike_reaches_ask_onl
set_option Elab.async false
set_option linter.all false
set_option maxRecDepth 100000
set_option maxHeartbeats 4000000
/-! Dl: a layer over the hand layer in which a slot holds data (a tree) or a cell (a list or dict that is changed); everything that is not a cell is never changed. -/
namespace Dl
open PySem PySem.Spec PyProof.Rows L2

/-- what a slot holds, what an expression gives -/
inductive W where
  | d (x : PyData)
  | c (a : Addr)
/-- what stands in a cell -/
inductive Cl where
  | lst (ds : List PyData)
  | dic (kvs : List (List Str × PyData))
abbrev Sto := Addr → Option Cl
abbrev En := List (Option W)
def put (S : Sto) (a : Addr) (c : Cl) : Sto := fun b => if b = a then some c else S b
def del (S : Sto) (a : Addr) : Sto := fun b => if b = a then none else S b
theorem put_same {S : Sto} {a : Addr} {c : Cl} : put S a c a = some c := by unfold put; rw [if_pos rfl]
theorem put_ne {S : Sto} {a b : Addr} {c : Cl} (h : b ≠ a) : put S a c b = S b := by unfold put; rw [if_neg h]
theorem put_put {S : Sto} {a : Addr} {c c' : Cl} : put (put S a c) a c' = put S a c' := by
  funext b; unfold put; split <;> rfl
theorem put_comm {S : Sto} {a b : Addr} {c c' : Cl} (h : a ≠ b) : put (put S a c) b c' = put (put S b c') a c := by
  funext x; unfold put
  by_cases h1 : x = b
  · by_cases h2 : x = a
    · exact absurd (h2.symm.trans h1) h
    · simp [h1, h2, Ne.symm h]
  · simp [h1]
theorem put_eta {S : Sto} {a : Addr} {c : Cl} (h : S a = some c) : put S a c = S := by
  funext x; unfold put
  by_cases h1 : x = a
  · rw [if_pos h1, h1, h]
  · rw [if_neg h1]

/-! ### data: as the hand layer has it, but that a tuple of texts alone is one that the heap shows as it is -/
def strD : PyData → Bool
  | .str _ => true
  | _ => false
def TqT (K : PySem.W.Frag) (F : Hp) (a : Addr) (us : List V) (ds : List PyData) : Prop := F a = some (.tup us) ∨ (SqT K F a us ∧ ∃ d ∈ ds, strD d = false)
theorem TqT.sq {K : PySem.W.Frag} {F : Hp} {a : Addr} {us : List V} {ds : List PyData} (h : TqT K F a us ds) : SqT K F a us := by
  rcases h with h | h
  · exact .inl (.inl h)
  · exact h.1
mutual
inductive Dp (K : PySem.W.Frag) (F : Hp) : V → PyData → Prop
  | non : Dp K F .non .none
  | bl (z : Bool) : Dp K F (.bl z) (.bool z)
  | int (z : Int) : Dp K F (.int z) (.int z)
  | str (z : Str) : Dp K F (.str z) (.str z)
  | lst {a : Addr} {us : List V} {ds : List PyData} (s : SqL K F a us) (t : DpAll K F us ds) : Dp K F (.ref a) (.list ds)
  | tup {a : Addr} {us : List V} {ds : List PyData} (s : TqT K F a us ds) (t : DpAll K F us ds) : Dp K F (.ref a) (.tuple ds)
inductive DpAll (K : PySem.W.Frag) (F : Hp) : List V → List PyData → Prop
  | nil : DpAll K F [] []
  | cons {u : V} {us : List V} {d : PyData} {ds : List PyData} (s : Dp K F u d) (t : DpAll K F us ds) : DpAll K F (u :: us) (d :: ds)
end
mutual
theorem dp2 {K : PySem.W.Frag} {F : Hp} : ∀ (d : PyData) (v : V), Dp K F v d → L2.Dp K F v d
  | .none, _, h => by cases h; exact .non
  | .bool b, _, h => by cases h; exact .bl b
  | .int i, _, h => by cases h; exact .int i
  | .str x, _, h => by cases h; exact .str x
  | .list ds, _, h => by
    cases h with
    | lst s a => exact .lst s (dp2s ds _ a)
  | .tuple ds, _, h => by
    cases h with
    | tup s a => exact .tup s.sq (dp2s ds _ a)
  | .dict _, _, h => by cases h
theorem dp2s {K : PySem.W.Frag} {F : Hp} : ∀ (ds : List PyData) (vs : List V), DpAll K F vs ds → L2.DpAll K F vs ds
  | [], _, h => by cases h; exact .nil
  | d :: ds, _, h => by
    cases h with
    | cons a b => exact .cons (dp2 d _ a) (dp2s ds _ b)
end
theorem das_len2 {K : PySem.W.Frag} {F : Hp} : ∀ {vs : List V} {ds : List PyData}, L2.DpAll K F vs ds → vs.length = ds.length
  | _, _, .nil => rfl
  | _, _, .cons _ t => by rw [List.length_cons, List.length_cons, das_len2 t]
/-! ### data in a heap that only grows -/
theorem seqT_mono {K : PySem.W.Frag} {F F' : Hp} {a : Addr} {xs : List V} (e : Same F F') (h : SqT K F a xs) : SqT K F' a xs := by
  rcases h with (h | ⟨o, h⟩) | h
  · exact .inl (.inl (e _ _ h))
  · exact .inl (.inr ⟨o, e _ _ h⟩)
  · exact .inr h
theorem tq_mono {K : PySem.W.Frag} {F F' : Hp} {a : Addr} {us : List V} {ds : List PyData} (e : Same F F') (h : TqT K F a us ds) : TqT K F' a us ds := by
  rcases h with h | ⟨h, z⟩
  · exact .inl (e _ _ h)
  · exact .inr ⟨seqT_mono e h, z⟩
mutual
theorem dpm {K : PySem.W.Frag} {F F' : Hp} (e : Same F F') : ∀ (d : PyData) (v : V), Dp K F v d → Dp K F' v d
  | .none, _, h => by cases h; exact .non
  | .bool b, _, h => by cases h; exact .bl b
  | .int i, _, h => by cases h; exact .int i
  | .str x, _, h => by cases h; exact .str x
  | .list ds, _, h => by
    cases h with
    | lst s a => exact .lst (e.seq s) (dpms e ds _ a)
  | .tuple ds, _, h => by
    cases h with
    | tup s a => exact .tup (tq_mono e s) (dpms e ds _ a)
  | .dict _, _, h => by cases h
theorem dpms {K : PySem.W.Frag} {F F' : Hp} (e : Same F F') : ∀ (ds : List PyData) (vs : List V), DpAll K F vs ds → DpAll K F' vs ds
  | [], _, h => by cases h; exact .nil
  | d :: ds, _, h => by
    cases h with
    | cons a b => exact .cons (dpm e d _ a) (dpms e ds _ b)
end
section
variable {K : PySem.W.Frag} {F : Hp}
theorem das_len : ∀ {vs : List V} {ds : List PyData}, DpAll K F vs ds → vs.length = ds.length
  | _, _, .nil => rfl
  | _, _, .cons _ t => by rw [List.length_cons, List.length_cons, das_len t]
theorem das_get : ∀ {vs : List V} {ds : List PyData} {i : Nat} {d : PyData}, DpAll K F vs ds → ds[i]? = some d → ∃ v, vs[i]? = some v ∧ Dp K F v d
  | _, _, _, _, .nil, e => by simp at e
  | _, _, 0, _, .cons r _, e => by simp at e; subst e; exact ⟨_, rfl, r⟩
  | _, _, i + 1, d, .cons _ t, e => by
    obtain ⟨u, h1, h2⟩ := das_get (i := i) (d := d) t (by simpa using e)
    exact ⟨u, by simpa using h1, h2⟩
theorem das_append : ∀ {vs ws : List V} {ds es : List PyData}, DpAll K F vs ds → DpAll K F ws es → DpAll K F (vs ++ ws) (ds ++ es)
  | _, _, _, _, .nil, s => s
  | _, _, _, _, .cons r t, s => .cons r (das_append t s)
theorem das_take : ∀ {vs : List V} {ds : List PyData} (n : Nat), DpAll K F vs ds → DpAll K F (vs.take n) (ds.take n)
  | _, _, 0, _ => .nil
  | _, _, _ + 1, .nil => .nil
  | _, _, n + 1, .cons r t => .cons r (das_take n t)
theorem das_drop : ∀ {vs : List V} {ds : List PyData} (n : Nat), DpAll K F vs ds → DpAll K F (vs.drop n) (ds.drop n)
  | _, _, 0, r => r
  | _, _, _ + 1, .nil => .nil
  | _, _, n + 1, .cons _ t => das_drop n t
theorem das_set {v : V} {d : PyData} (r : Dp K F v d) : ∀ {vs : List V} {ds : List PyData} (n : Nat), DpAll K F vs ds → DpAll K F (vs.set n v) (ds.set n d)
  | _, _, _, .nil => .nil
  | _, _, 0, .cons _ t => .cons r t
  | _, _, n + 1, .cons q t => .cons q (das_set r n t)
theorem das_rep {v : V} {d : PyData} (r : Dp K F v d) : ∀ n : Nat, DpAll K F (List.replicate n v) (List.replicate n d)
  | 0 => .nil
  | n + 1 => .cons r (das_rep r n)
theorem das_rev {vs : List V} {ds : List PyData} (h : DpAll K F vs ds) : DpAll K F vs.reverse ds.reverse := by
  induction h using DpAll.rec (motive_1 := fun _ _ _ => True) with
  | nil => exact .nil
  | cons a b _ ih => rw [List.reverse_cons, List.reverse_cons]; exact das_append ih (.cons a .nil)
  | _ => trivial
theorem das_ints : ∀ {ns : List Int} {vs : List V}, DpAll K F vs (ns.map PyData.int) → vs = ns.map V.int
  | [], _, h => by cases h; rfl
  | n :: ns, _, h => by
    cases h with
    | cons a b => cases a; rw [das_ints b]; rfl
theorem das_bls : ∀ {ns : List Bool} {vs : List V}, DpAll K F vs (ns.map PyData.bool) → vs = ns.map V.bl
  | [], _, h => by cases h; rfl
  | n :: ns, _, h => by
    cases h with
    | cons a b => cases a; rw [das_bls b]; rfl
theorem das_strs : ∀ {ns : List Str} {vs : List V}, DpAll K F vs (ns.map PyData.str) → vs = ns.map V.str
  | [], _, h => by cases h; rfl
  | n :: ns, _, h => by
    cases h with
    | cons a b => cases a; rw [das_strs b]; rfl
theorem das_int : ∀ ns : List Int, DpAll K F (ns.map V.int) (ns.map PyData.int)
  | [] => .nil
  | n :: ns => .cons (.int n) (das_int ns)
theorem das_str : ∀ ns : List Str, DpAll K F (ns.map V.str) (ns.map PyData.str)
  | [] => .nil
  | n :: ns => .cons (.str n) (das_str ns)
end

/-! ### the heap: what is fixed (F), what stands in cells (S) -/
def WR (K : PySem.W.Frag) (F : Hp) (v : V) : W → Prop
  | .d x => Dp K F v x
  | .c a => v = .ref a
def ClR (K : PySem.W.Frag) (F H : Hp) (a : Addr) : Cl → Prop
  | .lst ds => ∃ vs, H a = some (.lst vs) ∧ DpAll K F vs ds
  | .dic kvs => ∃ es : List (List Key × V), H a = some (.dT es) ∧ Paired (fun (e : List Key × V) (p : List Str × PyData) => e.1 = p.1.map Sum.inr ∧ Dp K F e.2 p.2) es kvs
structure Abs (K : PySem.W.Frag) (F : Hp) (S : Sto) (H : Hp) : Prop where
  fz : Same F H
  cl : ∀ a c, S a = some c → F a = none ∧ ClR K F H a c
structure Ext (F : Hp) (S : Sto) (H F' : Hp) (S' : Sto) (H' : Hp) : Prop where
  fz : Same F F'
  kp : ∀ a o, H a = some o → S a = none → H' a = some o ∧ S' a = none ∧ (F a = none → (∀ xs, o ≠ .tup xs) → F' a = none)
def WRs (K : PySem.W.Frag) (F : Hp) : List V → List W → Prop := Paired (WR K F)
structure ER (K : PySem.W.Frag) (F : Hp) (σ : L2.St) (τ : En) : Prop where
  len : σ.length = τ.length
  at' : ∀ (i : Nat) (w : W), τ[i]? = some (some w) → ∃ v, σ[i]? = some (some v) ∧ WR K F v w
section
variable {K : PySem.W.Frag} {F F' F'' H H' H'' : Hp} {S S' S'' : Sto} {σ : L2.St} {τ : En}
theorem WR.mono {v : V} {w : W} (e : Same F F') (h : WR K F v w) : WR K F' v w := by
  cases w with
  | d x => exact dpm e x v h
  | c a => exact h
theorem WRs.mono (e : Same F F') : ∀ {vs : List V} {ws : List W}, WRs K F vs ws → WRs K F' vs ws
  | _, _, .nil => .nil
  | _, _, .cons a b => .cons (a.mono e) (WRs.mono e b)
theorem ER.mono (e : Same F F') (h : ER K F σ τ) : ER K F' σ τ := ⟨h.len, fun i w q => let ⟨v, a, b⟩ := h.at' i w q; ⟨v, a, b.mono e⟩⟩
theorem Ext.refl : Ext F S H F S H := ⟨Same.refl F, fun _ _ h n => ⟨h, n, fun z _ => z⟩⟩
theorem Ext.trans (a : Ext F S H F' S' H') (b : Ext F' S' H' F'' S'' H'') : Ext F S H F'' S'' H'' :=
  ⟨a.fz.trans b.fz, fun c o h n => let ⟨h1, n1, f1⟩ := a.kp c o h n; let ⟨h2, n2, f2⟩ := b.kp c o h1 n1; ⟨h2, n2, fun z y => f2 (f1 z y) y⟩⟩
theorem ClR.has {a : Addr} {c : Cl} (h : ClR K F H a c) : ∃ o, H a = some o := by
  cases c with
  | lst ds => obtain ⟨vs, e, _⟩ := h; exact ⟨_, e⟩
  | dic ds => obtain ⟨vs, e, _⟩ := h; exact ⟨_, e⟩
theorem pairedm {α β : Type} {R T : α → β → Prop} (f : ∀ a b, R a b → T a b) : ∀ {as : List α} {bs : List β}, Paired R as bs → Paired T as bs
  | _, _, .nil => .nil
  | _, _, .cons a b => .cons (f _ _ a) (pairedm f b)
theorem ClR.mono {a : Addr} {c : Cl} (e : Same F F') (k : ∀ o, H a = some o → H' a = some o) (h : ClR K F H a c) : ClR K F' H' a c := by
  cases c with
  | lst ds => obtain ⟨vs, q, r⟩ := h; exact ⟨vs, k _ q, dpms e ds vs r⟩
  | dic ds => obtain ⟨vs, q, r⟩ := h; exact ⟨vs, k _ q, pairedm (fun x y z => ⟨z.1, dpm e _ _ z.2⟩) r⟩
theorem Abs.free {p : Addr} (A : Abs K F S H) (n : H p = none) : S p = none ∧ F p = none := by
  refine ⟨?_, ?_⟩
  · cases q : S p with
    | none => rfl
    | some c => obtain ⟨o, e⟩ := (A.cl p c q).2.has; rw [e] at n; cases n
  · cases q : F p with
    | none => rfl
    | some c => rw [A.fz p c q] at n; cases n
theorem same_new {p : Addr} {o : HO} (n : F p = none) : Same F (upd F p o) := fun b u h => by
  rw [upd_ne (ne_of_none h n)]; exact h
/-- a new thing that is never changed -/
theorem Abs.new {p : Addr} {o : HO} (A : Abs K F S H) (n : H p = none) : Abs K (upd F p o) S (upd H p o) ∧ Ext F S H (upd F p o) S (upd H p o) := by
  obtain ⟨n1, n2⟩ := A.free n
  refine ⟨⟨fun b u h => ?_, fun a c h => ?_⟩, same_new n2, fun b u h m => ⟨same_new n b u h, m, fun z _ => by rw [upd_ne (ne_of_none h n)]; exact z⟩⟩
  · by_cases hb : b = p
    · subst hb; rw [upd_same] at h ⊢; exact h
    · rw [upd_ne hb] at h ⊢; exact A.fz b u h
  · obtain ⟨f, r⟩ := A.cl a c h
    obtain ⟨z, hz⟩ := r.has
    have hne : a ≠ p := ne_of_none hz n
    exact ⟨by rw [upd_ne hne]; exact f, r.mono (same_new n2) fun o e => same_new n a o e⟩
/-- a new cell -/
theorem Abs.newc {p : Addr} {o : HO} {c : Cl} (A : Abs K F S H) (n : H p = none) (r : ClR K F (upd H p o) p c) : Abs K F (put S p c) (upd H p o) ∧ Ext F S H F (put S p c) (upd H p o) := by
  obtain ⟨n1, n2⟩ := A.free n
  refine ⟨⟨fun b u h => same_new n b u (A.fz b u h), fun a c' h => ?_⟩, Same.refl F, fun b u h m => ⟨same_new n b u h, by rw [put_ne (ne_of_none h n)]; exact m, fun z _ => z⟩⟩
  by_cases ha : a = p
  · subst ha; rw [put_same] at h; cases h; exact ⟨n2, r⟩
  · rw [put_ne ha] at h
    obtain ⟨f, r'⟩ := A.cl a c' h
    exact ⟨f, r'.mono (Same.refl F) fun o e => same_new n a o e⟩
/-- a cell is changed -/
theorem Abs.wr {p : Addr} {o : HO} {c c0 : Cl} (A : Abs K F S H) (n : S p = some c0) (r : ClR K F (upd H p o) p c) : Abs K F (put S p c) (upd H p o) ∧ Ext F S H F (put S p c) (upd H p o) := by
  have n2 := (A.cl p c0 n).1
  refine ⟨⟨fun b u h => ?_, fun a c' h => ?_⟩, Same.refl F, fun b u h m => ?_⟩
  · rw [upd_ne (ne_of_none h n2)]; exact A.fz b u h
  · by_cases ha : a = p
    · subst ha; rw [put_same] at h; cases h; exact ⟨n2, r⟩
    · rw [put_ne ha] at h
      obtain ⟨f, r'⟩ := A.cl a c' h
      exact ⟨f, r'.mono (Same.refl F) fun o e => by rw [upd_ne ha]; exact e⟩
  · have hb : b ≠ p := fun z => by subst z; rw [n] at m; cases m
    rw [upd_ne hb, put_ne hb]; exact ⟨h, m, fun z _ => z⟩
/-- a list in a cell is not changed any more -/
theorem Abs.freeze {p : Addr} {ds : List PyData} (A : Abs K F S H) (n : S p = some (.lst ds)) : ∃ F', Abs K F' (del S p) H ∧ Ext F S H F' (del S p) H ∧ Dp K F' (.ref p) (.list ds) := by
  obtain ⟨n2, vs, e, r⟩ := A.cl p _ n
  refine ⟨upd F p (.lst vs), ⟨fun b u h => ?_, fun a c h => ?_⟩, ⟨same_new n2, fun b u h m => ⟨h, ?_, fun z _ => by rw [upd_ne (fun q => by subst q; rw [n] at m; cases m)]; exact z⟩⟩, .lst (.inl (.inl upd_same)) (dpms (same_new n2) ds vs r)⟩
  · by_cases hb : b = p
    · subst hb; rw [upd_same] at h; rw [← h]; exact e
    · rw [upd_ne hb] at h; exact A.fz b u h
  · by_cases ha : a = p
    · subst ha; unfold del at h; rw [if_pos rfl] at h; cases h
    · have h' : S a = some c := by unfold del at h; rw [if_neg ha] at h; exact h
      obtain ⟨f, r'⟩ := A.cl a c h'
      exact ⟨by rw [upd_ne ha]; exact f, r'.mono (same_new n2) fun o e => e⟩
  · unfold del; split
    · rfl
    · exact m
/-- a cell is forgotten -/
theorem Abs.forget {p : Addr} (A : Abs K F S H) : Abs K F (del S p) H ∧ Ext F S H F (del S p) H := by
  refine ⟨⟨A.fz, fun a c h => ?_⟩, ⟨Same.refl F, fun b u h m => ⟨h, ?_, fun z _ => z⟩⟩⟩
  · unfold del at h
    split at h
    · cases h
    · exact A.cl a c h
  · unfold del; split
    · rfl
    · exact m
theorem del_put {p : Addr} {c : Cl} (h : S p = none) : del (put S p c) p = S := by
  funext b; unfold del put
  by_cases hb : b = p
  · subst hb; rw [if_pos rfl, h]
  · rw [if_neg hb, if_neg hb]
theorem ER.set {i : Nat} {v : V} {w : W} (h : ER K F σ τ) (r : WR K F v w) : ER K F (σ.set i (some v)) (τ.set i (some w)) := by
  refine ⟨by rw [List.length_set, List.length_set]; exact h.len, fun j u q => ?_⟩
  by_cases hj : i = j
  · subst hj
    have hl : i < τ.length := by
      have := (List.getElem?_eq_some_iff.mp q).1
      rw [List.length_set] at this; exact this
    rw [List.getElem?_set_self hl] at q
    cases q
    exact ⟨v, List.getElem?_set_self (by rw [h.len]; exact hl), r⟩
  · rw [List.getElem?_set_ne hj] at q ⊢
    exact h.at' j u q
end
def wipeD (τ : En) : List Nat → En
  | [] => τ
  | v :: vs => (wipeD τ vs).set v none
theorem wipe_keep {σ : L2.St} {i : Nat} {x : V} (h : σ[i]? = some (some x)) : ∀ {vs : List Nat}, i ∉ vs → (wipe σ vs)[i]? = some (some x)
  | [], _ => h
  | v :: vs, n => by
    show ((wipe σ vs).set v none)[i]? = _
    rw [List.getElem?_set_ne (fun e => n (by simp [e]))]
    exact wipe_keep h fun z => n (List.mem_cons_of_mem _ z)
theorem wipeD_some {τ : En} {i : Nat} {x : W} : ∀ {vs : List Nat}, (wipeD τ vs)[i]? = some (some x) → τ[i]? = some (some x) ∧ i ∉ vs
  | [], h => ⟨h, by simp⟩
  | v :: vs, h => by
    have h' : ((wipeD τ vs).set v none)[i]? = some (some x) := h
    by_cases e : v = i
    · subst e
      exfalso
      rw [List.getElem?_set] at h'
      simp at h'
    · rw [List.getElem?_set_ne e] at h'
      obtain ⟨a, b⟩ := wipeD_some h'
      exact ⟨a, fun z => (List.mem_cons.mp z).elim (fun q => e q.symm) b⟩
theorem wipeD_len {τ : En} : ∀ {vs : List Nat}, (wipeD τ vs).length = τ.length
  | [] => rfl
  | v :: vs => by show ((wipeD τ vs).set v none).length = _; rw [List.length_set, wipeD_len]
theorem ER.wipe {K : PySem.W.Frag} {F : Hp} {σ : L2.St} {τ : En} (h : ER K F σ τ) (vs : List Nat) : ER K F (wipe σ vs) (wipeD τ vs) := by
  refine ⟨by rw [wipe_length, wipeD_len]; exact h.len, fun i w q => ?_⟩
  obtain ⟨a, b⟩ := wipeD_some q
  obtain ⟨v, e, r⟩ := h.at' i w a
  exact ⟨v, wipe_keep e b, r⟩
end Dl

namespace Dl
open PySem PySem.Spec PyProof.Rows L2

/-! ### readings over data -/
abbrev WK := W → Sto → Prop
abbrev DTE := En → Sto → WK → Prop
abbrev DTT := En → Sto → (Bool → Sto → Prop) → Prop
abbrev DTA := En → Sto → (List W → Sto → Prop) → Prop
abbrev DTI := En → Sto → (List PyData → Sto → Prop) → Prop
abbrev DTG := W → En → Sto → (En → Sto → Prop) → Prop
abbrev DTGs := List PyData → En → Sto → (En → Sto → Prop) → Prop
abbrev DR2 := W → W → Sto → WK → Prop
abbrev DRL := List W → Sto → WK → Prop
abbrev DSp := List W → Sto → WK → Prop
structure DEnds where
  nx : En → Sto → Prop
  rt : WK
  bk : En → Sto → Prop := fun _ _ => False
  ct : En → Sto → Prop := fun _ _ => False
abbrev DTS := DEnds → En → Sto → Prop

def Post (K : PySem.W.Frag) (F : Hp) (S : Sto) (H : Hp) (Qd : WK) (Q : VK) : Prop :=
  ∀ v H' F' S' x, Ext F S H F' S' H' → Abs K F' S' H' → WR K F' v x → Qd x S' → Q v H'
def PostB (K : PySem.W.Frag) (F : Hp) (S : Sto) (H : Hp) (Qd : Bool → Sto → Prop) (Q : Bool → Hp → Prop) : Prop :=
  ∀ b H' F' S', Ext F S H F' S' H' → Abs K F' S' H' → Qd b S' → Q b H'
def PostE (K : PySem.W.Frag) (F : Hp) (S : Sto) (H : Hp) (Qd : En → Sto → Prop) (Q : L2.St → Hp → Prop) : Prop :=
  ∀ σ' H' F' S' τ', Ext F S H F' S' H' → Abs K F' S' H' → ER K F' σ' τ' → Qd τ' S' → Q σ' H'
def lowE (K : PySem.W.Frag) (u : DTE) : TE := fun σ H Q => ∃ F S τ Qd, Abs K F S H ∧ ER K F σ τ ∧ u τ S Qd ∧ Post K F S H Qd Q
def lowT (K : PySem.W.Frag) (u : DTT) : TT := fun σ H Q => ∃ F S τ Qd, Abs K F S H ∧ ER K F σ τ ∧ u τ S Qd ∧ PostB K F S H Qd Q
def lowA (K : PySem.W.Frag) (u : DTA) : TA := fun σ H Q => ∃ F S τ Qd, Abs K F S H ∧ ER K F σ τ ∧ u τ S Qd ∧
  ∀ vs H' F' S' xs, Ext F S H F' S' H' → Abs K F' S' H' → WRs K F' vs xs → Qd xs S' → Q vs H'
/-- how an iterator runs over data that stands -/
def Ylds (K : PySem.W.Frag) (J : It) (F : Hp) (ds : List PyData) : Prop := ∀ F1 S1 H1, Same F F1 → Abs K F1 S1 H1 →
  J.stop ds.length H1 ∧ ∀ i d, ds[i]? = some d → J.go i H1 ∧ ∀ x H2, J.yld i H1 x H2 → ∃ F2, Ext F1 S1 H1 F2 S1 H2 ∧ Abs K F2 S1 H2 ∧ Dp K F2 x d
def lowI (K : PySem.W.Frag) (u : DTI) : TI := fun σ H R => ∃ F S τ Qd, Abs K F S H ∧ ER K F σ τ ∧ u τ S Qd ∧
  ∀ J H' F' S' ds, Ext F S H F' S' H' → Abs K F' S' H' → Ylds K J F' ds → Qd ds S' → R J H'
/-- a target; vs: the slots it may change -/
def lowG (K : PySem.W.Frag) (vs : List Nat) (g : DTG) : TG := fun v σ H Q => ∃ F S τ x Qd, Abs K F S H ∧ ER K F σ τ ∧ WR K F v x ∧ g x τ S Qd ∧
  ∀ σ' H' F' S' τ', wipe σ' vs = wipe σ vs → Ext F S H F' S' H' → Abs K F' S' H' → ER K F' σ' τ' → Qd τ' S' → Q σ' H'
def lowGs (K : PySem.W.Frag) (vs : List Nat) (g : DTGs) : TGs := fun us σ H Q => ∃ F S τ xs Qd, Abs K F S H ∧ ER K F σ τ ∧ DpAll K F us xs ∧ g xs τ S Qd ∧
  ∀ σ' H' F' S' τ', wipe σ' vs = wipe σ vs → Ext F S H F' S' H' → Abs K F' S' H' → ER K F' σ' τ' → Qd τ' S' → Q σ' H'
def low2 (K : PySem.W.Frag) (r : DR2) : R2 := fun x y H Q => ∃ F S wx wy Qd, Abs K F S H ∧ WR K F x wx ∧ WR K F y wy ∧ r wx wy S Qd ∧ Post K F S H Qd Q
def lowL (K : PySem.W.Frag) (r : DRL) : List V → Hp → VK → Prop := fun vs H Q => ∃ F S ws Qd, Abs K F S H ∧ WRs K F vs ws ∧ r ws S Qd ∧ Post K F S H Qd Q
def spD (K : PySem.W.Frag) (r : DSp) : Sp := fun vs H Q _ => lowL K r vs H Q
def lowS (K : PySem.W.Frag) (u : DTS) : TS := fun D σ H => ∃ F S τ Dd, Abs K F S H ∧ ER K F σ τ ∧ u Dd τ S ∧
  PostE K F S H Dd.nx D.nx ∧ Post K F S H Dd.rt D.rt ∧ PostE K F S H Dd.bk D.bk ∧ PostE K F S H Dd.ct D.ct
section
variable {K : PySem.W.Frag} {F F' H H' : Hp} {S S' : Sto}
theorem Post.ext {Qd : WK} {Q : VK} (e : Ext F S H F' S' H') (p : Post K F S H Qd Q) : Post K F' S' H' Qd Q := fun v H2 F2 S2 x e2 => p v H2 F2 S2 x (e.trans e2)
theorem PostE.ext {Qd : En → Sto → Prop} {Q : L2.St → Hp → Prop} (e : Ext F S H F' S' H') (p : PostE K F S H Qd Q) : PostE K F' S' H' Qd Q := fun v H2 F2 S2 x e2 => p v H2 F2 S2 x (e.trans e2)
theorem PostB.ext {Qd : Bool → Sto → Prop} {Q : Bool → Hp → Prop} (e : Ext F S H F' S' H') (p : PostB K F S H Qd Q) : PostB K F' S' H' Qd Q := fun v H2 F2 S2 e2 => p v H2 F2 S2 (e.trans e2)
theorem Post.now {Qd : WK} {Q : VK} {v : V} {x : W} (p : Post K F S H Qd Q) (A : Abs K F S H) (r : WR K F v x) (q : Qd x S) : Q v H := p v H F S x Ext.refl A r q
/-- a new thing of data is given -/
theorem Post.fresh {Qd : WK} {Q : VK} {p : Addr} {o : HO} {x : PyData} (P : Post K F S H Qd Q) (A : Abs K F S H) (n : H p = none) (r : Dp K (upd F p o) (.ref p) x) (q : Qd (.d x) S) : Q (.ref p) (upd H p o) :=
  let ⟨A', e⟩ := A.new (o := o) n
  P _ _ _ _ (.d x) e A' r q
end
/-! ### weakening -/
section
variable {X : Cx}
theorem pe_le {e : Expr} {t t' : TE} (h : PE X e t) (f : ∀ σ H Q, t' σ H Q → t σ H Q) : PE X e t' := ⟨fun pins s σ H Q I q => h.run pins s σ H Q I (f σ H Q q)⟩
theorem pt_le {e : Expr} {t t' : TT} (h : PT X e t) (f : ∀ σ H Q, t' σ H Q → t σ H Q) : PT X e t' := ⟨fun pins s σ H Q I q => h.run pins s σ H Q I (f σ H Q q)⟩
theorem pw_le {e : Expr} {t t' : TT} (h : PW X e t) (f : ∀ σ H Q, t' σ H Q → t σ H Q) : PW X e t' := ⟨fun wh pins s σ H Q I q => h.run wh pins s σ H Q I (f σ H Q q)⟩
theorem pa_le {e : List Expr} {t t' : TA} (h : PA X e t) (f : ∀ σ H Q, t' σ H Q → t σ H Q) : PA X e t' := ⟨fun pos pins s σ H Q I q => h.run pos pins s σ H Q I (f σ H Q q)⟩
theorem ps_le {e : Stmt} {t t' : TS} (h : PS X e t) (f : ∀ D σ H, t' D σ H → t D σ H) : PS X e t' := ⟨fun pins s σ H D I q => h.run pins s σ H D I (f D σ H q)⟩
theorem pss_le {e : List Stmt} {t t' : TS} (h : PSs X e t) (f : ∀ D σ H, t' D σ H → t D σ H) : PSs X e t' := ⟨fun pins s σ H D I q => h.run pins s σ H D I (f D σ H q)⟩
theorem pg_le {e : Expr} {t t' : TG} (h : PG X e t) (f : ∀ v σ H Q, t' v σ H Q → t v σ H Q) : PG X e t' := ⟨fun pins s σ H v u Q I r q => h.run pins s σ H v u Q I r (f v σ H Q q)⟩
theorem pgs_le {e : List Expr} {t t' : TGs} (h : PGs X e t) (f : ∀ v σ H Q, t' v σ H Q → t v σ H Q) : PGs X e t' := ⟨fun pins s σ H v u Q I r q => h.run pins s σ H v u Q I r (f v σ H Q q)⟩
theorem pi_le {tg e : Expr} {t t' : TI} (h : PI X tg e t) (f : ∀ σ H R, t' σ H R → t σ H R) : PI X tg e t' := ⟨fun pins s σ H R I q => h.run pins s σ H R I (f σ H R q)⟩
theorem opr_le {g : Value → Value → Sem Value} {t t' : R2} (h : OpR X g t) (f : ∀ x y H Q, t' x y H Q → t x y H Q) : OpR X g t' := fun pins s σ H x y v u Q I rx ry q => h pins s σ H x y v u Q I rx ry (f x y H Q q)
theorem ix_le {t t' : R2} (h : IxR X t) (f : ∀ x y H Q, t' x y H Q → t x y H Q) : IxR X t' := by
  intro va sl pins s σ H x y v u Q I rx ry q hs
  exact h va sl pins s σ H x y v u Q I rx ry (f x y H Q q) hs
theorem call_le {g : Value} {t t' : List V → Hp → VK → Prop} (h : CallR X g t) (f : ∀ xs H Q, t' xs H Q → t xs H Q) : CallR X g t' := fun pins s σ H xs us Q I r q => h pins s σ H xs us Q I r (f xs H Q q)
end

/-! ### looks at values -/
def asI (w : W) (k : Int → Prop) : Prop := match w with
  | .d (.int i) => k i
  | _ => False
def asB (w : W) (k : Bool → Prop) : Prop := match w with
  | .d (.bool i) => k i
  | _ => False
def asS (w : W) (k : Str → Prop) : Prop := match w with
  | .d (.str i) => k i
  | _ => False
def asT (w : W) (k : List PyData → Prop) : Prop := match w with
  | .d (.tuple i) => k i
  | _ => False
def asD (w : W) (k : PyData → Prop) : Prop := match w with
  | .d i => k i
  | _ => False
def asDs : List W → (List PyData → Prop) → Prop
  | [], k => k []
  | x :: xs, k => asD x fun d => asDs xs fun ds => k (d :: ds)
/-- data, or what stands in a list's cell -/
def dat (S : Sto) (w : W) (k : PyData → Prop) : Prop := match w with
  | .d x => k x
  | .c a => match S a with
    | some (.lst ds) => k (.list ds)
    | _ => False
def asL (S : Sto) (w : W) (k : List PyData → Prop) : Prop := dat S w fun x => match x with
  | .list ds => k ds
  | _ => False
section
variable {K : PySem.W.Frag} {F H : Hp} {S : Sto} {v : V} {w : W}
theorem asI_of {k : Int → Prop} (r : WR K F v w) (h : asI w k) : ∃ i, v = .int i ∧ w = .d (.int i) ∧ k i := by
  unfold asI at h
  split at h
  · cases r; exact ⟨_, rfl, rfl, h⟩
  · exact h.elim
theorem asB_of {k : Bool → Prop} (r : WR K F v w) (h : asB w k) : ∃ i, v = .bl i ∧ w = .d (.bool i) ∧ k i := by
  unfold asB at h
  split at h
  · cases r; exact ⟨_, rfl, rfl, h⟩
  · exact h.elim
theorem asS_of {k : Str → Prop} (r : WR K F v w) (h : asS w k) : ∃ i, v = .str i ∧ w = .d (.str i) ∧ k i := by
  unfold asS at h
  split at h
  · cases r; exact ⟨_, rfl, rfl, h⟩
  · exact h.elim
theorem asD_of {k : PyData → Prop} (r : WR K F v w) (h : asD w k) : ∃ i, Dp K F v i ∧ w = .d i ∧ k i := by
  unfold asD at h
  split at h
  · exact ⟨_, r, rfl, h⟩
  · exact h.elim
theorem asDs_of : ∀ {vs : List V} {ws : List W} {k : List PyData → Prop}, WRs K F vs ws → asDs ws k → ∃ ds, DpAll K F vs ds ∧ ws = ds.map W.d ∧ k ds
  | _, _, _, .nil, h => ⟨[], .nil, rfl, h⟩
  | _, _, _, .cons r t, h => by
    obtain ⟨i, h1, rfl, h2⟩ := asD_of r h
    obtain ⟨ds, h3, rfl, h4⟩ := asDs_of t h2
    exact ⟨i :: ds, .cons h1 h3, rfl, h4⟩
theorem asT_of {k : List PyData → Prop} (r : WR K F v w) (h : asT w k) : ∃ a vs ds, v = .ref a ∧ SqT K F a vs ∧ DpAll K F vs ds ∧ w = .d (.tuple ds) ∧ k ds := by
  unfold asT at h
  split at h
  · cases r with
    | tup s a => exact ⟨_, _, _, rfl, s.sq, a, rfl, h⟩
  · exact h.elim
theorem dat_of {k : PyData → Prop} (A : Abs K F S H) (r : WR K F v w) (h : dat S w k) : ∃ i, L2.Dp K H v i ∧ k i := by
  unfold dat at h
  split at h
  · exact ⟨_, dp2 _ _ (dpm A.fz _ _ r), h⟩
  · rename_i a
    split at h
    · rename_i ds e
      obtain ⟨_, vs, e2, r2⟩ := A.cl a _ e
      cases r
      exact ⟨_, .lst (.inl (.inl e2)) (dp2s _ _ (dpms A.fz _ _ r2)), h⟩
    · exact h.elim
theorem asL_of {k : List PyData → Prop} (A : Abs K F S H) (r : WR K F v w) (h : asL S w k) : ∃ a vs ds, v = .ref a ∧ SqL K H a vs ∧ DpAll K F vs ds ∧ k ds := by
  unfold asL dat at h
  split at h
  · split at h
    · cases r with
      | lst s a => exact ⟨_, _, _, rfl, A.fz.seq s, a, h⟩
    · exact h.elim
  · rename_i a
    split at h
    · rename_i ds e
      obtain ⟨_, vs, e2, r2⟩ := A.cl a _ e
      exact ⟨_, _, _, r, .inl (.inl e2), r2, h⟩
    · exact h.elim
end

/-! ### expressions -/
section
variable {X : Cx} {e a b c : Expr} {ua ub uc : DTE} {pos : Pos}
abbrev uVar (i : Nat) : DTE := fun τ S Q => match τ[i]? with
  | some (some w) => Q w S
  | _ => False
theorem de_var (i : Nat) {x : Str} (hN : X.N[i]? = some x := by rfl) (hv : Vis X.env.scope x := by first | exact Or.inl rfl | exact Or.inr (Or.inl rfl) | exact Or.inr (Or.inr rfl)) (hd : (x == ("__debug__" : Str)) = false := by decide)
    (hcd : (x == ("__classdict__" : Str)) = false := by decide) : PE X (.Name x pos) (lowE X.K (uVar i)) :=
  pe_le (pe_var hN hv hd hcd) fun σ H Q ⟨F, S, τ, Qd, A, E, h, P⟩ => by
    unfold uVar at h
    split at h
    · rename_i w e
      obtain ⟨v, e1, r⟩ := E.at' i w e
      exact ⟨v, e1, P.now A r h⟩
    · exact h.elim
abbrev uC (d : PyData) : DTE := fun _ S Q => Q (.d d) S
theorem de_tC {v : V} {d : PyData} (h : PE X e (tC v)) (r : ∀ F, Dp X.K F v d) : PE X e (lowE X.K (uC d)) :=
  pe_le h fun σ H Q ⟨F, S, τ, Qd, A, E, h, P⟩ => P.now A (show WR X.K F v (.d d) from r F) h
theorem de_int {i j} : PE X (.Constant (.int i) j pos) (lowE X.K (uC (.int i))) := de_tC pe_int fun _ => .int i
theorem de_bl {i j} : PE X (.Constant (.bool i) j pos) (lowE X.K (uC (.bool i))) := de_tC pe_bl fun _ => .bl i
theorem de_non {j} : PE X (.Constant .none j pos) (lowE X.K (uC .none)) := de_tC pe_non fun _ => .non
theorem de_str {i j} : PE X (.Constant (.str i) j pos) (lowE X.K (uC (.str i))) := de_tC pe_str fun _ => .str i
/-- a constant of the module -/
theorem de_glob {x : Str} {v : V} {u : Value} {d : PyData} (hg : Gl X x) (hm : X.mg x = some u) (r : RelV v u) (h : ∀ F, Dp X.K F v d) (hd : (x == ("__debug__" : Str)) = false := by decide) : PE X (.Name x pos) (lowE X.K (uC d)) := de_tC (pe_glob hg hm r hd) h

abbrev uOp (r : DR2) (ua ub : DTE) : DTE := fun τ S Q => ua τ S fun x S1 => ub τ S1 fun y S2 => r x y S2 Q
theorem low_op {r : DR2} {σ : L2.St} {H : Hp} {Q : VK} (h : lowE X.K (uOp r ua ub) σ H Q) : tOp (low2 X.K r) (lowE X.K ua) (lowE X.K ub) σ H Q := by
  obtain ⟨F, S, τ, Qd, A, E, h, P⟩ := h
  refine ⟨F, S, τ, _, A, E, h, fun v1 H1 F1 S1 x e1 A1 r1 q1 => ?_⟩
  refine ⟨F1, S1, τ, _, A1, E.mono e1.fz, q1, fun v2 H2 F2 S2 y e2 A2 r2 q2 => ?_⟩
  exact ⟨F2, S2, x, y, Qd, A2, r1.mono e2.fz, r2, q2, P.ext (e1.trans e2)⟩
theorem de_op {op : Operator} {r : DR2} (ho : OpR X (binaryOp op) (low2 X.K r)) (ha : PE X a (lowE X.K ua)) (hb : PE X b (lowE X.K ub)) : PE X (.BinOp a op b pos) (lowE X.K (uOp r ua ub)) := pe_le (pe_op ho ha hb) fun _ _ _ => low_op
theorem de_cmp {op : CmpOp} {r : DR2} (ho : OpR X (compareOp op) (low2 X.K r)) (ha : PE X a (lowE X.K ua)) (hb : PE X b (lowE X.K ub)) (hm : behindInMarks op b = false) : PE X (.Compare a [op] [b] pos) (lowE X.K (uOp r ua ub)) := pe_le (pe_cmpR ho ha hb hm) fun _ _ _ => low_op
theorem de_ix {r : DR2} (ho : IxR X (low2 X.K r)) (ha : PE X a (lowE X.K ua)) (hb : PE X b (lowE X.K ub)) (hm : PlainIx b) : PE X (.Subscript a b pos) (lowE X.K (uOp r ua ub)) := pe_le (pe_ix ho ha hb hm) fun _ _ _ => low_op
/-- as a test -/
abbrev uB (u : DTE) : DTT := fun τ S Q => u τ S fun x S1 => asB x fun k => Q k S1
theorem low_B {σ : L2.St} {H : Hp} {Q : Bool → Hp → Prop} (h : lowT X.K (uB ua) σ H Q) : lowE X.K ua σ H fun x H1 => ∃ k, x = .bl k ∧ Q k H1 := by
  obtain ⟨F, S, τ, Qd, A, E, h, P⟩ := h
  refine ⟨F, S, τ, _, A, E, h, fun v1 H1 F1 S1 x e1 A1 r1 q1 => ?_⟩
  obtain ⟨k, rfl, rfl, q⟩ := asB_of r1 q1
  exact ⟨k, rfl, P _ _ _ _ e1 A1 q⟩
theorem low_test {r : DR2} {σ : L2.St} {H : Hp} {Q : Bool → Hp → Prop} (h : lowT X.K (uB (uOp r ua ub)) σ H Q) : tTest (tOp (low2 X.K r) (lowE X.K ua) (lowE X.K ub)) σ H Q := low_op (low_B h)
theorem dt_cmp {op : CmpOp} {r : DR2} (ho : OpR X (compareOp op) (low2 X.K r)) (ha : PE X a (lowE X.K ua)) (hb : PE X b (lowE X.K ub)) (hm : behindInMarks op b = false) : PT X (.Compare a [op] [b] pos) (lowT X.K (uB (uOp r ua ub))) := pt_le (pt_cmpR ho ha hb hm) fun _ _ _ => low_test
theorem dt_val (h : PE X e (lowE X.K ua)) (he : ∀ whole, isTrue e X.env whole = (do let v ← whole; standAt e.pos; holding [v] (truthy v)) := by intro _; rfl) : PT X e (lowT X.K (uB ua)) := pt_le (pt_val h he) fun _ _ _ => low_B
/-- a < b < c -/
abbrev uChain (r r' : DR2) (ua ub uc : DTE) : DTE := fun τ S Q => ua τ S fun x S1 => ub τ S1 fun y S2 => r x y S2 fun z S3 => asB z fun k => if k = true then uc τ S3 fun w S4 => r' y w S4 Q else Q (.d (.bool false)) S3
theorem low_chain {r r' : DR2} {σ : L2.St} {H : Hp} {Q : VK} (h : lowE X.K (uChain r r' ua ub uc) σ H Q) : tChain (low2 X.K r) (low2 X.K r') (lowE X.K ua) (lowE X.K ub) (lowE X.K uc) σ H Q := by
  obtain ⟨F, S, τ, Qd, A, E, h, P⟩ := h
  refine ⟨F, S, τ, _, A, E, h, fun v1 H1 F1 S1 x e1 A1 r1 q1 => ?_⟩
  refine ⟨F1, S1, τ, _, A1, E.mono e1.fz, q1, fun v2 H2 F2 S2 y e2 A2 r2 q2 => ?_⟩
  refine ⟨F2, S2, x, y, _, A2, r1.mono e2.fz, r2, q2, fun v3 H3 F3 S3 z e3 A3 r3 q3 => ?_⟩
  obtain ⟨k, rfl, rfl, q⟩ := asB_of r3 q3
  refine ⟨k, rfl, ?_⟩
  cases k with
  | true =>
    refine iteT ⟨F3, S3, τ, _, A3, E.mono (e1.fz.trans (e2.fz.trans e3.fz)), q, fun v4 H4 F4 S4 w e4 A4 r4 q4 => ?_⟩
    exact ⟨F4, S4, y, w, Qd, A4, r2.mono (e3.fz.trans e4.fz), r4, q4, P.ext (e1.trans (e2.trans (e3.trans e4)))⟩
  | false => exact iteF (P.ext (e1.trans (e2.trans e3)) |>.now A3 (show WR X.K F3 (.bl false) (.d (.bool false)) from Dp.bl false) q)
theorem de_chain {op op' : CmpOp} {r r' : DR2} (ho : OpR X (compareOp op) (low2 X.K r)) (ho' : OpR X (compareOp op') (low2 X.K r')) (ha : PE X a (lowE X.K ua)) (hb : PE X b (lowE X.K ub)) (hc : PE X c (lowE X.K uc))
    (hm : lastMarks [op, op'] [b, c] = false := by with_unfolding_all rfl) : PE X (.Compare a [op, op'] [b, c] pos) (lowE X.K (uChain r r' ua ub uc)) := pe_le (pe_chain ho ho' ha hb hc hm) fun _ _ _ => low_chain
theorem dt_chain {op op' : CmpOp} {r r' : DR2} (ho : OpR X (compareOp op) (low2 X.K r)) (ho' : OpR X (compareOp op') (low2 X.K r')) (ha : PE X a (lowE X.K ua)) (hb : PE X b (lowE X.K ub)) (hc : PE X c (lowE X.K uc))
    (hm : lastMarks [op, op'] [b, c] = false := by with_unfolding_all rfl) : PT X (.Compare a [op, op'] [b, c] pos) (lowT X.K (uB (uChain r r' ua ub uc))) := pt_le (pt_chain ho ho' ha hb hc hm) fun _ _ _ h => low_chain (low_B h)

/-! tests -/
variable {va vb : DTT} {rest : List Expr}
abbrev vAnd (t u : DTT) : DTT := fun τ S Q => t τ S fun k S1 => if k = true then u τ S1 Q else Q false S1
abbrev vOr (t u : DTT) : DTT := fun τ S Q => t τ S fun k S1 => if k = true then Q true S1 else u τ S1 Q
abbrev vNot (t : DTT) : DTT := fun τ S Q => t τ S fun k S1 => Q (!k) S1
theorem dw_and1 (ha : PT X a (lowT X.K va)) : PW X (.BoolOp .And [a] pos) (lowT X.K va) := pw_and1 ha
theorem dw_or1 (ha : PT X a (lowT X.K va)) : PW X (.BoolOp .Or [a] pos) (lowT X.K va) := pw_or1 ha
theorem low_and {σ : L2.St} {H : Hp} {Q : Bool → Hp → Prop} (h : lowT X.K (vAnd va vb) σ H Q) : tAnd (lowT X.K va) (lowT X.K vb) σ H Q := by
  obtain ⟨F, S, τ, Qd, A, E, h, P⟩ := h
  refine ⟨F, S, τ, _, A, E, h, fun k H1 F1 S1 e1 A1 q1 => ?_⟩
  cases k with
  | true => exact iteT ⟨F1, S1, τ, _, A1, E.mono e1.fz, q1, P.ext e1⟩
  | false => exact iteF (P _ _ _ _ e1 A1 q1)
theorem low_or {σ : L2.St} {H : Hp} {Q : Bool → Hp → Prop} (h : lowT X.K (vOr va vb) σ H Q) : tOr (lowT X.K va) (lowT X.K vb) σ H Q := by
  obtain ⟨F, S, τ, Qd, A, E, h, P⟩ := h
  refine ⟨F, S, τ, _, A, E, h, fun k H1 F1 S1 e1 A1 q1 => ?_⟩
  cases k with
  | false => exact iteF ⟨F1, S1, τ, _, A1, E.mono e1.fz, q1, P.ext e1⟩
  | true => exact iteT (P _ _ _ _ e1 A1 q1)
theorem dw_and (ha : PT X a (lowT X.K va)) (hb : PW X (.BoolOp .And (b :: rest) pos) (lowT X.K vb)) : PW X (.BoolOp .And (a :: b :: rest) pos) (lowT X.K (vAnd va vb)) := pw_le (pw_and ha hb) fun _ _ _ => low_and
theorem dw_or (ha : PT X a (lowT X.K va)) (hb : PW X (.BoolOp .Or (b :: rest) pos) (lowT X.K vb)) : PW X (.BoolOp .Or (a :: b :: rest) pos) (lowT X.K (vOr va vb)) := pw_le (pw_or ha hb) fun _ _ _ => low_or
theorem dt_not (ha : PT X a (lowT X.K va)) : PT X (.UnaryOp .Not a pos) (lowT X.K (vNot va)) := pt_le (pt_not ha) fun _ _ _ ⟨F, S, τ, Qd, A, E, h, P⟩ => ⟨F, S, τ, _, A, E, h, fun k H1 F1 S1 e1 A1 q1 => P _ _ _ _ e1 A1 q1⟩
/-- and, or, not as values -/
abbrev uAnd (t u : DTE) : DTE := fun τ S Q => t τ S fun x S1 => asB x fun k => if k = true then u τ S1 Q else Q (.d (.bool false)) S1
abbrev uOr (t u : DTE) : DTE := fun τ S Q => t τ S fun x S1 => asB x fun k => if k = true then Q (.d (.bool true)) S1 else u τ S1 Q
abbrev uNot (t : DTE) : DTE := fun τ S Q => t τ S fun x S1 => asB x fun k => Q (.d (.bool (!k))) S1
theorem de_one {op} {t : DTE} (h : PE X a (lowE X.K t)) : PE X (.BoolOp op [a] pos) (lowE X.K t) := pe_one h
theorem de_and (ha : PE X a (lowE X.K ua)) (hb : PE X (.BoolOp .And (b :: rest) pos) (lowE X.K ub)) : PE X (.BoolOp .And (a :: b :: rest) pos) (lowE X.K (uAnd ua ub)) := by
  refine pe_le (pe_and ha hb) fun σ H Q ⟨F, S, τ, Qd, A, E, h, P⟩ => ⟨F, S, τ, _, A, E, h, fun v1 H1 F1 S1 x e1 A1 r1 q1 => ?_⟩
  obtain ⟨k, rfl, rfl, q⟩ := asB_of r1 q1
  refine ⟨k, rfl, ?_⟩
  cases k with
  | true => exact iteT ⟨F1, S1, τ, _, A1, E.mono e1.fz, q, P.ext e1⟩
  | false => exact iteF ((P.ext e1).now A1 (show WR X.K F1 (.bl false) (.d (.bool false)) from Dp.bl false) q)
theorem de_or (ha : PE X a (lowE X.K ua)) (hb : PE X (.BoolOp .Or (b :: rest) pos) (lowE X.K ub)) : PE X (.BoolOp .Or (a :: b :: rest) pos) (lowE X.K (uOr ua ub)) := by
  refine pe_le (pe_or ha hb) fun σ H Q ⟨F, S, τ, Qd, A, E, h, P⟩ => ⟨F, S, τ, _, A, E, h, fun v1 H1 F1 S1 x e1 A1 r1 q1 => ?_⟩
  obtain ⟨k, rfl, rfl, q⟩ := asB_of r1 q1
  refine ⟨k, rfl, ?_⟩
  cases k with
  | false => exact iteF ⟨F1, S1, τ, _, A1, E.mono e1.fz, q, P.ext e1⟩
  | true => exact iteT ((P.ext e1).now A1 (show WR X.K F1 (.bl true) (.d (.bool true)) from Dp.bl true) q)
theorem de_not (ha : PE X a (lowE X.K ua)) : PE X (.UnaryOp .Not a pos) (lowE X.K (uNot ua)) := by
  refine pe_le (pe_not ha) fun σ H Q ⟨F, S, τ, Qd, A, E, h, P⟩ => ⟨F, S, τ, _, A, E, h, fun v1 H1 F1 S1 x e1 A1 r1 q1 => ?_⟩
  obtain ⟨k, rfl, rfl, q⟩ := asB_of r1 q1
  exact ⟨k, rfl, (P.ext e1).now A1 (show WR X.K F1 (.bl (!k)) (.d (.bool (!k))) from Dp.bl _) q⟩
abbrev uIf (t : DTT) (ua ub : DTE) : DTE := fun τ S Q => t τ S fun k S1 => if k = true then ua τ S1 Q else ub τ S1 Q
theorem de_ifExp (hc : PT X c (lowT X.K va)) (ha : PE X a (lowE X.K ua)) (hb : PE X b (lowE X.K ub)) : PE X (.IfExp c a b pos) (lowE X.K (uIf va ua ub)) := by
  refine pe_le (pe_ifExp hc ha hb) fun σ H Q ⟨F, S, τ, Qd, A, E, h, P⟩ => ⟨F, S, τ, _, A, E, h, fun k H1 F1 S1 e1 A1 q1 => ?_⟩
  cases k with
  | true => exact iteT ⟨F1, S1, τ, _, A1, E.mono e1.fz, q1, P.ext e1⟩
  | false => exact iteF ⟨F1, S1, τ, _, A1, E.mono e1.fz, q1, P.ext e1⟩
/-- is None -/
def isNon : PyData → Bool
  | .none => true
  | _ => false
abbrev uIsN (t : DTE) : DTE := fun τ S Q => t τ S fun x S1 => asD x fun d => Q (.d (.bool (isNon d))) S1
abbrev uNotN (t : DTE) : DTE := fun τ S Q => t τ S fun x S1 => asD x fun d => Q (.d (.bool (!isNon d))) S1
theorem non_of {K : PySem.W.Frag} {F : Hp} {v : V} {d : PyData} (r : Dp K F v d) : decide (v = .non) = isNon d := by
  cases r <;> simp [isNon]
theorem low_isN {σ : L2.St} {H : Hp} {Q : VK} (h : lowE X.K (uIsN ua) σ H Q) : tIsN (lowE X.K ua) σ H Q := by
  obtain ⟨F, S, τ, Qd, A, E, h, P⟩ := h
  refine ⟨F, S, τ, _, A, E, h, fun v1 H1 F1 S1 x e1 A1 r1 q1 => ?_⟩
  obtain ⟨d, r, rfl, q⟩ := asD_of r1 q1
  refine (P.ext e1).now A1 (show WR X.K F1 (.bl (decide (v1 = .non))) (.d (.bool (decide (v1 = .non)))) from Dp.bl _) ?_
  rw [non_of r]
  exact q
theorem low_notN {σ : L2.St} {H : Hp} {Q : VK} (h : lowE X.K (uNotN ua) σ H Q) : tNotN (lowE X.K ua) σ H Q := by
  obtain ⟨F, S, τ, Qd, A, E, h, P⟩ := h
  refine ⟨F, S, τ, _, A, E, h, fun v1 H1 F1 S1 x e1 A1 r1 q1 => ?_⟩
  obtain ⟨d, r, rfl, q⟩ := asD_of r1 q1
  refine (P.ext e1).now A1 (show WR X.K F1 (.bl (!decide (v1 = .non))) (.d (.bool (!decide (v1 = .non)))) from Dp.bl _) ?_
  rw [non_of r]
  exact q
theorem de_isN {j pos'} (ha : PE X a (lowE X.K ua)) : PE X (.Compare a [.Is] [.Constant .none j pos'] pos) (lowE X.K (uIsN ua)) := pe_le (pe_cmp (pc_isN ha)) fun _ _ _ => low_isN
theorem de_notN {j pos'} (ha : PE X a (lowE X.K ua)) : PE X (.Compare a [.IsNot] [.Constant .none j pos'] pos) (lowE X.K (uNotN ua)) := pe_le (pe_cmp (pc_notN ha)) fun _ _ _ => low_notN
theorem dt_isN {j pos'} (ha : PE X a (lowE X.K ua)) : PT X (.Compare a [.Is] [.Constant .none j pos'] pos) (lowT X.K (uB (uIsN ua))) := pt_le (pt_cmp (pc_isN ha)) fun _ _ _ h => low_isN (low_B h)
theorem dt_notN {j pos'} (ha : PE X a (lowE X.K ua)) : PT X (.Compare a [.IsNot] [.Constant .none j pos'] pos) (lowT X.K (uB (uNotN ua))) := pt_le (pt_cmp (pc_notN ha)) fun _ _ _ h => low_notN (low_B h)

/-! arguments, displays -/
variable {es : List Expr} {ta : DTA}
abbrev aNil : DTA := fun _ S Q => Q [] S
abbrev aCons (u : DTE) (t : DTA) : DTA := fun τ S Q => u τ S fun x S1 => t τ S1 fun xs S2 => Q (x :: xs) S2
theorem da_nil : PA X [] (lowA X.K aNil) := pa_le pa_nil fun σ H Q ⟨F, S, τ, Qd, A, E, h, P⟩ => P [] H F S [] Ext.refl A .nil h
theorem da_cons (ha : PE X e (lowE X.K ua)) (hr : PA X es (lowA X.K ta)) (hs : starEach (e :: es) X.env = (false, eval e X.env) :: starEach es X.env := by rfl) : PA X (e :: es) (lowA X.K (aCons ua ta)) := by
  refine pa_le (pa_cons ha hr hs) fun σ H Q ⟨F, S, τ, Qd, A, E, h, P⟩ => ⟨F, S, τ, _, A, E, h, fun v1 H1 F1 S1 x e1 A1 r1 q1 => ?_⟩
  refine ⟨F1, S1, τ, _, A1, E.mono e1.fz, q1, fun vs H2 F2 S2 xs e2 A2 r2 q2 => ?_⟩
  exact P _ _ _ _ _ (e1.trans e2) A2 (.cons (r1.mono e2.fz) r2) q2
abbrev uTup (t : DTA) : DTE := fun τ S Q => t τ S fun xs S1 => asDs xs fun ds => ds.length ≤ 1000 ∧ Q (.d (.tuple ds)) S1
abbrev uLst (t : DTA) : DTE := fun τ S Q => t τ S fun xs S1 => asDs xs fun ds => ds.length ≤ 1000 ∧ Q (.d (.list ds)) S1
/-- a list that is changed later -/
abbrev uLstC (t : DTA) : DTE := fun τ S Q => t τ S fun xs S1 => asDs xs fun ds => ds.length ≤ 1000 ∧ ∀ p, S1 p = none → Q (.c p) (put S1 p (.lst ds))
theorem k_line {n : Nat} (h : n ≤ 1000) : n ≤ sizeLine := Nat.le_of_lt (small1000 h)
theorem de_tup {k} (h : PA X es (lowA X.K ta)) : PE X (.Tuple es k pos) (lowE X.K (uTup ta)) := by
  refine pe_le (pe_tup h) fun σ H Q ⟨F, S, τ, Qd, A, E, h, P⟩ => ⟨F, S, τ, _, A, E, h, fun vs H1 F1 S1 xs e1 A1 r1 q1 => ?_⟩
  obtain ⟨ds, r, rfl, z, q⟩ := asDs_of r1 q1
  refine ⟨by rw [das_len r]; exact k_line z, fun p n => (P.ext e1).fresh A1 n (.tup (.inl upd_same) (dpms (same_new (A1.free n).2) _ _ r)) q⟩
theorem de_lst (h : PA X es (lowA X.K ta)) : PE X (.List es pos) (lowE X.K (uLst ta)) := by
  refine pe_le (pe_lst h) fun σ H Q ⟨F, S, τ, Qd, A, E, h, P⟩ => ⟨F, S, τ, _, A, E, h, fun vs H1 F1 S1 xs e1 A1 r1 q1 => ?_⟩
  obtain ⟨ds, r, rfl, z, q⟩ := asDs_of r1 q1
  refine ⟨by rw [das_len r]; exact k_line z, fun p n => (P.ext e1).fresh A1 n (.lst (.inl (.inl upd_same)) (dpms (same_new (A1.free n).2) _ _ r)) q⟩
theorem de_lstC (h : PA X es (lowA X.K ta)) : PE X (.List es pos) (lowE X.K (uLstC ta)) := by
  refine pe_le (pe_lst h) fun σ H Q ⟨F, S, τ, Qd, A, E, h, P⟩ => ⟨F, S, τ, _, A, E, h, fun vs H1 F1 S1 xs e1 A1 r1 q1 => ?_⟩
  obtain ⟨ds, r, rfl, z, q⟩ := asDs_of r1 q1
  refine ⟨by rw [das_len r]; exact k_line z, fun p n => ?_⟩
  obtain ⟨A2, e2⟩ := A1.newc (c := .lst ds) n ⟨vs, upd_same, r⟩
  exact P _ _ _ _ (.c p) (e1.trans e2) A2 rfl (q p (A1.free n).1)

/-! calls -/
abbrev uCall (r : DRL) (t : DTA) : DTE := fun τ S Q => t τ S fun xs S1 => r xs S1 Q
theorem low_call {r : DRL} {σ : L2.St} {H : Hp} {Q : VK} (h : lowE X.K (uCall r ta) σ H Q) : tCB (lowL X.K r) (lowA X.K ta) σ H Q := by
  obtain ⟨F, S, τ, Qd, A, E, h, P⟩ := h
  exact ⟨F, S, τ, _, A, E, h, fun vs H1 F1 S1 xs e1 A1 r1 q1 => ⟨F1, S1, xs, Qd, A1, r1, q1, P.ext e1⟩⟩
/-- a def of the program, as its callers see it -/
structure Cal (P : Program) (w : World) (K : PySem.W.Frag) (mg : Str → Option Value) (base : Heap) (x : Str) (ps : List Str) (k : Nat) (r : DSp) : Prop where
  ex : ∃ f fd, FnOk P w K mg base CX0 k f fd ps (spD K r) ∧ mg x = some (.ref f) ∧ PySem.W.keepIn K (.ref f) = true ∧ Binds K fd ps []
theorem de_call {x : Str} {p : Pos} {ps : List Str} {j k : Nat} {r : DSp} (C : Cal X.prog X.w X.K X.mg X.base x ps j r) (hr : Room k X.A) (ha : PA X (e :: es) (lowA X.K ta)) (hg : Gl X x := by rfl) (hj : j ≤ k := by decide) (hdb : (x == ("__debug__" : Str)) = false := by decide)
    (he : starEach (e :: es) X.env = (false, eval e X.env) :: starEach es X.env := by rfl) (hpl : (backTo pos (starEach es X.env)).any (·.1) = false := by rfl) : PE X (.Call (.Name x p) (e :: es) [] pos) (lowE X.K (uCall r ta)) := by
  obtain ⟨f, fd, G, hm, hk, hb⟩ := C.ex
  refine pe_le (pe_call G (hr.mono hj) hg hm hk hb .nil pass0 ha hdb he hpl) fun σ H Q h => ?_
  have h' := low_call h
  unfold tCB at h'
  unfold tCall spD
  simp only [List.append_nil]
  exact h'
theorem de_callB {x : Str} {p : Pos} {id : String} {r : DRL} (hc : CallR X (.builtin id) (lowL X.K r)) (hm : X.mg x = none) (hv : bootBuiltins x = some (.builtin id)) (ha : PA X (e :: es) (lowA X.K ta)) (hg : Gl X x := by rfl) (hn : x ≠ "__name__" := by decide) (hdb : (x == ("__debug__" : Str)) = false := by decide)
    (he : starEach (e :: es) X.env = (false, eval e X.env) :: starEach es X.env := by rfl) (hpl : (backTo pos (starEach es X.env)).any (·.1) = false := by rfl) : PE X (.Call (.Name x p) (e :: es) [] pos) (lowE X.K (uCall r ta)) :=
  pe_le (pe_callB hc hg hm hv ha hn hdb he hpl) fun _ _ _ => low_call
theorem de_callTy {x : Str} {p : Pos} {T : String} {r : DRL} (hc : CallR X (.type T) (lowL X.K r)) (hm : X.mg x = none) (hv : bootBuiltins x = some (.type T)) (ha : PA X (e :: es) (lowA X.K ta)) (hg : Gl X x := by rfl) (hn : x ≠ "__name__" := by decide) (hdb : (x == ("__debug__" : Str)) = false := by decide)
    (he : starEach (e :: es) X.env = (false, eval e X.env) :: starEach es X.env := by rfl) (hpl : (backTo pos (starEach es X.env)).any (·.1) = false := by rfl) : PE X (.Call (.Name x p) (e :: es) [] pos) (lowE X.K (uCall r ta)) :=
  pe_le (pe_callTy hc hg hm hv ha hn hdb he hpl) fun _ _ _ => low_call
end
end Dl

namespace Dl
open PySem PySem.Spec PyProof.Rows L2

/-! ### operators -/
section
variable {X : Cx}
def rInt (C : Int → Int → Prop) (g : Int → Int → PyData) : DR2 := fun x y S Q => asI x fun i => asI y fun j => C i j ∧ Q (.d (g i j)) S
def rInt0 (g : Int → Int → PyData) : DR2 := fun x y S Q => asI x fun i => asI y fun j => Q (.d (g i j)) S
theorem low_rI {C : Int → Int → Prop} {g : Int → Int → Int} (x y : V) (H : Hp) (Q : VK) (h : low2 X.K (rInt C fun i j => .int (g i j)) x y H Q) : rI C (fun i j => .int (g i j)) x y H Q := by
  obtain ⟨F, S, wx, wy, Qd, A, rx, ry, h, P⟩ := h
  obtain ⟨i, rfl, rfl, h⟩ := asI_of rx h
  obtain ⟨j, rfl, rfl, c, h⟩ := asI_of ry h
  exact ⟨i, j, rfl, rfl, c, P.now A (show WR X.K F (.int (g i j)) (.d (.int (g i j))) from Dp.int _) h⟩
theorem low_rI0 {g : Int → Int → Int} (x y : V) (H : Hp) (Q : VK) (h : low2 X.K (rInt0 fun i j => .int (g i j)) x y H Q) : rI0 (fun i j => .int (g i j)) x y H Q := by
  obtain ⟨F, S, wx, wy, Qd, A, rx, ry, h, P⟩ := h
  obtain ⟨i, rfl, rfl, h⟩ := asI_of rx h
  obtain ⟨j, rfl, rfl, h⟩ := asI_of ry h
  exact ⟨i, j, rfl, rfl, P.now A (show WR X.K F (.int (g i j)) (.d (.int (g i j))) from Dp.int _) h⟩
theorem low_rB0 {g : Int → Int → Bool} (x y : V) (H : Hp) (Q : VK) (h : low2 X.K (rInt0 fun i j => .bool (g i j)) x y H Q) : rI0 (fun i j => .bl (g i j)) x y H Q := by
  obtain ⟨F, S, wx, wy, Qd, A, rx, ry, h, P⟩ := h
  obtain ⟨i, rfl, rfl, h⟩ := asI_of rx h
  obtain ⟨j, rfl, rfl, h⟩ := asI_of ry h
  exact ⟨i, j, rfl, rfl, P.now A (show WR X.K F (.bl (g i j)) (.d (.bool (g i j))) from Dp.bl _) h⟩
abbrev rAdd : DR2 := rInt0 fun i j => .int (i + j)
abbrev rSub : DR2 := rInt0 fun i j => .int (i - j)
abbrev rMul : DR2 := rInt CMulW fun i j => .int (i * j)
abbrev rDiv : DR2 := rInt CDivW fun i j => .int (i / j)
abbrev rMod : DR2 := rInt (fun _ j => 0 < j) fun i j => .int (i % j)
abbrev rPow : DR2 := rInt CPow fun i j => .int (i ^ j.toNat)
abbrev rLt : DR2 := rInt0 fun i j => .bool (decide (i < j))
abbrev rLe : DR2 := rInt0 fun i j => .bool (decide (i ≤ j))
abbrev rGt : DR2 := rInt0 fun i j => .bool (decide (i > j))
abbrev rGe : DR2 := rInt0 fun i j => .bool (decide (i ≥ j))
theorem o_add : OpR X (binaryOp .Add) (low2 X.K rAdd) := opr_le op_add low_rI0
theorem o_sub : OpR X (binaryOp .Sub) (low2 X.K rSub) := opr_le op_sub low_rI0
theorem o_mul : OpR X (binaryOp .Mult) (low2 X.K rMul) := opr_le op_mulW low_rI
theorem o_div : OpR X (binaryOp .FloorDiv) (low2 X.K rDiv) := opr_le op_fdivW low_rI
theorem o_mod : OpR X (binaryOp .Mod) (low2 X.K rMod) := opr_le op_mod low_rI
theorem o_pow : OpR X (binaryOp .Pow) (low2 X.K rPow) := opr_le op_pow low_rI
theorem o_lt : OpR X (compareOp .Lt) (low2 X.K rLt) := opr_le op_lt low_rB0
theorem o_le : OpR X (compareOp .LtE) (low2 X.K rLe) := opr_le L2.op_le low_rB0
theorem o_gt : OpR X (compareOp .Gt) (low2 X.K rGt) := opr_le op_gt low_rB0
theorem o_ge : OpR X (compareOp .GtE) (low2 X.K rGe) := opr_le op_ge low_rB0
/-- == of data -/
def rEq (neg : Bool) : DR2 := fun x y S Q => dat S x fun d => dat S y fun e => SeqAt.shaped d = true ∧ SeqAt.shaped e = true ∧ Q (.d (.bool (if neg then !PyData.eqv d e else PyData.eqv d e))) S
theorem o_eq (hu : X.A.units + 64 < cLine) : OpR X (compareOp .Eq) (low2 X.K (rEq false)) := opr_le (op_eqD hu) fun x y H Q ⟨F, S, wx, wy, Qd, A, rx, ry, h, P⟩ => by
  obtain ⟨d, r1, h⟩ := dat_of A rx h
  obtain ⟨e, r2, h1, h2, h⟩ := dat_of A ry h
  exact ⟨d, e, r1, r2, h1, h2, P.now A (show WR X.K F (.bl _) (.d (.bool _)) from Dp.bl _) h⟩
theorem o_ne (hu : X.A.units + 64 < cLine) : OpR X (compareOp .NotEq) (low2 X.K (rEq true)) := opr_le (op_neD hu) fun x y H Q ⟨F, S, wx, wy, Qd, A, rx, ry, h, P⟩ => by
  obtain ⟨d, r1, h⟩ := dat_of A rx h
  obtain ⟨e, r2, h1, h2, h⟩ := dat_of A ry h
  exact ⟨d, e, r1, r2, h1, h2, P.now A (show WR X.K F (.bl _) (.d (.bool _)) from Dp.bl _) h⟩
/-- an item of a list or tuple -/
def asSq (S : Sto) (w : W) (k : List PyData → Prop) : Prop := dat S w fun d => match d with
  | .list ds => k ds
  | .tuple ds => k ds
  | _ => False
def itemAt (ds : List PyData) (i : Int) (k : PyData → Prop) : Prop := match atI ds i with
  | some e => k e
  | none => False
def rItem : DR2 := fun x y S Q => asSq S x fun ds => asI y fun i => itemAt ds i fun e => Q (.d e) S
theorem seq_of {K : PySem.W.Frag} {F H : Hp} {S : Sto} {v : V} {w : W} {k : List PyData → Prop} (A : Abs K F S H) (r : WR K F v w) (h : asSq S w k) :
    ∃ a vs ds, v = .ref a ∧ (SqL K H a vs ∨ SqT K H a vs) ∧ DpAll K F vs ds ∧ k ds := by
  unfold asSq dat at h
  split at h
  · split at h
    · cases r with
      | lst s a => exact ⟨_, _, _, rfl, .inl (A.fz.seq s), a, h⟩
    · cases r with
      | tup s a => exact ⟨_, _, _, rfl, .inr (seqT_mono A.fz s.sq), a, h⟩
    · exact h.elim
  · rename_i a
    split at h
    · rename_i ds e
      obtain ⟨_, vs, e2, r2⟩ := A.cl a _ e
      exact ⟨_, _, _, r, .inl (.inl (.inl e2)), r2, h⟩
    · exact h.elim
theorem atI_das {K : PySem.W.Frag} {F : Hp} {vs : List V} {ds : List PyData} {i : Int} {k : PyData → Prop} (r : DpAll K F vs ds) (h : itemAt ds i k) : ∃ v e, atI vs i = some v ∧ Dp K F v e ∧ k e := by
  unfold itemAt atI at h
  unfold atI
  rw [das_len r]
  cases q : ixN ds.length i with
  | none => rw [q] at h; exact h.elim
  | some j =>
    rw [q] at h
    simp only [Option.bind_some] at h ⊢
    cases z : ds[j]? with
    | none => rw [z] at h; exact h.elim
    | some e => rw [z] at h; obtain ⟨v, h1, h2⟩ := das_get r z; exact ⟨v, e, h1, h2, h⟩
theorem x_item : IxR X (low2 X.K rItem) := ix_le ix_seq fun x y H Q ⟨F, S, wx, wy, Qd, A, rx, ry, h, P⟩ => by
  obtain ⟨a, vs, ds, rfl, s1, r1, h⟩ := seq_of A rx h
  obtain ⟨i, rfl, rfl, h⟩ := asI_of ry h
  obtain ⟨v, e, h1, h2, h⟩ := atI_das r1 h
  have q := P.now A (show WR X.K F v (.d e) from h2) h
  rcases s1 with s1 | s1
  · exact .inl ⟨a, vs, i, v, rfl, rfl, s1, h1, q⟩
  · exact .inr (.inl ⟨a, vs, i, v, rfl, rfl, s1, h1, q⟩)
/-- t + u of tuples -/
def rCat : DR2 := fun x y S Q => asT x fun xs => asT y fun ys => xs.length + ys.length ≤ 1000 ∧ Q (.d (.tuple (xs ++ ys))) S
theorem o_cat : OpR X (binaryOp .Add) (low2 X.K rCat) := opr_le op_catA fun x y H Q ⟨F, S, wx, wy, Qd, A, rx, ry, h, P⟩ => by
  obtain ⟨a, vs, xs, rfl, s1, r1, rfl, h⟩ := asT_of rx h
  obtain ⟨b, us, ys, rfl, s2, r2, rfl, z, hq⟩ := asT_of ry h
  have l1 := das_len r1
  have l2 := das_len r2
  refine ⟨a, b, vs, us, rfl, rfl, seqT_mono A.fz s1, seqT_mono A.fz s2, k_line (by omega), fun e => ?_, fun _ e => ?_, fun _ _ p n => ?_⟩
  · subst e
    have e : xs = [] := List.eq_nil_of_length_eq_zero l1.symm
    subst e
    exact P.now A (show WR X.K F (.ref b) (.d (.tuple ys)) from ry) hq
  · subst e
    have e : ys = [] := List.eq_nil_of_length_eq_zero l2.symm
    subst e
    rw [List.append_nil] at hq
    exact P.now A (show WR X.K F (.ref a) (.d (.tuple xs)) from rx) hq
  · exact P.fresh A n (.tup (.inl upd_same) (dpms (same_new (A.free n).2) _ _ (das_append r1 r2))) hq
/-- slices -/
def cutD (xs : List PyData) (lo hi : Option Int) : List PyData := (xs.drop (HT.sIx xs.length 0 lo)).take (HT.sIx xs.length xs.length hi - HT.sIx xs.length 0 lo)
abbrev DTO := En → Sto → (Option Int → Sto → Prop) → Prop
def lowO (K : PySem.W.Frag) (u : DTO) : L2.St → Hp → (Option Int → Hp → Prop) → Prop := fun σ H Q => ∃ F S τ Qd, Abs K F S H ∧ ER K F σ τ ∧ u τ S Qd ∧
  ∀ o H' F' S', Ext F S H F' S' H' → Abs K F' S' H' → Qd o S' → Q o H'
abbrev uNoPart : DTO := fun _ S Q => Q none S
abbrev uPart (u : DTE) : DTO := fun τ S Q => u τ S fun x S1 => asI x fun i => Q (some i) S1
theorem do_none : PO X none (lowO X.K uNoPart) := ⟨fun pins s σ H Q I ⟨F, S, τ, Qd, A, E, h, P⟩ => po_none.run pins s σ H Q I (P none H F S Ext.refl A h)⟩
theorem do_some {e : Expr} {u : DTE} (he : PE X e (lowE X.K u)) : PO X (some e) (lowO X.K (uPart u)) := ⟨fun pins s σ H Q I ⟨F, S, τ, Qd, A, E, h, P⟩ => (po_some he).run pins s σ H Q I ⟨F, S, τ, _, A, E, h, fun v1 H1 F1 S1 x e1 A1 r1 q1 => by
  obtain ⟨i, rfl, rfl, q⟩ := asI_of r1 q1
  exact ⟨i, rfl, P _ _ _ _ e1 A1 q⟩⟩⟩
abbrev DRS := W → Option Int → Option Int → Sto → WK → Prop
def lowSl (K : PySem.W.Frag) (r : DRS) : V → Option Int → Option Int → Hp → VK → Prop := fun v lo hi H Q => ∃ F S w Qd, Abs K F S H ∧ WR K F v w ∧ r w lo hi S Qd ∧ Post K F S H Qd Q
abbrev uSl (r : DRS) (ua : DTE) (ul uh : DTO) : DTE := fun τ S Q => ua τ S fun x S1 => ul τ S1 fun l S2 => uh τ S2 fun h S3 => r x l h S3 Q
theorem de_slice {e : Expr} {u : DTE} {lo hi : Option Expr} {ul uh : DTO} {r : DRS} {p2 pos : Pos} (hr : SlR X (lowSl X.K r)) (he : PE X e (lowE X.K u)) (hl : PO X lo (lowO X.K ul)) (hh : PO X hi (lowO X.K uh)) : PE X (.Subscript e (.Slice lo hi none p2) pos) (lowE X.K (uSl r u ul uh)) := by
  refine pe_le (pe_slice hr he hl hh) fun σ H Q ⟨F, S, τ, Qd, A, E, h, P⟩ => ⟨F, S, τ, _, A, E, h, fun v1 H1 F1 S1 x e1 A1 r1 q1 => ?_⟩
  refine ⟨F1, S1, τ, _, A1, E.mono e1.fz, q1, fun l H2 F2 S2 e2 A2 q2 => ?_⟩
  refine ⟨F2, S2, τ, _, A2, E.mono (e1.fz.trans e2.fz), q2, fun l H3 F3 S3 e3 A3 q3 => ?_⟩
  exact ⟨F3, S3, x, Qd, A3, r1.mono (e2.fz.trans e3.fz), q3, P.ext (e1.trans (e2.trans e3))⟩
theorem cut_das {K : PySem.W.Frag} {F : Hp} {vs : List V} {ds : List PyData} (lo hi : Option Int) (r : DpAll K F vs ds) : DpAll K F (cutV vs lo hi) (cutD ds lo hi) := by
  unfold cutV cutD
  rw [das_len r]
  exact das_take _ (das_drop _ r)
theorem slr_le {t t' : V → Option Int → Option Int → Hp → VK → Prop} (h : SlR X t) (f : ∀ x lo hi H Q, t' x lo hi H Q → t x lo hi H Q) : SlR X t' := by
  intro pins s σ H x v vl vu lo hi sl Q I rx hs pl pu q
  exact h pins s σ H x v vl vu lo hi sl Q I rx hs pl pu (f x lo hi H Q q)
def rSlT : DRS := fun x lo hi S Q => asT x fun ds => Q (.d (.tuple (cutD ds lo hi))) S
def rSlL : DRS := fun x lo hi S Q => asL S x fun ds => Q (.d (.list (cutD ds lo hi))) S
theorem s_tup : SlR X (lowSl X.K rSlT) := slr_le sl_tupA fun x lo hi H Q ⟨F, S, w, Qd, A, rx, h, P⟩ => by
  obtain ⟨a, vs, xs, rfl, s1, r1, rfl, hq⟩ := asT_of rx h
  have l1 := das_len r1
  refine ⟨a, vs, rfl, seqT_mono A.fz s1, fun e => ?_, fun _ p n => ?_⟩
  · have e2 : cutD xs lo hi = xs := by
      unfold cutD
      rw [← l1, e.1, e.2]
      simp [l1]
    rw [e2] at hq
    exact P.now A (show WR X.K F (.ref a) (.d (.tuple xs)) from rx) hq
  · exact P.fresh A n (.tup (.inl upd_same) (dpms (same_new (A.free n).2) _ _ (cut_das lo hi r1))) hq
theorem s_lst : SlR X (lowSl X.K rSlL) := slr_le sl_list fun x lo hi H Q ⟨F, S, w, Qd, A, rx, h, P⟩ => by
  obtain ⟨a, vs, xs, rfl, s1, r1, h⟩ := asL_of A rx h
  exact ⟨a, vs, rfl, s1, fun p n => P.fresh A n (.lst (.inl (.inl upd_same)) (dpms (same_new (A.free n).2) _ _ (cut_das lo hi r1))) h⟩

/-! ### built-ins -/
def one1 (ws : List W) (k : W → Prop) : Prop := match ws with
  | [x] => k x
  | _ => False
def two2 (ws : List W) (k : W → W → Prop) : Prop := match ws with
  | [x, y] => k x y
  | _ => False
theorem one1_of {K : PySem.W.Frag} {F : Hp} {vs : List V} {ws : List W} {k : W → Prop} (r : WRs K F vs ws) (h : one1 ws k) : ∃ v w, vs = [v] ∧ WR K F v w ∧ k w := by
  unfold one1 at h
  split at h
  · cases r with
    | cons a b => cases b; exact ⟨_, _, rfl, a, h⟩
  · exact h.elim
theorem two2_of {K : PySem.W.Frag} {F : Hp} {vs : List V} {ws : List W} {k : W → W → Prop} (r : WRs K F vs ws) (h : two2 ws k) : ∃ v w v' w', vs = [v, v'] ∧ WR K F v w ∧ WR K F v' w' ∧ k w w' := by
  unfold two2 at h
  split at h
  · cases r with
    | cons a b =>
      cases b with
      | cons a' b => cases b; exact ⟨_, _, _, _, rfl, a, a', h⟩
  · exact h.elim
def cLen : DRL := fun ws S Q => one1 ws fun x => dat S x fun d => match d with
  | .tuple ds => Q (.d (.int ds.length)) S
  | .list ds => Q (.d (.int ds.length)) S
  | .str z => z.length ≤ 1000 ∧ Q (.d (.int z.length)) S
  | _ => False
theorem k_len : CallR X (.builtin "len") (lowL X.K cLen) := call_le (call_len_seq.or call_len_str) fun vs H Q ⟨F, S, ws, Qd, A, r, h, P⟩ => by
  obtain ⟨v, w, rfl, rv, h⟩ := one1_of r h
  obtain ⟨d, rd, h⟩ := dat_of A rv h
  split at h
  · cases rd with
    | tup s a => exact .inl ⟨_, _, rfl, .inr s, P.now A (show WR X.K F (.int _) (.d (.int _)) from Dp.int _) (by rw [das_len2 a]; exact h)⟩
  · cases rd with
    | lst s a => exact .inl ⟨_, _, rfl, .inl s, P.now A (show WR X.K F (.int _) (.d (.int _)) from Dp.int _) (by rw [das_len2 a]; exact h)⟩
  · cases rd
    exact .inr ⟨_, rfl, k_line h.1, P.now A (show WR X.K F (.int _) (.d (.int _)) from Dp.int _) h.2⟩
  · exact h.elim
def cAbs : DRL := fun ws S Q => one1 ws fun x => asI x fun i => Q (.d (.int (if i < 0 then -i else i))) S
theorem k_abs : CallR X (.builtin "abs") (lowL X.K cAbs) := call_le call_abs fun vs H Q ⟨F, S, ws, Qd, A, r, h, P⟩ => by
  obtain ⟨v, w, rfl, rv, h⟩ := one1_of r h
  obtain ⟨i, rfl, rfl, h⟩ := asI_of rv h
  exact ⟨i, rfl, P.now A (show WR X.K F (.int _) (.d (.int _)) from Dp.int _) h⟩
def cMin2 : DRL := fun ws S Q => two2 ws fun x y => asI x fun i => asI y fun j => Q (.d (.int (if j < i then j else i))) S
theorem k_min2 (hc : X.calm = true) : CallR X (.builtin "min") (lowL X.K cMin2) := call_le (call_min2 hc) fun vs H Q ⟨F, S, ws, Qd, A, r, h, P⟩ => by
  obtain ⟨v, w, v', w', rfl, rv, rv', h⟩ := two2_of r h
  obtain ⟨i, rfl, rfl, h⟩ := asI_of rv h
  obtain ⟨j, rfl, rfl, h⟩ := asI_of rv' h
  exact ⟨i, j, rfl, P.now A (show WR X.K F (.int _) (.d (.int _)) from Dp.int _) h⟩
/-- ints of data -/
def ints? : List PyData → Option (List Int)
  | [] => some []
  | .int i :: r => (ints? r).map (i :: ·)
  | _ :: _ => none
def bools? : List PyData → Option (List Bool)
  | [] => some []
  | .bool i :: r => (bools? r).map (i :: ·)
  | _ :: _ => none
def strs? : List PyData → Option (List Str)
  | [] => some []
  | .str i :: r => (strs? r).map (i :: ·)
  | _ :: _ => none
theorem ints_of : ∀ {ds : List PyData} {ns : List Int}, ints? ds = some ns → ds = ns.map PyData.int
  | [], ns, h => by cases h; rfl
  | .int i :: r, ns, h => by
    have h' : (ints? r).map (i :: ·) = some ns := h
    cases q : ints? r with
    | none => rw [q] at h'; cases h'
    | some ms => rw [q] at h'; cases h'; rw [ints_of q]; rfl
  | .none :: _, _, h => by cases h
  | .bool _ :: _, _, h => by cases h
  | .str _ :: _, _, h => by cases h
  | .list _ :: _, _, h => by cases h
  | .tuple _ :: _, _, h => by cases h
  | .dict _ :: _, _, h => by cases h
theorem bools_of : ∀ {ds : List PyData} {ns : List Bool}, bools? ds = some ns → ds = ns.map PyData.bool
  | [], ns, h => by cases h; rfl
  | .bool i :: r, ns, h => by
    have h' : (bools? r).map (i :: ·) = some ns := h
    cases q : bools? r with
    | none => rw [q] at h'; cases h'
    | some ms => rw [q] at h'; cases h'; rw [bools_of q]; rfl
  | .none :: _, _, h => by cases h
  | .int _ :: _, _, h => by cases h
  | .str _ :: _, _, h => by cases h
  | .list _ :: _, _, h => by cases h
  | .tuple _ :: _, _, h => by cases h
  | .dict _ :: _, _, h => by cases h
theorem ints_map : ∀ ns : List Int, ints? (ns.map PyData.int) = some ns
  | [] => rfl
  | n :: ns => by show (ints? (ns.map PyData.int)).map (n :: ·) = _; rw [ints_map ns]; rfl
theorem bools_map : ∀ ns : List Bool, bools? (ns.map PyData.bool) = some ns
  | [] => rfl
  | n :: ns => by show (bools? (ns.map PyData.bool)).map (n :: ·) = _; rw [bools_map ns]; rfl
def asIs (ds : List PyData) (k : List Int → Prop) : Prop := match ints? ds with
  | some ns => k ns
  | none => False
def asBs (ds : List PyData) (k : List Bool → Prop) : Prop := match bools? ds with
  | some ns => k ns
  | none => False
theorem asIs_map {ns : List Int} {k : List Int → Prop} : asIs (ns.map PyData.int) k = k ns := by unfold asIs; rw [ints_map]
theorem asBs_map {ns : List Bool} {k : List Bool → Prop} : asBs (ns.map PyData.bool) k = k ns := by unfold asBs; rw [bools_map]
def cSum : DRL := fun ws S Q => one1 ws fun x => asL S x fun ds => asIs ds fun ns => Q (.d (.int ns.sum)) S
theorem k_sum (hc : X.calm = true) : CallR X (.builtin "sum") (lowL X.K cSum) := call_le (cr_sum hc) fun vs H Q ⟨F, S, ws, Qd, A, r, h, P⟩ => by
  obtain ⟨v, w, rfl, rv, h⟩ := one1_of r h
  obtain ⟨a, us, ds, rfl, s1, r1, h⟩ := asL_of A rv h
  unfold asIs at h
  split at h
  · rename_i ns e
    rw [ints_of e] at r1
    rw [das_ints r1] at s1
    exact ⟨a, ns, rfl, s1, P.now A (show WR X.K F (.int _) (.d (.int _)) from Dp.int _) h⟩
  · exact h.elim
def cAll : DRL := fun ws S Q => one1 ws fun x => asL S x fun ds => asBs ds fun ns => Q (.d (.bool (ns.all id))) S
theorem k_all (hc : X.calm = true) : CallR X (.builtin "all") (lowL X.K cAll) := call_le (cr_all hc) fun vs H Q ⟨F, S, ws, Qd, A, r, h, P⟩ => by
  obtain ⟨v, w, rfl, rv, h⟩ := one1_of r h
  obtain ⟨a, us, ds, rfl, s1, r1, h⟩ := asL_of A rv h
  unfold asBs at h
  split at h
  · rename_i ns e
    rw [bools_of e] at r1
    rw [das_bls r1] at s1
    exact ⟨a, ns, rfl, s1, P.now A (show WR X.K F (.bl _) (.d (.bool _)) from Dp.bl _) h⟩
  · exact h.elim
/-- max, min of a list of ints, as folds -/
def cMaxL : DRL := fun ws S Q => one1 ws fun x => asL S x fun ds => asIs ds fun ns => 0 < ns.length ∧ ∀ m, m ∈ ns → (∀ y, y ∈ ns → y ≤ m) → Q (.d (.int m)) S
def cMinL : DRL := fun ws S Q => one1 ws fun x => asL S x fun ds => asIs ds fun ns => 0 < ns.length ∧ ∀ m, m ∈ ns → (∀ y, y ∈ ns → m ≤ y) → Q (.d (.int m)) S
theorem k_maxL (hc : X.calm = true) : CallR X (.builtin "max") (lowL X.K cMaxL) := call_le (cr_max hc) fun vs H Q ⟨F, S, ws, Qd, A, r, h, P⟩ => by
  obtain ⟨v, w, rfl, rv, h⟩ := one1_of r h
  obtain ⟨a, us, ds, rfl, s1, r1, h⟩ := asL_of A rv h
  unfold asIs at h
  split at h
  · rename_i ns e
    rw [ints_of e] at r1
    rw [das_ints r1] at s1
    exact ⟨a, ns, rfl, s1, h.1, fun m hm hl => P.now A (show WR X.K F (.int _) (.d (.int _)) from Dp.int _) (h.2 m hm hl)⟩
  · exact h.elim
theorem k_minL (hc : X.calm = true) : CallR X (.builtin "min") (lowL X.K cMinL) := call_le (cr_min hc) fun vs H Q ⟨F, S, ws, Qd, A, r, h, P⟩ => by
  obtain ⟨v, w, rfl, rv, h⟩ := one1_of r h
  obtain ⟨a, us, ds, rfl, s1, r1, h⟩ := asL_of A rv h
  unfold asIs at h
  split at h
  · rename_i ns e
    rw [ints_of e] at r1
    rw [das_ints r1] at s1
    exact ⟨a, ns, rfl, s1, h.1, fun m hm hl => P.now A (show WR X.K F (.int _) (.d (.int _)) from Dp.int _) (h.2 m hm hl)⟩
  · exact h.elim
/-- tuple(xs) -/
def cTuple : DRL := fun ws S Q => one1 ws fun x => asL S x fun ds => Q (.d (.tuple ds)) S
theorem k_tuple : CallR X (.type "tuple") (lowL X.K cTuple) := call_le call_tuple_of fun vs H Q ⟨F, S, ws, Qd, A, r, h, P⟩ => by
  obtain ⟨v, w, rfl, rv, h⟩ := one1_of r h
  obtain ⟨a, us, ds, rfl, s1, r1, h⟩ := asL_of A rv h
  exact ⟨a, us, rfl, .inl ⟨s1, fun p n => P.fresh A n (.tup (.inl upd_same) (dpms (same_new (A.free n).2) _ _ r1)) h⟩⟩
/-- list(t): a list that may be changed; or not -/
def cListC : DRL := fun ws S Q => one1 ws fun x => asSq S x fun ds => ∀ p, S p = none → Q (.c p) (put S p (.lst ds))
def cListF : DRL := fun ws S Q => one1 ws fun x => asSq S x fun ds => Q (.d (.list ds)) S
theorem k_listC : CallR X (.type "list") (lowL X.K cListC) := call_le call_list_of fun vs H Q ⟨F, S, ws, Qd, A, r, h, P⟩ => by
  obtain ⟨v, w, rfl, rv, h⟩ := one1_of r h
  obtain ⟨a, us, ds, rfl, s1, r1, h⟩ := seq_of A rv h
  refine ⟨a, us, rfl, s1, fun p n => ?_⟩
  obtain ⟨A2, e2⟩ := A.newc (c := .lst ds) n ⟨us, upd_same, r1⟩
  exact P _ _ _ _ (.c p) e2 A2 rfl (h p (A.free n).1)
theorem k_listF : CallR X (.type "list") (lowL X.K cListF) := call_le call_list_of fun vs H Q ⟨F, S, ws, Qd, A, r, h, P⟩ => by
  obtain ⟨v, w, rfl, rv, h⟩ := one1_of r h
  obtain ⟨a, us, ds, rfl, s1, r1, h⟩ := seq_of A rv h
  exact ⟨a, us, rfl, s1, fun p n => P.fresh A n (.lst (.inl (.inl upd_same)) (dpms (same_new (A.free n).2) _ _ r1)) h⟩
end
end Dl

namespace Dl
open PySem PySem.Spec PyProof.Rows L2

/-! ### statements -/
section
variable {X : Cx} {st : Stmt} {rest : List Stmt} {t u : DTS} {e : Expr} {ue : DTE} {pos : Pos}
abbrev sNext : DTS := fun D τ S => D.nx τ S
abbrev sSeq (t u : DTS) : DTS := fun D τ S => t { D with nx := u D } τ S
theorem dss_nil : PSs X [] (lowS X.K sNext) := pss_le pss_nil fun D σ H ⟨F, S, τ, Dd, A, E, h, p1, _, _, _⟩ => p1 _ _ _ _ _ Ext.refl A E h
theorem dss_cons (h1 : PS X st (lowS X.K t)) (h2 : PSs X rest (lowS X.K u)) : PSs X (st :: rest) (lowS X.K (sSeq t u)) :=
  pss_le (pss_cons h1 h2) fun D σ H ⟨F, S, τ, Dd, A, E, h, p1, p2, p3, p4⟩ =>
    ⟨F, S, τ, { Dd with nx := u Dd }, A, E, h, fun σ' H' F' S' τ' e' A' E' q => ⟨F', S', τ', Dd, A', E', q, p1.ext e', p2.ext e', p3.ext e', p4.ext e'⟩, p2, p3, p4⟩
theorem dss_one (h1 : PS X st (lowS X.K t)) : PSs X [st] (lowS X.K t) := pss_one h1
theorem ds_pass : PS X (.Pass pos) (lowS X.K sNext) := ps_le ps_pass fun D σ H ⟨F, S, τ, Dd, A, E, h, p1, _, _, _⟩ => p1 _ _ _ _ _ Ext.refl A E h
abbrev sDrop (ue : DTE) : DTS := fun D τ S => ue τ S fun _ S1 => D.nx τ S1
theorem ds_expr (he : PE X e (lowE X.K ue)) (hs : swapsWith e none pos.line X.env = pure false := by rfl) : PS X (.Expr e pos) (lowS X.K (sDrop ue)) :=
  ps_le (ps_expr he hs) fun D σ H ⟨F, S, τ, Dd, A, E, h, p1, _, _, _⟩ => ⟨F, S, τ, _, A, E, h, fun v1 H1 F1 S1 x e1 A1 r1 q1 => p1 _ _ _ _ _ e1 A1 (E.mono e1.fz) q1⟩
/-- return: a list in a cell may be given as it is, or as data that isn't changed any more -/
abbrev sRet (ue : DTE) : DTS := fun D τ S => ue τ S fun x S1 => D.rt x S1
theorem ds_ret (he : PE X e (lowE X.K ue)) : PS X (.Return (some e) pos) (lowS X.K (sRet ue)) :=
  ps_le (ps_ret he) fun D σ H ⟨F, S, τ, Dd, A, E, h, _, p2, _, _⟩ => ⟨F, S, τ, _, A, E, h, p2⟩
/-- return of a name's list that was made here: frozen; the cell is gone -/
abbrev sRetF (ue : DTE) : DTS := fun D τ S => ue τ S fun x S1 => match x with
  | .c a => (match S1 a with | some (.lst ds) => D.rt (.d (.list ds)) (del S1 a) | _ => False)
  | _ => False
theorem ds_retF (he : PE X e (lowE X.K ue)) : PS X (.Return (some e) pos) (lowS X.K (sRetF ue)) :=
  ps_le (ps_ret he) fun D σ H ⟨F, S, τ, Dd, A, E, h, _, p2, _, _⟩ => ⟨F, S, τ, _, A, E, h, fun v1 H1 F1 S1 x e1 A1 r1 q1 => by
    split at q1
    · rename_i a
      split at q1
      · rename_i ds q
        obtain ⟨F2, A2, e2, r2⟩ := A1.freeze q
        cases r1
        exact p2 _ _ _ _ (.d (.list ds)) (e1.trans e2) A2 r2 q1
      · exact q1.elim
    · exact q1.elim⟩
abbrev sRetN : DTS := fun D _ S => D.rt (.d .none) S
theorem ds_retN : PS X (.Return none pos) (lowS X.K sRetN) := ps_le ps_retN fun D σ H ⟨F, S, τ, Dd, A, E, h, _, p2, _, _⟩ => p2.now A (show WR X.K F .non (.d .none) from Dp.non) h
abbrev sIf (c : DTT) (t u : DTS) : DTS := fun D τ S => c τ S fun k S1 => if k = true then t D τ S1 else u D τ S1
theorem ds_if {c : Expr} {a b : List Stmt} {uc : DTT} (hc : PT X c (lowT X.K uc)) (ha : PSs X a (lowS X.K t)) (hb : PSs X b (lowS X.K u)) : PS X (.If c a b pos) (lowS X.K (sIf uc t u)) :=
  ps_le (ps_if hc ha hb) fun D σ H ⟨F, S, τ, Dd, A, E, h, p1, p2, p3, p4⟩ => ⟨F, S, τ, _, A, E, h, fun k H1 F1 S1 e1 A1 q1 => by
    cases k with
    | true => exact iteT ⟨F1, S1, τ, Dd, A1, E.mono e1.fz, q1, p1.ext e1, p2.ext e1, p3.ext e1, p4.ext e1⟩
    | false => exact iteF ⟨F1, S1, τ, Dd, A1, E.mono e1.fz, q1, p1.ext e1, p2.ext e1, p3.ext e1, p4.ext e1⟩⟩

/-! ### targets -/
abbrev gN (i : Nat) : DTG := fun w τ S Q => Q (τ.set i (some w)) S
theorem set_set {α : Type} : ∀ (l : List α) (i : Nat) (a b : α), (l.set i a).set i b = l.set i b
  | [], _, _, _ => rfl
  | _ :: _, 0, _, _ => rfl
  | x :: l, i + 1, a, b => by show x :: ((l.set i a).set i b) = x :: l.set i b; rw [set_set]
theorem wipe_wipe {σ : L2.St} : ∀ {vs : List Nat}, wipe (wipe σ vs) vs = wipe σ vs := by
  intro vs
  have key : ∀ us : List Nat, (∀ i ∈ us, i ∈ vs) → wipe (wipe σ vs) us = wipe σ vs := by
    intro us
    induction us with
    | nil => intro _; rfl
    | cons w us ih =>
      intro h
      show (wipe (wipe σ vs) us).set w none = wipe σ vs
      rw [ih fun i hi => h i (List.mem_cons_of_mem _ hi)]
      have hw := h w List.mem_cons_self
      have z : ∀ us : List Nat, w ∈ us → (wipe σ us).set w none = wipe σ us := by
        intro us
        induction us with
        | nil => intro h; cases h
        | cons a us ih =>
          intro h
          show ((wipe σ us).set a none).set w none = (wipe σ us).set a none
          by_cases e : a = w
          · subst e; rw [set_set]
          · rw [List.set_comm _ _ e, ih ((List.mem_cons.mp h).elim (fun q => absurd q.symm e) id)]
      exact z vs hw
  exact key vs fun _ h => h
theorem wipe_set {σ : L2.St} {i : Nat} {v : Option V} : ∀ {vs : List Nat}, i ∈ vs → wipe (σ.set i v) vs = wipe σ vs
  | w :: vs, h => by
    show (wipe (σ.set i v) vs).set w none = (wipe σ vs).set w none
    by_cases e : i ∈ vs
    · rw [wipe_set e]
    · have e2 : i = w := by
        rcases List.mem_cons.mp h with z | z
        · exact z
        · exact absurd z e
      subst e2
      rw [wipe_out e, set_set]
where wipe_out {σ : L2.St} {i : Nat} {v : Option V} : ∀ {vs : List Nat}, i ∉ vs → wipe (σ.set i v) vs = (wipe σ vs).set i v
  | [], _ => rfl
  | w :: vs, h => by
    have h1 : i ≠ w := fun z => h (by simp [z])
    show (wipe (σ.set i v) vs).set w none = ((wipe σ vs).set w none).set i v
    rw [wipe_out (fun z => h (List.mem_cons_of_mem _ z)), List.set_comm _ _ h1]
theorem dg_name {vs : List Nat} {i : Nat} {x : Str} (hN : X.N.Nodup) (hv : i ∈ vs := by decide) (hi : X.N[i]? = some x := by rfl) (hx : Loc X.env.scope x := by first | exact Or.inl rfl | exact Or.inr rfl)
    (hf : X.fn x = true ∨ X.env.scope.names.lookup x = some .local := by first | exact .inl rfl | exact .inr rfl | assumption) : PG X (.Name x pos) (lowG X.K vs (gN i)) :=
  pg_le (pg_name hN hi hx hf) fun v σ H Q ⟨F, S, τ, w, Qd, A, E, r, h, P⟩ => P _ _ _ _ _ (wipe_set hv) Ext.refl A (E.set r) h
def gsNil : DTGs := fun ds τ S Q => match ds with
  | [] => Q τ S
  | _ => False
def gsCons (g : DTG) (gs : DTGs) : DTGs := fun ds τ S Q => match ds with
  | d :: r => g (.d d) τ S fun τ' S' => gs r τ' S' Q
  | _ => False
theorem dgs_nil {vs : List Nat} : PGs X [] (lowGs X.K vs gsNil) := pgs_le pgs_nil fun us σ H Q ⟨F, S, τ, xs, Qd, A, E, r, h, P⟩ => by
  unfold gsNil at h
  split at h
  · cases r; exact ⟨rfl, P _ _ _ _ _ rfl Ext.refl A E h⟩
  · exact h.elim
theorem dgs_cons {vs : List Nat} {es : List Expr} {g : DTG} {gs : DTGs} (h1 : PG X e (lowG X.K vs g)) (h2 : PGs X es (lowGs X.K vs gs)) (hs : (assignEach (e :: es) X.env).map (·.2) = assign e X.env :: (assignEach es X.env).map (·.2) := by rfl) : PGs X (e :: es) (lowGs X.K vs (gsCons g gs)) :=
  pgs_le (pgs_cons h1 h2 hs) fun us σ H Q ⟨F, S, τ, xs, Qd, A, E, r, h, P⟩ => by
    unfold gsCons at h
    split at h
    · rename_i d ds
      cases r with
      | cons a b =>
        refine ⟨_, _, rfl, F, S, τ, .d d, _, A, E, a, h, fun σ1 H1 F1 S1 τ1 w1 e1 A1 E1 q1 => ?_⟩
        exact ⟨F1, S1, τ1, ds, Qd, A1, E1, dpms e1.fz _ _ b, q1, fun σ2 H2 F2 S2 τ2 w2 e2 A2 E2 q2 => P _ _ _ _ _ (w2.trans w1) (e1.trans e2) A2 E2 q2⟩
    · exact h.elim
abbrev gTp (n : Nat) (gs : DTGs) : DTG := fun w τ S Q => asT w fun ds => ds.length = n ∧ gs ds τ S Q
theorem dg_tup {vs : List Nat} {es : List Expr} {k n : Nat} {gs : DTGs} (hc : X.calm = true) (h : PGs X es (lowGs X.K vs gs)) (hn : (assignEach es X.env).length = n := by rfl) (hst : (assignEach es X.env).findIdx? (·.1) = none := by rfl) : PG X (.Tuple es k pos) (lowG X.K vs (gTp n gs)) :=
  pg_le (pg_tup hc h hn hst) fun v σ H Q ⟨F, S, τ, w, Qd, A, E, r, h, P⟩ => by
    obtain ⟨a, us, ds, rfl, s1, r1, rfl, hl, hq⟩ := asT_of r h
    exact ⟨a, us, rfl, seqT_mono A.fz s1, (das_len r1).trans hl, F, S, τ, ds, Qd, A, E, r1, hq, P⟩
/-- o[i] = v, o a list's cell -/
def storeL (o : W) (k : Int) (d : PyData) (S : Sto) (Q : Sto → Prop) : Prop := match o with
  | .c a => (match S a with
    | some (.lst ds) => (match ixN ds.length k with | some j => Q (put S a (.lst (ds.set j d))) | none => False)
    | _ => False)
  | _ => False
abbrev gSubL (uo ui : DTE) : DTG := fun w τ S Q => uo τ S fun o S1 => ui τ S1 fun i S2 => asI i fun k => asD w fun d => storeL o k d S2 fun S3 => Q τ S3
theorem dg_sub {vs : List Nat} {o i : Expr} {uo ui : DTE} (ho : PE X o (lowE X.K uo)) (hi : PE X i (lowE X.K ui)) (ha : ∀ v, assign (.Subscript o i pos) X.env v = (do
      let ov ← holding [v] (eval o X.env)
      let iv ← holding [v, ov] (eval i X.env)
      standAt pos
      holding [v, ov, iv] (setItem ov iv v)
      release [v, ov, iv] []) := by intro _; rfl) : PG X (.Subscript o i pos) (lowG X.K vs (gSubL uo ui)) :=
  pg_le (pg_sub ho hi set_list ha) fun v σ H Q ⟨F, S, τ, w, Qd, A, E, r, h, P⟩ => by
    refine ⟨F, S, τ, _, A, E, h, fun v1 H1 F1 S1 x e1 A1 r1 q1 => ?_⟩
    refine ⟨F1, S1, τ, _, A1, E.mono e1.fz, q1, fun v2 H2 F2 S2 y e2 A2 r2 q2 => ?_⟩
    obtain ⟨k, rfl, rfl, q3⟩ := asI_of r2 q2
    obtain ⟨d, r3, rfl, q4⟩ := asD_of (r.mono (e1.fz.trans e2.fz)) q3
    unfold storeL at q4
    split at q4
    · rename_i a
      split at q4
      · rename_i ds q
        split at q4
        · rename_i j hj
          obtain ⟨_, us, e3, r4⟩ := A2.cl a _ q
          cases r1
          refine ⟨a, us, k, j, rfl, rfl, e3, by rw [das_len r4]; exact hj, ?_⟩
          obtain ⟨A3, e4⟩ := A2.wr (o := .lst (us.set j v)) (c := .lst (ds.set j d)) q ⟨_, upd_same, das_set r3 j r4⟩
          exact P _ _ _ _ _ rfl (e1.trans (e2.trans e4)) A3 (E.mono (e1.fz.trans e2.fz)) q4
        · exact q4.elim
      · exact q4.elim
    · exact q4.elim

/-! ### assignments -/
abbrev sAsg (ue : DTE) (g : DTG) : DTS := fun D τ S => ue τ S fun x S1 => g x τ S1 D.nx
theorem ds_asg {vs : List Nat} {tg : Expr} {g : DTG} (he : PE X e (lowE X.K ue)) (hg : PG X tg (lowG X.K vs g)) (hs : swapsWithSole [tg] e pos.line X.env = pure false := by rfl) (hw : swappedStores [tg] e X.env = pure none := by rfl) (h1 : (assignEach [tg] X.env).map (·.2) = [assign tg X.env] := by rfl) : PS X (.Assign [tg] e pos) (lowS X.K (sAsg ue g)) :=
  ps_le (ps_asg he hg hs hw h1) fun D σ H ⟨F, S, τ, Dd, A, E, h, p1, _, _, _⟩ => ⟨F, S, τ, _, A, E, h, fun v1 H1 F1 S1 x e1 A1 r1 q1 => ⟨F1, S1, τ, x, _, A1, E.mono e1.fz, r1, q1, fun σ2 H2 F2 S2 τ2 _ e2 A2 E2 q2 => p1 _ _ _ _ _ (e1.trans e2) A2 E2 q2⟩⟩
abbrev sSet (i : Nat) (ue : DTE) : DTS := fun D τ S => ue τ S fun x S1 => D.nx (τ.set i (some x)) S1
theorem ds_set {i : Nat} {x : Str} {pos' : Pos} (hN : X.N.Nodup) (he : PE X e (lowE X.K ue)) (hi : X.N[i]? = some x := by rfl) (hx : Loc X.env.scope x := by first | exact Or.inl rfl | exact Or.inr rfl) (hs : swapsWith e (some (.Name x pos')) pos.line X.env = pure false := by rfl)
    (hf : X.fn x = true ∨ X.env.scope.names.lookup x = some .local := by first | exact .inl rfl | exact .inr rfl | assumption) : PS X (.Assign [.Name x pos'] e pos) (lowS X.K (sSet i ue)) :=
  ps_le (ps_set (i := i) hN hi hx he hs hf) fun D σ H ⟨F, S, τ, Dd, A, E, h, p1, _, _, _⟩ => ⟨F, S, τ, _, A, E, h, fun v1 H1 F1 S1 x e1 A1 r1 q1 => p1 _ _ _ _ _ e1 A1 ((E.mono e1.fz).set r1) q1⟩
abbrev sPar (i j : Nat) (ta : DTA) : DTS := fun D τ S => ta τ S fun xs S1 => two2 xs fun x y => D.nx ((τ.set i (some x)).set j (some y)) S1
theorem ds_par {i j : Nat} {x y : Str} {a b : Expr} {ta : DTA} {px py pt : Pos} {kt k2 pt2} (hN : X.N.Nodup) (ha : PA X [a, b] (lowA X.K ta)) (hc : X.calm = true := by rfl) (hi : X.N[i]? = some x := by rfl) (hj : X.N[j]? = some y := by rfl) (hij : i ≠ j := by decide)
    (hx : X.env.scope.names.lookup x = some .local := by rfl) (hy : X.env.scope.names.lookup y = some .local := by rfl)
    (hw : swappedStores [.Tuple [.Name x px, .Name y py] kt pt] (.Tuple [a, b] k2 pt2) X.env = pure (some [x, y]) := by rfl)
    (hs : swapsWithSole [.Tuple [.Name x px, .Name y py] kt pt] (.Tuple [a, b] k2 pt2) pos.line X.env = pure false := by rfl) :
    PS X (.Assign [.Tuple [.Name x px, .Name y py] kt pt] (.Tuple [a, b] k2 pt2) pos) (lowS X.K (sPar i j ta)) :=
  ps_le (ps_par hc hN hi hj hij hx hy ha hw hs) fun D σ H ⟨F, S, τ, Dd, A, E, h, p1, _, _, _⟩ => ⟨F, S, τ, _, A, E, h, fun vs H1 F1 S1 xs e1 A1 r1 q1 => by
    obtain ⟨v, w, v', w', rfl, rv, rv', q1⟩ := two2_of r1 q1
    exact ⟨v, v', rfl, p1 _ _ _ _ _ e1 A1 (((E.mono e1.fz).set rv).set rv') q1⟩⟩
abbrev sAug (i : Nat) (ue : DTE) : DTS := fun D τ S => uVar i τ S fun x _ => asI x fun a => ue τ S fun y S1 => asI y fun b => D.nx (τ.set i (some (.d (.int (a + b))))) S1
theorem ds_aug {i : Nat} {x : Str} {pos' : Pos} (hN : X.N.Nodup) (he : PE X e (lowE X.K ue)) (hi : X.N[i]? = some x := by rfl) (hx : Loc X.env.scope x := by first | exact Or.inl rfl | exact Or.inr rfl)
    (hf : X.fn x = true ∨ X.env.scope.names.lookup x = some .local := by first | exact .inl rfl | exact .inr rfl | assumption) : PS X (.AugAssign (.Name x pos') .Add e pos) (lowS X.K (sAug i ue)) :=
  ps_le (ps_aug (i := i) hN hi hx he ip_add hf) fun D σ H ⟨F, S, τ, Dd, A, E, h, p1, _, _, _⟩ => by
    unfold sAug uVar at h
    split at h
    · rename_i w q
      obtain ⟨v, e1, r⟩ := E.at' i w q
      obtain ⟨a, rfl, rfl, h⟩ := asI_of r h
      refine ⟨_, e1, F, S, τ, _, A, E, h, fun v1 H1 F1 S1 x e1 A1 r1 q1 => ?_⟩
      obtain ⟨b, rfl, rfl, q1⟩ := asI_of r1 q1
      exact ⟨a, b, rfl, rfl, p1 _ _ _ _ _ e1 A1 ((E.mono e1.fz).set (show WR X.K F1 (.int (a + b)) (.d (.int (a + b))) from Dp.int _)) q1⟩
    · exact h.elim

/-! ### loops -/
def whileN (c : DTT) (b : DTS) (D : DEnds) : Nat → En → Sto → Prop
  | 0 => fun _ _ => False
  | n + 1 => fun τ S => c τ S fun k S1 => if k = true then b { D with nx := whileN c b D n, ct := whileN c b D n, bk := D.nx } τ S1 else D.nx τ S1
abbrev sWhile (c : DTT) (b : DTS) : DTS := fun D τ S => ∃ n, whileN c b D n τ S
theorem ds_while {c : Expr} {body : List Stmt} {uc : DTT} {ub : DTS} (hc : PT X c (lowT X.K uc)) (hb : PSs X body (lowS X.K ub)) (hp : PassesOwn (model X.prog X.w) X.A X.env X.xe := by exact PassesOwn.never) : PS X (.While c body [] pos) (lowS X.K (sWhile uc ub)) :=
  ps_le (ps_while hp hc hb) fun D σ H ⟨F, S, τ, Dd, A, E, ⟨n, h⟩, p1, p2, p3, p4⟩ => by
    refine ⟨fun m σ2 H2 => ∃ F2 S2 τ2, Ext F S H F2 S2 H2 ∧ Abs X.K F2 S2 H2 ∧ ER X.K F2 σ2 τ2 ∧ whileN uc ub Dd m τ2 S2, ⟨n, F, S, τ, Ext.refl, A, E, h⟩, fun m σ2 H2 hW => ?_⟩
    obtain ⟨F2, S2, τ2, e2, A2, E2, hw⟩ := hW
    cases m with
    | zero => exact hw.elim
    | succ m =>
      refine ⟨F2, S2, τ2, _, A2, E2, hw, fun k H3 F3 S3 e3 A3 q3 => ?_⟩
      have e23 := e2.trans e3
      cases k with
      | false => exact iteF (p1 _ _ _ _ _ e23 A3 (E2.mono e3.fz) q3)
      | true =>
        refine iteT ⟨fun σ' H' => ∃ F4 S4 τ4, Ext F S H F4 S4 H' ∧ Abs X.K F4 S4 H' ∧ ER X.K F4 σ' τ4 ∧ whileN uc ub Dd m τ4 S4, fun σ' H' z => ⟨m, Nat.lt_succ_self m, z⟩, F3, S3, τ2, _, A3, E2.mono e3.fz, q3, ?_, p2.ext e23, p1.ext e23, ?_⟩
        · exact fun σ' H' F' S' τ' e' A' E' q => ⟨F', S', τ', e23.trans e', A', E', q⟩
        · exact fun σ' H' F' S' τ' e' A' E' q => ⟨F', S', τ', e23.trans e', A', E', q⟩
def forD (g : DTG) (b : DTS) (D : DEnds) : List PyData → En → Sto → Prop
  | [] => D.nx
  | d :: ds => fun τ S => g (.d d) τ S fun τ' S' => b { D with nx := forD g b D ds, ct := forD g b D ds, bk := D.nx } τ' S'
abbrev sFor (ui : DTI) (g : DTG) (b : DTS) : DTS := fun D τ S => ui τ S fun ds S1 => forD g b D ds τ S1
theorem ds_for {vs : List Nat} {tg iter : Expr} {body : List Stmt} {ui : DTI} {g : DTG} {ub : DTS} (hc : X.calm = true) (hi : PI X tg iter (lowI X.K ui)) (hg : PG X tg (lowG X.K vs g)) (hb : PSs X body (lowS X.K ub))
    (hp : PassesOwn (model X.prog X.w) X.A X.env X.xe := by exact PassesOwn.never) (hs : ∀ x, foldedSetIterable iter X.env x = pure x := by intro _; rfl) : PS X (.For tg iter body [] pos) (lowS X.K (sFor ui g ub)) :=
  ps_le (ps_for hp hc hi hg hb hs) fun D σ H ⟨F, S, τ, Dd, A, E, h, p1, p2, p3, p4⟩ => by
    refine ⟨F, S, τ, _, A, E, h, fun J H1 F1 S1 ds e1 A1 y1 q1 => ?_⟩
    refine ⟨fun i m σ2 H2 => m + i = ds.length ∧ ∃ F2 S2 τ2, Ext F S H F2 S2 H2 ∧ Same F1 F2 ∧ Abs X.K F2 S2 H2 ∧ ER X.K F2 σ2 τ2 ∧ forD g ub Dd (ds.drop i) τ2 S2, ⟨ds.length, rfl, F1, S1, τ, e1, Same.refl _, A1, E.mono e1.fz, q1⟩, fun i m σ2 H2 hW => ?_⟩
    obtain ⟨hm, F2, S2, τ2, e2, f2, A2, E2, hw⟩ := hW
    obtain ⟨ys, yg⟩ := y1 F2 S2 H2 f2 A2
    by_cases hi : i < ds.length
    · have hd : ds[i]? = some ds[i] := List.getElem?_eq_getElem hi
      obtain ⟨go, yl⟩ := yg i _ hd
      rw [List.drop_eq_getElem_cons hi] at hw
      refine .inr ⟨go, fun σ' H' => ∃ F4 S4 τ4, Ext F S H F4 S4 H' ∧ Same F1 F4 ∧ Abs X.K F4 S4 H' ∧ ER X.K F4 σ' τ4 ∧ forD g ub Dd (ds.drop (i + 1)) τ4 S4, fun σ' H' z => ⟨m - 1, by omega, by omega, z⟩, fun x H3 hy => ?_⟩
      obtain ⟨F3, e3, A3, r3⟩ := yl x H3 hy
      refine ⟨F3, S2, τ2, .d ds[i], _, A3, E2.mono e3.fz, r3, hw, fun σ5 H5 F5 S5 τ5 _ e5 A5 E5 q5 => ?_⟩
      have eT := e2.trans (e3.trans e5)
      have fT := f2.trans (e3.fz.trans e5.fz)
      refine ⟨F5, S5, τ5, _, A5, E5, q5, ?_, p2.ext eT, p1.ext eT, ?_⟩
      · exact fun σ' H' F' S' τ' e' A' E' q => ⟨F', S', τ', eT.trans e', fT.trans e'.fz, A', E', q⟩
      · exact fun σ' H' F' S' τ' e' A' E' q => ⟨F', S', τ', eT.trans e', fT.trans e'.fz, A', E', q⟩
    · have hge : ds.length ≤ i := Nat.le_of_not_lt hi
      rw [List.drop_eq_nil_of_le hge] at hw
      have hie : i = ds.length := by omega
      subst hie
      exact .inl ⟨ys, p1 _ _ _ _ _ e2 A2 E2 hw⟩

/-! ### what is walked -/
variable {tg : Expr}
def iSeq (ue : DTE) : DTI := fun τ S Q => ue τ S fun x S1 => asD x fun d => match d with
  | .list ds => Q ds S1
  | .tuple ds => Q ds S1
  | _ => False
abbrev iTp (ue : DTE) : DTI := fun τ S Q => ue τ S fun x S1 => asT x fun ds => Q ds S1
abbrev iLs (ue : DTE) : DTI := fun τ S Q => ue τ S fun x S1 => asD x fun d => match d with
  | .list ds => Q ds S1
  | _ => False
theorem ylds_tup {K : PySem.W.Frag} {F : Hp} {a : Addr} {vs : List V} {ds : List PyData} (s : SqT K F a vs) (r : DpAll K F vs ds) : Ylds K (Itt K a) F ds := fun F1 S1 H1 f A => by
  have s1 : SqT K H1 a vs := seqT_mono (f.trans A.fz) s
  refine ⟨⟨vs, s1, by rw [das_len r]; exact Nat.le_refl _⟩, fun i d hd => ?_⟩
  obtain ⟨v, e, rv⟩ := das_get r hd
  refine ⟨⟨vs, v, s1, e⟩, fun x H2 hy => ?_⟩
  obtain ⟨rfl, hx⟩ := hy
  have e2 := hx vs s1
  rw [e] at e2
  cases e2
  exact ⟨F1, Ext.refl, A, dpm f _ _ rv⟩
theorem ylds_lst {K : PySem.W.Frag} {F : Hp} {a : Addr} {vs : List V} {ds : List PyData} (s : SqL K F a vs) (r : DpAll K F vs ds) : Ylds K (Itl K a) F ds := fun F1 S1 H1 f A => by
  have s1 : SqL K H1 a vs := (f.trans A.fz).seq s
  refine ⟨⟨vs, s1, by rw [das_len r]; exact Nat.le_refl _⟩, fun i d hd => ?_⟩
  obtain ⟨v, e, rv⟩ := das_get r hd
  refine ⟨⟨vs, v, s1, e⟩, fun x H2 hy => ?_⟩
  obtain ⟨rfl, hx⟩ := hy
  have e2 := hx vs s1
  rw [e] at e2
  cases e2
  exact ⟨F1, Ext.refl, A, dpm f _ _ rv⟩
theorem di_tup (he : PE X e (lowE X.K ue)) : PI X tg e (lowI X.K (iTp ue)) := pi_le (pi_tup he) fun σ H R ⟨F, S, τ, Qd, A, E, h, P⟩ => ⟨F, S, τ, _, A, E, h, fun v1 H1 F1 S1 x e1 A1 r1 q1 => by
  obtain ⟨a, us, ds, rfl, s1, r2, rfl, hq⟩ := asT_of r1 q1
  exact ⟨a, rfl, ⟨us, seqT_mono A1.fz s1⟩, P _ _ _ _ ds e1 A1 (ylds_tup s1 r2) hq⟩⟩
theorem di_list (he : PE X e (lowE X.K ue)) : PI X tg e (lowI X.K (iLs ue)) := pi_le (pi_list he) fun σ H R ⟨F, S, τ, Qd, A, E, h, P⟩ => ⟨F, S, τ, _, A, E, h, fun v1 H1 F1 S1 x e1 A1 r1 q1 => by
  obtain ⟨d, r2, rfl, hq⟩ := asD_of r1 q1
  split at hq
  · cases r2 with
    | lst s1 r3 => exact ⟨_, rfl, ⟨_, A1.fz.seq s1⟩, P _ _ _ _ _ e1 A1 (ylds_lst s1 r3) hq⟩
  · exact hq.elim⟩
/-- range(n) -/
def rangeD (n : Nat) : List PyData := (List.range n).map fun (i : Nat) => PyData.int (i : Int)
theorem ylds_range {K : PySem.W.Frag} {F : Hp} (n : Nat) : Ylds K (Itr 0 n) F (rangeD n) := fun F1 S1 H1 f A => by
  have hl : (rangeD n).length = n := by unfold rangeD; rw [List.length_map, List.length_range]
  refine ⟨by rw [hl]; exact Nat.le_refl _, fun i d hd => ?_⟩
  have hi : i < n := by rw [← hl]; exact (List.getElem?_eq_some_iff.mp hd).1
  refine ⟨hi, fun x H2 hy => ?_⟩
  obtain ⟨rfl, rfl⟩ := hy
  have e : d = .int (0 + (i : Int)) := by
    unfold rangeD at hd
    rw [List.getElem?_map, List.getElem?_range hi] at hd
    cases hd
    rw [Int.zero_add]
  subst e
  exact ⟨F1, Ext.refl, A, .int _⟩
abbrev iRange (ta : DTA) : DTI := fun τ S Q => ta τ S fun xs S1 => one1 xs fun x => asI x fun j => (-(2 ^ 62) ≤ j ∧ j < 2 ^ 62) ∧ Q (rangeD j.toNat) S1
theorem di_range {a : Expr} {ta : DTA} {p : Pos} (hm : X.mg "range" = none) (ha : PA X [a] (lowA X.K ta)) (hg : Gl X "range" := by rfl) (hs : starEach [a] X.env = [(false, eval a X.env)] := by rfl) : PI X tg (.Call (.Name "range" p) [a] [] pos) (lowI X.K (iRange ta)) :=
  pi_le (pi_range1 hg hm ha hs) fun σ H R ⟨F, S, τ, Qd, A, E, h, P⟩ => ⟨F, S, τ, _, A, E, h, fun vs H1 F1 S1 xs e1 A1 r1 q1 => by
    obtain ⟨v, w, rfl, rw', q1⟩ := one1_of r1 q1
    obtain ⟨j, rfl, rfl, h1, q1⟩ := asI_of rw' q1
    exact ⟨j, rfl, h1.1, h1.2, P _ _ _ _ _ e1 A1 (ylds_range _) q1⟩⟩
/-- zip of two tuples -/
def zipD : List PyData → List PyData → List PyData
  | x :: xs, y :: ys => .tuple [x, y] :: zipD xs ys
  | _, _ => []
theorem zipD_get : ∀ {xs ys : List PyData} {i : Nat} {d : PyData}, (zipD xs ys)[i]? = some d → ∃ x y, xs[i]? = some x ∧ ys[i]? = some y ∧ d = .tuple [x, y]
  | [], _, _, _, h => by simp [zipD] at h
  | _ :: _, [], _, _, h => by simp [zipD] at h
  | x :: xs, y :: ys, 0, d, h => by simp [zipD] at h; exact ⟨x, y, rfl, rfl, h.symm⟩
  | x :: xs, y :: ys, i + 1, d, h => by
    have h' : (zipD xs ys)[i]? = some d := by simpa [zipD] using h
    obtain ⟨a, b, h1, h2, h3⟩ := zipD_get h'
    exact ⟨a, b, by simpa using h1, by simpa using h2, h3⟩
theorem zipD_len : ∀ (xs ys : List PyData), (zipD xs ys).length = min xs.length ys.length
  | [], ys => by simp [zipD]
  | _ :: _, [] => by simp [zipD]
  | x :: xs, y :: ys => by simp only [zipD, List.length_cons, zipD_len xs ys]; omega
theorem ylds_zip {K : PySem.W.Frag} {F : Hp} {a b : Addr} {vs us : List V} {ds es : List PyData} (s : SqT K F a vs) (r : DpAll K F vs ds) (s' : SqT K F b us) (r' : DpAll K F us es) : Ylds K (RZ.ItzT K a b) F (zipD ds es) := fun F1 S1 H1 f A => by
  have s1 : SqT K H1 a vs := seqT_mono (f.trans A.fz) s
  have s2 : SqT K H1 b us := seqT_mono (f.trans A.fz) s'
  have l1 := das_len r
  have l2 := das_len r'
  refine ⟨⟨vs, us, s1, s2, by rw [zipD_len]; omega⟩, fun i d hd => ?_⟩
  obtain ⟨x, y, hx, hy, rfl⟩ := zipD_get hd
  obtain ⟨v, e, rv⟩ := das_get r hx
  obtain ⟨u, e', ru⟩ := das_get r' hy
  refine ⟨⟨vs, us, v, u, s1, s2, e, e'⟩, fun z H2 hz => ?_⟩
  obtain ⟨T, x', y', rfl, nT, rfl, f1, f2⟩ := hz
  have e1 := f1 vs s1
  have e2 := f2 us s2
  rw [e] at e1
  rw [e'] at e2
  cases e1
  cases e2
  obtain ⟨A2, x2⟩ := A.new (o := .tup [v, u]) nT
  have g := same_new (o := HO.tup [v, u]) (A.free nT).2
  exact ⟨_, x2, A2, .tup (.inl upd_same) (.cons (dpm (f.trans g) _ _ rv) (.cons (dpm (f.trans g) _ _ ru) .nil))⟩
abbrev iZip (ta : DTA) : DTI := fun τ S Q => ta τ S fun xs S1 => two2 xs fun x y => asT x fun ds => asT y fun es => Q (zipD ds es) S1
theorem di_zip {a b : Expr} {ta : DTA} {p tpos : Pos} {elts : List Expr} {kk : Nat} (hm : X.mg "zip" = none) (ha : PA X [a, b] (lowA X.K ta)) (hg : Gl X "zip" := by rfl)
    (hs : starEach [a, b] X.env = (false, eval a X.env) :: starEach [b] X.env := by rfl) (hpl : (backTo pos (starEach [b] X.env)).any (·.1) = false := by rfl) : PI X (.Tuple elts kk tpos) (.Call (.Name "zip" p) [a, b] [] pos) (lowI X.K (iZip ta)) :=
  pi_le (RZ.pi_zipA hg hm ha hs hpl) fun σ H R ⟨F, S, τ, Qd, A, E, h, P⟩ => ⟨F, S, τ, _, A, E, h, fun vs H1 F1 S1 xs e1 A1 r1 q1 => by
    obtain ⟨v, w, v', w', rfl, rw1, rw2, q1⟩ := two2_of r1 q1
    obtain ⟨a, us, ds, rfl, s1, r2, rfl, q1⟩ := asT_of rw1 q1
    obtain ⟨b, us', es, rfl, s2, r3, rfl, q1⟩ := asT_of rw2 q1
    exact ⟨a, b, us, us', rfl, .inr ⟨seqT_mono A1.fz s1, seqT_mono A1.fz s2, P _ _ _ _ _ e1 A1 (ylds_zip s1 r2 s2 r3) q1⟩⟩⟩

/-! ### list comprehensions -/
def compD (g : DTG) (tt : DTT) (te : DTE) (τ : En) : List PyData → Sto → (List PyData → Sto → Prop) → Prop
  | [], S, Q => Q [] S
  | d :: ds, S, Q => g (.d d) τ S fun τ' S1 => tt τ' S1 fun k S2 => if k = true then te τ' S2 fun x S3 => asD x fun y => compD g tt te τ ds S3 fun out S4 => Q (y :: out) S4 else compD g tt te τ ds S2 Q
abbrev uComp (vs : List Nat) (ui : DTI) (g : DTG) (tt : DTT) (te : DTE) : DTE := fun τ S Q => ui τ S fun ds S1 => ds.length ≤ 1000 ∧ compD g tt te (wipeD τ vs) ds S1 fun out S2 => Q (.d (.list out)) S2
def lowTs (K : PySem.W.Frag) (t : DTT) : TT := lowT K t
abbrev vYes : DTT := fun _ S Q => Q true S
theorem dts_nil : PTs X [] (lowT X.K vYes) := ⟨fun pins s σ H Q I ⟨F, S, τ, Qd, A, E, h, P⟩ => pts_nil.run pins s σ H Q I (P _ _ _ _ Ext.refl A h)⟩
theorem dts_one {c : Expr} {uc : DTT} (h : PT X c (lowT X.K uc)) : PTs X [c] (lowT X.K uc) := pts_one h
/-- a place that is tracked, outside of F and S, stays -/
theorem Ext.stay {K : PySem.W.Frag} {F F' H H' : Hp} {S S' : Sto} {D : Addr} {us : List V} (e : Ext F S H F' S' H') (f : F D = none) (s : S D = none) (h : H D = some (.lst us)) : F' D = none ∧ S' D = none ∧ H' D = some (.lst us) :=
  let ⟨a, b, c⟩ := e.kp D _ h s
  ⟨c f (fun _ z => nomatch z), b, a⟩
theorem abs_out {K : PySem.W.Frag} {F H : Hp} {S : Sto} {D : Addr} {o : HO} (A : Abs K F S H) (f : F D = none) (s : S D = none) : Abs K F S (upd H D o) := by
  refine ⟨fun a u h => by rw [upd_ne (ne_of_none h f)]; exact A.fz a u h, fun a c h => ?_⟩
  obtain ⟨g, r⟩ := A.cl a c h
  have hne : a ≠ D := fun z => by subst z; rw [s] at h; cases h
  exact ⟨g, r.mono (Same.refl _) fun u e => by rw [upd_ne hne]; exact e⟩
theorem low_lc {vs : List Nat} {ui : DTI} {g : DTG} {tt : DTT} {te : DTE} {K : PySem.W.Frag} {σ : L2.St} {H : Hp} {Q : VK} (h : lowE K (uComp vs ui g tt te) σ H Q) : tLc (lowI K ui) (lowG K vs g) (lowT K tt) (lowE K te) vs σ H Q := by
  obtain ⟨F, S, τ, Qd, A, E, h, P⟩ := h
  refine ⟨F, S, τ, _, A, E, h, fun J H1 F1 S1 ds e1 A1 y1 q1 D nD => ?_⟩
  obtain ⟨hz, q1⟩ := q1
  have nS := (A1.free nD).1
  have nF := (A1.free nD).2
  refine ⟨fun i m H2 => m + i = ds.length ∧ ∃ F2 S2 vs2 es2, (Same F1 F2 ∧ ∀ a o, H1 a = some o → S1 a = none → H2 a = some o ∧ S2 a = none ∧ (F1 a = none → (∀ xs, o ≠ .tup xs) → F2 a = none)) ∧ Abs K F2 S2 H2 ∧ F2 D = none ∧ S2 D = none ∧ H2 D = some (.lst vs2) ∧ DpAll K F2 vs2 es2 ∧ es2.length ≤ i ∧ compD g tt te (wipeD τ vs) (ds.drop i) S2 fun out S3 => Qd (.d (.list (es2 ++ out))) S3, ⟨ds.length, rfl, F1, S1, [], [], ⟨Same.refl _, fun a o ha hs => ⟨by rw [upd_ne (ne_of_none ha nD)]; exact ha, hs, fun z _ => z⟩⟩, abs_out A1 nF nS, nF, nS, upd_same, .nil, Nat.zero_le _, ?_⟩, fun i m H2 hW => ?_⟩
  · rw [List.drop_zero]
    exact q1
  · obtain ⟨hm, F2, S2, vs2, es2, ⟨f2, k2⟩, A2, fD, sD, hD, r2, l2, hw⟩ := hW
    have e2 : Ext F1 S1 H1 F2 S2 H2 := ⟨f2, k2⟩
    obtain ⟨ys, yg⟩ := y1 F2 S2 H2 f2 A2
    have E2 := (E.mono (e1.fz.trans f2)).wipe vs
    by_cases hi : i < ds.length
    · have hd : ds[i]? = some ds[i] := List.getElem?_eq_getElem hi
      obtain ⟨go, yl⟩ := yg i _ hd
      rw [List.drop_eq_getElem_cons hi] at hw
      refine .inr ⟨go, fun H' => ∃ F4 S4 vs4 es4, (Same F1 F4 ∧ ∀ a o, H1 a = some o → S1 a = none → H' a = some o ∧ S4 a = none ∧ (F1 a = none → (∀ xs, o ≠ .tup xs) → F4 a = none)) ∧ Abs K F4 S4 H' ∧ F4 D = none ∧ S4 D = none ∧ H' D = some (.lst vs4) ∧ DpAll K F4 vs4 es4 ∧ es4.length ≤ i + 1 ∧ compD g tt te (wipeD τ vs) (ds.drop (i + 1)) S4 fun out S3 => Qd (.d (.list (es4 ++ out))) S3, fun H' z => ⟨m - 1, by omega, by omega, z⟩, fun x H3 hy => ?_⟩
      obtain ⟨F3, e3, A3, r3⟩ := yl x H3 hy
      obtain ⟨fD3, sD3, hD3⟩ := e3.stay (K := K) fD sD hD
      refine ⟨F3, S2, wipeD τ vs, .d ds[i], _, A3, E2.mono e3.fz, r3, hw, fun σ5 H5 F5 S5 τ5 w5 e5 A5 E5 q5 => ⟨?_, ?_⟩⟩
      · rw [w5]
        exact wipe_wipe
      · obtain ⟨fD5, sD5, hD5⟩ := e5.stay (K := K) fD3 sD3 hD3
        refine ⟨F5, S5, τ5, _, A5, E5, q5, fun k H6 F6 S6 e6 A6 q6 => ?_⟩
        obtain ⟨fD6, sD6, hD6⟩ := e6.stay (K := K) fD5 sD5 hD5
        cases k with
        | false =>
          have eT := e2.trans (e3.trans (e5.trans e6))
          exact iteF ⟨F6, S6, vs2, es2, ⟨eT.fz, eT.kp⟩, A6, fD6, sD6, hD6, dpms (e3.fz.trans (e5.fz.trans e6.fz)) _ _ r2, by omega, q6⟩
        | true =>
          refine iteT ⟨F6, S6, τ5, _, A6, E5.mono e6.fz, q6, fun v7 H7 F7 S7 x7 e7 A7 r7 q7 => ?_⟩
          obtain ⟨fD7, sD7, hD7⟩ := e7.stay (K := K) fD6 sD6 hD6
          obtain ⟨y, ry, rfl, q8⟩ := asD_of r7 q7
          have eT := e2.trans (e3.trans (e5.trans (e6.trans e7)))
          have r8 := dpms (e3.fz.trans (e5.fz.trans (e6.fz.trans e7.fz))) _ _ r2
          refine ⟨vs2, hD7, ?_, F7, S7, vs2 ++ [v7], es2 ++ [y], ⟨eT.fz, fun a o ha hs => ?_⟩, abs_out A7 fD7 sD7, fD7, sD7, upd_same, das_append r8 (.cons ry .nil), ?_, ?_⟩
          · rw [das_len r2]; exact small1000 (by omega)
          · obtain ⟨z1, z2, z3⟩ := eT.kp a o ha hs
            exact ⟨by rw [upd_ne (ne_of_none ha nD)]; exact z1, z2, z3⟩
          · rw [List.length_append]; simp; omega
          · simpa only [List.append_assoc, List.singleton_append] using q8
    · have hge : ds.length ≤ i := Nat.le_of_not_lt hi
      rw [List.drop_eq_nil_of_le hge] at hw
      have hie : i = ds.length := by omega
      subst hie
      refine .inl ⟨ys, ?_⟩
      have q9 : Qd (.d (.list es2)) S2 := by
        have z : Qd (.d (.list (es2 ++ []))) S2 := hw
        rw [List.append_nil] at z
        exact z
      have n2 := same_new (o := HO.lst vs2) fD
      refine P _ _ (upd F2 D (.lst vs2)) S2 (.d (.list es2)) (e1.trans ⟨f2.trans n2, fun a o ha hs => ?_⟩) ⟨fun a o h => ?_, fun a c h => ?_⟩ (Dp.lst (.inl (.inl upd_same)) (dpms n2 _ _ r2)) q9
      · obtain ⟨z1, z2, z3⟩ := k2 a o ha hs
        exact ⟨z1, z2, fun z y => by rw [upd_ne (ne_of_none ha nD)]; exact z3 z y⟩
      · by_cases hb : a = D
        · subst hb; rw [upd_same] at h; rw [← h]; exact hD
        · rw [upd_ne hb] at h; exact A2.fz a o h
      · obtain ⟨g1, r⟩ := A2.cl a c h
        have hne : a ≠ D := fun z => by subst z; rw [sD] at h; cases h
        exact ⟨by rw [upd_ne hne]; exact g1, r.mono n2 fun u e => e⟩
theorem de_lc {elt iter : Expr} {ifs : List Expr} {scope : Scope} {own : List (Str × Nat)} {ui : DTI} {g : DTG} {tt : DTT} {te : DTE} (hN : X.N.Nodup) (hi : PI X tg iter (lowI X.K ui)) (ok : BlkOk X.N X.env.scope scope own)
    (hg : ∀ (s : Shared) (H : Hp) (C : Addr) (cl : List (Str × Addr)) (fp : List Addr), PG (X.blk s H scope (compEnvC scope cl C X.env) fp) tg (lowG X.K (own.map (·.2)) g)) (ht : ∀ (s : Shared) (H : Hp) (C : Addr) (cl : List (Str × Addr)) (fp : List Addr), PTs (X.blk s H scope (compEnvC scope cl C X.env) fp) ifs (lowT X.K tt))
    (he : ∀ (s : Shared) (H : Hp) (C : Addr) (cl : List (Str × Addr)) (fp : List Addr), PE (X.blk s H scope (compEnvC scope cl C X.env) fp) elt (lowE X.K te)) (hc : X.calm = true := by rfl) (hs : ∀ x, foldedSetIterable iter X.env x = pure x := by intro _; rfl) :
    PE X (.ListComp elt [⟨tg, iter, ifs, 0⟩] scope pos) (lowE X.K (uComp (own.map (·.2)) ui g tt te)) := pe_le (pe_lc hc hN hi ok hg ht he hs) fun _ _ _ => low_lc
theorem ds_setLc {i : Nat} {y : Str} {py : Pos} {elt iter : Expr} {ifs : List Expr} {scope : Scope} {own : List (Str × Nat)} {spos : Pos} {ui : DTI} {g : DTG} {tt : DTT} {te : DTE} (hN : X.N.Nodup) (hi : PI X tg iter (lowI X.K ui)) (ok : BlkOk X.N X.env.scope scope own)
    (hg : ∀ (s : Shared) (H : Hp) (C : Addr) (cl : List (Str × Addr)) (fp : List Addr), PG (X.blk s H scope (compEnvC scope cl C X.env) fp) tg (lowG X.K (own.map (·.2)) g)) (ht : ∀ (s : Shared) (H : Hp) (C : Addr) (cl : List (Str × Addr)) (fp : List Addr), PTs (X.blk s H scope (compEnvC scope cl C X.env) fp) ifs (lowT X.K tt))
    (he : ∀ (s : Shared) (H : Hp) (C : Addr) (cl : List (Str × Addr)) (fp : List Addr), PE (X.blk s H scope (compEnvC scope cl C X.env) fp) elt (lowE X.K te)) (hc : X.calm = true := by rfl) (hy : X.N[i]? = some y := by rfl) (hyl : X.env.scope.names.lookup y = some .local := by rfl)
    (hsw : swapsWith (.ListComp elt [⟨tg, iter, ifs, 0⟩] scope pos) (some (.Name y py)) spos.line X.env = pure true := by exact sw_true rfl rfl rfl (by decide +kernel)) (hs : ∀ x, foldedSetIterable iter X.env x = pure x := by intro _; rfl) :
    PS X (.Assign [.Name y py] (.ListComp elt [⟨tg, iter, ifs, 0⟩] scope pos) spos) (lowS X.K (sSet i (uComp (own.map (·.2)) ui g tt te))) :=
  ps_le (ps_setLc hc hN hy hyl hsw hi ok hg ht he hs) fun D σ H ⟨F, S, τ, Dd, A, E, h, p1, _, _, _⟩ => low_lc ⟨F, S, τ, _, A, E, h, fun v1 H1 F1 S1 x e1 A1 r1 q1 => p1 _ _ _ _ _ e1 A1 ((E.mono e1.fz).set r1) q1⟩

/-! ### methods of a cell's list -/
def isL (o : W) (S : Sto) : Prop := match o with
  | .c a => (match S a with | some (.lst _) => True | _ => False)
  | _ => False
def appL (o : W) (d : PyData) (S : Sto) (Q : Sto → Prop) : Prop := match o with
  | .c a => (match S a with
    | some (.lst ds) => ds.length < 1000 ∧ Q (put S a (.lst (ds ++ [d])))
    | _ => False)
  | _ => False
abbrev uApp (uo : DTE) (ta : DTA) : DTE := fun τ S Q => uo τ S fun o S1 => isL o S1 ∧ ta τ S1 fun xs S2 => one1 xs fun x => asD x fun d => appL o d S2 fun S3 => Q (.d .none) S3
theorem de_app {o a : Expr} {uo : DTE} {ta : DTA} {apos cpos : Pos} (ho : PE X o (lowE X.K uo)) (ha : PA X [a] (lowA X.K ta))
    (hbase : attributeBase o "append" X.env (eval o X.env) = eval o X.env := by rfl)
    (hfew : ((backTo cpos (starEach [a] X.env)).all (fun x => !x.1) && (backToKw cpos (keywordEach [] X.env)).all (fun x => x.1.isSome)
      && decide ([a].length + ([] : List Keyword).length + (if ([] : List Keyword).isEmpty then 0 else 1) < 30)) = true := by rfl)
    (hline : (apos.endLine == cpos.line) = true := by rfl) (hs : starEach [a] X.env = (false, eval a X.env) :: starEach [] X.env := by rfl) (hplain : (backTo cpos (starEach [] X.env)).any (·.1) = false := by rfl) :
    PE X (.Call (.Attribute o "append" apos) [a] [] cpos) (lowE X.K (uApp uo ta)) :=
  pe_le (pe_bm PySem.F.plainAttrs_list PySem.F.slot_list_append PySem.F.type_list_append mt_append ho ha hbase hfew hline hs hplain) fun σ H Q ⟨F, S, τ, Qd, A, E, h, P⟩ => by
    refine ⟨F, S, τ, _, A, E, h, fun v1 H1 F1 S1 x e1 A1 r1 q1 => ?_⟩
    obtain ⟨q0, q1⟩ := q1
    unfold isL at q0
    split at q0
    · rename_i p
      split at q0
      · rename_i ds0 q
        obtain ⟨_, us, e3, r4⟩ := A1.cl p _ q
        cases r1
        refine ⟨.inl ⟨rfl, us, .inl (.inl e3)⟩, F1, S1, τ, _, A1, E.mono e1.fz, q1, fun vs H2 F2 S2 xs e2 A2 r2 q2 => ?_⟩
        obtain ⟨v, w, rfl, rv, q2⟩ := one1_of r2 q2
        obtain ⟨d, r5, rfl, q3⟩ := asD_of rv q2
        unfold appL at q3
        simp only at q3
        split at q3
        · rename_i ds q'
          obtain ⟨_, us', e4, r6⟩ := A2.cl p _ q'
          refine ⟨p, us', v, rfl, rfl, e4, by rw [das_len r6]; exact small1000 (Nat.le_of_lt q3.1), ?_⟩
          obtain ⟨A3, e5⟩ := A2.wr (o := .lst (us' ++ [v])) (c := .lst (ds ++ [d])) q' ⟨_, upd_same, das_append r6 (.cons r5 .nil)⟩
          exact P _ _ _ _ (.d .none) (e1.trans (e2.trans e5)) A3 (show Dp X.K F2 .non .none from .non) q3.2
        · exact q3.elim
      · exact q0.elim
    · exact q0.elim
end

/-! ### a def -/
abbrev startD (N : List Str) (ws : List W) : En := ws.map some ++ List.replicate (N.length - ws.length) none
section
variable {P : Program} {w : World} {K : PySem.W.Frag} {mg : Str → Option Value} {base : Heap}
theorem wrs_len {F : Hp} : ∀ {vs : List V} {ws : List W}, WRs K F vs ws → vs.length = ws.length
  | _, _, .nil => rfl
  | _, _, .cons _ t => by rw [List.length_cons, List.length_cons, wrs_len t]
theorem wrs_get {F : Hp} : ∀ {vs : List V} {ws : List W} {i : Nat} {x : W}, WRs K F vs ws → ws[i]? = some x → ∃ v, vs[i]? = some v ∧ WR K F v x
  | _, _, _, _, .nil, e => by simp at e
  | _, _, 0, _, .cons r _, e => by simp at e; subst e; exact ⟨_, rfl, r⟩
  | _, _, i + 1, d, .cons _ t, e => by
    obtain ⟨u, h1, h2⟩ := wrs_get (i := i) (x := d) t (by simpa using e)
    exact ⟨u, by simpa using h1, h2⟩
theorem start_er {F : Hp} {N : List Str} {vs : List V} {ws : List W} (r : WRs K F vs ws) : ER K F (L2.start N vs) (startD N ws) := by
  have l := wrs_len r
  refine ⟨by unfold L2.start startD; rw [List.length_append, List.length_append, List.length_map, List.length_map, List.length_replicate, List.length_replicate, l], fun i w h => ?_⟩
  unfold startD at h
  by_cases hi : i < ws.length
  · rw [List.getElem?_append_left (by rw [List.length_map]; exact hi), List.getElem?_map] at h
    cases q : ws[i]? with
    | none => rw [q] at h; cases h
    | some y =>
      rw [q] at h
      cases h
      obtain ⟨v, e, rv⟩ := wrs_get r q
      refine ⟨v, ?_, rv⟩
      unfold L2.start
      rw [List.getElem?_append_left (by rw [List.length_map, l]; exact hi), List.getElem?_map, e]
      rfl
  · rw [List.getElem?_append_right (by rw [List.length_map]; exact Nat.le_of_not_lt hi)] at h
    have z := List.mem_of_getElem? h
    have z2 := List.eq_of_mem_replicate z
    cases z2
/-- THE RULE for a def over data: the body's derivation, then its reading -/
theorem ok_of {x qual : Str} {st : Stmt} {f : Addr} {fd : FuncData} {N ps : List Str} {k : Nat} {r : DSp} {u : DTS} (F : Fun K x qual st f fd) (Sc : FnScope N ps (defScope st)) (len : ∀ ws S Q, r ws S Q → ws.length = ps.length)
    (der : ∀ (cdv : Value) (A : Around) (outer : List Env) (s : Shared) (H : Hp) (E : XK), Room k (A.deeper (envOfC qual (defScope st) s.heap.objs.size f cdv)) → PSs (cxOf CX0 P w K mg base N qual (defScope st) f cdv A outer s H E).nox (defBody st) (lowS K u))
    (red : ∀ ws S Q, r ws S Q → u { nx := fun _ S' => Q (.d .none) S', rt := Q } (startD N ws) S) : FnOk P w K mg base CX0 (k + 1) f fd ps (spD K r) := by
  refine F.ok Sc (fun vs H Q E h => ?_) (fun cdv A outer s H vs Q E hr h => ?_)
  · obtain ⟨F1, S1, ws, Qd, _, r1, h1, _⟩ := h
    exact (wrs_len r1).trans (len ws S1 Qd h1)
  · obtain ⟨F1, S1, ws, Qd, A1, r1, h1, P1⟩ := h
    refine ⟨_, der cdv A outer s H E hr, F1, S1, startD N ws, _, A1, start_er r1, red ws S1 Qd h1, fun σ' H' F' S' τ' e' A' E' q => P1 _ _ _ _ (.d .none) e' A' (show Dp K F' .non .none from .non) q, P1, fun _ _ _ _ _ _ _ _ q => q.elim, fun _ _ _ _ _ _ _ _ q => q.elim⟩
/-- a def as its callers see it -/
theorem cal_of {x qual : Str} {st : Stmt} {f : Addr} {fd : FuncData} {ps : List Str} {k : Nat} {r : DSp} (F : Fun K x qual st f fd) (hm : mg x = some (.ref f)) (hb : Binds K fd ps []) (G : FnOk P w K mg base CX0 k f fd ps (spD K r)) : Cal P w K mg base x ps k r := ⟨f, fd, G, hm, F.kp, hb⟩
theorem Cal.imp {x : Str} {ps : List Str} {k : Nat} {r r' : DSp} (C : Cal P w K mg base x ps k r) (h : ∀ ws S Q, r' ws S Q → r ws S Q) : Cal P w K mg base x ps k r' := by
  obtain ⟨f, fd, G, hm, hk, hb⟩ := C.ex
  exact ⟨f, fd, G.imp fun vs H Q E ⟨F, S, ws, Qd, A, r1, h1, P1⟩ => ⟨F, S, ws, Qd, A, r1, h ws S Qd h1, P1⟩, hm, hk, hb⟩
end
end Dl

namespace Dl
open PySem PySem.Spec PyProof.Rows L2

/-! ### zip of three tuples -/
def ItzT3 (K : PySem.W.Frag) (a b c : Addr) : It :=
  ⟨fun i H => ∃ (xs ys zs : List V) (x y z : V), SqT K H a xs ∧ SqT K H b ys ∧ SqT K H c zs ∧ xs[i]? = some x ∧ ys[i]? = some y ∧ zs[i]? = some z,
    fun i H v H' => ∃ T x y z, v = .ref T ∧ H T = none ∧ H' = upd H T (.tup [x, y, z]) ∧ (∀ xs, SqT K H a xs → xs[i]? = some x) ∧ (∀ ys, SqT K H b ys → ys[i]? = some y) ∧ ∀ zs, SqT K H c zs → zs[i]? = some z,
    fun i H => ∃ xs ys zs : List V, SqT K H a xs ∧ SqT K H b ys ∧ SqT K H c zs ∧ i = min (min xs.length ys.length) zs.length⟩
theorem turn_zipT3 {P : Program} {w : World} {K : PySem.W.Frag} {elts : List Expr} {kk : Nat} {tpos : Pos} {a b c z TI TO i1 i2 i3 : Addr} (Sp : ZipSep3 z TI TO i1 i2 i3 [i1, a] [i2, b] [i3, c]) (n1 : a ≠ i1) (n2 : b ≠ i2) (n3 : c ≠ i3) :
    Turn P w K (.Tuple elts kk tpos) (ItzT3 K a b c) [z, TI, TO, i1, i2, i3] z (fun i h => IsZip h z TI TO .none ∧ IsTupOf3 h TI (.ref i1) (.ref i2) (.ref i3) ∧ (∃ x y u, IsTupOf3 h TO x y u) ∧ h.IsTupleIter i1 a i ∧ h.IsTupleIter i2 b i ∧ h.IsTupleIter i3 c i) where
  mem := by simp
  obj := fun i h st q hc => by
    obtain ⟨hz, hTI, ⟨x, y, u, hTO⟩, ⟨o1, e1, _, d1⟩, ⟨o2, e2, _, d2⟩, ⟨o3, e3, _, d3⟩⟩ := st
    have e' : q = z ∨ q = TI ∨ q = TO ∨ q = i1 ∨ q = i2 ∨ q = i3 := by simpa using hc
    rcases e' with q | q | q | q | q | q
    · rw [q]; exact ⟨_, hz, fun v q => nomatch q⟩
    · rw [q]; exact ⟨_, hTI, fun v q => nomatch q⟩
    · rw [q]; exact ⟨_, hTO, fun v q => nomatch q⟩
    · rw [q]; exact ⟨o1, e1, fun v q => by rw [d1] at q; cases q⟩
    · rw [q]; exact ⟨o2, e2, fun v q => by rw [d2] at q; cases q⟩
    · rw [q]; exact ⟨o3, e3, fun v q => by rw [d3] at q; cases q⟩
  keep := fun i h h' st k => by
    obtain ⟨hz, hTI, ⟨x, y, u, hTO⟩, h1, h2, h3⟩ := st
    exact ⟨k z (by simp) _ hz, k TI (by simp) _ hTI, ⟨x, y, u, k TO (by simp) _ hTO⟩, h1.at fun o q => k i1 (by simp) o q, h2.at fun o q => k i2 (by simp) o q, h3.at fun o q => k i3 (by simp) o q⟩
  item := by
    intro X hP hw hK hc i pins s σ H E I hf st hg
    subst hP hw hK
    obtain ⟨hz, hTI, ⟨x0, y0, u0, hTO⟩, h1, h2, h3⟩ := st
    obtain ⟨xs, ys, zs, x, y, u, hqx, hqy, hqz, hx, hy, hu⟩ := hg
    obtain ⟨its, rv, p1, _⟩ := I.tuple hqx
    obtain ⟨its2, rv2, p2, _⟩ := I.tuple hqy
    obtain ⟨its3, rv3, p3, _⟩ := I.tuple hqz
    obtain ⟨w1, hw1, ru1⟩ := rv.get hx
    obtain ⟨w2, hw2, ru2⟩ := rv2.get hy
    obtain ⟨w3, hw3, ru3⟩ := rv3.get hu
    have hh : X.A.in1.handled = none := I.ok.hd hc
    have G := GoesN.zip3 (prog := X.prog) (w := X.w) (A := X.A) (elts := elts) (x1 := kk) (pos := tpos) Sp (Draws.tuple hh i1 a n1 its.toArray) (Draws.tuple hh i2 b n2 its2.toArray) (Draws.tuple hh i3 c n3 its3.toArray)
    have lt1 : i < its.toArray.size := by rw [List.size_toArray]; exact (List.getElem?_eq_some_iff.mp hw1).1
    have lt2 : i < its2.toArray.size := by rw [List.size_toArray]; exact (List.getElem?_eq_some_iff.mp hw2).1
    have lt3 : i < its3.toArray.size := by rw [List.size_toArray]; exact (List.getElem?_eq_some_iff.mp hw3).1
    refine thn (G.goes i s (fun v s2 => ∃ x H', Inv X pins σ H' s2 ∧ RelV x v ∧ (ItzT3 X.K a b c).yld i H x H' ∧ _ ∧ ∀ b ∈ [z, TI, TO, i1, i2, i3], H' b = none) E (by omega) ⟨hz, hTI, ⟨x0, y0, u0, hTO⟩, ⟨h1, p1⟩, ⟨h2, p2⟩, h3, p3⟩ fun v h' tk hY st' hk htk => ?_) fun r s1 ⟨v, e, h⟩ => ⟨v, e, h⟩
    obtain ⟨T, y1, y2, y3, rfl, hn, e1, e2, e3, hT⟩ := hY
    have q1 : y1 = w1 := by
      have : its.toArray[i]? = some w1 := by simpa using hw1
      rw [this] at e1; exact (Option.some.inj e1).symm
    have q2 : y2 = w2 := by
      have : its2.toArray[i]? = some w2 := by simpa using hw2
      rw [this] at e2; exact (Option.some.inj e2).symm
    have q3 : y3 = w3 := by
      have : its3.toArray[i]? = some w3 := by simpa using hw3
      rw [this] at e3; exact (Option.some.inj e3).symm
    subst q1 q2 q3
    have new : ObjOk X.prog X.w (upd H T (.tup [x, y, u])) h' T (.tup [x, y, u]) := ⟨by show 3 ≤ sizeLine; decide, [y1, y2, y3], .cons ru1 (.cons ru2 (.cons ru3 .nil)), hT⟩
    have wsub : ∀ b ∈ [z, TO, i1, i2, i3], b ∈ [z, TI, TO, i1, i2, i3] := fun b hb => by
      simp only [List.mem_cons, List.mem_nil_iff, or_false] at hb ⊢
      rcases hb with q | q | q | q | q <;> simp [q]
    have I1 : Inv X pins σ (upd H T (.tup [x, y, u])) { s with heap := h', toks := tk } := I.turnedNew (ch := [z, TO, i1, i2, i3]) hk (fun b hb => hf b (wsub b hb)) hn new
    obtain ⟨hz', hTI', hTO', ⟨h1', _⟩, ⟨h2', _⟩, h3', _⟩ := st'
    refine ⟨.ref T, _, I1, rfl, ⟨T, x, y, u, rfl, I.hok.fresh hn, rfl, fun l hl => by rw [I.tuple_inj hl hqx]; exact hx, fun l hl => by rw [I.tuple_inj hl hqy]; exact hy, fun l hl => by rw [I.tuple_inj hl hqz]; exact hu⟩, ⟨hz', hTI', hTO', h1', h2', h3'⟩, fun q hq => ?_⟩
    have hlt : q < s.heap.objs.size := by
      have e' : q = z ∨ q = TI ∨ q = TO ∨ q = i1 ∨ q = i2 ∨ q = i3 := by simpa using hq
      rcases e' with q | q | q | q | q | q
      · rw [q]; exact Heap.lt_size hz
      · rw [q]; exact Heap.lt_size hTI
      · rw [q]; exact Heap.lt_size hTO
      · rw [q]; obtain ⟨_, e1, _⟩ := h1; exact Heap.lt_size e1
      · rw [q]; obtain ⟨_, e2, _⟩ := h2; exact Heap.lt_size e2
      · rw [q]; obtain ⟨_, e2, _⟩ := h3; exact Heap.lt_size e2
    rw [upd_ne (Nat.ne_of_lt (Nat.lt_of_lt_of_le hlt hn))]
    exact (hf q hq).1
  done := by
    intro X hP hw hK hc i pins s σ H E I hf st hg
    subst hP hw hK
    obtain ⟨hz, hTI, ⟨x0, y0, u0, hTO⟩, h1, h2, h3⟩ := st
    obtain ⟨xs, ys, zs, hqx, hqy, hqz, hend⟩ := hg
    obtain ⟨its, rv, p1, _⟩ := I.tuple hqx
    obtain ⟨its2, rv2, p2, _⟩ := I.tuple hqy
    obtain ⟨its3, rv3, p3, _⟩ := I.tuple hqz
    have hh : X.A.in1.handled = none := I.ok.hd hc
    have G := GoesN.zip3 (prog := X.prog) (w := X.w) (A := X.A) (elts := elts) (x1 := kk) (pos := tpos) Sp (Draws.tuple hh i1 a n1 its.toArray) (Draws.tuple hh i2 b n2 its2.toArray) (Draws.tuple hh i3 c n3 its3.toArray)
    have l1 := rv.length
    have l2 := rv2.length
    have l3 := rv3.length
    have hi : i = min (min its.toArray.size its2.toArray.size) its3.toArray.size := by
      rw [List.size_toArray, List.size_toArray, List.size_toArray, ← l1, ← l2, ← l3]; exact hend
    have wsub : ∀ b ∈ [z, TO, i1, i2, i3], b ∈ [z, TI, TO, i1, i2, i3] := fun b hb => by
      simp only [List.mem_cons, List.mem_nil_iff, or_false] at hb ⊢
      rcases hb with q | q | q | q | q <;> simp [q]
    subst hi
    exact G.stops s (fun s1 => Inv X pins σ H s1) E ⟨hz, hTI, ⟨x0, y0, u0, hTO⟩, ⟨h1, p1⟩, ⟨h2, p2⟩, h3, p3⟩ fun h' tk hk htk => I.turnedL (ch := [z, TO, i1, i2, i3]) hk fun b hb => hf b (wsub b hb)
  self := fun A i s Q E st h => wpAny_pyIter_zip st.1 h

def three3 (ws : List W) (k : W → W → W → Prop) : Prop := match ws with
  | [x, y, z] => k x y z
  | _ => False
theorem three3_of {K : PySem.W.Frag} {F : Hp} {vs : List V} {ws : List W} {k : W → W → W → Prop} (r : WRs K F vs ws) (h : three3 ws k) : ∃ v w v' w' v2 w2, vs = [v, v', v2] ∧ WR K F v w ∧ WR K F v' w' ∧ WR K F v2 w2 ∧ k w w' w2 := by
  unfold three3 at h
  split at h
  · cases r with
    | cons a b =>
      cases b with
      | cons a' b =>
        cases b with
        | cons a2 b => cases b; exact ⟨_, _, _, _, _, _, rfl, a, a', a2, h⟩
  · exact h.elim
def zip3D : List PyData → List PyData → List PyData → List PyData
  | x :: xs, y :: ys, z :: zs => .tuple [x, y, z] :: zip3D xs ys zs
  | _, _, _ => []
theorem zip3D_get : ∀ {xs ys zs : List PyData} {i : Nat} {d : PyData}, (zip3D xs ys zs)[i]? = some d → ∃ x y z, xs[i]? = some x ∧ ys[i]? = some y ∧ zs[i]? = some z ∧ d = .tuple [x, y, z]
  | [], _, _, _, _, h => by simp [zip3D] at h
  | _ :: _, [], _, _, _, h => by simp [zip3D] at h
  | _ :: _, _ :: _, [], _, _, h => by simp [zip3D] at h
  | x :: xs, y :: ys, z :: zs, 0, d, h => by simp [zip3D] at h; exact ⟨x, y, z, rfl, rfl, rfl, h.symm⟩
  | x :: xs, y :: ys, z :: zs, i + 1, d, h => by
    have h' : (zip3D xs ys zs)[i]? = some d := by simpa [zip3D] using h
    obtain ⟨a, b, c, h1, h2, h3, h4⟩ := zip3D_get h'
    exact ⟨a, b, c, by simpa using h1, by simpa using h2, by simpa using h3, h4⟩
theorem zip3D_len : ∀ (xs ys zs : List PyData), (zip3D xs ys zs).length = min (min xs.length ys.length) zs.length
  | [], ys, zs => by simp [zip3D]
  | _ :: _, [], _ => by simp [zip3D]
  | _ :: _, _ :: _, [] => by simp [zip3D]
  | x :: xs, y :: ys, z :: zs => by simp only [zip3D, List.length_cons, zip3D_len xs ys zs]; omega
theorem ylds_zip3 {K : PySem.W.Frag} {F : Hp} {a b c : Addr} {vs us ts : List V} {ds es fs : List PyData} (s : SqT K F a vs) (r : DpAll K F vs ds) (s' : SqT K F b us) (r' : DpAll K F us es) (s'' : SqT K F c ts) (r'' : DpAll K F ts fs) : Ylds K (ItzT3 K a b c) F (zip3D ds es fs) := fun F1 S1 H1 f A => by
  have s1 : SqT K H1 a vs := seqT_mono (f.trans A.fz) s
  have s2 : SqT K H1 b us := seqT_mono (f.trans A.fz) s'
  have s3 : SqT K H1 c ts := seqT_mono (f.trans A.fz) s''
  have l1 := das_len r
  have l2 := das_len r'
  have l3 := das_len r''
  refine ⟨⟨vs, us, ts, s1, s2, s3, by rw [zip3D_len, l1, l2, l3]⟩, fun i d hd => ?_⟩
  obtain ⟨x, y, z, hx, hy, hz, rfl⟩ := zip3D_get hd
  obtain ⟨v, e, rv⟩ := das_get r hx
  obtain ⟨u, e', ru⟩ := das_get r' hy
  obtain ⟨t, e'', rt⟩ := das_get r'' hz
  refine ⟨⟨vs, us, ts, v, u, t, s1, s2, s3, e, e', e''⟩, fun z H2 hz => ?_⟩
  obtain ⟨T, x', y', z', rfl, nT, rfl, f1, f2, f3⟩ := hz
  have e1 := f1 vs s1
  have e2 := f2 us s2
  have e3 := f3 ts s3
  rw [e] at e1
  rw [e'] at e2
  rw [e''] at e3
  cases e1
  cases e2
  cases e3
  obtain ⟨A2, x2⟩ := A.new (o := .tup [v, u, t]) nT
  have g := same_new (o := HO.tup [v, u, t]) (A.free nT).2
  exact ⟨_, x2, A2, .tup (.inl upd_same) (.cons (dpm (f.trans g) _ _ rv) (.cons (dpm (f.trans g) _ _ ru) (.cons (dpm (f.trans g) _ _ rt) .nil)))⟩
abbrev iZip3 (ta : DTA) : DTI := fun τ S Q => ta τ S fun xs S1 => three3 xs fun x y z => asT x fun ds => asT y fun es => asT z fun fs => Q (zip3D ds es fs) S1
section
variable {X : Cx} {pos : Pos}
theorem di_zip3 {a b c : Expr} {ta : DTA} {p tpos : Pos} {elts : List Expr} {kk : Nat} (hm : X.mg "zip" = none) (ha : PA X [a, b, c] (lowA X.K ta)) (hg : Gl X "zip" := by rfl)
    (hs : starEach [a, b, c] X.env = (false, eval a X.env) :: starEach [b, c] X.env := by rfl) (hpl : (backTo pos (starEach [b, c] X.env)).any (·.1) = false := by rfl) : PI X (.Tuple elts kk tpos) (.Call (.Name "zip" p) [a, b, c] [] pos) (lowI X.K (iZip3 ta)) := by
  refine ⟨fun pins s σ H R I ⟨F, S, τ, Qd, A, E, h, P⟩ => ?_⟩
  refine Call_ (ld_blt I hg hm PyProof.Rows.boot_zip (PyProof.Rows.callWith_type1 (thn (ha.run pos pins s σ H (fun vs H1 => ∃ F1 S1 xs, Ext F S H F1 S1 H1 ∧ Abs X.K F1 S1 H1 ∧ WRs X.K F1 vs xs ∧ three3 xs fun x y z => asT x fun ds => asT y fun es => asT z fun fs => Qd (zip3D ds es fs) S1) I ⟨F, S, τ, _, A, E, h, fun vs H1 F1 S1 xs e1 A1 r1 q1 => ⟨F1, S1, xs, e1, A1, r1, q1⟩⟩) fun us s1 ⟨vs, H1, I1, r0, q0⟩ => ?_) hs hpl))
  obtain ⟨F1, S1, xs, e1, A1, r1, q1⟩ := q0
  obtain ⟨v, w, v', w', v2, w2, rfl, rw1, rw2, rw3, q2⟩ := three3_of r1 q1
  obtain ⟨a, us1, ds, rfl, s1', r2, rfl, q3⟩ := asT_of rw1 q2
  obtain ⟨b, us2, es, rfl, s2', r3, rfl, q4⟩ := asT_of rw2 q3
  obtain ⟨c, us3, fs, rfl, s3', r4, rfl, q5⟩ := asT_of rw3 q4
  cases r0 with
  | cons ra r0 =>
    cases r0 with
    | cons rb r0 =>
      cases r0 with
      | cons rc r0 =>
        cases r0
        cases ra
        cases rb
        cases rc
        obtain ⟨its, rv, p1, _⟩ := I1.tuple (seqT_mono A1.fz s1')
        obtain ⟨its2, rv2, p2, _⟩ := I1.tuple (seqT_mono A1.fz s2')
        obtain ⟨its3, rv3, p3, _⟩ := I1.tuple (seqT_mono A1.fz s3')
        refine zip_begins3 (begins_tuple a its.toArray) (begins_tuple b its2.toArray) (begins_tuple c its3.toArray) p1 p2 p3 fun h' hz hTI hTO g1 g2 g3 hsz hk => wpAny_pyIter_zip hz ?_
        have I2 : Inv X pins σ H1 { s1 with heap := h' } := I1.kept (t' := s1.toks) hk
        have lt1 : a < s1.heap.objs.size := by obtain ⟨_, e, _⟩ := p1; exact Heap.lt_size e
        have lt2 : b < s1.heap.objs.size := by obtain ⟨_, e, _⟩ := p2; exact Heap.lt_size e
        have lt3 : c < s1.heap.objs.size := by obtain ⟨_, e, _⟩ := p3; exact Heap.lt_size e
        have Sp : ZipSep3 (s1.heap.objs.size + 5) (s1.heap.objs.size + 3) (s1.heap.objs.size + 4) s1.heap.objs.size (s1.heap.objs.size + 1) (s1.heap.objs.size + 2) [s1.heap.objs.size, a] [s1.heap.objs.size + 1, b] [s1.heap.objs.size + 2, c] :=
          zip_sep3 (fun q hq => by rw [List.mem_singleton.mp hq]; exact lt1) (fun q hq => by rw [List.mem_singleton.mp hq]; exact lt2) (fun q hq => by rw [List.mem_singleton.mp hq]; exact lt3)
        refine ⟨_, [s1.heap.objs.size + 5, s1.heap.objs.size + 3, s1.heap.objs.size + 4, s1.heap.objs.size, s1.heap.objs.size + 1, s1.heap.objs.size + 2], _, ItzT3 X.K a b c, H1, rfl, I2, turn_zipT3 Sp (Nat.ne_of_lt lt1) (Nat.ne_of_lt (Nat.lt_succ_of_lt lt2)) (Nat.ne_of_lt (Nat.lt_succ_of_lt (Nat.lt_succ_of_lt lt3))), ⟨hz, hTI, ⟨_, _, _, hTO⟩, ⟨_, g1, rfl, rfl⟩, ⟨_, g2, rfl, rfl⟩, ⟨_, g3, rfl, rfl⟩⟩, fun q hq => ?_, P _ _ _ _ _ e1 A1 (ylds_zip3 s1' r2 s2' r3 s3' r4) q5⟩
        have hle : s1.heap.objs.size ≤ q := by
          have e' : q = s1.heap.objs.size + 5 ∨ q = s1.heap.objs.size + 3 ∨ q = s1.heap.objs.size + 4 ∨ q = s1.heap.objs.size ∨ q = s1.heap.objs.size + 1 ∨ q = s1.heap.objs.size + 2 := by simpa using hq
          rcases e' with z | z | z | z | z | z
          · rw [z]; exact Nat.le_add_right _ _
          · rw [z]; exact Nat.le_add_right _ _
          · rw [z]; exact Nat.le_add_right _ _
          · rw [z]; exact Nat.le_refl _
          · rw [z]; exact Nat.le_add_right _ _
          · rw [z]; exact Nat.le_add_right _ _
        have f0 := I1.fpOk hle (I1.hok.fresh hle)
        exact f0
/-! ### t * n -/
open PySem.AutoSeq1 (wpAny_loadPart') in
theorem tuple_mul1 (l : Addr) (items : Array Value) (n : Nat) (dd : Option Addr) (sl : Array (Option Value)) (u : Tok) :
    Meets (Builtin.«tuple.__mul__» ⟨[.ref l, .int 1 u], []⟩) (fun _ R s => s.heap.get? l = some { cls := .type "tuple", dict := dd, data := .seq items n, slots := sl } ∧ R (.ok (.ret (Value.ref l))) s) :=
  .of_wp fun prog w A R s h => by
    obtain ⟨hp, g, d, tk, os⟩ := s
    obtain ⟨hl, h⟩ := h
    have f1 := AutoSeq1.idx_int
    have c1 : (items.isEmpty || (1 : Int) == 1) = true := by rw [show ((1 : Int) == 1) = true from rfl, Bool.or_true]
    wp_walk using wpAny_loadPart' hl
    exact ⟨_, rfl, h⟩
def rRep1 (K : PySem.W.Frag) : R2 := fun x y H Q => ∃ l xs, x = .ref l ∧ y = .int 1 ∧ SqT K H l xs ∧ Q (.ref l) H
theorem op_rep1 : OpR X (binaryOp .Mult) (rRep1 X.K) := by
  intro pins s σ H x y v u Q I rx ry h
  obtain ⟨l, xs, rfl, rfl, hT, q⟩ := h
  cases rx
  obtain ⟨t, rfl⟩ := ry
  obtain ⟨its, r, ⟨⟨cls, dd, data, sl⟩, ho, hc, n, hd⟩, hs⟩ := I.tuple hT
  simp only at hc hd
  subst hc hd
  refine wpAny_binaryOp_repeat_ref (T := "tuple") (U := "int") (by decide) ⟨_, ho, rfl⟩ (fun s' => typeIs_int s' 1 t) noFill_tuple_mul F.fills_int_mul F.slot_int_rmul repeat_tuple F.slot_int_index.lookup
    (call_meets F.slot_int_rmul (typeIs_int s 1 t) F.entry_int_rmul (F.args_int_rmul_2 _ _) (int_rmul_tuple 1 t l its.toArray n dd sl)
      ⟨ho, rfl, ⟨_, ho, rfl⟩, call_meets F.slot_tuple_mul ⟨_, ho, rfl⟩ F.entry_tuple_mul (F.args_tuple_mul_2 _ _) (tuple_mul1 l its.toArray n dd sl t) ⟨ho, ?_⟩⟩)
  exact ⟨.ref l, H, I, rfl, q⟩
def rRep : DR2 := fun x y S Q => asT x fun ds => asI y fun k => (0 < ds.length ∧ ds.length ≤ 1000 ∧ 1 ≤ k ∧ k ≤ 1000) ∧ Q (.d (.tuple (List.replicate k.toNat ds).flatten)) S
theorem das_repf {K : PySem.W.Frag} {F : Hp} {vs : List V} {ds : List PyData} (r : DpAll K F vs ds) : ∀ n : Nat, DpAll K F (List.replicate n vs).flatten (List.replicate n ds).flatten
  | 0 => .nil
  | n + 1 => by rw [List.replicate_succ, List.replicate_succ, List.flatten_cons, List.flatten_cons]; exact das_append r (das_repf r n)
theorem OpR.or {f : Value → Value → Sem Value} {r r' : R2} (h : OpR X f r) (h' : OpR X f r') : OpR X f fun x y H Q => r x y H Q ∨ r' x y H Q := by
  intro pins s σ H x y v u Q I rx ry q
  rcases q with q | q
  · exact h pins s σ H x y v u Q I rx ry q
  · exact h' pins s σ H x y v u Q I rx ry q
theorem o_rep : OpR X (binaryOp .Mult) (low2 X.K rRep) := opr_le (OpR.or op_rep1 op_repT) fun x y H Q ⟨F, S, wx, wy, Qd, A, rx, ry, h, P⟩ => by
  obtain ⟨a, vs, xs, rfl, s1, r1, rfl, h2⟩ := asT_of rx h
  obtain ⟨k, rfl, rfl, ⟨c1, c2, c3, c4⟩, h3⟩ := asI_of ry h2
  have l1 := das_len r1
  by_cases hk : k = 1
  · subst hk
    refine .inl ⟨a, vs, rfl, rfl, seqT_mono A.fz s1, P.now A (show WR X.K F (.ref a) (.d (.tuple xs)) from rx) ?_⟩
    have e : (List.replicate (1 : Int).toNat xs).flatten = xs := by
      show (List.replicate 1 xs).flatten = xs
      simp
    rw [e] at h3
    exact h3
  · refine .inr ⟨a, k, vs, rfl, rfl, seqT_mono A.fz s1, fun e => ?_, by omega, c4, by omega, fun p n => P.fresh A n (.tup (.inl upd_same) (dpms (same_new (A.free n).2) _ _ (das_repf r1 _))) h3⟩
    rw [e] at l1
    simp at l1
    omega
end
end Dl

namespace Dl
open PySem PySem.Spec PyProof.Rows L2
/-- a comprehension whose tests and items only look -/
theorem compD_ty {α : Type} {g : DTG} {tt : DTT} {te : DTE} {τ : En} {S : Sto} (enc : α → PyData) (p : α → Bool) (f : α → PyData) : ∀ (xs : List α) {Q : List PyData → Sto → Prop},
    (∀ a ∈ xs, ∀ (K1 : PyData → Sto → Prop) (K2 : Sto → Prop), (p a = true → K1 (f a) S) → (p a = false → K2 S) → g (.d (enc a)) τ S fun τ' S1 => tt τ' S1 fun k S2 => if k = true then te τ' S2 fun x S3 => asD x fun y => K1 y S3 else K2 S2) →
    Q ((xs.filter p).map f) S → compD g tt te τ (xs.map enc) S Q
  | [], Q, _, q => q
  | a :: xs, Q, h, q => by
    show g (.d (enc a)) τ S _
    refine h a List.mem_cons_self _ _ (fun e => ?_) fun e => ?_
    · rw [List.filter_cons_of_pos e] at q
      exact compD_ty enc p f xs (fun b hb => h b (List.mem_cons_of_mem _ hb)) q
    · rw [List.filter_cons_of_neg (by rw [e]; exact Bool.false_ne_true)] at q
      exact compD_ty enc p f xs (fun b hb => h b (List.mem_cons_of_mem _ hb)) q
/-- .. all of them -/
theorem compD_all {α : Type} {g : DTG} {te : DTE} {τ : En} {S : Sto} (enc : α → PyData) (f : α → PyData) (xs : List α) {Q : List PyData → Sto → Prop}
    (h : ∀ a ∈ xs, ∀ (K1 : PyData → Sto → Prop), K1 (f a) S → g (.d (enc a)) τ S fun τ' S1 => te τ' S1 fun x S3 => asD x fun y => K1 y S3)
    (q : Q (xs.map f) S) : compD g vYes te τ (xs.map enc) S Q := by
  refine compD_ty enc (fun _ => true) f xs (fun a ha K1 K2 h1 _ => ?_) (by rw [List.filter_eq_self.mpr fun _ _ => rfl]; exact q)
  exact h a ha K1 (h1 rfl)
/-- .. whose items change cells -/
theorem compD_st {α β : Type} {g : DTG} {te : DTE} {τ : En} (enc : α → PyData) (dec : β → PyData) (J : Sto → Prop) (Pb : β → Prop) : ∀ (xs : List α) {S : Sto} {Q : List PyData → Sto → Prop},
    (∀ a ∈ xs, ∀ (S : Sto) (K1 : PyData → Sto → Prop), J S → (∀ b S', Pb b → J S' → K1 (dec b) S') → g (.d (enc a)) τ S fun τ' S1 => te τ' S1 fun x S3 => asD x fun y => K1 y S3) → J S →
    (∀ (bs : List β) S', bs.length = xs.length → (∀ b ∈ bs, Pb b) → J S' → Q (bs.map dec) S') → compD g vYes te τ (xs.map enc) S Q
  | [], S, Q, _, j, q => q [] S rfl (fun _ h => nomatch h) j
  | a :: xs, S, Q, h, j, q => by
    show g (.d (enc a)) τ S _
    refine h a List.mem_cons_self S (fun y S3 => compD g vYes te τ (xs.map enc) S3 fun out S4 => Q (y :: out) S4) j fun b S' hb hj => ?_
    refine compD_st enc dec J Pb xs (fun c hc => h c (List.mem_cons_of_mem _ hc)) hj fun bs S2 hl hp hj2 => ?_
    exact q (b :: bs) S2 (by rw [List.length_cons, List.length_cons, hl]) (fun c hc => (List.mem_cons.mp hc).elim (fun e => e ▸ hb) (hp c)) hj2
end Dl
namespace Dl
open PySem PySem.Spec PyProof.Rows L2
/-- a for loop over data, by what holds ahead of each turn (of what is left) -/
theorem forD_ind {α : Type} {g : DTG} {b : DTS} {D : DEnds} (enc : α → PyData) (I : List α → En → Sto → Prop) (hnil : ∀ τ S, I [] τ S → D.nx τ S)
    (hcons : ∀ a r τ S, I (a :: r) τ S → ∀ K : En → Sto → Prop, (∀ τ' S', I r τ' S' → K τ' S') → g (.d (enc a)) τ S fun τ' S' => b { D with nx := K, ct := K, bk := D.nx } τ' S') :
    ∀ (xs : List α) {τ : En} {S : Sto}, I xs τ S → forD g b D (xs.map enc) τ S
  | [], _, _, h => hnil _ _ h
  | a :: r, τ, S, h => hcons a r τ S h _ fun τ' S' h' => forD_ind enc I hnil hcons r h'
theorem zipD_map {α β : Type} (f : α → PyData) (g : β → PyData) : ∀ (xs : List α) (ys : List β), zipD (xs.map f) (ys.map g) = (xs.zip ys).map fun p => .tuple [f p.1, g p.2]
  | [], ys => by cases ys <;> rfl
  | x :: xs, [] => rfl
  | x :: xs, y :: ys => by
    show PyData.tuple [f x, g y] :: zipD (xs.map f) (ys.map g) = _
    rw [zipD_map f g xs ys]
    rfl
theorem zip3D_map {α β γ : Type} (f : α → PyData) (g : β → PyData) (h : γ → PyData) : ∀ (xs : List α) (ys : List β) (zs : List γ), zip3D (xs.map f) (ys.map g) (zs.map h) = (xs.zip (ys.zip zs)).map fun p => .tuple [f p.1, g p.2.1, h p.2.2]
  | [], ys, zs => by cases ys <;> cases zs <;> rfl
  | x :: xs, [], zs => by cases zs <;> rfl
  | x :: xs, y :: ys, [] => rfl
  | x :: xs, y :: ys, z :: zs => by
    show PyData.tuple [f x, g y, h z] :: zip3D (xs.map f) (ys.map g) (zs.map h) = _
    rw [zip3D_map f g h xs ys zs]
    rfl
end Dl
namespace Dl
open PySem PySem.Spec PyProof.Rows L2
/-- an item of a cell's list -/
theorem cellItem {S : Sto} {b : Addr} {ds : List PyData} {i : Int} {e : PyData} {Q : WK} (hS : S b = some (.lst ds)) (h : atI ds i = some e) (q : Q (.d e) S) : rItem (.c b) (.d (.int i)) S Q := by
  unfold rItem asSq dat
  simp only [hS]
  show itemAt ds i _
  unfold itemAt
  rw [h]
  exact q
/-- a store into a cell's list at a place -/
theorem cellSet {S : Sto} {b : Addr} {ds : List PyData} {k : Int} {j : Nat} {d : PyData} {Q : Sto → Prop} (hS : S b = some (.lst ds)) (h : ixN ds.length k = some j) (q : Q (put S b (.lst (ds.set j d)))) : storeL (.c b) k d S Q := by
  unfold storeL
  simp only [hS, h]
  exact q
theorem cellApp {S : Sto} {b : Addr} {ds : List PyData} {d : PyData} {Q : Sto → Prop} (hS : S b = some (.lst ds)) (hl : ds.length < 1000) (q : Q (put S b (.lst (ds ++ [d])))) : appL (.c b) d S Q := by
  unfold appL
  simp only [hS]
  exact ⟨hl, q⟩
theorem cellIs {S : Sto} {b : Addr} {ds : List PyData} (hS : S b = some (.lst ds)) : isL (.c b) S := by
  unfold isL
  simp only [hS]
end Dl
namespace Dl
open PySem PySem.Spec PyProof.Rows L2
/-- a store with fewer cells -/
def Le (S' S : Sto) : Prop := ∀ a c, S' a = some c → S a = some c
theorem Le.refl (S : Sto) : Le S S := fun _ _ h => h
theorem Le.none {S' S : Sto} (h : Le S' S) {a : Addr} (n : S a = Option.none) : S' a = Option.none := by
  cases q : S' a with
  | none => rfl
  | some c => rw [h a c q] at n; cases n
theorem Abs.le {K : PySem.W.Frag} {F H : Hp} {S S' : Sto} (A : Abs K F S H) (h : Le S' S) : Abs K F S' H ∧ Ext F S H F S' H :=
  ⟨⟨A.fz, fun a c e => A.cl a c (h a c e)⟩, Same.refl F, fun a o ha n => ⟨ha, h.none n, fun z _ => z⟩⟩
def Sub (Q : WK) : WK := fun x S' => ∃ S'', Le S'' S' ∧ Q x S''
theorem Sub.now {Q : WK} {x : W} {S : Sto} (h : Q x S) : Sub Q x S := ⟨S, Le.refl S, h⟩
theorem le_put {S : Sto} {p : Addr} {c : Cl} (h : S p = none) : Le S (put S p c) := fun a d e => by
  have hne : a ≠ p := fun z => by subst z; rw [h] at e; cases e
  rw [put_ne hne]; exact e
section
variable {P : Program} {w : World} {K : PySem.W.Frag} {mg : Str → Option Value} {base : Heap}
/-- a def that makes cells of its own and leaves them -/
theorem ok_ofF {x qual : Str} {st : Stmt} {f : Addr} {fd : FuncData} {N ps : List Str} {k : Nat} {r : DSp} {u : DTS} (F : Fun K x qual st f fd) (Sc : FnScope N ps (defScope st)) (len : ∀ ws S Q, r ws S Q → ws.length = ps.length)
    (der : ∀ (cdv : Value) (A : Around) (outer : List Env) (s : Shared) (H : Hp) (E : XK), Room k (A.deeper (envOfC qual (defScope st) s.heap.objs.size f cdv)) → PSs (cxOf CX0 P w K mg base N qual (defScope st) f cdv A outer s H E).nox (defBody st) (lowS K u))
    (red : ∀ ws S Q, r ws S Q → u { nx := fun _ S' => Sub Q (.d .none) S', rt := Sub Q } (startD N ws) S) : FnOk P w K mg base CX0 (k + 1) f fd ps (spD K r) := by
  have G := ok_of (r := fun ws S Q => ∃ Q', r ws S Q' ∧ Q = Sub Q') F Sc (fun ws S Q ⟨Q', h, _⟩ => len ws S Q' h) der fun ws S Q ⟨Q', h, e⟩ => by
    subst e
    exact red ws S Q' h
  refine G.imp fun vs H Q E ⟨F1, S1, ws, Qd, A1, r1, h1, P1⟩ => ⟨F1, S1, ws, Sub Qd, A1, r1, ⟨Qd, h1, rfl⟩, fun v H' F' S' x e' A' r' ⟨S'', hl, q⟩ => ?_⟩
  obtain ⟨A2, e2⟩ := A'.le hl
  exact P1 v H' F' S'' x (e'.trans e2) A2 r' q
end
end Dl
namespace Dl
open PySem PySem.Spec PyProof.Rows L2
theorem cellL {S : Sto} {b : Addr} {ds : List PyData} {k : List PyData → Prop} (hS : S b = some (.lst ds)) (q : k ds) : asL S (.c b) k := by
  unfold asL dat
  simp only [hS]
  exact q
theorem cellD {S : Sto} {b : Addr} {ds : List PyData} {k : PyData → Prop} (hS : S b = some (.lst ds)) (q : k (.list ds)) : dat S (.c b) k := by
  unfold dat
  simp only [hS]
  exact q
end Dl
namespace Dl
open PySem PySem.Spec PyProof.Rows L2
theorem eq_self {d : PyData} {S : Sto} {Q : WK} (h : SeqAt.shaped d = true) (q : Q (.d (.bool true)) S) : rEq false (.d d) (.d d) S Q := by
  refine ⟨h, h, ?_⟩
  rw [SeqAt.eqv_refl d (SeqAt.canLay_of_shaped h)]
  exact q
theorem ne_self {d : PyData} {S : Sto} {Q : WK} (h : SeqAt.shaped d = true) (q : Q (.d (.bool false)) S) : rEq true (.d d) (.d d) S Q := by
  refine ⟨h, h, ?_⟩
  rw [SeqAt.eqv_refl d (SeqAt.canLay_of_shaped h)]
  exact q
end Dl
namespace Dl
open PySem PySem.Spec PyProof.Rows L2
theorem tupItem {S : Sto} {ds : List PyData} {i : Int} {e : PyData} {Q : WK} (h : atI ds i = some e) (q : Q (.d e) S) : rItem (.d (.tuple ds)) (.d (.int i)) S Q := by
  show itemAt ds i _
  unfold itemAt
  rw [h]
  exact q
end Dl

namespace Dl
open PySem PySem.Spec PyProof.Rows L2
section
variable {X : Cx} {pos : Pos}
/-! ### list + list -/
def rCat2 (K : PySem.W.Frag) : R2 := fun x y H Q => ∃ l b xs zs, x = .ref l ∧ y = .ref b ∧ SqL K H l xs ∧ SqL K H b zs ∧ xs.length + zs.length ≤ sizeLine ∧ ∀ p, H p = none → Q (.ref p) (upd H p (.lst (xs ++ zs)))
theorem op_cat2 : OpR X (binaryOp .Add) (rCat2 X.K) := by
  intro pins s σ H x y v u Q I rx ry h
  obtain ⟨l, b, xs, zs, rfl, rfl, hH, hB, hz, q⟩ := h
  cases rx
  cases ry
  obtain ⟨its, r, p1, _⟩ := I.list hH
  obtain ⟨its2, r2, p2, _⟩ := I.list hB
  have l1 := r.length
  have l2 := r2.length
  have hl : s.heap.IsList l its.toArray := p1.isList
  have hb : s.heap.IsList b its2.toArray := p2.isList
  obtain ⟨⟨cls, dd, data, sl⟩, ho, hc, n, hd⟩ := id hl
  obtain ⟨⟨cls2, dd2, data2, sl2⟩, ho2, hc2, n2, hd2⟩ := id hb
  simp only at hc hd hc2 hd2
  subst hc hd hc2 hd2
  have e : its.toArray ++ its2.toArray = (its ++ its2).toArray := by simp
  refine concat_meets ⟨_, ho, rfl⟩ ⟨_, ho2, rfl⟩ noFill_list_add seq_list_add PySem.F.slot_list_add PySem.F.entry_list_add (PySem.F.args_list_add_2 _ _) (list_addW l b its.toArray its2.toArray n n2 dd dd2 sl sl2 (by rw [List.size_toArray, List.size_toArray]; omega)) ⟨ho, ho2, ?_⟩
  rw [e]
  exact ⟨.ref _, _, I.lnew (t' := s.toks) (r.append r2) (by rw [List.length_append]; omega), rfl, q _ I.fresh⟩
def rCatL : DR2 := fun x y S Q => asL S x fun xs => asL S y fun ys => xs.length + ys.length ≤ 1000 ∧ Q (.d (.list (xs ++ ys))) S
theorem o_catL : OpR X (binaryOp .Add) (low2 X.K rCatL) := opr_le op_cat2 fun x y H Q ⟨F, S, wx, wy, Qd, A, rx, ry, h, P⟩ => by
  obtain ⟨a, vs, xs, rfl, s1, r1, h1⟩ := asL_of A rx h
  obtain ⟨b, us, ys, rfl, s2, r2, z, h2⟩ := asL_of A ry h1
  have l1 := das_len r1
  have l2 := das_len r2
  exact ⟨a, b, vs, us, rfl, rfl, s1, s2, k_line (by omega), fun p n => P.fresh A n (.lst (.inl (.inl upd_same)) (dpms (same_new (A.free n).2) _ _ (das_append r1 r2))) h2⟩
/-! ### in -/
theorem hu65 {k : Nat} {A : Around} (hr : Room k A) : A.units + 65 < cLine := by have := hr.un; omega
def rIn (neg : Bool) : DR2 := fun x y S Q => dat S x fun d => asL S y fun ds => SeqAt.shaped d = true ∧ SeqAt.shaped (.list ds) = true ∧ Q (.d (.bool (if neg then !ds.any fun z => PyData.eqv z d else ds.any fun z => PyData.eqv z d))) S
theorem dpL {K : PySem.W.Frag} {F H : Hp} {S : Sto} {v : V} {w : W} {k : List PyData → Prop} (A : Abs K F S H) (r : WR K F v w) (h : asL S w k) : ∃ ds, L2.Dp K H v (.list ds) ∧ k ds := by
  obtain ⟨a, vs, ds, rfl, s, r1, q⟩ := asL_of A r h
  exact ⟨ds, .lst s (dp2s _ _ (dpms A.fz _ _ r1)), q⟩
theorem o_in {k : Nat} (hr : Room k X.A) : OpR X (compareOp .In) (low2 X.K (rIn false)) := opr_le (op_inD (hu65 hr)) fun x y H Q ⟨F, S, wx, wy, Qd, A, rx, ry, h, P⟩ => by
  obtain ⟨d, r1, h⟩ := dat_of A rx h
  obtain ⟨ds, r2, h1, h2, h⟩ := dpL A ry h
  exact ⟨d, ds, r1, r2, h1, h2, P.now A (show WR X.K F (.bl _) (.d (.bool _)) from Dp.bl _) h⟩
theorem o_nin {k : Nat} (hr : Room k X.A) : OpR X (compareOp .NotIn) (low2 X.K (rIn true)) := opr_le (op_notInD (hu65 hr)) fun x y H Q ⟨F, S, wx, wy, Qd, A, rx, ry, h, P⟩ => by
  obtain ⟨d, r1, h⟩ := dat_of A rx h
  obtain ⟨ds, r2, h1, h2, h⟩ := dpL A ry h
  exact ⟨d, ds, r1, r2, h1, h2, P.now A (show WR X.K F (.bl _) (.d (.bool _)) from Dp.bl _) h⟩
/-- a text in a tuple of texts -/
def rInT (neg : Bool) : DR2 := fun x y S Q => asS x fun s => asT y fun ds => match strs? ds with
  | some ns => Q (.d (.bool (if neg then !ns.contains s else ns.contains s))) S
  | none => False
theorem strs_of : ∀ {ds : List PyData} {ns : List Str}, strs? ds = some ns → ds = ns.map PyData.str
  | [], ns, h => by cases h; rfl
  | .str i :: r, ns, h => by
    have h' : (strs? r).map (i :: ·) = some ns := h
    cases q : strs? r with
    | none => rw [q] at h'; cases h'
    | some ms => rw [q] at h'; cases h'; rw [strs_of q]; rfl
  | .none :: _, _, h => by cases h
  | .bool _ :: _, _, h => by cases h
  | .int _ :: _, _, h => by cases h
  | .list _ :: _, _, h => by cases h
  | .tuple _ :: _, _, h => by cases h
  | .dict _ :: _, _, h => by cases h
theorem strs_map : ∀ ns : List Str, strs? (ns.map PyData.str) = some ns
  | [] => rfl
  | n :: ns => by show (strs? (ns.map PyData.str)).map (n :: ·) = _; rw [strs_map ns]; rfl
theorem inV_strs (s : Str) : ∀ ns : List Str, inV (.str s) (ns.map V.str) = ns.contains s
  | [] => rfl
  | n :: ns => by
    show (eqV (.str n) (.str s) || inV (.str s) (ns.map V.str)) = _
    rw [inV_strs s ns, List.contains_cons]
    show ((n == s) || ns.contains s) = _
    by_cases e : n = s
    · subst e; simp
    · have e' : ¬ s = n := fun z => e z.symm
      rw [beq_eq_false_iff_ne.mpr e, beq_eq_false_iff_ne.mpr e']
theorem flat_strs : ∀ ns : List Str, (ns.map V.str).all flatV = true
  | [] => rfl
  | n :: ns => by rw [List.map_cons, List.all_cons, flat_strs ns]; rfl
theorem low_inT {neg : Bool} (x y : V) (H : Hp) (Q : VK) (h : low2 X.K (rInT neg) x y H Q) : L2.rIn X.K neg x y H Q := by
  obtain ⟨F, S, wx, wy, Qd, A, rx, ry, h, P⟩ := h
  obtain ⟨s, rfl, rfl, h1⟩ := asS_of rx h
  obtain ⟨a, vs, ds, rfl, s1, r1, rfl, h2⟩ := asT_of ry h1
  split at h2
  · rename_i ns e
    rw [strs_of e] at r1
    have e2 := das_strs r1
    subst e2
    refine ⟨a, _, rfl, .inr (seqT_mono A.fz s1), rfl, flat_strs ns, P.now A (show WR X.K F (.bl _) (.d (.bool _)) from Dp.bl _) ?_⟩
    rw [inV_strs]
    exact h2
  · exact h2.elim
theorem o_inT : OpR X (compareOp .In) (low2 X.K (rInT false)) := opr_le op_in_seq low_inT
theorem o_ninT : OpR X (compareOp .NotIn) (low2 X.K (rInT true)) := opr_le op_notIn_seq low_inT
/-! ### constants of the module -/
structure Cst (K : PySem.W.Frag) (mg : Str → Option Value) (x : Str) (d : PyData) : Prop where
  ex : ∃ v u, mg x = some u ∧ RelV v u ∧ ∀ F, Dp K F v d
theorem de_const {x : Str} {d : PyData} (c : Cst X.K X.mg x d) (hg : Gl X x := by rfl) (hd : (x == ("__debug__" : Str)) = false := by decide) : PE X (.Name x pos) (lowE X.K (uC d)) := by
  obtain ⟨v, u, hm, r, h⟩ := c.ex
  exact de_glob hg hm r h hd
/-! ### -n -/
def uNeg (ua : DTE) : DTE := fun τ S Q => ua τ S fun x S1 => asI x fun i => Q (.d (.int (-i))) S1
theorem de_neg {a : Expr} {ua : DTE} (ha : PE X a (lowE X.K ua)) : PE X (.UnaryOp .USub a pos) (lowE X.K (uNeg ua)) := by
  refine pe_le (pe_un un_neg ha) fun σ H Q ⟨F, S, τ, Qd, A, E, h, P⟩ => ⟨F, S, τ, _, A, E, h, fun v1 H1 F1 S1 x e1 A1 r1 q1 => ?_⟩
  obtain ⟨i, rfl, rfl, q⟩ := asI_of r1 q1
  exact ⟨i, rfl, (P.ext e1).now A1 (show WR X.K F1 (.int (-i)) (.d (.int (-i))) from Dp.int _) q⟩
end
end Dl

namespace Dl
open PySem PySem.Spec PyProof.Rows L2

/-! ### enumerate of a tuple -/
theorem en1_meets {v : Value} {oI : Obj} {HH : Heap → Prop} (Bg : Begins v oI HH) : Meets (Builtin.«enumerate.__new__» ⟨[.type "enumerate", v], []⟩) (fun _ R s => HH s.heap ∧ R (.ok (.ret (.ref (s.heap.push oI).objs.size))) { s with heap := (s.heap.push oI).push { cls := .type "enumerate", data := .fields #[.none, .bool false, .ref s.heap.objs.size, rawInt 0, .none, .none] } }) :=
  .of_wp fun prog w A R s ⟨h1, hR⟩ => by
    obtain ⟨hp, gg, dd, tk, os⟩ := s
    have sb := sub_enumerate
    have itr : ∀ {A' : Around} {E : Value → Shared → Prop} {Q : Value → Shared → Prop}, Q (.ref hp.objs.size) ⟨hp.push oI, gg, dd, tk, os⟩ → wpAny (model prog w) A' (pyIter v) Q E ⟨hp, gg, dd, tk, os⟩ := fun q => Bg.iter prog w _ _ _ _ h1 q
    wp_walk using itr
    refine wpAny_stack_any fun stk => wpAny_pure ?_
    split
    · rename_i cc _ _ _ _ _
      cases (cc == Value.type "enumerate") <;>
      · wp_walk using itr
        exact ⟨_, rfl, hR⟩
    · wp_walk using itr
      exact ⟨_, rfl, hR⟩
theorem en1_begins {prog : Program} {w : World} {A : Around} {E : Value → Shared → Prop} {s : Shared} {v : Value} {oI : Obj} {HH : Heap → Prop} {Q : Value → Shared → Prop} (Bg : Begins v oI HH) (h1 : HH s.heap)
    (hQ : ∀ h', IsEnum h' (s.heap.objs.size + 1) s.heap.objs.size 0 .none → h'.get? s.heap.objs.size = some oI → (∀ b ob, s.heap.get? b = some ob → h'.get? b = some ob) → Q (.ref (s.heap.objs.size + 1)) { s with heap := h' }) :
    wpAny (model prog w) A (call (.type "enumerate") [v]) Q E s := by
  refine callType_new F.called_enumerate (by decide) (F.typeCall_enumerate_1 _) (F.newCall_enumerate_1 _) (fun ob => F.args_object_init_2 ob _) F.entry_enumerate_new (en1_meets Bg) ⟨h1, ?_⟩
  have sz : (s.heap.push oI).objs.size = s.heap.objs.size + 1 := Heap.size_push ..
  show _ ∧ _
  rw [sz]
  have he : IsEnum ((s.heap.push oI).push { cls := .type "enumerate", data := .fields #[.none, .bool false, .ref s.heap.objs.size, rawInt 0, .none, .none] }) (s.heap.objs.size + 1) s.heap.objs.size 0 .none := by
    have z := Heap.get?_push_size (s.heap.push oI) (o := { cls := .type "enumerate", data := .fields #[.none, .bool false, .ref s.heap.objs.size, rawInt 0, .none, .none] }) rfl
    rw [sz] at z; exact z
  exact ⟨⟨_, he, rfl⟩, hQ _ he (Heap.get?_push_of_some _ (Heap.get?_push_size _ Bg.free)) fun b ob x => Heap.get?_push_of_some _ (Heap.get?_push_of_some _ x)⟩
def IteT (K : PySem.W.Frag) (a : Addr) : It :=
  ⟨fun i H => ∃ (xs : List V) (x : V), SqT K H a xs ∧ xs[i]? = some x,
    fun i H v H' => ∃ T x, v = .ref T ∧ H T = none ∧ H' = upd H T (.tup [.int (i : Nat), x]) ∧ ∀ xs, SqT K H a xs → xs[i]? = some x,
    fun i H => ∃ xs : List V, SqT K H a xs ∧ i = xs.length⟩
theorem turn_enumT {P : Program} {w : World} {K : PySem.W.Frag} {elts : List Expr} {kk : Nat} {tpos : Pos} {a e it : Addr} (hne : e ≠ it) (hea : e ≠ a) (hai : a ≠ it) :
    Turn P w K (.Tuple elts kk tpos) (IteT K a) [e, it] e (fun i h => (∃ old, IsEnum h e it (0 + (i : Int)) old) ∧ h.IsTupleIter it a i) where
  mem := by simp
  obj := fun i h st q hc => by
    obtain ⟨⟨old, he⟩, ⟨o1, e1, _, d1⟩⟩ := st
    have e' : q = e ∨ q = it := by simpa using hc
    rcases e' with q | q
    · rw [q]; exact ⟨_, he, fun v q => nomatch q⟩
    · rw [q]; exact ⟨o1, e1, fun v q => by rw [d1] at q; cases q⟩
  keep := fun i h h' st k => by
    obtain ⟨⟨old, he⟩, h1⟩ := st
    exact ⟨⟨old, k e (by simp) _ he⟩, h1.at fun o q => k it (by simp) o q⟩
  item := by
    intro X hP hw hK hc i pins s σ H E I hf st hg
    subst hP hw hK
    obtain ⟨⟨old, he⟩, h1⟩ := st
    obtain ⟨xs, x, hqx, hx⟩ := hg
    obtain ⟨its, rv, p1, _⟩ := I.tuple hqx
    obtain ⟨w1, hw1, ru1⟩ := rv.get hx
    have hh : X.A.in1.handled = none := I.ok.hd hc
    have G := GoesN.enumFrom (prog := X.prog) (w := X.w) (A := X.A) (elts := elts) (x1 := kk) (pos := tpos) 0 (Draws.tuple hh it a hai its.toArray) e hne (by simp [hne, hea]) (by simp)
    have lt1 : i < its.toArray.size := by rw [List.size_toArray]; exact (List.getElem?_eq_some_iff.mp hw1).1
    refine thn (G.goes i s (fun v s2 => ∃ x H', Inv X pins σ H' s2 ∧ RelV x v ∧ (IteT X.K a).yld i H x H' ∧ _ ∧ ∀ b ∈ [e, it], H' b = none) E lt1 ⟨⟨old, he⟩, h1, p1⟩ fun v h' tk hY st' hk htk => ?_) fun r s1 ⟨v, e, h⟩ => ⟨v, e, h⟩
    obtain ⟨T, t1, y1, rfl, hn, e1, hT⟩ := hY
    have q1 : y1 = w1 := by
      have z : its.toArray[i]? = some w1 := by simpa using hw1
      rw [z] at e1; exact (Option.some.inj e1).symm
    subst q1
    have e0 : (0 : Int) + (i : Int) = ((i : Nat) : Int) := by omega
    rw [e0] at hT
    have new : ObjOk X.prog X.w (upd H T (.tup [.int (i : Nat), x])) h' T (.tup [.int (i : Nat), x]) := ⟨by show 2 ≤ sizeLine; decide, [.int (i : Nat) t1, y1], .cons ⟨_, rfl⟩ (.cons ru1 .nil), hT⟩
    have I1 : Inv X pins σ (upd H T (.tup [.int (i : Nat), x])) { s with heap := h', toks := tk } := I.turnedNew (ch := [e, it]) hk hf hn new
    obtain ⟨he', h1', _⟩ := st'
    refine ⟨.ref T, _, I1, rfl, ⟨T, x, rfl, I.hok.fresh hn, rfl, fun l hl => by rw [I.tuple_inj hl hqx]; exact hx⟩, ⟨he', h1'⟩, fun q hq => ?_⟩
    have hlt : q < s.heap.objs.size := by
      have e' : q = e ∨ q = it := by simpa using hq
      rcases e' with q | q
      · rw [q]; exact Heap.lt_size he
      · rw [q]; obtain ⟨_, e1, _⟩ := h1; exact Heap.lt_size e1
    rw [upd_ne (Nat.ne_of_lt (Nat.lt_of_lt_of_le hlt hn))]
    exact (hf q hq).1
  done := by
    intro X hP hw hK hc i pins s σ H E I hf st hg
    subst hP hw hK
    obtain ⟨⟨old, he⟩, h1⟩ := st
    obtain ⟨xs, hqx, hend⟩ := hg
    obtain ⟨its, rv, p1, _⟩ := I.tuple hqx
    have hh : X.A.in1.handled = none := I.ok.hd hc
    have G := GoesN.enumFrom (prog := X.prog) (w := X.w) (A := X.A) (elts := elts) (x1 := kk) (pos := tpos) 0 (Draws.tuple hh it a hai its.toArray) e hne (by simp [hne, hea]) (by simp)
    have hi : i = its.toArray.size := by rw [List.size_toArray, ← rv.length]; exact hend
    subst hi
    exact G.stops s (fun s1 => Inv X pins σ H s1) E ⟨⟨old, he⟩, h1, p1⟩ fun h' tk hk htk => I.turnedL (ch := [e, it]) hk hf
  self := fun A i s Q E st h => let ⟨⟨_, he⟩, _⟩ := st; wpAny_pyIter_enum he h
/-- a list's items with their places -/
def enumD : Nat → List PyData → List PyData
  | _, [] => []
  | n, d :: ds => .tuple [.int (n : Int), d] :: enumD (n + 1) ds
theorem enumD_get : ∀ {ds : List PyData} {n i : Nat} {d : PyData}, (enumD n ds)[i]? = some d → ∃ x, ds[i]? = some x ∧ d = .tuple [.int ((n + i : Nat) : Int), x]
  | [], _, _, _, h => by simp [enumD] at h
  | x :: xs, n, 0, d, h => by simp [enumD] at h; exact ⟨x, rfl, h.symm⟩
  | x :: xs, n, i + 1, d, h => by
    have h' : (enumD (n + 1) xs)[i]? = some d := by simpa [enumD] using h
    obtain ⟨y, h1, h2⟩ := enumD_get h'
    exact ⟨y, by simpa using h1, by rw [h2]; congr 4; omega⟩
theorem enumD_len : ∀ (n : Nat) (ds : List PyData), (enumD n ds).length = ds.length
  | _, [] => rfl
  | n, d :: ds => by rw [enumD, List.length_cons, List.length_cons, enumD_len]
theorem ylds_enumT {K : PySem.W.Frag} {F : Hp} {a : Addr} {vs : List V} {ds : List PyData} (s : SqT K F a vs) (r : DpAll K F vs ds) : Ylds K (IteT K a) F (enumD 0 ds) := fun F1 S1 H1 f A => by
  have s1 : SqT K H1 a vs := seqT_mono (f.trans A.fz) s
  refine ⟨⟨vs, s1, by rw [enumD_len, das_len r]⟩, fun i d hd => ?_⟩
  obtain ⟨x, hx, rfl⟩ := enumD_get hd
  obtain ⟨v, e, rv⟩ := das_get r hx
  refine ⟨⟨vs, v, s1, e⟩, fun z H2 hz => ?_⟩
  obtain ⟨T, x', rfl, nT, rfl, f1⟩ := hz
  have e1 := f1 vs s1
  rw [e] at e1
  cases e1
  obtain ⟨A2, x2⟩ := A.new (o := .tup [.int (i : Nat), v]) nT
  have g := same_new (o := HO.tup [.int (i : Nat), v]) (A.free nT).2
  have e0 : (0 + i : Nat) = i := by omega
  rw [e0]
  exact ⟨_, x2, A2, .tup (.inl upd_same) (.cons (.int _) (.cons (dpm (f.trans g) _ _ rv) .nil))⟩
abbrev iEnumT (ta : DTA) : DTI := fun τ S Q => ta τ S fun xs S1 => one1 xs fun x => asT x fun ds => Q (enumD 0 ds) S1
section
variable {X : Cx} {pos : Pos}
theorem di_enum {e : Expr} {ta : DTA} {p tpos : Pos} {elts : List Expr} {kk : Nat} (hm : X.mg "enumerate" = none) (ha : PA X [e] (lowA X.K ta)) (hg : Gl X "enumerate" := by rfl) (hs : starEach [e] X.env = [(false, eval e X.env)] := by rfl) :
    PI X (.Tuple elts kk tpos) (.Call (.Name "enumerate" p) [e] [] pos) (lowI X.K (iEnumT ta)) := by
  refine ⟨fun pins s σ H R I ⟨F, S, τ, Qd, A, E, h, P⟩ => ?_⟩
  refine Call_ (ld_blt I hg hm boot_enumerate (PyProof.Rows.callWith_type1 (thn (ha.run pos pins s σ H (fun vs H1 => ∃ F1 S1 xs, Ext F S H F1 S1 H1 ∧ Abs X.K F1 S1 H1 ∧ WRs X.K F1 vs xs ∧ one1 xs fun x => asT x fun ds => Qd (enumD 0 ds) S1) I ⟨F, S, τ, _, A, E, h, fun vs H1 F1 S1 xs e1 A1 r1 q1 => ⟨F1, S1, xs, e1, A1, r1, q1⟩⟩) fun us s1 ⟨vs, H1, I1, r0, q0⟩ => ?_) hs rfl))
  obtain ⟨F1, S1, xs, e1, A1, r1, q1⟩ := q0
  obtain ⟨v, w, rfl, rw1, q2⟩ := one1_of r1 q1
  obtain ⟨a, us1, ds, rfl, s1', r2, rfl, q3⟩ := asT_of rw1 q2
  cases r0 with
  | cons ra r0 =>
    cases r0
    cases ra
    obtain ⟨its, rv, p1, _⟩ := I1.tuple (seqT_mono A1.fz s1')
    refine en1_begins (begins_tuple a its.toArray) p1 fun h' he hit hk => wpAny_pyIter_enum he ?_
    have I2 : Inv X pins σ H1 { s1 with heap := h' } := I1.kept (t' := s1.toks) hk
    have lt1 : a < s1.heap.objs.size := by obtain ⟨_, e, _⟩ := p1; exact Heap.lt_size e
    refine ⟨_, [s1.heap.objs.size + 1, s1.heap.objs.size], _, IteT X.K a, H1, rfl, I2, turn_enumT (Nat.succ_ne_self _) (Nat.ne_of_gt (Nat.lt_succ_of_lt lt1)) (Nat.ne_of_lt lt1), ⟨⟨_, he⟩, ⟨_, hit, rfl, rfl⟩⟩, fun q hq => ?_, P _ _ _ _ _ e1 A1 (ylds_enumT s1' r2) q3⟩
    have hle : s1.heap.objs.size ≤ q := by
      have e' : q = s1.heap.objs.size + 1 ∨ q = s1.heap.objs.size := by simpa using hq
      rcases e' with z | z
      · rw [z]; exact Nat.le_add_right _ _
      · rw [z]; exact Nat.le_refl _
    exact I1.fpOk hle (I1.hok.fresh hle)
end
end Dl
namespace Dl
open PySem PySem.Spec PyProof.Rows L2
/-! ### a comprehension whose list is changed later -/
theorem low_lcG {vs : List Nat} {ui : DTI} {g : DTG} {tt : DTT} {te : DTE} {K : PySem.W.Frag} {σ : L2.St} {F H : Hp} {S : Sto} {τ : En} {Qd : List PyData → Sto → Prop} {Q : VK} (A : Abs K F S H) (E : ER K F σ τ) (h : ui τ S fun ds S1 => ds.length ≤ 1000 ∧ compD g tt te (wipeD τ vs) ds S1 Qd)
    (fin : ∀ D H2 H1 F1 S1 F2 S2 vs2 es2, Ext F S H F1 S1 H1 → Ext F1 S1 H1 F2 S2 H2 → Abs K F2 S2 H2 → H1 D = none → F2 D = none → S2 D = none → H2 D = some (.lst vs2) → DpAll K F2 vs2 es2 → Qd es2 S2 → Q (.ref D) H2) :
    tLc (lowI K ui) (lowG K vs g) (lowT K tt) (lowE K te) vs σ H Q := by
  refine ⟨F, S, τ, _, A, E, h, fun J H1 F1 S1 ds e1 A1 y1 q1 D nD => ?_⟩
  obtain ⟨hz, q1⟩ := q1
  have nS := (A1.free nD).1
  have nF := (A1.free nD).2
  refine ⟨fun i m H2 => m + i = ds.length ∧ ∃ F2 S2 vs2 es2, (Same F1 F2 ∧ ∀ a o, H1 a = some o → S1 a = none → H2 a = some o ∧ S2 a = none ∧ (F1 a = none → (∀ xs, o ≠ .tup xs) → F2 a = none)) ∧ Abs K F2 S2 H2 ∧ F2 D = none ∧ S2 D = none ∧ H2 D = some (.lst vs2) ∧ DpAll K F2 vs2 es2 ∧ es2.length ≤ i ∧ compD g tt te (wipeD τ vs) (ds.drop i) S2 fun out S3 => Qd (es2 ++ out) S3, ⟨ds.length, rfl, F1, S1, [], [], ⟨Same.refl _, fun a o ha hs => ⟨by rw [upd_ne (ne_of_none ha nD)]; exact ha, hs, fun z _ => z⟩⟩, abs_out A1 nF nS, nF, nS, upd_same, .nil, Nat.zero_le _, ?_⟩, fun i m H2 hW => ?_⟩
  · rw [List.drop_zero]
    exact q1
  · obtain ⟨hm, F2, S2, vs2, es2, ⟨f2, k2⟩, A2, fD, sD, hD, r2, l2, hw⟩ := hW
    have e2 : Ext F1 S1 H1 F2 S2 H2 := ⟨f2, k2⟩
    obtain ⟨ys, yg⟩ := y1 F2 S2 H2 f2 A2
    have E2 := (E.mono (e1.fz.trans f2)).wipe vs
    by_cases hi : i < ds.length
    · have hd : ds[i]? = some ds[i] := List.getElem?_eq_getElem hi
      obtain ⟨go, yl⟩ := yg i _ hd
      rw [List.drop_eq_getElem_cons hi] at hw
      refine .inr ⟨go, fun H' => ∃ F4 S4 vs4 es4, (Same F1 F4 ∧ ∀ a o, H1 a = some o → S1 a = none → H' a = some o ∧ S4 a = none ∧ (F1 a = none → (∀ xs, o ≠ .tup xs) → F4 a = none)) ∧ Abs K F4 S4 H' ∧ F4 D = none ∧ S4 D = none ∧ H' D = some (.lst vs4) ∧ DpAll K F4 vs4 es4 ∧ es4.length ≤ i + 1 ∧ compD g tt te (wipeD τ vs) (ds.drop (i + 1)) S4 fun out S3 => Qd (es4 ++ out) S3, fun H' z => ⟨m - 1, by omega, by omega, z⟩, fun x H3 hy => ?_⟩
      obtain ⟨F3, e3, A3, r3⟩ := yl x H3 hy
      obtain ⟨fD3, sD3, hD3⟩ := e3.stay (K := K) fD sD hD
      refine ⟨F3, S2, wipeD τ vs, .d ds[i], _, A3, E2.mono e3.fz, r3, hw, fun σ5 H5 F5 S5 τ5 w5 e5 A5 E5 q5 => ⟨?_, ?_⟩⟩
      · rw [w5]
        exact wipe_wipe
      · obtain ⟨fD5, sD5, hD5⟩ := e5.stay (K := K) fD3 sD3 hD3
        refine ⟨F5, S5, τ5, _, A5, E5, q5, fun k H6 F6 S6 e6 A6 q6 => ?_⟩
        obtain ⟨fD6, sD6, hD6⟩ := e6.stay (K := K) fD5 sD5 hD5
        cases k with
        | false =>
          have eT := e2.trans (e3.trans (e5.trans e6))
          exact iteF ⟨F6, S6, vs2, es2, ⟨eT.fz, eT.kp⟩, A6, fD6, sD6, hD6, dpms (e3.fz.trans (e5.fz.trans e6.fz)) _ _ r2, by omega, q6⟩
        | true =>
          refine iteT ⟨F6, S6, τ5, _, A6, E5.mono e6.fz, q6, fun v7 H7 F7 S7 x7 e7 A7 r7 q7 => ?_⟩
          obtain ⟨fD7, sD7, hD7⟩ := e7.stay (K := K) fD6 sD6 hD6
          obtain ⟨y, ry, rfl, q8⟩ := asD_of r7 q7
          have eT := e2.trans (e3.trans (e5.trans (e6.trans e7)))
          have r8 := dpms (e3.fz.trans (e5.fz.trans (e6.fz.trans e7.fz))) _ _ r2
          refine ⟨vs2, hD7, ?_, F7, S7, vs2 ++ [v7], es2 ++ [y], ⟨eT.fz, fun a o ha hs => ?_⟩, abs_out A7 fD7 sD7, fD7, sD7, upd_same, das_append r8 (.cons ry .nil), ?_, ?_⟩
          · rw [das_len r2]; exact small1000 (by omega)
          · obtain ⟨z1, z2, z3⟩ := eT.kp a o ha hs
            exact ⟨by rw [upd_ne (ne_of_none ha nD)]; exact z1, z2, z3⟩
          · rw [List.length_append]; simp; omega
          · simpa only [List.append_assoc, List.singleton_append] using q8
    · have hge : ds.length ≤ i := Nat.le_of_not_lt hi
      rw [List.drop_eq_nil_of_le hge] at hw
      have hie : i = ds.length := by omega
      subst hie
      refine .inl ⟨ys, ?_⟩
      have q9 : Qd es2 S2 := by
        have z : Qd (es2 ++ []) S2 := hw
        rw [List.append_nil] at z
        exact z
      exact fin D H2 H1 F1 S1 F2 S2 vs2 es2 e1 ⟨f2, k2⟩ A2 nD fD sD hD r2 q9
abbrev uCompC (vs : List Nat) (ui : DTI) (g : DTG) (tt : DTT) (te : DTE) : DTE := fun τ S Q => ui τ S fun ds S1 => ds.length ≤ 1000 ∧ compD g tt te (wipeD τ vs) ds S1 fun out S2 => ∀ p, S2 p = none → Q (.c p) (put S2 p (.lst out))
theorem low_lcC {vs : List Nat} {ui : DTI} {g : DTG} {tt : DTT} {te : DTE} {K : PySem.W.Frag} {σ : L2.St} {H : Hp} {Q : VK} (h : lowE K (uCompC vs ui g tt te) σ H Q) : tLc (lowI K ui) (lowG K vs g) (lowT K tt) (lowE K te) vs σ H Q := by
  obtain ⟨F, S, τ, Qd, A, E, h, P⟩ := h
  refine low_lcG A E h fun D H2 H1 F1 S1 F2 S2 vs2 es2 e1 e2 A2 nD fD sD hD r2 q => ?_
  refine P _ _ F2 (put S2 D (.lst es2)) (.c D) (e1.trans ⟨e2.fz, fun a o ha hs => ?_⟩) ⟨A2.fz, fun a c ha => ?_⟩ rfl (q D sD)
  · obtain ⟨z1, z2, z3⟩ := e2.kp a o ha hs
    exact ⟨z1, by rw [put_ne (ne_of_none ha nD)]; exact z2, z3⟩
  · by_cases e : a = D
    · subst e
      rw [put_same] at ha
      cases ha
      exact ⟨fD, vs2, hD, r2⟩
    · rw [put_ne e] at ha
      exact A2.cl a c ha
section
variable {X : Cx} {pos : Pos} {tg : Expr}
theorem de_lcC {elt iter : Expr} {ifs : List Expr} {scope : Scope} {own : List (Str × Nat)} {ui : DTI} {g : DTG} {tt : DTT} {te : DTE} (hN : X.N.Nodup) (hi : PI X tg iter (lowI X.K ui)) (ok : BlkOk X.N X.env.scope scope own)
    (hg : ∀ (s : Shared) (H : Hp) (C : Addr) (cl : List (Str × Addr)) (fp : List Addr), PG (X.blk s H scope (compEnvC scope cl C X.env) fp) tg (lowG X.K (own.map (·.2)) g)) (ht : ∀ (s : Shared) (H : Hp) (C : Addr) (cl : List (Str × Addr)) (fp : List Addr), PTs (X.blk s H scope (compEnvC scope cl C X.env) fp) ifs (lowT X.K tt))
    (he : ∀ (s : Shared) (H : Hp) (C : Addr) (cl : List (Str × Addr)) (fp : List Addr), PE (X.blk s H scope (compEnvC scope cl C X.env) fp) elt (lowE X.K te)) (hc : X.calm = true := by rfl) (hs : ∀ x, foldedSetIterable iter X.env x = pure x := by intro _; rfl) :
    PE X (.ListComp elt [⟨tg, iter, ifs, 0⟩] scope pos) (lowE X.K (uCompC (own.map (·.2)) ui g tt te)) := pe_le (pe_lc hc hN hi ok hg ht he hs) fun _ _ _ => low_lcC
theorem ds_setLcC {i : Nat} {y : Str} {py : Pos} {elt iter : Expr} {ifs : List Expr} {scope : Scope} {own : List (Str × Nat)} {spos : Pos} {ui : DTI} {g : DTG} {tt : DTT} {te : DTE} (hN : X.N.Nodup) (hi : PI X tg iter (lowI X.K ui)) (ok : BlkOk X.N X.env.scope scope own)
    (hg : ∀ (s : Shared) (H : Hp) (C : Addr) (cl : List (Str × Addr)) (fp : List Addr), PG (X.blk s H scope (compEnvC scope cl C X.env) fp) tg (lowG X.K (own.map (·.2)) g)) (ht : ∀ (s : Shared) (H : Hp) (C : Addr) (cl : List (Str × Addr)) (fp : List Addr), PTs (X.blk s H scope (compEnvC scope cl C X.env) fp) ifs (lowT X.K tt))
    (he : ∀ (s : Shared) (H : Hp) (C : Addr) (cl : List (Str × Addr)) (fp : List Addr), PE (X.blk s H scope (compEnvC scope cl C X.env) fp) elt (lowE X.K te)) (hc : X.calm = true := by rfl) (hy : X.N[i]? = some y := by rfl) (hyl : X.env.scope.names.lookup y = some .local := by rfl)
    (hsw : swapsWith (.ListComp elt [⟨tg, iter, ifs, 0⟩] scope pos) (some (.Name y py)) spos.line X.env = pure true := by exact sw_true rfl rfl rfl (by decide +kernel)) (hs : ∀ x, foldedSetIterable iter X.env x = pure x := by intro _; rfl) :
    PS X (.Assign [.Name y py] (.ListComp elt [⟨tg, iter, ifs, 0⟩] scope pos) spos) (lowS X.K (sSet i (uCompC (own.map (·.2)) ui g tt te))) :=
  ps_le (ps_setLc hc hN hy hyl hsw hi ok hg ht he hs) fun D σ H ⟨F, S, τ, Dd, A, E, h, p1, _, _, _⟩ => low_lcC ⟨F, S, τ, _, A, E, h, fun v1 H1 F1 S1 x e1 A1 r1 q1 => p1 _ _ _ _ _ e1 A1 ((E.mono e1.fz).set r1) q1⟩
/-! ### a cell's list that is not changed any more; a cell that is forgotten -/
def frzW (x : W) (S : Sto) (Q : WK) : Prop := match x with
  | .c a => (match S a with
    | some (.lst ds) => Q (.d (.list ds)) (del S a)
    | _ => False)
  | .d d => Q (.d d) S
abbrev uFrz (ue : DTE) : DTE := fun τ S Q => ue τ S fun x S1 => frzW x S1 Q
theorem de_frz {e : Expr} {ue : DTE} (he : PE X e (lowE X.K ue)) : PE X e (lowE X.K (uFrz ue)) :=
  pe_le he fun σ H Q ⟨F, S, τ, Qd, A, E, h, P⟩ => ⟨F, S, τ, _, A, E, h, fun v1 H1 F1 S1 x e1 A1 r1 q1 => by
    unfold frzW at q1
    split at q1
    · rename_i a
      split at q1
      · rename_i ds q
        obtain ⟨F2, A2, e2, r2⟩ := A1.freeze q
        cases r1
        exact P _ _ _ _ (.d (.list ds)) (e1.trans e2) A2 r2 q1
      · exact q1.elim
    · exact P _ _ _ _ _ e1 A1 r1 q1⟩
/-! ### list * int -/
def rRepL : DR2 := fun x y S Q => asI y fun k => match x with
  | .c a => (match S a with
    | some (.lst ds) => (0 ≤ k ∧ k ≤ 1000 ∧ ds.length * k.toNat ≤ 1000) ∧ ∀ p, S p = none → Q (.c p) (put (del S a) p (.lst (List.replicate k.toNat ds).flatten))
    | _ => False)
  | _ => False
theorem o_repL : OpR X (binaryOp .Mult) (low2 X.K rRepL) := opr_le op_rep fun x y H Q ⟨F, S, wx, wy, Qd, A, rx, ry, h, P⟩ => by
  obtain ⟨k, rfl, rfl, h2⟩ := asI_of ry h
  split at h2
  · rename_i a
    split at h2
    · rename_i ds q
      obtain ⟨⟨c1, c2, c3⟩, h3⟩ := h2
      obtain ⟨nF, vs, eH, r1⟩ := A.cl a _ q
      cases rx
      refine ⟨a, k, vs, rfl, rfl, eH, by omega, by omega, by rw [das_len r1]; exact k_line c3, fun p n => ?_⟩
      obtain ⟨A1, e1⟩ := A.forget (p := a)
      obtain ⟨A2, e2⟩ := A1.newc (c := .lst (List.replicate k.toNat ds).flatten) n ⟨_, upd_same, das_repf r1 _⟩
      exact P _ _ _ _ (.c p) (e1.trans e2) A2 rfl (h3 p (A.free n).1)
    · exact h2.elim
  · exact h2.elim
/-! ### l.index(x) -/
abbrev uIdx (uo : DTE) (ta : DTA) : DTE := fun τ S Q => uo τ S fun o S1 => asL S1 o fun _ => ta τ S1 fun xs S2 => one1 xs fun x => dat S2 x fun d => asL S2 o fun ds => (SeqAt.shaped (.list ds) = true ∧ SeqAt.shaped d = true) ∧ ∃ (j : Nat) (z : PyData), ds[j]? = some z ∧ PyData.eqv z d = true ∧ (∀ (m : Nat) (z' : PyData), m < j → ds[m]? = some z' → PyData.eqv z' d = false) ∧ Q (.d (.int (j : Nat))) S2
theorem asL_mono {K : PySem.W.Frag} {F H : Hp} {S : Sto} {v : V} {w : W} {k : List PyData → Prop} (A : Abs K F S H) (r : WR K F v w) (h : asL S w k) : ∃ a ds, v = .ref a ∧ L2.Dp K H (.ref a) (.list ds) ∧ k ds := by
  obtain ⟨a, vs, ds, rfl, s, r1, q⟩ := asL_of A r h
  exact ⟨a, ds, rfl, .lst s (dp2s _ _ (dpms A.fz _ _ r1)), q⟩
theorem de_index {k : Nat} {o a : Expr} {uo : DTE} {ta : DTA} {apos cpos : Pos} (hr : Room k X.A) (ho : PE X o (lowE X.K uo)) (ha : PA X [a] (lowA X.K ta))
    (hbase : attributeBase o "index" X.env (eval o X.env) = eval o X.env := by rfl)
    (hfew : ((backTo cpos (starEach [a] X.env)).all (fun x => !x.1) && (backToKw cpos (keywordEach [] X.env)).all (fun x => x.1.isSome)
      && decide ([a].length + ([] : List Keyword).length + (if ([] : List Keyword).isEmpty then 0 else 1) < 30)) = true := by rfl)
    (hline : (apos.endLine == cpos.line) = true := by rfl) (hs : starEach [a] X.env = (false, eval a X.env) :: starEach [] X.env := by rfl) (hplain : (backTo cpos (starEach [] X.env)).any (·.1) = false := by rfl) :
    PE X (.Call (.Attribute o "index" apos) [a] [] cpos) (lowE X.K (uIdx uo ta)) :=
  pe_le (pe_bm PySem.F.plainAttrs_list PySem.F.slot_list_index PySem.F.type_list_index (mt_indexD (hu65 hr)) ho ha hbase hfew hline hs hplain) fun σ H Q ⟨F, S, τ, Qd, A, E, h, P⟩ => by
    refine ⟨F, S, τ, _, A, E, h, fun v1 H1 F1 S1 x e1 A1 r1 q1 => ?_⟩
    obtain ⟨b, us, ds0, rfl, s0, _, q1'⟩ := asL_of A1 r1 q1
    refine ⟨.inl ⟨rfl, us, s0⟩, F1, S1, τ, _, A1, E.mono e1.fz, q1', fun vs H2 F2 S2 xs e2 A2 r2 q2 => ?_⟩
    obtain ⟨v, w, rfl, rv, q2⟩ := one1_of r2 q2
    obtain ⟨d, r5, q3⟩ := dat_of A2 rv q2
    obtain ⟨b', ds, eb, r6, ⟨h1, h2⟩, j, z, g1, g2, g3, g4⟩ := asL_mono A2 (r1.mono e2.fz) q3
    cases eb
    exact ⟨b, v, d, ds, j, z, rfl, rfl, r6, r5, h1, h2, g1, g2, g3, (P.ext (e1.trans e2)).now A2 (show WR X.K F2 (.int _) (.d (.int _)) from Dp.int _) g4⟩
/-! ### isinstance -/
def tyD : PyData → String
  | .none => "NoneType"
  | .bool _ => "bool"
  | .int _ => "int"
  | .str _ => "str"
  | .list _ => "list"
  | .tuple _ => "tuple"
  | .dict _ => "dict"
theorem tyx_of {K : PySem.W.Frag} {H : Hp} {v : V} {d : PyData} (r : L2.Dp K H v d) : TyX K H v (.type (tyD d)) := by
  cases r with
  | non => exact .base .non
  | bl b => exact .base (.bl b)
  | int i => exact .base (.int i)
  | str s => exact .base (.str s)
  | lst s a =>
    rcases s with (h | ⟨o, h⟩) | ⟨o, its, n, h, hc, _⟩
    · exact .base (.lst h)
    · exact .base (.frz h)
    · exact .kList h hc
  | tup s a =>
    rcases s with (h | ⟨o, h⟩) | ⟨o, its, n, h, hc, _⟩
    · exact .base (.tup h)
    · exact .fTuple h
    · exact .kTuple h hc
def isInt : PyData → Bool
  | .int _ => true
  | .bool _ => true
  | _ => false
def isBool : PyData → Bool
  | .bool _ => true
  | _ => false
def isStr : PyData → Bool
  | .str _ => true
  | _ => false
def isTup : PyData → Bool
  | .tuple _ => true
  | _ => false
def isLst : PyData → Bool
  | .list _ => true
  | _ => false
def isSeq (d : PyData) : Bool := isTup d || isLst d
theorem ty_int (d : PyData) : kitB (tyD d) "int" = some (isInt d) := by cases d <;> (show kitB _ _ = some _; simp only [tyD, isInt]; decide +kernel)
theorem ty_bool (d : PyData) : kitB (tyD d) "bool" = some (isBool d) := by cases d <;> (show kitB _ _ = some _; simp only [tyD, isBool]; decide +kernel)
theorem ty_str (d : PyData) : kitB (tyD d) "str" = some (isStr d) := by cases d <;> (show kitB _ _ = some _; simp only [tyD, isStr]; decide +kernel)
theorem ty_tuple (d : PyData) : kitB (tyD d) "tuple" = some (isTup d) := by cases d <;> (show kitB _ _ = some _; simp only [tyD, isTup]; decide +kernel)
theorem ty_list (d : PyData) : kitB (tyD d) "list" = some (isLst d) := by cases d <;> (show kitB _ _ = some _; simp only [tyD, isLst]; decide +kernel)
abbrev uIsi (f : PyData → Bool) (ue : DTE) : DTE := fun τ S Q => ue τ S fun x S1 => dat S1 x fun d => Q (.d (.bool (f d))) S1
theorem de_isi {T : Str} {n : String} {f : PyData → Bool} {a : Expr} {ua : DTE} {p p2 : Pos} (hm : X.mg "isinstance" = none) (hT : X.mg T = none) (ht : ∀ d, kitB (tyD d) n = some (f d)) (ha : PE X a (lowE X.K ua)) (hv : bootBuiltins T = some (.type n) := by decide +kernel) (hg : Gl X "isinstance" := by rfl) (hgT : Gl X T := by rfl)
    (hn : T ≠ "__name__" := by decide) (hd : (T == ("__debug__" : Str)) = false := by decide) (he : starEach [a, .Name T p2] X.env = (false, eval a X.env) :: starEach [.Name T p2] X.env := by rfl) (he2 : starEach [.Name T p2] X.env = (false, eval (.Name T p2) X.env) :: starEach [] X.env := by rfl) (hpl : (backTo pos (starEach [.Name T p2] X.env)).any (·.1) = false := by rfl) :
    PE X (.Call (.Name "isinstance" p) [a, .Name T p2] [] pos) (lowE X.K (uIsi f ua)) :=
  pe_le (pe_callB call_isi hg hm (show bootBuiltins "isinstance" = some (.builtin "isinstance") by decide +kernel) (pa_cons ha (pa_cons (pe_bltn (v := .ty n) hgT hT hv rfl hn hd) pa_nil he2) he) (by decide) (by decide) he hpl) fun σ H Q ⟨F, S, τ, Qd, A, E, h, P⟩ => by
    refine ⟨F, S, τ, _, A, E, h, fun v1 H1 F1 S1 x e1 A1 r1 q1 => ?_⟩
    obtain ⟨d, r2, q2⟩ := dat_of A1 r1 q1
    exact ⟨v1, .ty n, .type (tyD d), .type n, f d, rfl, .ty n, tyx_of r2, kit_ty (ht d), (P.ext e1).now A1 (show WR X.K F1 (.bl _) (.d (.bool _)) from Dp.bl _) q2⟩
end
end Dl
namespace Dl
open PySem PySem.Spec PyProof.Rows L2
/-! ### zip of two tuples and a list -/
def ItzT3L (K : PySem.W.Frag) (a b c : Addr) : It :=
  ⟨fun i H => ∃ (xs ys zs : List V) (x y z : V), SqT K H a xs ∧ SqT K H b ys ∧ SqL K H c zs ∧ xs[i]? = some x ∧ ys[i]? = some y ∧ zs[i]? = some z,
    fun i H v H' => ∃ T x y z, v = .ref T ∧ H T = none ∧ H' = upd H T (.tup [x, y, z]) ∧ (∀ xs, SqT K H a xs → xs[i]? = some x) ∧ (∀ ys, SqT K H b ys → ys[i]? = some y) ∧ ∀ zs, SqL K H c zs → zs[i]? = some z,
    fun i H => ∃ xs ys zs : List V, SqT K H a xs ∧ SqT K H b ys ∧ SqL K H c zs ∧ i = min (min xs.length ys.length) zs.length⟩
theorem turn_zipT3L {P : Program} {w : World} {K : PySem.W.Frag} {elts : List Expr} {kk : Nat} {tpos : Pos} {a b c z TI TO i1 i2 i3 : Addr} (Sp : ZipSep3 z TI TO i1 i2 i3 [i1, a] [i2, b] [i3, c]) (n1 : a ≠ i1) (n2 : b ≠ i2) (n3 : c ≠ i3) :
    Turn P w K (.Tuple elts kk tpos) (ItzT3L K a b c) [z, TI, TO, i1, i2, i3] z (fun i h => IsZip h z TI TO .none ∧ IsTupOf3 h TI (.ref i1) (.ref i2) (.ref i3) ∧ (∃ x y u, IsTupOf3 h TO x y u) ∧ h.IsTupleIter i1 a i ∧ h.IsTupleIter i2 b i ∧ h.IsListIter i3 c i) where
  mem := by simp
  obj := fun i h st q hc => by
    obtain ⟨hz, hTI, ⟨x, y, u, hTO⟩, ⟨o1, e1, _, d1⟩, ⟨o2, e2, _, d2⟩, ⟨o3, e3, _, d3⟩⟩ := st
    have e' : q = z ∨ q = TI ∨ q = TO ∨ q = i1 ∨ q = i2 ∨ q = i3 := by simpa using hc
    rcases e' with q | q | q | q | q | q
    · rw [q]; exact ⟨_, hz, fun v q => nomatch q⟩
    · rw [q]; exact ⟨_, hTI, fun v q => nomatch q⟩
    · rw [q]; exact ⟨_, hTO, fun v q => nomatch q⟩
    · rw [q]; exact ⟨o1, e1, fun v q => by rw [d1] at q; cases q⟩
    · rw [q]; exact ⟨o2, e2, fun v q => by rw [d2] at q; cases q⟩
    · rw [q]; exact ⟨o3, e3, fun v q => by rw [d3] at q; cases q⟩
  keep := fun i h h' st k => by
    obtain ⟨hz, hTI, ⟨x, y, u, hTO⟩, h1, h2, h3⟩ := st
    exact ⟨k z (by simp) _ hz, k TI (by simp) _ hTI, ⟨x, y, u, k TO (by simp) _ hTO⟩, h1.at fun o q => k i1 (by simp) o q, h2.at fun o q => k i2 (by simp) o q, h3.at fun o q => k i3 (by simp) o q⟩
  item := by
    intro X hP hw hK hc i pins s σ H E I hf st hg
    subst hP hw hK
    obtain ⟨hz, hTI, ⟨x0, y0, u0, hTO⟩, h1, h2, h3⟩ := st
    obtain ⟨xs, ys, zs, x, y, u, hqx, hqy, hqz, hx, hy, hu⟩ := hg
    obtain ⟨its, rv, p1, _⟩ := I.tuple hqx
    obtain ⟨its2, rv2, p2, _⟩ := I.tuple hqy
    obtain ⟨its3, rv3, p3', _⟩ := I.list hqz
    have p3 := p3'.isList
    obtain ⟨w1, hw1, ru1⟩ := rv.get hx
    obtain ⟨w2, hw2, ru2⟩ := rv2.get hy
    obtain ⟨w3, hw3, ru3⟩ := rv3.get hu
    have hh : X.A.in1.handled = none := I.ok.hd hc
    have G := GoesN.zip3 (prog := X.prog) (w := X.w) (A := X.A) (elts := elts) (x1 := kk) (pos := tpos) Sp (Draws.tuple hh i1 a n1 its.toArray) (Draws.tuple hh i2 b n2 its2.toArray) (Draws.list hh i3 c n3 its3.toArray)
    have lt1 : i < its.toArray.size := by rw [List.size_toArray]; exact (List.getElem?_eq_some_iff.mp hw1).1
    have lt2 : i < its2.toArray.size := by rw [List.size_toArray]; exact (List.getElem?_eq_some_iff.mp hw2).1
    have lt3 : i < its3.toArray.size := by rw [List.size_toArray]; exact (List.getElem?_eq_some_iff.mp hw3).1
    refine thn (G.goes i s (fun v s2 => ∃ x H', Inv X pins σ H' s2 ∧ RelV x v ∧ (ItzT3L X.K a b c).yld i H x H' ∧ _ ∧ ∀ b ∈ [z, TI, TO, i1, i2, i3], H' b = none) E (by omega) ⟨hz, hTI, ⟨x0, y0, u0, hTO⟩, ⟨h1, p1⟩, ⟨h2, p2⟩, h3, p3⟩ fun v h' tk hY st' hk htk => ?_) fun r s1 ⟨v, e, h⟩ => ⟨v, e, h⟩
    obtain ⟨T, y1, y2, y3, rfl, hn, e1, e2, e3, hT⟩ := hY
    have q1 : y1 = w1 := by
      have : its.toArray[i]? = some w1 := by simpa using hw1
      rw [this] at e1; exact (Option.some.inj e1).symm
    have q2 : y2 = w2 := by
      have : its2.toArray[i]? = some w2 := by simpa using hw2
      rw [this] at e2; exact (Option.some.inj e2).symm
    have q3 : y3 = w3 := by
      have : its3.toArray[i]? = some w3 := by simpa using hw3
      rw [this] at e3; exact (Option.some.inj e3).symm
    subst q1 q2 q3
    have new : ObjOk X.prog X.w (upd H T (.tup [x, y, u])) h' T (.tup [x, y, u]) := ⟨by show 3 ≤ sizeLine; decide, [y1, y2, y3], .cons ru1 (.cons ru2 (.cons ru3 .nil)), hT⟩
    have wsub : ∀ b ∈ [z, TO, i1, i2, i3], b ∈ [z, TI, TO, i1, i2, i3] := fun b hb => by
      simp only [List.mem_cons, List.mem_nil_iff, or_false] at hb ⊢
      rcases hb with q | q | q | q | q <;> simp [q]
    have I1 : Inv X pins σ (upd H T (.tup [x, y, u])) { s with heap := h', toks := tk } := I.turnedNew (ch := [z, TO, i1, i2, i3]) hk (fun b hb => hf b (wsub b hb)) hn new
    obtain ⟨hz', hTI', hTO', ⟨h1', _⟩, ⟨h2', _⟩, h3', _⟩ := st'
    refine ⟨.ref T, _, I1, rfl, ⟨T, x, y, u, rfl, I.hok.fresh hn, rfl, fun l hl => by rw [I.tuple_inj hl hqx]; exact hx, fun l hl => by rw [I.tuple_inj hl hqy]; exact hy, fun l hl => by rw [I.list_inj hl hqz]; exact hu⟩, ⟨hz', hTI', hTO', h1', h2', h3'⟩, fun q hq => ?_⟩
    have hlt : q < s.heap.objs.size := by
      have e' : q = z ∨ q = TI ∨ q = TO ∨ q = i1 ∨ q = i2 ∨ q = i3 := by simpa using hq
      rcases e' with q | q | q | q | q | q
      · rw [q]; exact Heap.lt_size hz
      · rw [q]; exact Heap.lt_size hTI
      · rw [q]; exact Heap.lt_size hTO
      · rw [q]; obtain ⟨_, e1, _⟩ := h1; exact Heap.lt_size e1
      · rw [q]; obtain ⟨_, e2, _⟩ := h2; exact Heap.lt_size e2
      · rw [q]; obtain ⟨_, e2, _⟩ := h3; exact Heap.lt_size e2
    rw [upd_ne (Nat.ne_of_lt (Nat.lt_of_lt_of_le hlt hn))]
    exact (hf q hq).1
  done := by
    intro X hP hw hK hc i pins s σ H E I hf st hg
    subst hP hw hK
    obtain ⟨hz, hTI, ⟨x0, y0, u0, hTO⟩, h1, h2, h3⟩ := st
    obtain ⟨xs, ys, zs, hqx, hqy, hqz, hend⟩ := hg
    obtain ⟨its, rv, p1, _⟩ := I.tuple hqx
    obtain ⟨its2, rv2, p2, _⟩ := I.tuple hqy
    obtain ⟨its3, rv3, p3', _⟩ := I.list hqz
    have p3 := p3'.isList
    have hh : X.A.in1.handled = none := I.ok.hd hc
    have G := GoesN.zip3 (prog := X.prog) (w := X.w) (A := X.A) (elts := elts) (x1 := kk) (pos := tpos) Sp (Draws.tuple hh i1 a n1 its.toArray) (Draws.tuple hh i2 b n2 its2.toArray) (Draws.list hh i3 c n3 its3.toArray)
    have l1 := rv.length
    have l2 := rv2.length
    have l3 := rv3.length
    have hi : i = min (min its.toArray.size its2.toArray.size) its3.toArray.size := by
      rw [List.size_toArray, List.size_toArray, List.size_toArray, ← l1, ← l2, ← l3]; exact hend
    have wsub : ∀ b ∈ [z, TO, i1, i2, i3], b ∈ [z, TI, TO, i1, i2, i3] := fun b hb => by
      simp only [List.mem_cons, List.mem_nil_iff, or_false] at hb ⊢
      rcases hb with q | q | q | q | q <;> simp [q]
    subst hi
    exact G.stops s (fun s1 => Inv X pins σ H s1) E ⟨hz, hTI, ⟨x0, y0, u0, hTO⟩, ⟨h1, p1⟩, ⟨h2, p2⟩, h3, p3⟩ fun h' tk hk htk => I.turnedL (ch := [z, TO, i1, i2, i3]) hk fun b hb => hf b (wsub b hb)
  self := fun A i s Q E st h => wpAny_pyIter_zip st.1 h

def asQ (w : W) (k : List PyData → Prop) : Prop := match w with
  | .d (.tuple i) => k i
  | .d (.list i) => k i
  | _ => False
theorem asQ_of {K : PySem.W.Frag} {F : Hp} {v : V} {w : W} {k : List PyData → Prop} (r : WR K F v w) (h : asQ w k) : ∃ a vs ds, v = .ref a ∧ (SqT K F a vs ∨ SqL K F a vs) ∧ DpAll K F vs ds ∧ k ds := by
  unfold asQ at h
  split at h
  · cases r with
    | tup s a => exact ⟨_, _, _, rfl, .inl s.sq, a, h⟩
  · cases r with
    | lst s a => exact ⟨_, _, _, rfl, .inr s, a, h⟩
  · exact h.elim
theorem ylds_zip3L {K : PySem.W.Frag} {F : Hp} {a b c : Addr} {vs us ts : List V} {ds es fs : List PyData} (s : SqT K F a vs) (r : DpAll K F vs ds) (s' : SqT K F b us) (r' : DpAll K F us es) (s'' : SqL K F c ts) (r'' : DpAll K F ts fs) : Ylds K (ItzT3L K a b c) F (zip3D ds es fs) := fun F1 S1 H1 f A => by
  have s1 : SqT K H1 a vs := seqT_mono (f.trans A.fz) s
  have s2 : SqT K H1 b us := seqT_mono (f.trans A.fz) s'
  have s3 : SqL K H1 c ts := (f.trans A.fz).seq s''
  have l1 := das_len r
  have l2 := das_len r'
  have l3 := das_len r''
  refine ⟨⟨vs, us, ts, s1, s2, s3, by rw [zip3D_len, l1, l2, l3]⟩, fun i d hd => ?_⟩
  obtain ⟨x, y, z, hx, hy, hz, rfl⟩ := zip3D_get hd
  obtain ⟨v, e, rv⟩ := das_get r hx
  obtain ⟨u, e', ru⟩ := das_get r' hy
  obtain ⟨t, e'', rt⟩ := das_get r'' hz
  refine ⟨⟨vs, us, ts, v, u, t, s1, s2, s3, e, e', e''⟩, fun z H2 hz => ?_⟩
  obtain ⟨T, x', y', z', rfl, nT, rfl, f1, f2, f3⟩ := hz
  have e1 := f1 vs s1
  have e2 := f2 us s2
  have e3 := f3 ts s3
  rw [e] at e1
  rw [e'] at e2
  rw [e''] at e3
  cases e1
  cases e2
  cases e3
  obtain ⟨A2, x2⟩ := A.new (o := .tup [v, u, t]) nT
  have g := same_new (o := HO.tup [v, u, t]) (A.free nT).2
  exact ⟨_, x2, A2, .tup (.inl upd_same) (.cons (dpm (f.trans g) _ _ rv) (.cons (dpm (f.trans g) _ _ ru) (.cons (dpm (f.trans g) _ _ rt) .nil)))⟩
abbrev iZip3L (ta : DTA) : DTI := fun τ S Q => ta τ S fun xs S1 => three3 xs fun x y z => asT x fun ds => asT y fun es => asQ z fun fs => Q (zip3D ds es fs) S1
section
variable {X : Cx} {pos : Pos}
theorem di_zip3L {a b c : Expr} {ta : DTA} {p tpos : Pos} {elts : List Expr} {kk : Nat} (hm : X.mg "zip" = none) (ha : PA X [a, b, c] (lowA X.K ta)) (hg : Gl X "zip" := by rfl)
    (hs : starEach [a, b, c] X.env = (false, eval a X.env) :: starEach [b, c] X.env := by rfl) (hpl : (backTo pos (starEach [b, c] X.env)).any (·.1) = false := by rfl) : PI X (.Tuple elts kk tpos) (.Call (.Name "zip" p) [a, b, c] [] pos) (lowI X.K (iZip3L ta)) := by
  refine ⟨fun pins s σ H R I ⟨F, S, τ, Qd, A, E, h, P⟩ => ?_⟩
  refine Call_ (ld_blt I hg hm PyProof.Rows.boot_zip (PyProof.Rows.callWith_type1 (thn (ha.run pos pins s σ H (fun vs H1 => ∃ F1 S1 xs, Ext F S H F1 S1 H1 ∧ Abs X.K F1 S1 H1 ∧ WRs X.K F1 vs xs ∧ three3 xs fun x y z => asT x fun ds => asT y fun es => asQ z fun fs => Qd (zip3D ds es fs) S1) I ⟨F, S, τ, _, A, E, h, fun vs H1 F1 S1 xs e1 A1 r1 q1 => ⟨F1, S1, xs, e1, A1, r1, q1⟩⟩) fun us s1 ⟨vs, H1, I1, r0, q0⟩ => ?_) hs hpl))
  obtain ⟨F1, S1, xs, e1, A1, r1, q1⟩ := q0
  obtain ⟨v, w, v', w', v2, w2, rfl, rw1, rw2, rw3, q2⟩ := three3_of r1 q1
  obtain ⟨a, us1, ds, rfl, s1', r2, rfl, q3⟩ := asT_of rw1 q2
  obtain ⟨b, us2, es, rfl, s2', r3, rfl, q4⟩ := asT_of rw2 q3
  obtain ⟨c, us3, fs, rfl, s3', r4, q5⟩ := asQ_of rw3 q4
  cases r0 with
  | cons ra r0 =>
    cases r0 with
    | cons rb r0 =>
      cases r0 with
      | cons rc r0 =>
        cases r0
        cases ra
        cases rb
        cases rc
        obtain ⟨its, rv, p1, _⟩ := I1.tuple (seqT_mono A1.fz s1')
        obtain ⟨its2, rv2, p2, _⟩ := I1.tuple (seqT_mono A1.fz s2')
        rcases s3' with s3' | s3'
        · obtain ⟨its3, rv3, p3, _⟩ := I1.tuple (seqT_mono A1.fz s3')
          refine zip_begins3 (begins_tuple a its.toArray) (begins_tuple b its2.toArray) (begins_tuple c its3.toArray) p1 p2 p3 fun h' hz hTI hTO g1 g2 g3 hsz hk => wpAny_pyIter_zip hz ?_
          have I2 : Inv X pins σ H1 { s1 with heap := h' } := I1.kept (t' := s1.toks) hk
          have lt1 : a < s1.heap.objs.size := by obtain ⟨_, e, _⟩ := p1; exact Heap.lt_size e
          have lt2 : b < s1.heap.objs.size := by obtain ⟨_, e, _⟩ := p2; exact Heap.lt_size e
          have lt3 : c < s1.heap.objs.size := by obtain ⟨_, e, _⟩ := p3; exact Heap.lt_size e
          have Sp : ZipSep3 (s1.heap.objs.size + 5) (s1.heap.objs.size + 3) (s1.heap.objs.size + 4) s1.heap.objs.size (s1.heap.objs.size + 1) (s1.heap.objs.size + 2) [s1.heap.objs.size, a] [s1.heap.objs.size + 1, b] [s1.heap.objs.size + 2, c] :=
            zip_sep3 (fun q hq => by rw [List.mem_singleton.mp hq]; exact lt1) (fun q hq => by rw [List.mem_singleton.mp hq]; exact lt2) (fun q hq => by rw [List.mem_singleton.mp hq]; exact lt3)
          refine ⟨_, [s1.heap.objs.size + 5, s1.heap.objs.size + 3, s1.heap.objs.size + 4, s1.heap.objs.size, s1.heap.objs.size + 1, s1.heap.objs.size + 2], _, ItzT3 X.K a b c, H1, rfl, I2, turn_zipT3 Sp (Nat.ne_of_lt lt1) (Nat.ne_of_lt (Nat.lt_succ_of_lt lt2)) (Nat.ne_of_lt (Nat.lt_succ_of_lt (Nat.lt_succ_of_lt lt3))), ⟨hz, hTI, ⟨_, _, _, hTO⟩, ⟨_, g1, rfl, rfl⟩, ⟨_, g2, rfl, rfl⟩, ⟨_, g3, rfl, rfl⟩⟩, fun q hq => ?_, P _ _ _ _ _ e1 A1 (ylds_zip3 s1' r2 s2' r3 s3' r4) q5⟩
          have hle : s1.heap.objs.size ≤ q := by
            have e' : q = s1.heap.objs.size + 5 ∨ q = s1.heap.objs.size + 3 ∨ q = s1.heap.objs.size + 4 ∨ q = s1.heap.objs.size ∨ q = s1.heap.objs.size + 1 ∨ q = s1.heap.objs.size + 2 := by simpa using hq
            rcases e' with z | z | z | z | z | z
            · rw [z]; exact Nat.le_add_right _ _
            · rw [z]; exact Nat.le_add_right _ _
            · rw [z]; exact Nat.le_add_right _ _
            · rw [z]; exact Nat.le_refl _
            · rw [z]; exact Nat.le_add_right _ _
            · rw [z]; exact Nat.le_add_right _ _
          have f0 := I1.fpOk hle (I1.hok.fresh hle)
          exact f0
        · obtain ⟨its3, rv3, p3', _⟩ := I1.list (A1.fz.seq s3')
          have p3 := p3'.isList
          refine zip_begins3 (begins_tuple a its.toArray) (begins_tuple b its2.toArray) (begins_list c its3.toArray) p1 p2 p3 fun h' hz hTI hTO g1 g2 g3 hsz hk => wpAny_pyIter_zip hz ?_
          have I2 : Inv X pins σ H1 { s1 with heap := h' } := I1.kept (t' := s1.toks) hk
          have lt1 : a < s1.heap.objs.size := by obtain ⟨_, e, _⟩ := p1; exact Heap.lt_size e
          have lt2 : b < s1.heap.objs.size := by obtain ⟨_, e, _⟩ := p2; exact Heap.lt_size e
          have lt3 : c < s1.heap.objs.size := by obtain ⟨_, e, _⟩ := p3; exact Heap.lt_size e
          have Sp : ZipSep3 (s1.heap.objs.size + 5) (s1.heap.objs.size + 3) (s1.heap.objs.size + 4) s1.heap.objs.size (s1.heap.objs.size + 1) (s1.heap.objs.size + 2) [s1.heap.objs.size, a] [s1.heap.objs.size + 1, b] [s1.heap.objs.size + 2, c] :=
            zip_sep3 (fun q hq => by rw [List.mem_singleton.mp hq]; exact lt1) (fun q hq => by rw [List.mem_singleton.mp hq]; exact lt2) (fun q hq => by rw [List.mem_singleton.mp hq]; exact lt3)
          refine ⟨_, [s1.heap.objs.size + 5, s1.heap.objs.size + 3, s1.heap.objs.size + 4, s1.heap.objs.size, s1.heap.objs.size + 1, s1.heap.objs.size + 2], _, ItzT3L X.K a b c, H1, rfl, I2, turn_zipT3L Sp (Nat.ne_of_lt lt1) (Nat.ne_of_lt (Nat.lt_succ_of_lt lt2)) (Nat.ne_of_lt (Nat.lt_succ_of_lt (Nat.lt_succ_of_lt lt3))), ⟨hz, hTI, ⟨_, _, _, hTO⟩, ⟨_, g1, rfl, rfl⟩, ⟨_, g2, rfl, rfl⟩, ⟨_, g3, rfl, rfl⟩⟩, fun q hq => ?_, P _ _ _ _ _ e1 A1 (ylds_zip3L s1' r2 s2' r3 s3' r4) q5⟩
          have hle : s1.heap.objs.size ≤ q := by
            have e' : q = s1.heap.objs.size + 5 ∨ q = s1.heap.objs.size + 3 ∨ q = s1.heap.objs.size + 4 ∨ q = s1.heap.objs.size ∨ q = s1.heap.objs.size + 1 ∨ q = s1.heap.objs.size + 2 := by simpa using hq
            rcases e' with z | z | z | z | z | z
            · rw [z]; exact Nat.le_add_right _ _
            · rw [z]; exact Nat.le_add_right _ _
            · rw [z]; exact Nat.le_add_right _ _
            · rw [z]; exact Nat.le_refl _
            · rw [z]; exact Nat.le_add_right _ _
            · rw [z]; exact Nat.le_add_right _ _
          have f0 := I1.fpOk hle (I1.hok.fresh hle)
          exact f0
end
end Dl

namespace Dl
open PySem PySem.Spec PyProof.Rows L2 PySem.W PySem.SeqAt

/-! ### sorted: tuples, the first one empty, too -/
section
variable {prog : Program} {w : World} {A : Around} {E : Value → Shared → Prop} {s : Shared}
theorem oneLt_tup {xs ys : List PyData} {a b : Value} {as bs : List Addr} {Q : Bool → Shared → Prop} (ra : Reads s.heap a (.tuple xs) as) (rb : Reads s.heap b (.tuple ys) bs) (hal : alikeAll xs ys = true) (hu : A.units + min (PyData.tuple xs).depth (PyData.tuple ys).depth < cLine) (hq : Q (dataLt (.tuple xs) (.tuple ys)) s) :
    wpAny (model prog w) A (oneLt' true a b) Q E s := by
  cases ra with
  | @tuple l o vs n _ as₁ h1 h2 h3 h4 =>
    cases rb with
    | @tuple l' o' vs' n' _ bs₁ k1 k2 k3 k4 =>
      have n1 : vs.size = xs.length := by simpa using SeqAt.ReadsAll.length _ _ _ h4
      have n2 : vs'.size = ys.length := by simpa using SeqAt.ReadsAll.length _ _ _ k4
      rw [dataLt_tuple, ← firstLt_toks xs ys hal, ← n1, ← n2] at hq
      rw [oneLt'_eq]
      simp only [if_true]
      refine wpAny_bind (wpAny_cRoomFor (SeqAt.room_here hu) ?_)
      obtain ⟨cls, dd, data, sl⟩ := o
      obtain ⟨cls2, dd2, data2, sl2⟩ := o'
      simp only at h2 h3 k2 k3
      subst h2 h3 k2 k3
      refine wpAny_bind (wpAny_callSpecialIfBound?_slot (T := "tuple") ⟨_, h1, rfl⟩ F.slot_tuple_lt (call_meets F.slot_tuple_lt ⟨_, h1, rfl⟩ F.entry_tuple_lt (F.args_tuple_lt_2 _ _) (tuple_ltAt l l' vs vs' n n' dd dd2 sl sl2 (pairEq xs ys) fun j => dataLt (xs.getD j .none) (ys.getD j .none)) ⟨h1, k1, fun j j1 j2 => ?_, fun j j1 j2 hj => ?_, ?_⟩))
      · have z := eqAt_alikeAll xs ys A.in1 s vs.toList vs'.toList _ _ h4 k4 hal (SeqAt.room_in hu) j (by simpa using j1) (by simpa using j2)
        simpa using z
      · have z := rcLt_alikeAll xs ys A.in1 s vs.toList vs'.toList _ _ h4 k4 hal (SeqAt.room_in hu) j (by simpa using j1) (by simpa using j2) hj
        simpa using z
      · exact wpAny_truthy_bool hq
theorem first_tup {xs : List PyData} {v : Value} {as : List Addr} {Q : Option Value → Shared → Prop} (r : Reads s.heap v (.tuple xs) as) (h : ∀ o, (xs = [] → o = none) → Q o s) : wpAny (model prog w) A (firstOfTuple' v) Q E s := by
  cases r with
  | @tuple l o vs n _ as₁ h1 h2 h3 h4 =>
    rw [kas_first_eq]
    refine wpAny_bind (Looks.here (show Looks (model prog w) s.heap (typeOf (.ref l)) o.cls from (Looks.ld h1).andThen .now) ?_)
    rw [h2, if_neg (by first | decide | simp)]
    refine wpAny_bind (listItems_at h1 h3 (wpAny_pure (h _ fun e => ?_)))
    subst e
    have n1 : vs.size = 0 := by simpa using SeqAt.ReadsAll.length _ _ _ h4
    rw [Array.size_eq_zero_iff.mp n1]
    rfl
theorem firsts_tup : ∀ {vs : List Value} {ds : List PyData} {Q : List (Option Value) → Shared → Prop}, EachIs (fun v d => ∃ as, Reads s.heap v d as) vs ds → (∀ d ∈ ds, ∃ xs, d = .tuple xs) → (∀ os : List (Option Value), os.length = vs.length → (∀ d r, ds = d :: r → d = .tuple [] → ∃ t, os = none :: t) → Q os s) → wpAny (model prog w) A (vs.mapM firstOfTuple') Q E s
  | _, _, Q, .nil, _, h => by rw [List.mapM_nil]; exact wpAny_pure (h [] rfl fun _ _ e => nomatch e)
  | _, _, Q, .cons (a := v) (b := d) (as := vs) (bs := ds) ⟨as, r⟩ t, ht, h => by
    obtain ⟨xs, rfl⟩ := ht d List.mem_cons_self
    rw [List.mapM_cons]
    refine wpAny_bind (first_tup r fun o ho => ?_)
    refine wpAny_bind (firsts_tup t (fun d hd => ht d (List.mem_cons_of_mem _ hd)) fun os hl _ => wpAny_pure (h (o :: os) (by rw [List.length_cons, List.length_cons, hl]) fun d r e ed => ?_))
    injection e with e1 e2
    subst e1
    injection ed with ed
    exact ⟨os, by rw [ho ed]⟩
theorem sorts_mix {vs : List Value} {ds : List PyData} (e : EachIs (fun v d => ∃ as, Reads s.heap v d as) vs ds) (hal : AllAlike ds) (ht : ∀ d ∈ ds, ∃ xs, d = .tuple xs) (h0 : ∃ r, ds = .tuple [] :: r) (hu : ∀ d ∈ ds, A.units + d.depth < cLine) : SortsAt prog w A s (dataKind s.heap ds) vs := by
  refine ⟨fun v hv => ?_, oneType', ?_, fun h2 E Q hq => ?_⟩
  · obtain ⟨d, hd, as, r⟩ := e.left v hv
    exact ⟨_, dataKind_some hal hd r⟩
  · intro E x y a b Q ha hb hq
    obtain ⟨d, as, hd, ra, rfl⟩ := dataKind_inv ha
    obtain ⟨d', as', hd', rb, rfl⟩ := dataKind_inv hb
    obtain ⟨xs, rfl⟩ := ht d hd
    obtain ⟨ys, rfl⟩ := ht d' hd'
    rw [keyLt'_oneType]
    exact oneLt_tup ra rb (by simpa [alike] using hal _ hd _ hd') (Nat.lt_of_le_of_lt (Nat.add_le_add_left (Nat.min_le_left _ _) _) (hu _ hd)) hq
  · obtain ⟨r, rfl⟩ := h0
    have hT : ∀ v ∈ vs, Looks (model prog w) s.heap (typeOf v) (Value.type "tuple") := fun v hv => by
      obtain ⟨d, hd, as, rr⟩ := e.left v hv
      obtain ⟨xs, rfl⟩ := ht d hd
      exact looks_reads rr
    rw [keyKind'_eq, List.mapM_toArray, map_eq_pure_bind]
    refine wpAny_bind (wpAny_bind (firsts_tup e ht fun os hl hz => wpAny_pure ?_))
    obtain ⟨t, rfl⟩ := hz _ _ rfl rfl
    rw [if_neg (by simp), if_neg (by simp)]
    rw [oneTypeOnly'_eq, List.mapM_toArray, map_eq_pure_bind]
    refine wpAny_bind (wpAny_bind (wpAny_bind (kas_mapM (r := Value.type "tuple") _ (fun v hv Q' hq => (hT v hv).here hq) (wpAny_pure ?_))))
    obtain ⟨v₁, v₂, rest, rfl⟩ : ∃ v₁ v₂ rest, vs = v₁ :: v₂ :: rest := by
      match vs, h2 with
      | [], h2 => simp at h2
      | [_], h2 => simp at h2
      | v₁ :: v₂ :: rest, _ => exact ⟨v₁, v₂, rest, rfl⟩
    have hall : ((List.map (fun _ => Value.type "tuple") (v₁ :: v₂ :: rest)).toArray.all fun x => x == Value.type "tuple") = true := by
      simp only [List.all_toArray, List.all_map, List.all_eq_true]
      intro _ _
      exact beq_self_eq_true _
    have hz0 : (List.map (fun _ => Value.type "tuple") (v₁ :: v₂ :: rest)).toArray[0]? = some (Value.type "tuple") := by simp
    rw [hz0]
    simp only [hall, if_true]
    exact wpAny_pure (wpAny_pure hq)
end
end Dl
namespace Dl
open PySem PySem.Spec PyProof.Rows L2 PySem.W PySem.SeqAt
section
variable {prog : Program} {w : World} {A : Around} {E : Value → Shared → Prop} {s : Shared}
/-- sorted(v), v anything whose items are collected -/
theorem sorted_any {v : Value} {vs : List Value} {bs : List (V × PyData)} {Q : Value → Shared → Prop} (hL : vs.length ≤ sizeLine) (e : EachIs (fun u b => RelV b.1 u) vs bs) (er : EachIs (fun u b => ∃ as, Reads s.heap u b.2 as) vs bs) (hal : AllAlike (bs.map (·.2)))
    (srt : ∀ (s' : Shared), EachIs (fun u d => ∃ as, Reads s'.heap u d as) vs (bs.map (·.2)) → SortsAt prog w A.in1.in1 s' (dataKind s'.heap (bs.map (·.2))) vs)
    (hcol : ∀ (E' : Value → Shared → Prop) (R : List Value → Shared → Prop), (∀ (h' : Heap) (tk : Nat), (∀ b o, s.heap.get? b = some o → h'.get? b = some o) → R vs { s with heap := h', toks := tk }) → wpAny (model prog w) A.in1 (collect v) R E' s)
    (h : ∀ (h1 h' : Heap) (tk ep : Nat) (out : List Value), (∀ b o, s.heap.get? b = some o → h1.get? b = some o) → (∀ b o, h1.get? b = some o → h'.get? b = some o) → h'.get? h1.objs.size = some (seqObj "list" (List.toArray out) ep) → EachIs (fun u b => RelV b.1 u) out (bs.mergeSort (dataLe false fun b : V × PyData => b.2)) → Q (.ref h1.objs.size) { s with heap := h', toks := tk }) :
    wpAny (model prog w) A (call (.builtin "sorted") [v]) Q E s := by
  refine Calls.call_function_entry kind_sorted plain_sorted entry_sorted (args_sorted1 _) ?_
  unfold Builtin.«sorted»
  refine wpAny_bind (m := checkCount "sorted" 1 1 _) (wpAny_pure ?_)
  refine wpAny_bind (hcol _ _ fun h1 tk hk => ?_)
  refine wpAny_bind (wpAny_newList ?_ hL)
  have hob : (h1.push (seqObj "list" vs.toArray 0)).get? h1.objs.size = some (seqObj "list" vs.toArray 0) := Heap.get?_push_size _ rfl
  have k1 : ∀ b o, s.heap.get? b = some o → b < h1.objs.size ∧ (h1.push (seqObj "list" vs.toArray 0)).get? b = some o := fun b o z => ⟨Heap.lt_size (hk b o z), Heap.get?_push_of_some _ (hk b o z)⟩
  show wpAny _ _ _ _ _ { s with heap := h1.push (seqObj "list" vs.toArray 0), toks := tk }
  have er2 : EachIs (fun u b => ∃ as, Reads (sortingHeap (h1.push (seqObj "list" vs.toArray 0)) h1.objs.size vs) u b.2 as) vs bs := er.mono fun _ _ ⟨as, r⟩ => ⟨as, PyProof.Rows.Reads.keeps (fun b o z => sortingHeap_old (Nat.ne_of_lt (k1 b o z).1) (k1 b o z).2) r⟩
  refine wpAny_bind (wpAny_holding (wpAny_call_entry slot_list_sort ⟨_, hob, rfl⟩ entry_list_sort
    (list_sort_vals (s := { s with heap := h1.push (seqObj "list" vs.toArray 0), toks := tk }) (κ := dataKind (sortingHeap (h1.push (seqObj "list" vs.toArray 0)) h1.objs.size vs) (bs.map (·.2))) hob (srt { s with heap := sortingHeap (h1.push (seqObj "list" vs.toArray 0)) h1.objs.size vs, toks := tk } (each_map (R := fun v d => ∃ as, Reads (sortingHeap (h1.push (seqObj "list" vs.toArray 0)) h1.objs.size vs) v d as) (fun b : V × PyData => b.2) er2)) hL ⟨_, rfl, ?_⟩) (args_list_sort _)))
  have so := sortVals_data (enc := fun b : V × PyData => b.2) (h' := sortingHeap (h1.push (seqObj "list" vs.toArray 0)) h1.objs.size vs) false e er2 hal
  obtain ⟨ep, hep⟩ := sortedHeap_at (vs := vs) (out := (sortVals (dataKind (sortingHeap (h1.push (seqObj "list" vs.toArray 0)) h1.objs.size vs) (bs.map (·.2))) false vs vs).toArray) hob
  refine wpAny_pure ⟨_, rfl, h h1 _ tk ep _ hk (fun b o z => ?_) hep so⟩
  have hb := Heap.lt_size z
  rw [sortedHeap_old (Nat.ne_of_lt hb) (by rw [size_push']; exact Nat.lt_succ_of_lt hb)]
  exact Heap.get?_push_of_some _ z
end
end Dl
namespace Dl
open PySem PySem.Spec PyProof.Rows L2 PySem.W PySem.SeqAt
/-- what can be sorted here -/
structure SbD (ds : List PyData) : Prop where
  al : AllAlike ds
  kd : Sortable ds ∨ ((∀ d ∈ ds, ∃ xs, d = .tuple xs) ∧ ∃ r, ds = .tuple [] :: r)
  len : ds.length ≤ 1000
  dp : ∀ d ∈ ds, d.depth ≤ 8
noncomputable def sortD (ds : List PyData) : List PyData := ds.mergeSort (dataLe false id)
noncomputable def sortB (vs : List V) (ds : List PyData) : List (V × PyData) := (vs.zip ds).mergeSort (dataLe false fun b : V × PyData => b.2)
theorem sortB_snd {vs : List V} {ds : List PyData} (h : vs.length = ds.length) : (sortB vs ds).map (·.2) = sortD ds := by
  unfold sortB sortD
  have z := List.map_mergeSort (r := dataLe false fun b : V × PyData => b.2) (s := dataLe false id) (f := fun b : V × PyData => b.2) (l := vs.zip ds) fun a _ b _ => rfl
  rw [z, List.map_snd_zip (by omega)]
theorem das_pairs {K : PySem.W.Frag} {F : Hp} : ∀ {bs : List (V × PyData)}, (∀ b ∈ bs, Dp K F b.1 b.2) → DpAll K F (bs.map (·.1)) (bs.map (·.2))
  | [], _ => .nil
  | b :: bs, h => .cons (h b List.mem_cons_self) (das_pairs fun c hc => h c (List.mem_cons_of_mem _ hc))
theorem das_zip {K : PySem.W.Frag} {F : Hp} : ∀ {vs : List V} {ds : List PyData}, DpAll K F vs ds → ∀ b ∈ vs.zip ds, Dp K F b.1 b.2
  | _, _, .nil, b, h => nomatch h
  | _, _, .cons a t, b, h => by
    rcases List.mem_cons.mp h with rfl | h
    · exact a
    · exact das_zip t b h
theorem sortB_das {K : PySem.W.Frag} {F : Hp} {vs : List V} {ds : List PyData} (r : DpAll K F vs ds) : DpAll K F ((sortB vs ds).map (·.1)) (sortD ds) := by
  rw [← sortB_snd (das_len r)]
  refine das_pairs fun b hb => das_zip r b ?_
  exact (List.mergeSort_perm _ _).mem_iff.mp hb
theorem sortB_len {vs : List V} {ds : List PyData} (h : vs.length = ds.length) : (sortB vs ds).length = ds.length := by
  unfold sortB
  rw [(List.mergeSort_perm _ _).length_eq, List.length_zip]
  omega
theorem each_rel {ds : List PyData} : ∀ {vs : List V} {us : List Value}, Vals vs us → vs.length = ds.length → EachIs (fun u (b : V × PyData) => RelV b.1 u) us (vs.zip ds) := by
  intro vs us r
  induction r generalizing ds with
  | nil => intro _; exact .nil
  | cons a t ih =>
    intro h
    cases ds with
    | nil => simp at h
    | cons d ds => exact .cons a (ih (by simpa using h))
theorem each_vals : ∀ {us : List Value} {bs : List (V × PyData)}, EachIs (fun u (b : V × PyData) => RelV b.1 u) us bs → Vals (bs.map (·.1)) us
  | _, _, .nil => .nil
  | _, _, .cons a t => .cons a (each_vals t)
section
variable {X : Cx} {pins : List (Addr × Obj)} {σ : L2.St} {H : Hp} {s : Shared}
theorem each_reads (I : Inv X pins σ H s) : ∀ {vs : List V} {us : List Value} {ds : List PyData}, Vals vs us → L2.DpAll X.K H vs ds → EachIs (fun u (b : V × PyData) => ∃ as, Reads s.heap u b.2 as) us (vs.zip ds)
  | _, _, _, .nil, .nil => .nil
  | _, _, _, .cons a t, .cons d e => .cons (L2.Dp.reads I _ _ _ d a) (each_reads I t e)
theorem srt_of {k : Nat} {ds : List PyData} {us : List Value} (hr : Room k X.A) (h : SbD ds) (s' : Shared) (e : EachIs (fun u d => ∃ as, Reads s'.heap u d as) us ds) : SortsAt X.prog X.w X.A.in1.in1 s' (dataKind s'.heap ds) us := by
  have hu := hu65 hr
  have hb : ∀ d ∈ ds, X.A.in1.in1.units + d.depth < cLine := fun d hd => by
    have := h.dp d hd
    show X.A.units + 1 + 1 + d.depth < cLine
    omega
  rcases h.kd with hk | ⟨ht, h0⟩
  · exact SortsAt.data e h.al hk hb
  · exact sorts_mix e h.al ht h0 hb
/-- the run of sorted, behind the collecting of items -/
theorem sort_run {k : Nat} {v : Value} {vs : List V} {us : List Value} {ds : List PyData} {Q : VK} (hr : Room k X.A) (I : Inv X pins σ H s) (rv : Vals vs us) (r : L2.DpAll X.K H vs ds) (hb : SbD ds)
    (hcol : ∀ (E' : Value → Shared → Prop) (R : List Value → Shared → Prop), (∀ (h' : Heap) (tk : Nat), (∀ b o, s.heap.get? b = some o → h'.get? b = some o) → R us { s with heap := h', toks := tk }) → wpAny (model X.prog X.w) X.A.in1 (collect v) R E' s)
    (q : ∀ p, H p = none → Q (.ref p) (upd H p (.lst ((sortB vs ds).map (·.1))))) : wpAny (model X.prog X.w) X.A (call (.builtin "sorted") [v]) (EP X pins σ Q) X.xe s := by
  have hl := das_len2 r
  have hz : ds.length ≤ sizeLine := k_line hb.len
  have hm : (vs.zip ds).map (·.2) = ds := List.map_snd_zip (by omega)
  refine sorted_any (bs := vs.zip ds) (by rw [← rv.length, hl]; exact hz) (each_rel rv hl) (each_reads I rv r) (by rw [hm]; exact hb.al) (fun s' e => by rw [hm] at e ⊢; exact srt_of hr hb s' e) hcol fun h1 h' tk ep out k1 k2 hat eo => ?_
  have I1 : Inv X pins σ H { s with heap := h1, toks := tk } := I.kept k1
  have hlen : ((sortB vs ds).map (·.1)).length ≤ sizeLine := by rw [List.length_map, sortB_len hl]; exact hz
  exact ⟨.ref h1.objs.size, upd H h1.objs.size (.lst ((sortB vs ds).map (·.1))), I1.laid (t' := tk) k2 (Nat.le_refl _) ⟨hlen, out, ep, each_vals eo, hat⟩, rfl, q _ (I1.hok.fresh (Nat.le_refl _))⟩
end
section
variable {X : Cx}
def rSortSq (K : PySem.W.Frag) : List V → Hp → VK → Prop := fun xs H Q => ∃ a vs ds, xs = [.ref a] ∧ (SqL K H a vs ∨ SqT K H a vs) ∧ L2.DpAll K H vs ds ∧ SbD ds ∧ ∀ p, H p = none → Q (.ref p) (upd H p (.lst ((sortB vs ds).map (·.1))))
theorem cr_sortSq {k : Nat} (hr : Room k X.A) : CallR X (.builtin "sorted") (rSortSq X.K) := by
  intro pins s σ H xs us Q I r h
  obtain ⟨a, vs, ds, rfl, hs, rd, hb, q⟩ := h
  obtain ⟨u, rfl, rx⟩ := r.one
  cases rx
  rcases hs with hs | hs
  · obtain ⟨its, rv, hl, hz⟩ := I.list hs
    obtain ⟨o, ho, hc, n, hd⟩ := hl.isList
    exact sort_run hr I rv rd hb (fun E' R hR => wpAny_collect_seq a (T := "list") (.inl rfl) ho hc hd (fun h' k => by
      have z := hR h' s.toks k
      simpa using z) (by rw [List.size_toArray, ← rv.length]; exact hz)) q
  · obtain ⟨its, rv, hl, hz⟩ := I.tuple hs
    obtain ⟨o, ho, hc, n, hd⟩ := hl
    exact sort_run hr I rv rd hb (fun E' R hR => wpAny_collect_seq a (T := "tuple") (.inr rfl) ho hc hd (fun h' k => by
      have z := hR h' s.toks k
      simpa using z) (by rw [List.size_toArray, ← rv.length]; exact hz)) q
end
end Dl

namespace Dl
open PySem PySem.Spec PyProof.Rows L2
section
variable {X : Cx} {pos : Pos}
/-- {k: v}, k a tuple -/
def tDisp1 (tk tv : TE) : TE := fun σ H Q => ∀ p, H p = none → tPairs [(tk, tv)] σ (upd H p (.dT [])) fun ps H2 => ∃ y v, ps = [(y, v)] ∧ ∃ k b, H2 p = some (.dT []) ∧ y = .ref b ∧ H2 b = some (.tup (k.map kV)) ∧ Q (.ref p) (upd H2 p (.dT (putK [] k v)))
theorem pe_disp1 {a b : Expr} {tk tv : TE} (hu : X.A.units + 1 < cLine) (hk : PE X a tk) (hv : PE X b tv) : PE X (.Dict [some a] [b] pos) (tDisp1 tk tv) := by
  refine ⟨fun pins s σ H Q I q => ?_⟩
  have hn := I.hok.fresh (Nat.le_refl s.heap.objs.size)
  have I1 : Inv X pins σ (upd H s.heap.objs.size (.dT [])) { s with heap := s.heap.push { cls := .type "dict", data := .dict #[] }, toks := s.toks } := I.laid (a := s.heap.objs.size) (o := .dT []) (t' := s.toks) (fun _ _ z => Heap.get?_push_of_some _ z) (Nat.le_refl _) (dt_empty s.heap I.big)
  refine wpAny_Dict_any rfl rfl (by simp) (show 1 ≤ 15 by decide) ?_
  refine thn ((pps_cons hk hv pps_nil).run pins _ σ _ _ I1 (q _ hn)) fun ws s2 ⟨ps, H2, I2, rel, y, v, ep, k, b, e, ey, eb, q2⟩ => ?_
  subst ep ey
  cases rel with
  | @cons pp qq pps qqs r1 r2 =>
    cases r2
    obtain ⟨ry, rv⟩ := r1
    obtain ⟨u, r⟩ := qq
    cases (show u = Value.ref b from ry)
    obtain ⟨z, hd, xs, rel, dd⟩ := dt_of I2.hok e
    have hz : xs.length ≤ sizeLine := by rw [← Paired.length rel]; exact z
    have hl : (putK [] k v).length ≤ sizeLine := by have := length_putK ([] : List (List Key × V)) k v; rw [sizeLine_eq]; simp at this; omega
    show wpAny _ _ (storeAll _ [(Value.ref b, r)]) _ _ s2
    unfold storeAll
    rw [List.forIn_cons]
    refine wpAny_bind (wpAny_bind (wpAny_dictSet_heap (hsz := hz) (knd := tupleKind (mixKind X.prog X.w)) (show X.A.units < cLine by omega) (key_of I2.hok eb) dd fun h' dd' hs => wpAny_pure ?_))
    obtain ⟨q', es, ep, hq, h2, h3, h4, _, h5⟩ := dd'
    show wpAny _ _ (pure PUnit.unit) _ _ _
    refine wpAny_pure ⟨.ref s.heap.objs.size, _, d_write (ob := .dT (putK [] k v)) I2 (by rw [e]; exact True.intro) hs ⟨q', hq⟩ ⟨hl, hd, _, (rel.put k eb rv).keeps fun c ys ec => ?_, q', es, ep, hq, h2, h3, h4, h5⟩, rfl, q2⟩
    rw [upd_ne (ne_of ec e (fun z => nomatch z))]
    exact ec
end
end Dl
namespace Dl
open PySem PySem.Spec PyProof.Rows L2
/-! ### dicts with keys that are tuples of texts -/
def valD (kvs : List (List Str × PyData)) (k : List Str) : Option PyData := (kvs.find? fun kv => decide (kv.1 = k)).map (·.2)
def putD (kvs : List (List Str × PyData)) (k : List Str) (d : PyData) : List (List Str × PyData) := if (kvs.any fun kv => decide (kv.1 = k)) = true then kvs.map (fun kv => if kv.1 = k then (kv.1, d) else kv) else kvs ++ [(k, d)]
def DPr (K : PySem.W.Frag) (F : Hp) : List (List Key × V) → List (List Str × PyData) → Prop := Paired fun (e : List Key × V) (p : List Str × PyData) => e.1 = p.1.map Sum.inr ∧ Dp K F e.2 p.2
theorem inr_inj : ∀ {ks js : List Str}, ks.map (Sum.inr : Str → Key) = js.map Sum.inr ↔ ks = js
  | [], [] => by simp
  | [], _ :: _ => by simp
  | _ :: _, [] => by simp
  | k :: ks, j :: js => by
    rw [List.map_cons, List.map_cons, List.cons.injEq, List.cons.injEq, inr_inj]
    constructor
    · rintro ⟨h1, h2⟩; exact ⟨by injection h1, h2⟩
    · rintro ⟨h1, h2⟩; exact ⟨by rw [h1], h2⟩
section
variable {K : PySem.W.Frag} {F F' H : Hp} {S : Sto}
theorem dpr_mono {es : List (List Key × V)} {kvs : List (List Str × PyData)} (e : Same F F') (h : DPr K F es kvs) : DPr K F' es kvs := pairedm (fun _ _ z => ⟨z.1, dpm e _ _ z.2⟩) h
theorem dpr_len {es : List (List Key × V)} {kvs : List (List Str × PyData)} (h : DPr K F es kvs) : es.length = kvs.length := by
  unfold DPr at h
  induction h with
  | nil => rfl
  | cons _ _ ih => rw [List.length_cons, List.length_cons, ih]
theorem dpr_val {k : List Str} {es : List (List Key × V)} {kvs : List (List Str × PyData)} (h : DPr K F es kvs) : (valD kvs k = none ∧ valV es (k.map Sum.inr) = none) ∨ ∃ d v, valD kvs k = some d ∧ valV es (k.map Sum.inr) = some v ∧ Dp K F v d := by
  unfold DPr at h
  induction h with
  | nil => exact .inl ⟨rfl, rfl⟩
  | @cons e p es kvs h1 h2 ih =>
    by_cases c : p.1 = k
    · refine .inr ⟨p.2, e.2, ?_, valV_pos (by rw [h1.1, c]), h1.2⟩
      unfold valD
      rw [List.find?_cons_of_pos (by simpa using c)]
      rfl
    · have c' : ¬ e.1 = k.map Sum.inr := fun z => c (inr_inj.mp (h1.1.symm.trans z))
      have e1 : valD (p :: kvs) k = valD kvs k := by
        unfold valD
        rw [List.find?_cons_of_neg (by simpa using c)]
      rw [e1, valV_neg c']
      exact ih
theorem dpr_any {k : List Str} {es : List (List Key × V)} {kvs : List (List Str × PyData)} (h : DPr K F es kvs) : (es.any fun kv => decide (kv.1 = k.map Sum.inr)) = (kvs.any fun kv => decide (kv.1 = k)) := by
  unfold DPr at h
  induction h with
  | nil => rfl
  | @cons e p es kvs h1 h2 ih =>
    rw [List.any_cons, List.any_cons, ih]
    congr 1
    rw [h1.1]
    exact decide_eq_decide.mpr inr_inj
theorem dpr_app {es es' : List (List Key × V)} {kvs kvs' : List (List Str × PyData)} (h : DPr K F es kvs) (h' : DPr K F es' kvs') : DPr K F (es ++ es') (kvs ++ kvs') := by
  unfold DPr at h ⊢
  induction h with
  | nil => exact h'
  | cons a _ ih => exact .cons a ih
theorem dpr_put {k : List Str} {v : V} {d : PyData} {es : List (List Key × V)} {kvs : List (List Str × PyData)} (h : DPr K F es kvs) (r : Dp K F v d) : DPr K F (putK es (k.map Sum.inr) v) (putD kvs k d) := by
  unfold putK putD
  rw [dpr_any h]
  split
  · rename_i hyp
    clear hyp
    unfold DPr at h ⊢
    induction h with
    | nil => exact .nil
    | @cons e p es kvs h1 h2 ih =>
      rw [List.map_cons, List.map_cons]
      refine .cons ?_ (ih)
      by_cases c : p.1 = k
      · rw [if_pos c, if_pos (by rw [h1.1, c])]
        exact ⟨h1.1, r⟩
      · rw [if_neg c, if_neg fun z => c (inr_inj.mp (h1.1.symm.trans z))]
        exact h1
  · exact dpr_app h (.cons ⟨rfl, r⟩ .nil)
end
/-- a key -/
def asKey (w : W) (k : List Str → Prop) : Prop := asT w fun ds => match strs? ds with
  | some ks => k ks
  | none => False
theorem asKey_of {K : PySem.W.Frag} {F : Hp} {v : V} {w : W} {k : List Str → Prop} (r : WR K F v w) (h : asKey w k) : ∃ a ks, v = .ref a ∧ F a = some (.tup ((ks.map (Sum.inr : Str → Key)).map kV)) ∧ k ks := by
  unfold asKey asT at h
  split at h
  · split at h
    · rename_i ks e
      cases r with
      | tup s t =>
        rw [strs_of e] at t s
        rw [das_strs t] at s
        rcases s with s | ⟨_, d, hd, z⟩
        · refine ⟨_, ks, rfl, ?_, h⟩
          rw [s, List.map_map]
          rfl
        · obtain ⟨x, _, rfl⟩ := List.mem_map.mp hd
          cases z
    · exact h.elim
  · exact h.elim
/-- a dict's cell -/
def asDic (S : Sto) (w : W) (k : Addr → List (List Str × PyData) → Prop) : Prop := match w with
  | .c a => (match S a with
    | some (.dic kvs) => k a kvs
    | _ => False)
  | _ => False
theorem asDic_of {K : PySem.W.Frag} {F H : Hp} {S : Sto} {v : V} {w : W} {k : Addr → List (List Str × PyData) → Prop} (A : Abs K F S H) (r : WR K F v w) (h : asDic S w k) : ∃ a es kvs, v = .ref a ∧ w = .c a ∧ S a = some (.dic kvs) ∧ H a = some (.dT es) ∧ DPr K F es kvs ∧ k a kvs := by
  unfold asDic at h
  split at h
  · rename_i a
    split at h
    · rename_i kvs e
      obtain ⟨_, es, e2, r2⟩ := A.cl a _ e
      exact ⟨a, es, kvs, r, rfl, e, e2, r2, h⟩
    · exact h.elim
  · exact h.elim
section
variable {X : Cx} {pos : Pos} {a b : Expr} {ua ub : DTE}
theorem hu1 {k : Nat} {A : Around} (hr : Room k A) : A.units + 1 < cLine := by have := hu65 hr; omega
/-- {k: v} -/
abbrev uDisp1 (uk uv : DTE) : DTE := fun τ S Q => uk τ S fun x S1 => uv τ S1 fun y S2 => asKey x fun k => asD y fun d => ∀ p, S2 p = none → Q (.c p) (put S2 p (.dic [(k, d)]))
theorem de_disp1 {k : Nat} (hr : Room k X.A) (hk : PE X a (lowE X.K ua)) (hv : PE X b (lowE X.K ub)) : PE X (.Dict [some a] [b] pos) (lowE X.K (uDisp1 ua ub)) :=
  pe_le (pe_disp1 (hu1 hr) hk hv) fun σ H Q ⟨F, S, τ, Qd, A, E, h, P⟩ p hp => by
    obtain ⟨nS, nF⟩ := A.free hp
    have A0 : Abs X.K F S (upd H p (.dT [])) := abs_out A nF nS
    refine ⟨F, S, τ, _, A0, E, h, fun v1 H1 F1 S1 x e1 A1 r1 q1 => ?_⟩
    obtain ⟨k1, k2, k3⟩ := e1.kp p _ upd_same nS
    have f1 := k3 nF fun _ z => nomatch z
    refine ⟨F1, S1, τ, _, A1, E.mono e1.fz, q1, fun v2 H2 F2 S2 y e2 A2 r2 q2 => ?_⟩
    obtain ⟨j1, j2, j3⟩ := e2.kp p _ k1 k2
    have f2 := j3 f1 fun _ z => nomatch z
    obtain ⟨b', ks, rfl, hb, q3⟩ := asKey_of (r1.mono e2.fz) q2
    obtain ⟨d, r3, rfl, q4⟩ := asD_of r2 q3
    refine ⟨_, v2, rfl, ks.map Sum.inr, b', j1, rfl, A2.fz _ _ hb, ?_⟩
    have e12 := e1.trans e2
    refine P _ _ F2 (put S2 p (.dic [(ks, d)])) (.c p) ⟨e12.fz, fun c o hc hs => ?_⟩ ⟨fun c o hc => ?_, fun c cl hc => ?_⟩ rfl (q4 p j2)
    · have hne : c ≠ p := ne_of_none hc hp
      obtain ⟨g1, g2, g3⟩ := e12.kp c o (by rw [upd_ne hne]; exact hc) hs
      exact ⟨by rw [upd_ne hne]; exact g1, by rw [put_ne hne]; exact g2, g3⟩
    · rw [upd_ne (ne_of_none hc f2)]
      exact A2.fz c o hc
    · by_cases ec : c = p
      · subst ec
        rw [put_same] at hc
        cases hc
        exact ⟨f2, _, upd_same, .cons ⟨rfl, r3⟩ .nil⟩
      · rw [put_ne ec] at hc
        obtain ⟨g, r⟩ := A2.cl c cl hc
        exact ⟨g, r.mono (Same.refl _) fun u e => by rw [upd_ne ec]; exact e⟩
/-- k in d, k not in d -/
abbrev rInD (neg : Bool) : DR2 := fun x y S Q => asKey x fun k => asDic S y fun _ kvs => Q (.d (.bool (if neg then !(valD kvs k).isSome else (valD kvs k).isSome))) S
theorem low_inD {σ : L2.St} {H : Hp} {Q : VK} (h : lowE X.K (uOp (rInD false) ua ub) σ H Q) : tDIn (lowE X.K ua) (lowE X.K ub) σ H Q := by
  obtain ⟨F, S, τ, Qd, A, E, h, P⟩ := h
  refine ⟨F, S, τ, _, A, E, h, fun v1 H1 F1 S1 x e1 A1 r1 q1 => ?_⟩
  refine ⟨F1, S1, τ, _, A1, E.mono e1.fz, q1, fun v2 H2 F2 S2 y e2 A2 r2 q2 => ?_⟩
  obtain ⟨b', ks, rfl, hb, q3⟩ := asKey_of (r1.mono e2.fz) q2
  obtain ⟨d, es, kvs, rfl, rfl, _, hd, rp, q4⟩ := asDic_of A2 r2 q3
  refine ⟨d, _, rfl, DGet.t hd (A2.fz _ _ hb), (P.ext (e1.trans e2)).now A2 (show WR X.K F2 (.bl _) (.d (.bool _)) from Dp.bl _) ?_⟩
  rcases dpr_val (k := ks) rp with ⟨g1, g2⟩ | ⟨d', v', g1, g2, _⟩
  · rw [g2]; simpa [g1] using q4
  · rw [g2]; simpa [g1] using q4
theorem low_ninD {σ : L2.St} {H : Hp} {Q : VK} (h : lowE X.K (uOp (rInD true) ua ub) σ H Q) : tDNotIn (lowE X.K ua) (lowE X.K ub) σ H Q := by
  obtain ⟨F, S, τ, Qd, A, E, h, P⟩ := h
  refine ⟨F, S, τ, _, A, E, h, fun v1 H1 F1 S1 x e1 A1 r1 q1 => ?_⟩
  refine ⟨F1, S1, τ, _, A1, E.mono e1.fz, q1, fun v2 H2 F2 S2 y e2 A2 r2 q2 => ?_⟩
  obtain ⟨b', ks, rfl, hb, q3⟩ := asKey_of (r1.mono e2.fz) q2
  obtain ⟨d, es, kvs, rfl, rfl, _, hd, rp, q4⟩ := asDic_of A2 r2 q3
  refine ⟨d, _, rfl, DGet.t hd (A2.fz _ _ hb), (P.ext (e1.trans e2)).now A2 (show WR X.K F2 (.bl _) (.d (.bool _)) from Dp.bl _) ?_⟩
  rcases dpr_val (k := ks) rp with ⟨g1, g2⟩ | ⟨d', v', g1, g2, _⟩
  · rw [g2]; simpa [g1] using q4
  · rw [g2]; simpa [g1] using q4
theorem dt_inD {k : Nat} (hr : Room k X.A) (ha : PE X a (lowE X.K ua)) (hb : PE X b (lowE X.K ub)) (hm : behindInMarks .In b = false := by rfl) : PT X (.Compare a [.In] [b] pos) (lowT X.K (uB (uOp (rInD false) ua ub))) := pt_le (pt_cmp (pc_din (hu1 hr) ha hb) hm) fun _ _ _ h => low_inD (low_B h)
theorem dt_ninD {k : Nat} (hr : Room k X.A) (ha : PE X a (lowE X.K ua)) (hb : PE X b (lowE X.K ub)) (hm : behindInMarks .NotIn b = false := by rfl) : PT X (.Compare a [.NotIn] [b] pos) (lowT X.K (uB (uOp (rInD true) ua ub))) := pt_le (pt_cmp (pc_dnotin (hu1 hr) ha hb) hm) fun _ _ _ h => low_ninD (low_B h)
/-- d[k] -/
abbrev rGetD : DR2 := fun x y S Q => asKey y fun k => asDic S x fun _ kvs => match valD kvs k with
  | some d => Q (.d d) S
  | none => False
theorem de_getD {k : Nat} (hr : Room k X.A) (ha : PE X a (lowE X.K ua)) (hb : PE X b (lowE X.K ub)) (hs : NoSl b := by intro _ _; rfl) : PE X (.Subscript a b pos) (lowE X.K (uOp rGetD ua ub)) :=
  pe_le (pe_dget (hu1 hr) ha hb hs) fun σ H Q ⟨F, S, τ, Qd, A, E, h, P⟩ => by
    refine ⟨F, S, τ, _, A, E, h, fun v1 H1 F1 S1 x e1 A1 r1 q1 => ?_⟩
    refine ⟨F1, S1, τ, _, A1, E.mono e1.fz, q1, fun v2 H2 F2 S2 y e2 A2 r2 q2 => ?_⟩
    obtain ⟨b', ks, rfl, hb, q3⟩ := asKey_of r2 q2
    obtain ⟨d, es, kvs, rfl, rfl, _, hd, rp, q4⟩ := asDic_of A2 (r1.mono e2.fz) q3
    rcases dpr_val (k := ks) rp with ⟨g1, g2⟩ | ⟨d', v', g1, g2, g3⟩
    · rw [g1] at q4
      exact q4.elim
    · rw [g1] at q4
      have g := DGet.t hd (A2.fz _ _ hb)
      rw [g2] at g
      exact ⟨d, v', rfl, g, (P.ext (e1.trans e2)).now A2 (show WR X.K F2 v' (.d d') from g3) q4⟩
/-- d[k] = v -/
abbrev sPutD (uo ui uv : DTE) : DTS := fun D τ S => uv τ S fun v S1 => uo τ S1 fun o S2 => ui τ S2 fun i S3 => asD v fun d => asKey i fun k => asDic S3 o fun a kvs => kvs.length < 1000 ∧ D.nx τ (put S3 a (.dic (putD kvs k d)))
theorem ds_putD {k : Nat} {o i v : Expr} {uo ui uv : DTE} {pos' : Pos} (hr : Room k X.A) (ho : PE X o (lowE X.K uo)) (hi : PE X i (lowE X.K ui)) (hv : PE X v (lowE X.K uv)) (hs : swapsWith v (some (.Subscript o i pos')) pos.line X.env = pure false := by rfl) :
    PS X (.Assign [.Subscript o i pos'] v pos) (lowS X.K (sPutD uo ui uv)) :=
  ps_le (ps_dput (hu1 hr) ho hi hv hs) fun D σ H ⟨F, S, τ, Dd, A, E, h, p1, p2, p3, p4⟩ => by
    refine ⟨F, S, τ, _, A, E, h, fun v1 H1 F1 S1 x e1 A1 r1 q1 => ?_⟩
    refine ⟨F1, S1, τ, _, A1, E.mono e1.fz, q1, fun v2 H2 F2 S2 y e2 A2 r2 q2 => ?_⟩
    refine ⟨F2, S2, τ, _, A2, E.mono (e1.fz.trans e2.fz), q2, fun v3 H3 F3 S3 z e3 A3 r3 q3 => ?_⟩
    obtain ⟨d, rd, rfl, q4⟩ := asD_of (r1.mono (e2.fz.trans e3.fz)) q3
    obtain ⟨b', ks, rfl, hb, q5⟩ := asKey_of r3 q4
    obtain ⟨c, es, kvs, rfl, rfl, hS, hd, rp, hl, q6⟩ := asDic_of A3 (r2.mono e3.fz) q5
    refine ⟨c, _, rfl, DPut.t hd (A3.fz _ _ hb) (by rw [dpr_len rp]; exact small1000 (Nat.le_of_lt hl)), ?_⟩
    obtain ⟨A4, e4⟩ := A3.wr (o := .dT (putK es (ks.map Sum.inr) v1)) (c := .dic (putD kvs ks d)) hS ⟨_, upd_same, dpr_put rp rd⟩
    exact p1 _ _ _ _ _ (e1.trans (e2.trans (e3.trans e4))) A4 (E.mono (e1.fz.trans (e2.fz.trans e3.fz))) q6
/-- d.get(k, x) -/
def isDic (S : Sto) (w : W) : Prop := asDic S w fun _ _ => True
abbrev uGet2 (uo uk ux : DTE) : DTE := fun τ S Q => uo τ S fun o S1 => isDic S1 o ∧ uk τ S1 fun i S2 => ux τ S2 fun x S3 => asD x fun dx => asKey i fun k => asDic S3 o fun _ kvs => Q (.d ((valD kvs k).getD dx)) S3
theorem de_get2 {k : Nat} {o e f : Expr} {uo uk ux : DTE} {apos cpos : Pos} (hr : Room k X.A) (ho : PE X o (lowE X.K uo)) (he : PE X e (lowE X.K uk)) (hf : PE X f (lowE X.K ux)) (m : M2 X o "get" apos e f cpos := by exact ⟨rfl, rfl, rfl, rfl⟩) : PE X (.Call (.Attribute o "get" apos) [e, f] [] cpos) (lowE X.K (uGet2 uo uk ux)) :=
  pe_le (pe_dget2 (hu1 hr) ho he hf m) fun σ H Q ⟨F, S, τ, Qd, A, E, h, P⟩ => by
    refine ⟨F, S, τ, _, A, E, h, fun v1 H1 F1 S1 x e1 A1 r1 q1 => ?_⟩
    obtain ⟨q0, q1⟩ := q1
    obtain ⟨c, es, kvs, rfl, rfl, hS, hd, rp, _⟩ := asDic_of A1 r1 q0
    refine ⟨c, rfl, .inr ⟨es, .inl hd⟩, F1, S1, τ, _, A1, E.mono e1.fz, q1, fun v2 H2 F2 S2 y e2 A2 r2 q2 => ?_⟩
    refine ⟨F2, S2, τ, _, A2, E.mono (e1.fz.trans e2.fz), q2, fun v3 H3 F3 S3 z e3 A3 r3 q3 => ?_⟩
    obtain ⟨dx, rd, rfl, q4⟩ := asD_of r3 q3
    obtain ⟨b', ks, rfl, hb, q5⟩ := asKey_of (r2.mono e3.fz) q4
    obtain ⟨c', es', kvs', ec, ec2, hS', hd', rp', q6⟩ := asDic_of A3 (show WR X.K F3 (.ref c) (.c c) from rfl) q5
    cases ec
    refine ⟨_, DGet.t hd' (A3.fz _ _ hb), ?_⟩
    rcases dpr_val (k := ks) rp' with ⟨g1, g2⟩ | ⟨d', v', g1, g2, g3⟩
    · rw [g1] at q6
      rw [g2]
      exact (P.ext (e1.trans (e2.trans e3))).now A3 (show WR X.K F3 v3 (.d dx) from rd) q6
    · rw [g1] at q6
      rw [g2]
      exact (P.ext (e1.trans (e2.trans e3))).now A3 (show WR X.K F3 v' (.d d') from g3) q6
end
end Dl

namespace Dl
open PySem PySem.Spec PyProof.Rows L2 PySem.W
/-! ### sorted, over data: a list that may be changed -/
section
variable {X : Cx} {pos : Pos}
def cSort : DRL := fun ws S Q => one1 ws fun x => asSq S x fun ds => SbD ds ∧ ∀ p, S p = none → Q (.c p) (put S p (.lst (sortD ds)))
theorem k_sort {k : Nat} (hr : Room k X.A) : CallR X (.builtin "sorted") (lowL X.K cSort) := call_le (cr_sortSq hr) fun vs H Q ⟨F, S, ws, Qd, A, r, h, P⟩ => by
  obtain ⟨v, w, rfl, rv, h⟩ := one1_of r h
  obtain ⟨a, us, ds, rfl, s1, r1, hb, q⟩ := seq_of A rv h
  refine ⟨a, us, ds, rfl, s1, dp2s _ _ (dpms A.fz _ _ r1), hb, fun p n => ?_⟩
  obtain ⟨A2, e2⟩ := A.newc (c := .lst (sortD ds)) n ⟨_, upd_same, sortB_das r1⟩
  exact P _ _ _ _ (.c p) e2 A2 rfl (q p (A.free n).1)
/-! ### sorted of a dict's keys -/
/-- all tuples of the heap are fixed -/
theorem Abs.tups {K : PySem.W.Frag} {F H : Hp} {S : Sto} (A : Abs K F S H) : ∃ F', Abs K F' S H ∧ Ext F S H F' S H ∧ ∀ a xs, H a = some (.tup xs) → F' a = some (.tup xs) := by
  classical
  let F' : Hp := fun a => match F a with
    | some o => some o
    | none => if ∃ xs, H a = some (.tup xs) then H a else none
  have f1 : ∀ a o, F a = some o → F' a = some o := fun a o h => by show (match F a with | some o => some o | none => _) = _; rw [h]
  have f2 : ∀ a, F a = none → (∃ xs, H a = some (.tup xs)) → F' a = H a := fun a h z => by show (match F a with | some o => some o | none => _) = _; rw [h]; exact if_pos z
  have f3 : ∀ a, F a = none → (¬ ∃ xs, H a = some (.tup xs)) → F' a = none := fun a h z => by show (match F a with | some o => some o | none => _) = _; rw [h]; exact if_neg z
  have f4 : ∀ a o, F' a = some o → H a = some o := fun a o h => by
    cases q : F a with
    | some o' =>
      rw [f1 a o' q] at h
      cases h
      exact A.fz a _ q
    | none =>
      by_cases z : ∃ xs, H a = some (.tup xs)
      · rw [f2 a q z] at h; exact h
      · rw [f3 a q z] at h; cases h
  refine ⟨F', ⟨f4, fun a c h => ?_⟩, ⟨f1, fun a o ha hs => ⟨ha, hs, fun z y => f3 a z fun ⟨xs, e⟩ => y xs (by rw [ha] at e; exact Option.some.inj e)⟩⟩, fun a xs h => ?_⟩
  · obtain ⟨g, r⟩ := A.cl a c h
    refine ⟨f3 a g fun ⟨xs, e⟩ => ?_, r.mono f1 fun o e => e⟩
    cases c with
    | lst ds => obtain ⟨vs, e2, _⟩ := r; rw [e2] at e; cases e
    | dic ds => obtain ⟨vs, e2, _⟩ := r; rw [e2] at e; cases e
  · cases q : F a with
    | some o =>
      rw [f1 a o q]
      rw [A.fz a o q] at h
      exact h
    | none => rw [f2 a q ⟨xs, h⟩]; exact h
def kyD (ks : List Str) : PyData := .tuple (ks.map PyData.str)
def rSortDT (K : PySem.W.Frag) : List V → Hp → VK → Prop := fun xs H Q => ∃ a es, xs = [.ref a] ∧ H a = some (.dT es) ∧ ∀ bs, IsKeys H es bs → ∃ ds, L2.DpAll K H (bs.map V.ref) ds ∧ SbD ds ∧ ∀ p, H p = none → Q (.ref p) (upd H p (.lst ((sortB (bs.map V.ref) ds).map (·.1))))
theorem cr_sortDT {k : Nat} (hr : Room k X.A) (hc : X.calm = true) : CallR X (.builtin "sorted") (rSortDT X.K) := by
  intro pins s σ H xs us Q I r h
  obtain ⟨d, kvs, rfl, hd, q⟩ := h
  obtain ⟨u, rfl, rx⟩ := r.one
  cases rx
  obtain ⟨z, hs, ks, pr, o, es, ep, ho, hx, hdt, he, hn⟩ := (show ObjOk X.prog X.w H s.heap d (.dT kvs) from I.hok d _ hd)
  have l1 : es.size = ks.length := size_of_entries he
  have l2 : kvs.length = ks.length := Paired.length pr
  obtain ⟨ds, rd, hb, q⟩ := q _ (isKeys_of pr)
  have rv : Vals ((ks.map fun x => x.2.1).map V.ref) ((ks.map fun x => x.2.1).map Value.ref) := vals_refs _
  refine sort_run hr I rv rd hb (fun E' R hR => ?_) q
  refine kdu_collect (kdl_raw hs hx hdt) (I.ok.hd hc) ho (by omega) fun h' tk acc' kp it => ?_
  have ea : acc'.toList = (ks.map fun x => x.2.1).map Value.ref := by
    have hl : acc'.toList.length = ks.length := by rw [Array.length_toList, it.1]; exact l1
    apply List.ext_getElem?
    intro j
    rw [List.map_map, List.getElem?_map]
    cases hj : acc'.toList[j]? with
    | none =>
      have h1 := List.getElem?_eq_none_iff.mp hj
      rw [List.getElem?_eq_none (by omega)]
      rfl
    | some v =>
      obtain ⟨en, hen, hv⟩ := it.2 j v (by rw [← Array.getElem?_toList]; exact hj)
      have qe := entry_at he j
      rw [hen] at qe
      cases hb' : ks[j]? with
      | none =>
        rw [hb'] at qe
        exact nomatch (show some en = none from qe)
      | some b =>
        rw [hb'] at qe
        have e2 : en = entryOfKey (tupleKind (mixKind X.prog X.w)) b := Option.some.inj qe
        rw [hv, e2]
        rfl
  rw [ea]
  exact hR h' tk kp
def cSortDic : DRL := fun ws S Q => one1 ws fun x => asDic S x fun _ kvs => SbD (kvs.map fun p => kyD p.1) ∧ ∀ p, S p = none → Q (.c p) (put S p (.lst (sortD (kvs.map fun p => kyD p.1))))
theorem keys_das {K : PySem.W.Frag} {F F' H : Hp} {es : List (List Key × V)} {kvs : List (List Str × PyData)} {bs : List Addr} (ht : ∀ a xs, H a = some (.tup xs) → F' a = some (.tup xs)) (rp : DPr K F es kvs) (hk : IsKeys H es bs) : DpAll K F' (bs.map V.ref) (kvs.map fun p => kyD p.1) := by
  unfold DPr at rp
  unfold IsKeys at hk
  induction rp generalizing bs with
  | nil => cases hk; exact .nil
  | @cons e p es kvs h1 h2 ih =>
    cases hk with
    | cons g1 g2 =>
      rw [List.map_cons, List.map_cons]
      refine .cons (.tup (.inl (ht _ _ g1)) ?_) (ih g2)
      rw [h1.1, List.map_map]
      exact das_str p.1
theorem k_sortDic {k : Nat} (hr : Room k X.A) (hc : X.calm = true) : CallR X (.builtin "sorted") (lowL X.K cSortDic) := call_le (cr_sortDT hr hc) fun vs H Q ⟨F, S, ws, Qd, A, r, h, P⟩ => by
  obtain ⟨v, w, rfl, rv, h⟩ := one1_of r h
  obtain ⟨a, es, kvs, rfl, rfl, hS, hd, rp, hb, q⟩ := asDic_of A rv h
  obtain ⟨F', A', e', ht⟩ := A.tups
  refine ⟨a, es, rfl, hd, fun bs hk => ?_⟩
  have r1 := keys_das (K := X.K) ht rp hk
  refine ⟨_, dp2s _ _ (dpms A'.fz _ _ r1), hb, fun p n => ?_⟩
  obtain ⟨A2, e2⟩ := A'.newc (c := .lst (sortD (kvs.map fun p => kyD p.1))) n ⟨_, upd_same, sortB_das r1⟩
  exact P _ _ _ _ (.c p) (e'.trans e2) A2 rfl (q p (A.free n).1)
end
end Dl
namespace Dl
open PySem PySem.Spec PyProof.Rows L2 PySem.W
/-! ### sorted(.., key=len) of tuples -/
def lenD : PyData → Nat
  | .tuple xs => xs.length
  | _ => 0
noncomputable def sortLenD (ds : List PyData) : List PyData := ds.mergeSort (dataLe false fun d => .int (lenD d : Int))
noncomputable def sortLB (vs : List V) (ds : List PyData) : List (V × PyData) := (vs.zip ds).mergeSort (dataLe false fun b : V × PyData => .int (lenD b.2 : Int))
theorem sortLB_snd {vs : List V} {ds : List PyData} (h : vs.length = ds.length) : (sortLB vs ds).map (·.2) = sortLenD ds := by
  unfold sortLB sortLenD
  have z := List.map_mergeSort (r := dataLe false fun b : V × PyData => .int (lenD b.2 : Int)) (s := dataLe false fun d => .int (lenD d : Int)) (f := fun b : V × PyData => b.2) (l := vs.zip ds) fun a _ b _ => rfl
  rw [z, List.map_snd_zip (by omega)]
theorem sortLB_das {K : PySem.W.Frag} {F : Hp} {vs : List V} {ds : List PyData} (r : DpAll K F vs ds) : DpAll K F ((sortLB vs ds).map (·.1)) (sortLenD ds) := by
  rw [← sortLB_snd (das_len r)]
  refine das_pairs fun b hb => das_zip r b ?_
  exact (List.mergeSort_perm _ _).mem_iff.mp hb
theorem sortLB_len {vs : List V} {ds : List PyData} (h : vs.length = ds.length) : (sortLB vs ds).length = ds.length := by
  unfold sortLB
  rw [(List.mergeSort_perm _ _).length_eq, List.length_zip]
  omega
theorem al_ints {β : Type} (bs : List β) (f : β → Int) : AllAlike (bs.map fun b => PyData.int (f b)) := fun d hd d' hd' => by
  obtain ⟨b, _, rfl⟩ := List.mem_map.mp hd
  obtain ⟨b', _, rfl⟩ := List.mem_map.mp hd'
  rfl
section
variable {X : Cx} {pos : Pos}
def tSortLen (K : PySem.W.Frag) (ta : TA) : TE := fun σ H Q => ta σ H fun xs H1 => ∃ a vs ds, xs = [.ref a] ∧ SqL K H1 a vs ∧ L2.DpAll K H1 vs ds ∧ (∀ d ∈ ds, ∃ xs, d = .tuple xs) ∧ ds.length ≤ 1000 ∧ ∀ p, H1 p = none → Q (.ref p) (upd H1 p (.lst ((sortLB vs ds).map (·.1))))
theorem each_tups {pins : List (Addr × Obj)} {σ : L2.St} {H : Hp} {s : Shared} (I : Inv X pins σ H s) : ∀ {vs : List V} {us : List Value} {ds : List PyData}, Vals vs us → L2.DpAll X.K H vs ds → (∀ d ∈ ds, ∃ xs, d = .tuple xs) → EachIs (fun u (b : V × PyData) => RelV b.1 u ∧ ∃ a its, u = .ref a ∧ s.heap.IsTuple a its ∧ its.size = lenD b.2 ∧ its.size ≤ sizeLine) us (vs.zip ds)
  | _, _, _, .nil, .nil, _ => .nil
  | _, _, _, .cons r t, .cons (d := d) q e, h => by
    refine .cons ⟨r, ?_⟩ (each_tups I t e fun d hd => h d (List.mem_cons_of_mem _ hd))
    obtain ⟨xs, rfl⟩ := h d List.mem_cons_self
    cases q with
    | tup s a =>
      obtain ⟨its, rv, p1, hz⟩ := I.tuple s
      have e1 := das_len2 a
      have e2 := rv.length
      refine ⟨_, its.toArray, r, p1, ?_, ?_⟩
      · rw [List.size_toArray, ← e2]; exact e1
      · rw [List.size_toArray, ← e2]; exact hz
theorem pe_sortLen {k : Nat} {e : Expr} {ta : TA} {p p2 kpos : Pos} (hr : Room k X.A) (hm : X.mg "sorted" = none) (hml : X.mg "len" = none) (ha : PA X [e] ta) (hg : Gl X "sorted" := by rfl) (hgl : Gl X "len" := by rfl)
    (he : backTo pos (starEach [e] X.env) = (false, eval e X.env) :: backTo pos (starEach [] X.env) := by rfl) (hpl : (backTo pos (starEach [e] X.env)).any (·.1) = false := by rfl) :
    PE X (.Call (.Name "sorted" p) [e] [⟨some "key", .Name "len" p2, kpos⟩] pos) (tSortLen X.K ta) := by
  refine ⟨fun pins s σ H Q I h => ?_⟩
  refine wpAny_Call_Name_kw (ld_blt I hg hm (show bootBuiltins "sorted" = some (.builtin "sorted") by decide +kernel) ?_)
  refine PyProof.Rows.callWith_kw (thn (ha.run pos pins s σ H _ I h) fun us s1 ⟨vs0, H1, I1, r1, a, vs, ds, ex, hq, rd, ht, hl, q⟩ => ?_) he hpl
  subst ex
  obtain ⟨u, rfl, rx⟩ := r1.one
  cases rx
  show wpAny _ _ (evalAll [(do let v ← eval (.Name "len" p2) X.env; standAt pos; pure v)]) _ _ s1
  refine wpAny_evalAll_cons (wpAny_bind (ld_blt I1 hgl hml PySem.boot_len (wpAny_bind (wpAny_standAt (wpAny_pure (wpAny_evalAll_nil ?_))))))
  obtain ⟨its, rv, hli, hz⟩ := I1.list hq
  have hln := das_len2 rd
  show wpAny _ _ (call (.builtin "sorted") [.ref a] [(Str.ofString "key", .builtin "len")]) _ _ s1
  have hu := hu65 hr
  refine sorted_key_data (b := false) (f := .builtin "len") (fun b : V × PyData => .int (lenD b.2 : Int)) hli.isList (each_tups I1 rv rd ht) (al_ints _ _) (.inr fun d hd => ?_) ?_ (fun x _ => ?_) ?_ (fun x => ?_) (fun x => ksk_t4 _ _) (fun v x hR _ h' tk kp => ?_) fun out c h' tk kp fr hat ho eo => ?_
  · obtain ⟨b, _, rfl⟩ := List.mem_map.mp hd
    exact ⟨fun z => (nomatch z), fun xs z => (nomatch z)⟩
  · rw [List.length_zip]; exact k_line (by omega)
  · show X.A.units + 2 + 0 < cLine
    omega
  · unfold argsOk; kernel_rfl
  · unfold argsOk; kernel_rfl
  · obtain ⟨_, c, its', rfl, hT, hsz, hsl⟩ := hR
    have hn := line63
    have hT' : h'.IsTuple c its' := hT.at fun o z => kp _ _ z
    refine len_tuple (s := { s1 with heap := h', toks := tk }) hT' (by omega) ?_
    refine ⟨h', tk + 1 + 1, rfl, fun _ _ z => z, ?_⟩
    rw [← hsz]
    exact .int _ _
  · have hlen : ((sortLB vs ds).map (·.1)).length ≤ sizeLine := by rw [List.length_map, sortLB_len hln]; exact k_line hl
    exact ⟨.ref _, upd H1 (s1.heap.objs.size + 1) (.lst ((sortLB vs ds).map (·.1))), I1.laid (t' := tk) kp (Nat.le_succ _) ⟨hlen, out, c, each_vals (eo.mono fun _ _ z => z.1), hat⟩, rfl, q _ (I1.hok.fresh (Nat.le_succ _))⟩
end
end Dl
namespace Dl
open PySem PySem.Spec PyProof.Rows L2 PySem.W
section
variable {X : Cx} {pos : Pos}
abbrev uSortLen (ta : DTA) : DTE := fun τ S Q => ta τ S fun xs S1 => one1 xs fun x => asL S1 x fun ds => ((∀ d ∈ ds, ∃ xs, d = .tuple xs) ∧ ds.length ≤ 1000) ∧ ∀ p, S1 p = none → Q (.c p) (put S1 p (.lst (sortLenD ds)))
theorem de_sortLen {k : Nat} {e : Expr} {ta : DTA} {p p2 kpos : Pos} (hr : Room k X.A) (hm : X.mg "sorted" = none) (hml : X.mg "len" = none) (ha : PA X [e] (lowA X.K ta)) (hg : Gl X "sorted" := by rfl) (hgl : Gl X "len" := by rfl)
    (he : backTo pos (starEach [e] X.env) = (false, eval e X.env) :: backTo pos (starEach [] X.env) := by rfl) (hpl : (backTo pos (starEach [e] X.env)).any (·.1) = false := by rfl) :
    PE X (.Call (.Name "sorted" p) [e] [⟨some "key", .Name "len" p2, kpos⟩] pos) (lowE X.K (uSortLen ta)) :=
  pe_le (pe_sortLen hr hm hml ha hg hgl he hpl) fun σ H Q ⟨F, S, τ, Qd, A, E, h, P⟩ => ⟨F, S, τ, _, A, E, h, fun vs H1 F1 S1 xs e1 A1 r1 q1 => by
    obtain ⟨v, w, rfl, rv, q2⟩ := one1_of r1 q1
    obtain ⟨a, us, ds, rfl, s1, r2, ⟨h1, h2⟩, q3⟩ := asL_of A1 rv q2
    refine ⟨a, us, ds, rfl, s1, dp2s _ _ (dpms A1.fz _ _ r2), h1, h2, fun p n => ?_⟩
    obtain ⟨A2, e2⟩ := A1.newc (c := .lst (sortLenD ds)) n ⟨_, upd_same, sortLB_das r2⟩
    exact P _ _ _ _ (.c p) (e1.trans e2) A2 rfl (q3 p (A1.free n).1)⟩
end
end Dl
namespace Dl
open PySem PySem.Spec PyProof.Rows L2
section
variable {X : Cx}
/-- a name's list is not changed from here on -/
def sFrz (i : Nat) (u : DTS) : DTS := fun D τ S => match τ[i]? with
  | some (some (.c a)) => (match S a with
    | some (.lst ds) => u D (τ.set i (some (.d (.list ds)))) (del S a)
    | _ => False)
  | _ => False
theorem dss_frz {i : Nat} {sts : List Stmt} {u : DTS} (h : PSs X sts (lowS X.K u)) : PSs X sts (lowS X.K (sFrz i u)) :=
  pss_le h fun D σ H ⟨F, S, τ, Dd, A, E, h, p1, p2, p3, p4⟩ => by
    unfold sFrz at h
    split at h
    · rename_i a q
      split at h
      · rename_i ds q2
        obtain ⟨F2, A2, e2, r2⟩ := A.freeze q2
        obtain ⟨v, hv, rv⟩ := E.at' i _ q
        cases rv
        have E2 : ER X.K F2 (σ.set i (some (.ref a))) (τ.set i (some (.d (.list ds)))) := (E.mono e2.fz).set r2
        have e3 : σ.set i (some (V.ref a)) = σ := by
          apply List.ext_getElem?
          intro j
          by_cases hj : i = j
          · subst hj
            rw [List.getElem?_set_self (List.getElem?_eq_some_iff.mp hv).1, hv]
          · rw [List.getElem?_set_ne hj]
        rw [e3] at E2
        exact ⟨F2, _, _, Dd, A2, E2, h, p1.ext e2, p2.ext e2, p3.ext e2, p4.ext e2⟩
      · exact h.elim
    · exact h.elim
end
section
variable {P : Program} {w : World} {K : PySem.W.Frag} {mg : Str → Option Value} {base : Heap}
/-- nothing is promised -/
theorem ok_never {f : Addr} {fd : FuncData} {ps : List Str} {k : Nat} {r : DSp} (h : ∀ ws S Q, ¬ r ws S Q) : FnOk P w K mg base CX0 k f fd ps (spD K r) :=
  ⟨fun _ _ _ _ ⟨_, _, _, _, _, _, z, _⟩ => (h _ _ _ z).elim, fun _ _ _ _ _ _ _ _ _ _ _ _ _ ⟨_, _, _, _, _, _, z, _⟩ => (h _ _ _ z).elim⟩
end
end Dl

namespace Dl
open PySem PySem.Spec PyProof.Rows L2
section
variable {X : Cx}
/-- range(i, j) -/
def range2D (i : Int) (n : Nat) : List PyData := (List.range n).map fun (k : Nat) => PyData.int (i + (k : Int))
theorem ylds_range2 {K : PySem.W.Frag} {F : Hp} (i : Int) (n : Nat) : Ylds K (Itr i n) F (range2D i n) := fun F1 S1 H1 f A => by
  have hl : (range2D i n).length = n := by unfold range2D; rw [List.length_map, List.length_range]
  refine ⟨by rw [hl]; exact Nat.le_refl _, fun j d hd => ?_⟩
  have hi : j < n := by rw [← hl]; exact (List.getElem?_eq_some_iff.mp hd).1
  refine ⟨hi, fun x H2 hy => ?_⟩
  obtain ⟨rfl, rfl⟩ := hy
  have e : d = .int (i + (j : Int)) := by
    unfold range2D at hd
    rw [List.getElem?_map, List.getElem?_range hi] at hd
    cases hd
    rfl
  subst e
  exact ⟨F1, Ext.refl, A, .int _⟩
abbrev iRange2 (ta : DTA) : DTI := fun τ S Q => ta τ S fun xs S1 => two2 xs fun x y => asI x fun i => asI y fun j => (-(2 ^ 62) ≤ i ∧ i < 2 ^ 62 ∧ -(2 ^ 62) ≤ j ∧ j < 2 ^ 62) ∧ Q (range2D i (j - i).toNat) S1
theorem di_range2 {a b : Expr} {ta : DTA} {p pos : Pos} {tg : Expr} (hm : X.mg "range" = none) (ha : PA X [a, b] (lowA X.K ta)) (hg : Gl X "range" := by rfl) (hs : starEach [a, b] X.env = [(false, eval a X.env), (false, eval b X.env)] := by rfl) (hs2 : starEach [b] X.env = [(false, eval b X.env)] := by rfl) : PI X tg (.Call (.Name "range" p) [a, b] [] pos) (lowI X.K (iRange2 ta)) :=
  pi_le (pi_range2 hg hm ha hs hs2) fun σ H R ⟨F, S, τ, Qd, A, E, h, P⟩ => ⟨F, S, τ, _, A, E, h, fun vs H1 F1 S1 xs e1 A1 r1 q1 => by
    obtain ⟨v, w, v', w', rfl, rw', rw2, q1⟩ := two2_of r1 q1
    obtain ⟨i, rfl, rfl, q1⟩ := asI_of rw' q1
    obtain ⟨j, rfl, rfl, h1, q1⟩ := asI_of rw2 q1
    exact ⟨i, j, rfl, h1, P _ _ _ _ _ e1 A1 (ylds_range2 _ _) q1⟩⟩
/-- the signs of a text -/
def signsD (x : Str) : List PyData := x.cps.toList.map fun c => PyData.str ⟨#[c]⟩
theorem ylds_str {K : PySem.W.Frag} {F : Hp} (x : Str) : Ylds K (Its x) F (signsD x) := fun F1 S1 H1 f A => by
  have hl : (signsD x).length = x.cps.size := by unfold signsD; rw [List.length_map, Array.length_toList]
  refine ⟨by rw [hl]; exact Nat.le_refl _, fun j d hd => ?_⟩
  have hi : j < x.cps.size := by rw [← hl]; exact (List.getElem?_eq_some_iff.mp hd).1
  refine ⟨hi, fun v H2 hy => ?_⟩
  obtain ⟨rfl, c, hc, rfl⟩ := hy
  have e : d = .str ⟨#[c]⟩ := by
    unfold signsD at hd
    rw [List.getElem?_map, Array.getElem?_toList, hc] at hd
    cases hd
    rfl
  subst e
  exact ⟨F1, Ext.refl, A, .str _⟩
abbrev iSt (ue : DTE) : DTI := fun τ S Q => ue τ S fun x S1 => asS x fun s => Q (signsD s) S1
theorem di_str {e : Expr} {ue : DTE} {tg : Expr} (he : PE X e (lowE X.K ue)) : PI X tg e (lowI X.K (iSt ue)) := pi_le (pi_str he) fun σ H R ⟨F, S, τ, Qd, A, E, h, P⟩ => ⟨F, S, τ, _, A, E, h, fun v1 H1 F1 S1 x e1 A1 r1 q1 => by
  obtain ⟨s, rfl, rfl, h1⟩ := asS_of r1 q1
  exact ⟨s, rfl, P _ _ _ _ _ e1 A1 (ylds_str s) h1⟩⟩
/-- a sign in a text -/
def rInS (neg : Bool) : DR2 := fun x y S Q => asS x fun s => asS y fun z => ∃ c, s = ⟨#[c]⟩ ∧ Q (.d (.bool (if neg then !decide (c ∈ z.cps.toList) else decide (c ∈ z.cps.toList)))) S
theorem o_inS : OpR X (compareOp .In) (low2 X.K (rInS false)) := opr_le op_in_sign fun x y H Q ⟨F, S, wx, wy, Qd, A, rx, ry, h, P⟩ => by
  obtain ⟨s, rfl, rfl, h1⟩ := asS_of rx h
  obtain ⟨z, rfl, rfl, c, rfl, h2⟩ := asS_of ry h1
  exact ⟨c, z, rfl, rfl, P.now A (show WR X.K F (.bl _) (.d (.bool _)) from Dp.bl _) h2⟩
theorem o_ninS : OpR X (compareOp .NotIn) (low2 X.K (rInS true)) := opr_le op_notIn_sign fun x y H Q ⟨F, S, wx, wy, Qd, A, rx, ry, h, P⟩ => by
  obtain ⟨s, rfl, rfl, h1⟩ := asS_of rx h
  obtain ⟨z, rfl, rfl, c, rfl, h2⟩ := asS_of ry h1
  exact ⟨c, z, rfl, rfl, P.now A (show WR X.K F (.bl _) (.d (.bool _)) from Dp.bl _) h2⟩
end
end Dl

namespace Fr
def Sz (n : Nat) (r : Rat) : Prop := r.num.natAbs < 2 ^ n ∧ r.den < 2 ^ n
theorem Sz.mono {n m : Nat} {r : Rat} (h : Sz n r) (hm : n ≤ m) : Sz m r :=
  ⟨Nat.lt_of_lt_of_le h.1 (Nat.pow_le_pow_right (by decide) hm), Nat.lt_of_lt_of_le h.2 (Nat.pow_le_pow_right (by decide) hm)⟩
theorem gcdc (t b : Int) : Int.gcd t b = Int.gcd b t := Int.gcd_comm t b
theorem low_num {t b : Int} (hb : 0 < b) : t / (Int.gcd t b : Int) = (Rat.divInt t b).num := by
  rw [Rat.num_divInt, Int.sign_eq_one_of_pos hb, Int.one_mul, gcdc]
theorem low_den {t b : Int} (hb : 0 < b) : b / (Int.gcd t b : Int) = ((Rat.divInt t b).den : Int) := by
  rw [Rat.den_divInt, if_neg (by omega), gcdc]
  rw [Int.natCast_ediv, Int.natAbs_of_nonneg (by omega)]
theorem gcd_pos {t b : Int} (hb : 0 < b) : 0 < (Int.gcd t b : Int) := by
  have : Int.gcd t b ≠ 0 := by
    rw [Ne, Int.gcd_eq_zero_iff]
    omega
  omega
theorem gcd_le {t b : Int} (hb : 0 < b) : (Int.gcd t b : Int) ≤ b := Int.le_of_dvd hb (Int.gcd_dvd_right ..)
theorem sz_q {n : Nat} {t b : Int} (hb : 0 < b) (ht : t.natAbs < 2 ^ n) (h2 : b.natAbs < 2 ^ n) : Sz n (Rat.divInt t b) := by
  have g := gcd_pos (t := t) hb
  refine ⟨?_, ?_⟩
  · rw [← low_num hb]
    refine Nat.lt_of_le_of_lt ?_ ht
    rw [Int.natAbs_ediv_of_dvd (Int.gcd_dvd_left ..)]
    exact Nat.div_le_self _ _
  · refine Nat.lt_of_le_of_lt ?_ h2
    have h := low_den (t := t) hb
    have h3 : b / (Int.gcd t b : Int) ≤ b := Int.ediv_le_self _ (by omega)
    omega
theorem dpos (a : Rat) : (0 : Int) < (a.den : Int) := by
  have := a.den_nz
  omega
theorem q_eq (t b : Int) : Rat.divInt t b = (t : Rat) / (b : Rat) := Rat.divInt_eq_div t b
theorem nd (a : Rat) : ((a.num : Int) : Rat) = a * ((a.den : Int) : Rat) := by
  have h := Rat.num_divInt_den a
  rw [q_eq] at h
  have d : (((a.den : Int)) : Rat) ≠ 0 := by
    have := dpos a
    intro z
    have z2 : ((a.den : Int)) = 0 := by exact_mod_cast z
    omega
  grind
theorem dne (a : Rat) : (((a.den : Int)) : Rat) ≠ 0 := by
  have := dpos a
  intro z
  have z2 : ((a.den : Int)) = 0 := by exact_mod_cast z
  omega
theorem ine {b : Int} (h : b ≠ 0) : (b : Rat) ≠ 0 := by
  intro z
  exact h (by exact_mod_cast z)
theorem add_q (a b : Rat) : Rat.divInt (a.num * (b.den : Int) + b.num * (a.den : Int)) ((a.den : Int) * (b.den : Int)) = a + b := by
  rw [q_eq]
  have h1 := dne a
  have h2 := dne b
  have e1 := nd a
  have e2 := nd b
  simp only [Rat.intCast_add, Rat.intCast_mul]
  rw [e1, e2]
  grind
theorem sub_q (a b : Rat) : Rat.divInt (a.num * (b.den : Int) - b.num * (a.den : Int)) ((a.den : Int) * (b.den : Int)) = a - b := by
  rw [q_eq]
  have h1 := dne a
  have h2 := dne b
  have e1 := nd a
  have e2 := nd b
  simp only [Rat.intCast_sub, Rat.intCast_mul]
  rw [e1, e2]
  grind
theorem mul_q (a : Rat) (t b : Int) (hb : b ≠ 0) : Rat.divInt (a.num * t) ((a.den : Int) * b) = a * t / b := by
  rw [q_eq]
  have h1 := dne a
  have h2 := ine hb
  have e1 := nd a
  simp only [Rat.intCast_mul]
  rw [e1]
  grind
theorem natAbs_mul_lt {i j : Int} {a b : Nat} (ha : i.natAbs < 2 ^ a) (hb : j.natAbs < 2 ^ b) : (i * j).natAbs < 2 ^ (a + b) := by
  rw [Int.natAbs_mul, Nat.pow_add]
  exact Nat.mul_lt_mul'' ha hb
theorem two_lt {x y : Int} {n : Nat} (hx : x.natAbs < 2 ^ n) (hy : y.natAbs < 2 ^ n) : (x + y).natAbs < 2 ^ (n + 1) := by
  have : (x + y).natAbs ≤ x.natAbs + y.natAbs := Int.natAbs_add_le x y
  rw [Nat.pow_succ]
  omega
theorem two_lt' {x y : Int} {n : Nat} (hx : x.natAbs < 2 ^ n) (hy : y.natAbs < 2 ^ n) : (x - y).natAbs < 2 ^ (n + 1) := by
  have : (x - y).natAbs ≤ x.natAbs + y.natAbs := by omega
  rw [Nat.pow_succ]
  omega
theorem den_lt {n : Nat} {a : Rat} (h : Sz n a) : ((a.den : Int)).natAbs < 2 ^ n := by
  rw [Int.natAbs_natCast]
  exact h.2
theorem up {x n m : Nat} (h : x < 2 ^ n) (hm : n ≤ m) : x < 2 ^ m := Nat.lt_of_lt_of_le h (Nat.pow_le_pow_right (by decide) hm)
theorem Sz.add {n m : Nat} {a b : Rat} (ha : Sz n a) (hb : Sz m b) : Sz (n + m + 1) (a + b) := by
  rw [← add_q]
  refine sz_q (Int.mul_pos (dpos a) (dpos b)) (two_lt (natAbs_mul_lt ha.1 (den_lt hb)) ?_) (up (natAbs_mul_lt (den_lt ha) (den_lt hb)) (by omega))
  rw [Nat.add_comm n m]
  exact natAbs_mul_lt hb.1 (den_lt ha)
theorem Sz.sub {n m : Nat} {a b : Rat} (ha : Sz n a) (hb : Sz m b) : Sz (n + m + 1) (a - b) := by
  rw [← sub_q]
  refine sz_q (Int.mul_pos (dpos a) (dpos b)) (two_lt' (natAbs_mul_lt ha.1 (den_lt hb)) ?_) (up (natAbs_mul_lt (den_lt ha) (den_lt hb)) (by omega))
  rw [Nat.add_comm n m]
  exact natAbs_mul_lt hb.1 (den_lt ha)
theorem Sz.muld {n m : Nat} {a : Rat} {t b : Int} (ha : Sz n a) (hb : 0 < b) (h1 : t.natAbs < 2 ^ m) (h2 : b.natAbs < 2 ^ m) : Sz (n + m) (a * t / b) := by
  rw [← mul_q a t b (by omega)]
  exact sz_q (Int.mul_pos (dpos a) hb) (natAbs_mul_lt ha.1 h1) (natAbs_mul_lt (den_lt ha) h2)
theorem lt_q (a b : Rat) : decide (a.num * (b.den : Int) < b.num * (a.den : Int)) = decide (a < b) := by
  rw [Bool.eq_iff_iff, decide_eq_true_iff, decide_eq_true_iff, Rat.lt_iff]
theorem num_nonneg {a : Rat} : 0 ≤ a.num ↔ 0 ≤ a := Rat.num_nonneg
theorem rat_ext {a b : Rat} (h1 : a.num = b.num) (h2 : (a.den : Int) = (b.den : Int)) : a = b := Rat.ext h1 (by omega)
theorem int_num (i : Int) : ((i : Rat)).num = i := Rat.num_intCast i
theorem int_den (i : Int) : ((i : Rat)).den = 1 := Rat.den_intCast i
theorem sz_int {i : Int} {n : Nat} (h : i.natAbs < 2 ^ n) (hn : 0 < n) : Sz n (i : Rat) := by
  refine ⟨by rw [int_num]; exact h, ?_⟩
  rw [int_den]
  exact Nat.one_lt_two_pow (by omega)
/-- Euclid -/
theorem gcd_step {a b : Int} (ha : 0 ≤ a) (hb : 0 < b) : Int.gcd b (a % b) = Int.gcd a b := by
  obtain ⟨m, rfl⟩ := Int.eq_ofNat_of_zero_le ha
  obtain ⟨n, rfl⟩ := Int.eq_ofNat_of_zero_le (Int.le_of_lt hb)
  show Nat.gcd (Int.natAbs (n : Int)) (Int.natAbs ((m : Int) % (n : Int))) = Nat.gcd (Int.natAbs (m : Int)) (Int.natAbs (n : Int))
  rw [← Int.natCast_emod, Int.natAbs_natCast, Int.natAbs_natCast, Int.natAbs_natCast, Nat.gcd_comm m n, Nat.gcd_rec n m, Nat.gcd_comm]
end Fr

namespace Rf
open PySem PySem.Spec PyProof.Rows L2 Dl Fr
/-! ### data of the program -/
def eQ (r : Rat) : PyData := .tuple [.int r.num, .int (r.den : Int)]
structure One where
  n : Str
  h : Int
  r : Int
def eOne (o : One) : PyData := .tuple [.str o.n, .int o.h, .int o.r]
def eFolk (fs : List One) : PyData := .tuple (fs.map eOne)
def ePl (ps : List Rat) : PyData := .tuple (ps.map eQ)
def eRaft (L W : Int) : PyData := .tuple [.int L, .int W]
def eSt (g : Rat) (ps : List Rat) : PyData := .tuple [eQ g, ePl ps]
def eOpt (r : Option Rat) : PyData := match r with
  | some q => eQ q
  | none => .none
theorem cmul {i j : Int} {a b : Nat} (ha : i.natAbs < 2 ^ a) (hb : j.natAbs < 2 ^ b) (h0 : 0 < a := by decide) (h1 : 0 < b := by decide) (h : a + b ≤ 1000000 := by decide) : CMulW i j := wide_mul ha hb h0 h1 h
theorem k1 : 1 ≤ 1000 := by decide
theorem k2 : 2 ≤ 1000 := by decide
theorem k3 : 3 ≤ 1000 := by decide
theorem rdiv_one (a : Rat) : a / 1 = a := by grind
/-! ### fractions -/
def sp_lowest : DSp := fun ws S Q => ∃ t b : Int, ws = [.d (.int t), .d (.int b)] ∧ (0 < b ∧ t.natAbs < 2 ^ 8000 ∧ b.natAbs < 2 ^ 8000) ∧ Q (.d (eQ (Rat.divInt t b))) S
def sp_plus : DSp := fun ws S Q => ∃ a b : Rat, ws = [.d (eQ a), .d (eQ b)] ∧ (Sz 3000 a ∧ Sz 3000 b) ∧ Q (.d (eQ (a + b))) S
def sp_less : DSp := fun ws S Q => ∃ a b : Rat, ws = [.d (eQ a), .d (eQ b)] ∧ (Sz 3000 a ∧ Sz 3000 b) ∧ Q (.d (eQ (a - b))) S
def sp_times : DSp := fun ws S Q => ∃ (a : Rat) (t b : Int), ws = [.d (eQ a), .d (.int t), .d (.int b)] ∧ (Sz 3000 a ∧ 0 < b ∧ t.natAbs < 2 ^ 3000 ∧ b.natAbs < 2 ^ 3000) ∧ Q (.d (eQ (a * t / b))) S
def sp__law_times : DSp := fun ws S Q => ∃ (a : Rat) (t : Int), ws = [.d (eQ a), .d (.int t)] ∧ (Sz 3000 a ∧ t.natAbs < 2 ^ 3000) ∧ Q (.d (eQ (a * t))) S
def sp_is_lesser : DSp := fun ws S Q => ∃ a b : Rat, ws = [.d (eQ a), .d (eQ b)] ∧ (Sz 3000 a ∧ Sz 3000 b) ∧ Q (.d (.bool (decide (a < b)))) S
abbrev sp__law_lowest := sp_lowest
abbrev sp__law_plus := sp_plus
abbrev sp__law_minus := sp_less
abbrev sp__law_less := sp_is_lesser
/-! ### weights, gaps -/
def sumH (fs : List One) : Int := (fs.map fun o => o.h).sum
def heavy (W : Int) (fs : List One) : Int := W + sumH fs
def driveP : List (One × Rat) → Rat
  | [] => 0
  | x :: r => x.2 * x.1.h + driveP r
def drive (fs : List One) (ps : List Rat) : Rat := driveP (fs.zip ps)
def sp_heavy_of : DSp := fun ws S Q => ∃ L W fs, ws = [.d (eRaft L W), .d (eFolk fs)] ∧ fs.length ≤ 1000 ∧ Q (.d (.int (heavy W fs))) S
abbrev sp__law_heavy := sp_heavy_of
/-- folk that can be -/
structure OkF (fs : List One) : Prop where
  len : fs.length ≤ 7
  lo : ∀ o ∈ fs, 1 ≤ o.h
  hi : ∀ o ∈ fs, o.h ≤ 200
theorem h_lt {x : Int} (h1 : 1 ≤ x) (h2 : x ≤ 200) : x.natAbs < 2 ^ 8 := by omega
theorem sz0 : Sz 1 0 := ⟨by decide, by decide⟩
theorem sz_driveP {n : Nat} : ∀ (xs : List (One × Rat)), (∀ x ∈ xs, 1 ≤ x.1.h ∧ x.1.h ≤ 200 ∧ Sz n x.2) → Sz (1 + xs.length * (n + 9)) (driveP xs)
  | [], _ => by rw [List.length_nil, Nat.zero_mul]; exact sz0
  | x :: r, h => by
    obtain ⟨h1, h2, h3⟩ := h x List.mem_cons_self
    have ih := sz_driveP r fun y hy => h y (List.mem_cons_of_mem _ hy)
    have a := h3.muld (t := x.1.h) (b := 1) (m := 8) (by decide) (h_lt h1 h2) (by decide)
    rw [Rat.intCast_one, rdiv_one] at a
    refine (a.add ih).mono ?_
    rw [List.length_cons, Nat.add_mul]
    omega
theorem zip_ok {n : Nat} {fs : List One} {ps : List Rat} (hf : OkF fs) (hp : ∀ p ∈ ps, Sz n p) : ∀ x ∈ fs.zip ps, 1 ≤ x.1.h ∧ x.1.h ≤ 200 ∧ Sz n x.2 := fun x hx => by
  have h := List.of_mem_zip (a := x.1) (b := x.2) hx
  exact ⟨hf.lo _ h.1, hf.hi _ h.1, hp _ h.2⟩
theorem sz_drive {n : Nat} {fs : List One} {ps : List Rat} (hf : OkF fs) (hp : ∀ p ∈ ps, Sz n p) : Sz (1 + 7 * (n + 9)) (drive fs ps) := by
  refine (sz_driveP _ (zip_ok hf hp)).mono ?_
  have h1 : (fs.zip ps).length ≤ 7 := by
    rw [List.length_zip]
    have := hf.len
    omega
  have := Nat.mul_le_mul_right (n + 9) h1
  omega
def sp_drive_of : DSp := fun ws S Q => ∃ fs ps, ws = [.d (eFolk fs), .d (ePl ps)] ∧ (OkF fs ∧ ∀ p ∈ ps, Sz 250 p) ∧ Q (.d (eQ (drive fs ps))) S
/-- heavy is above nought and small -/
theorem sumH_bd : ∀ {fs : List One}, (∀ o ∈ fs, 1 ≤ o.h) → (∀ o ∈ fs, o.h ≤ 200) → 0 ≤ sumH fs ∧ sumH fs ≤ 200 * fs.length
  | [], _, _ => by simp [sumH]
  | o :: fs, h1, h2 => by
    have ih := sumH_bd (fs := fs) (fun x hx => h1 x (List.mem_cons_of_mem _ hx)) fun x hx => h2 x (List.mem_cons_of_mem _ hx)
    have a := h1 o List.mem_cons_self
    have b := h2 o List.mem_cons_self
    have e : sumH (o :: fs) = o.h + sumH fs := by simp [sumH]
    rw [e, List.length_cons]
    omega
theorem heavy_bd {W : Int} {fs : List One} (hf : OkF fs) (h1 : 1 ≤ W) (h2 : W ≤ 1000) : 0 < heavy W fs ∧ heavy W fs ≤ 2400 := by
  have h := sumH_bd hf.lo hf.hi
  have := hf.len
  unfold heavy
  omega
def frontG (W : Int) (fs : List One) (g : Rat) (ps : List Rat) : Rat := g + drive fs ps / (heavy W fs : Rat)
def gapBy (W : Int) (fs : List One) (front : Rat) (ps : List Rat) : Rat := front - drive fs ps / (heavy W fs : Rat)
/-- a raft that can be, with folk, and a standing of numbers of at most n bits -/
structure OkR (L W : Int) : Prop where
  l1 : 1 ≤ L
  l2 : L ≤ 1000
  w1 : 1 ≤ W
  w2 : W ≤ 1000
def sp_front_gap : DSp := fun ws S Q => ∃ L W fs g ps, ws = [.d (eRaft L W), .d (eFolk fs), .d (eSt g ps)] ∧ (OkR L W ∧ OkF fs ∧ Sz 1000 g ∧ ∀ p ∈ ps, Sz 250 p) ∧ Q (.d (eQ (frontG W fs g ps))) S
def sp_gap_by : DSp := fun ws S Q => ∃ L W fs front ps, ws = [.d (eRaft L W), .d (eFolk fs), .d (eQ front), .d (ePl ps)] ∧ (OkR L W ∧ OkF fs ∧ Sz 3000 front ∧ ∀ p ∈ ps, Sz 250 p) ∧ Q (.d (eQ (gapBy W fs front ps))) S
theorem sz_dh {n : Nat} {W : Int} {fs : List One} {ps : List Rat} (hf : OkF fs) (h1 : 1 ≤ W) (h2 : W ≤ 1000) (hp : ∀ p ∈ ps, Sz n p) : Sz (13 + 7 * (n + 9)) (drive fs ps / (heavy W fs : Rat)) := by
  have hv := heavy_bd hf h1 h2
  have a := (sz_drive hf hp).muld hv.1 (by decide : (1 : Int).natAbs < 2 ^ 12) (by omega)
  rw [Rat.intCast_one] at a
  have e : drive fs ps * 1 / (heavy W fs : Rat) = drive fs ps / (heavy W fs : Rat) := by grind
  rw [e] at a
  exact a.mono (by omega)
theorem sz_front {n m : Nat} {W : Int} {fs : List One} {g : Rat} {ps : List Rat} (hf : OkF fs) (h1 : 1 ≤ W) (h2 : W ≤ 1000) (hg : Sz m g) (hp : ∀ p ∈ ps, Sz n p) : Sz (m + (14 + 7 * (n + 9))) (frontG W fs g ps) := (hg.add (sz_dh hf h1 h2 hp)).mono (by omega)
theorem sz_gapBy {n m : Nat} {W : Int} {fs : List One} {g : Rat} {ps : List Rat} (hf : OkF fs) (h1 : 1 ≤ W) (h2 : W ≤ 1000) (hg : Sz m g) (hp : ∀ p ∈ ps, Sz n p) : Sz (m + (14 + 7 * (n + 9))) (gapBy W fs g ps) := (hg.sub (sz_dh hf h1 h2 hp)).mono (by omega)
def nnO (r : Rat) : Option Rat := if 0 ≤ r then some r else none
def sp_gap_behind : DSp := fun ws S Q => ∃ L W fs g ps ps', ws = [.d (eRaft L W), .d (eFolk fs), .d (eSt g ps), .d (ePl ps')] ∧ (OkR L W ∧ OkF fs ∧ Sz 1000 g ∧ (∀ p ∈ ps, Sz 250 p) ∧ ∀ p ∈ ps', Sz 250 p) ∧ Q (.d (eOpt (nnO (gapBy W fs (frontG W fs g ps) ps')))) S
def nn0 (r : Rat) : Rat := if 0 ≤ r then r else 0
def backs (L : Int) (n : Nat) : List Rat := List.replicate n (L : Rat)
def sp_gaps : DSp := fun ws S Q => ∃ L W fs g ps, ws = [.d (eRaft L W), .d (eFolk fs), .d (eSt g ps)] ∧ (OkR L W ∧ OkF fs ∧ 0 < fs.length ∧ Sz 1000 g ∧ (∀ p ∈ ps, Sz 250 p)) ∧ Q (.d (.tuple [eQ (nn0 (gapBy W fs (frontG W fs g ps) (backs L fs.length))), eQ (frontG W fs g ps)])) S
theorem e_int (i : Int) : eQ (i : Rat) = .tuple [.int i, .int 1] := by
  unfold eQ
  rw [int_num, int_den]
  rfl
theorem rep_one {α : Type} (a : α) : ∀ n : Nat, (List.replicate n [a]).flatten = List.replicate n a
  | 0 => rfl
  | n + 1 => by rw [List.replicate_succ, List.flatten_cons, rep_one a n]; rfl
theorem rep_places (i : Int) (n : Nat) : (List.replicate n [PyData.tuple [.int i, .int 1]]).flatten = (List.replicate n (i : Rat)).map eQ := by
  rw [rep_one, List.map_replicate, e_int]
theorem sz_backs {L : Int} {n m : Nat} (h1 : 1 ≤ L) (h2 : L ≤ 1000) (hm : 10 ≤ m) : ∀ p ∈ backs L n, Sz m p := fun p hp => by
  rw [List.eq_of_mem_replicate hp]
  exact (sz_int (n := 10) (by omega) (by decide)).mono hm
/-! ### the law's draws -/
def Bg (S : Sto) (b : Addr) : Prop := ∃ x y : Int, S b = some (.lst [.int x, .int y]) ∧ 0 ≤ x ∧ 0 ≤ y ∧ y < 2147483648
def Bs (S : Sto) (b : Addr) (S' : Sto) : Prop := ∃ x y : Int, 0 ≤ x ∧ 0 ≤ y ∧ y < 2147483648 ∧ S' = put S b (.lst [.int x, .int y])
theorem Bs.ok {S S' : Sto} {b : Addr} (h : Bs S b S') : Bg S' b := by
  obtain ⟨x, y, h1, h2, h3, rfl⟩ := h
  exact ⟨x, y, put_same, h1, h2, h3⟩
theorem Bs.trans {S S1 S2 : Sto} {b : Addr} (h : Bs S b S1) (h' : Bs S1 b S2) : Bs S b S2 := by
  obtain ⟨x, y, h1, h2, h3, rfl⟩ := h
  obtain ⟨x', y', h1', h2', h3', rfl⟩ := h'
  exact ⟨x', y', h1', h2', h3', put_put⟩
theorem Bg.refl {S : Sto} {b : Addr} (h : Bg S b) : Bs S b S := by
  obtain ⟨x, y, e, h1, h2, h3⟩ := h
  exact ⟨x, y, h1, h2, h3, (put_eta e).symm⟩
theorem Bs.ne {S S' : Sto} {b a : Addr} (h : Bs S b S') (n : a ≠ b) : S' a = S a := by
  obtain ⟨x, y, h1, h2, h3, rfl⟩ := h
  exact put_ne n
def sp__law_take : DSp := fun ws S Q => ∃ b many, ws = [.c b, .d (.int many)] ∧ (Bg S b ∧ 0 < many ∧ many < 1073741824) ∧ ∀ v S', 0 ≤ v → v < many → Bs S b S' → Q (.d (.int v)) S'
def sp__law_raft : DSp := fun ws S Q => ∃ b, ws = [.c b] ∧ Bg S b ∧ ∀ L W S', OkR L W → Bs S b S' → Q (.d (eRaft L W)) S'
def names7 : List Str := ["ann", "bo", "cy", "dee", "eli", "fay", "gus"]
/-- folk as they are drawn -/
structure DrF (most : Int) (fs : List One) : Prop where
  n0 : 0 < fs.length
  len : (fs.length : Int) ≤ most
  nm : fs.map (·.n) = names7.take fs.length
  h1 : ∀ o ∈ fs, 1 ≤ o.h
  h2 : ∀ o ∈ fs, o.h ≤ 200
  r1 : ∀ o ∈ fs, 0 ≤ o.r
  r2 : ∀ o ∈ fs, o.r ≤ 100
theorem DrF.ok {most : Int} {fs : List One} (h : DrF most fs) (hm : most ≤ 7) : OkF fs := ⟨by have := h.len; omega, h.h1, h.h2⟩
def sp__law_folk : DSp := fun ws S Q => ∃ b most, ws = [.c b, .d (.int most)] ∧ (Bg S b ∧ 1 ≤ most ∧ most ≤ 7) ∧ ∀ fs S', DrF most fs → Bs S b S' → Q (.d (eFolk fs)) S'
/-- a place as it is drawn -/
structure DrP (L : Int) (p : Rat) : Prop where
  lo : 0 ≤ p
  hi : p ≤ L
  sz : Sz 12 p
def sp__law_place : DSp := fun ws S Q => ∃ b L W, ws = [.c b, .d (eRaft L W)] ∧ (Bg S b ∧ OkR L W) ∧ ∀ p S', DrP L p → Bs S b S' → Q (.d (eQ p)) S'
def sp__law_places : DSp := fun ws S Q => ∃ b L W fs, ws = [.c b, .d (eRaft L W), .d (eFolk fs)] ∧ (Bg S b ∧ OkR L W ∧ fs.length ≤ 7) ∧ ∀ ps S', ps.length = fs.length → (∀ p ∈ ps, DrP L p) → Bs S b S' → Q (.d (ePl ps)) S'
def sp__law_standing : DSp := fun ws S Q => ∃ b L W fs, ws = [.c b, .d (eRaft L W), .d (eFolk fs)] ∧ (Bg S b ∧ OkR L W ∧ fs.length ≤ 7) ∧ ∀ g ps S', (0 ≤ g ∧ Sz 12 g) → ps.length = fs.length → (∀ p ∈ ps, DrP L p) → Bs S b S' → Q (.d (eSt g ps)) S'
def sp__law_bag : DSp := fun ws S Q => ∃ (ns : List Int) (k : Int), ws = [.d (.list (ns.map .int)), .d (.int k)] ∧ (0 ≤ k ∧ k < 1000) ∧ ∀ p S', S p = none → Bs S p S' → Q (.c p) S'
end Rf
namespace Rf
open PySem PySem.Spec PyProof.Rows L2 Dl Fr
/-- an item of a written list of ints at a drawn place -/
theorem pick3 {a b c v : Int} {Q : WK} {S : Sto} (h0 : 0 ≤ v) (h1 : v < 3) (h : ∀ m, m = a ∨ m = b ∨ m = c → Q (.d (.int m)) S) : rItem (.d (.list [.int a, .int b, .int c])) (.d (.int v)) S Q := by
  have e : v = 0 ∨ v = 1 ∨ v = 2 := by omega
  rcases e with rfl | rfl | rfl
  · exact h a (.inl rfl)
  · exact h b (.inr (.inl rfl))
  · exact h c (.inr (.inr rfl))
theorem pick2 {a b v : Int} {Q : WK} {S : Sto} (h0 : 0 ≤ v) (h1 : v < 2) (h : ∀ m, m = a ∨ m = b → Q (.d (.int m)) S) : rItem (.d (.list [.int a, .int b])) (.d (.int v)) S Q := by
  have e : v = 0 ∨ v = 1 := by omega
  rcases e with rfl | rfl
  · exact h a (.inl rfl)
  · exact h b (.inr rfl)
end Rf
namespace Rf
open PySem PySem.Spec PyProof.Rows L2 Dl Fr
theorem itemInts {ns : List Int} {k : Int} {Q : PyData → Prop} (h0 : 0 ≤ k) (h1 : k < ns.length) (h : ∀ x, x ∈ ns → Q (.int x)) : Dl.itemAt (ns.map PyData.int) k Q := by
  obtain ⟨j, rfl⟩ := Int.eq_ofNat_of_zero_le h0
  have hj : j < ns.length := by omega
  have e : (ns.map PyData.int)[j]? = some (.int ns[j]) := by rw [List.getElem?_map, List.getElem?_eq_getElem hj]; rfl
  have e2 : atI (ns.map PyData.int) (j : Int) = some (.int ns[j]) := atI_nat e
  unfold Dl.itemAt
  rw [e2]
  exact h _ (List.getElem_mem hj)
end Rf
namespace Rf
open PySem PySem.Spec PyProof.Rows L2 Dl Fr
theorem drp_of {L t : Int} (h2 : L ≤ 1000) (m0 : 0 ≤ t) (m1 : t ≤ 4 * L) : DrP L (Rat.divInt t 4) := by
  refine ⟨Rat.divInt_nonneg m0 (by decide), ?_, sz_q (by decide) (by omega) (by decide)⟩
  rw [q_eq]
  have h : (t : Rat) ≤ ((4 * L : Int) : Rat) := Rat.intCast_le_intCast.mpr m1
  rw [Rat.intCast_mul] at h
  have e4 : ((4 : Int) : Rat) = 4 := rfl
  rw [e4] at h ⊢
  grind
end Rf
namespace Rf
open PySem PySem.Spec PyProof.Rows L2 Dl Fr
def shiftP : List (One × Rat × Rat) → Rat
  | [] => 0
  | x :: r => (x.2.2 - x.2.1) * x.1.h + shiftP r
def shift (fs : List One) (ps ps' : List Rat) : Rat := shiftP (fs.zip (ps.zip ps'))
theorem zip3_ok {n : Nat} {fs : List One} {ps ps' : List Rat} (hf : OkF fs) (hp : ∀ p ∈ ps, Sz n p) (hp' : ∀ p ∈ ps', Sz n p) : ∀ x ∈ fs.zip (ps.zip ps'), 1 ≤ x.1.h ∧ x.1.h ≤ 200 ∧ Sz n x.2.1 ∧ Sz n x.2.2 := fun x hx => by
  have h := List.of_mem_zip (a := x.1) (b := x.2) hx
  have h2 := List.of_mem_zip (a := x.2.1) (b := x.2.2) h.2
  exact ⟨hf.lo _ h.1, hf.hi _ h.1, hp _ h2.1, hp' _ h2.2⟩
theorem sz_shiftP {n : Nat} : ∀ (xs : List (One × Rat × Rat)), (∀ x ∈ xs, 1 ≤ x.1.h ∧ x.1.h ≤ 200 ∧ Sz n x.2.1 ∧ Sz n x.2.2) → Sz (1 + xs.length * (2 * n + 19)) (shiftP xs)
  | [], _ => by rw [List.length_nil, Nat.zero_mul]; exact sz0
  | x :: r, h => by
    obtain ⟨h1, h2, h3, h4⟩ := h x List.mem_cons_self
    have ih := sz_shiftP r fun y hy => h y (List.mem_cons_of_mem _ hy)
    have a := (h4.sub h3).muld (t := x.1.h) (b := 1) (m := 8) (by decide) (h_lt h1 h2) (by decide)
    rw [Rat.intCast_one, rdiv_one] at a
    refine (a.add ih).mono ?_
    rw [List.length_cons, Nat.add_mul]
    omega
theorem sz_shift {n : Nat} {fs : List One} {ps ps' : List Rat} (hf : OkF fs) (hp : ∀ p ∈ ps, Sz n p) (hp' : ∀ p ∈ ps', Sz n p) : Sz (1 + 7 * (2 * n + 19)) (shift fs ps ps') := by
  refine (sz_shiftP _ (zip3_ok hf hp hp')).mono ?_
  have h1 : (fs.zip (ps.zip ps')).length ≤ 7 := by
    rw [List.length_zip]
    have := hf.len
    omega
  have := Nat.mul_le_mul_right (2 * n + 19) h1
  omega
def sp__law_shift : DSp := fun ws S Q => ∃ fs ps ps', ws = [.d (eFolk fs), .d (ePl ps), .d (ePl ps')] ∧ (OkF fs ∧ (∀ p ∈ ps, Sz 200 p) ∧ ∀ p ∈ ps', Sz 200 p) ∧ Q (.d (eQ (shift fs ps ps'))) S
def lawGap (W : Int) (fs : List One) (g : Rat) (ps ps' : List Rat) : Rat := g - shift fs ps ps' / (heavy W fs : Rat)
def sp__law_gap : DSp := fun ws S Q => ∃ L W fs g ps ps', ws = [.d (eRaft L W), .d (eFolk fs), .d (eSt g ps), .d (ePl ps')] ∧ (OkR L W ∧ OkF fs ∧ Sz 1000 g ∧ (∀ p ∈ ps, Sz 200 p) ∧ ∀ p ∈ ps', Sz 200 p) ∧ Q (.d (eQ (lawGap W fs g ps ps'))) S
def sp__law_front : DSp := fun ws S Q => ∃ L W fs g ps, ws = [.d (eRaft L W), .d (eFolk fs), .d (eSt g ps)] ∧ (OkR L W ∧ OkF fs ∧ 0 < fs.length ∧ Sz 1000 g ∧ (∀ p ∈ ps, Sz 200 p)) ∧ Q (.d (eQ (lawGap W fs g ps (List.replicate fs.length ((0 : Int) : Rat))))) S
end Rf
namespace Rf
theorem k7 : 7 ≤ 1000 := by decide
end Rf
namespace Rf
open PySem PySem.Spec PyProof.Rows L2 Dl Fr
theorem Bg.put {S : Sto} {b p : Addr} {c : Cl} (n : b ≠ p) (h : Bg S b) : Bg (put S p c) b := by
  obtain ⟨x, y, e2, q⟩ := h
  exact ⟨x, y, by rw [put_ne n]; exact e2, q⟩
theorem Bs.under {S S' : Sto} {b p : Addr} {c : Cl} (n : b ≠ p) (h : Bs (put S p c) b S') : ∃ S1, Bs S b S1 ∧ S' = put S1 p c := by
  obtain ⟨x, y, h1, h2, h3, rfl⟩ := h
  exact ⟨_, ⟨x, y, h1, h2, h3, rfl⟩, put_comm n.symm⟩
end Rf
namespace Rf
open PySem PySem.Spec PyProof.Rows L2 Dl Fr
def sp_law : DSp := fun ws S Q => ∃ ns : List Int, ws = [.d (.list (ns.map .int))] ∧ ns.length ≤ 63 ∧ ∀ S', Q (.d (.bool true)) S'
/-! ### the mathematics of gaps -/
theorem shift_eq : ∀ {fs : List One} {ps ps' : List Rat}, ps.length = fs.length → ps'.length = fs.length → shift fs ps ps' = drive fs ps' - drive fs ps
  | [], _, _, _, _ => by show (0 : Rat) = 0 - 0; grind
  | o :: fs, p :: ps, p' :: ps', h1, h2 => by
    have ih := shift_eq (fs := fs) (ps := ps) (ps' := ps') (by simpa using h1) (by simpa using h2)
    show (p' - p) * o.h + shift fs ps ps' = (p' * o.h + drive fs ps') - (p * o.h + drive fs ps)
    rw [ih]
    grind
  | _ :: _, [], _, h, _ => by simp at h
  | _ :: _, _ :: _, [], _, h => by simp at h
theorem law_gap_eq {W : Int} {fs : List One} {g : Rat} {ps ps' : List Rat} (h1 : ps.length = fs.length) (h2 : ps'.length = fs.length) : lawGap W fs g ps ps' = gapBy W fs (frontG W fs g ps) ps' := by
  unfold lawGap gapBy frontG
  rw [shift_eq h1 h2]
  grind
theorem drive_zero : ∀ (fs : List One) (n : Nat), drive fs (List.replicate n ((0 : Int) : Rat)) = 0
  | [], _ => by simp [drive, driveP]
  | _ :: _, 0 => by simp [drive, driveP]
  | o :: fs, n + 1 => by
    show ((0 : Int) : Rat) * o.h + drive fs (List.replicate n ((0 : Int) : Rat)) = 0
    rw [drive_zero fs n]
    have : ((0 : Int) : Rat) = 0 := rfl
    rw [this]
    grind
theorem law_front_eq {W : Int} {fs : List One} {g : Rat} {ps : List Rat} (h1 : ps.length = fs.length) : lawGap W fs g ps (List.replicate fs.length ((0 : Int) : Rat)) = frontG W fs g ps := by
  rw [law_gap_eq h1 List.length_replicate]
  unfold gapBy
  rw [drive_zero]
  grind
theorem hpos {W : Int} {fs : List One} (hf : OkF fs) (h1 : 1 ≤ W) (h2 : W ≤ 1000) : (0 : Rat) < (heavy W fs : Rat) := by
  have h := (heavy_bd hf h1 h2).1
  exact_mod_cast h
theorem drive_bd {L : Int} : ∀ {fs : List One} {ps : List Rat}, (∀ o ∈ fs, 1 ≤ o.h) → ps.length = fs.length → (∀ p ∈ ps, 0 ≤ p ∧ p ≤ L) → 0 ≤ drive fs ps ∧ drive fs ps ≤ drive fs (backs L fs.length)
  | [], _, _, _, _ => ⟨by show (0 : Rat) ≤ 0; grind, by show (0 : Rat) ≤ 0; grind⟩
  | o :: fs, p :: ps, h1, h2, h3 => by
    have ih := drive_bd (L := L) (fs := fs) (ps := ps) (fun x hx => h1 x (List.mem_cons_of_mem _ hx)) (by simpa using h2) fun q hq => h3 q (List.mem_cons_of_mem _ hq)
    have a := h3 p List.mem_cons_self
    have b : (0 : Rat) ≤ (o.h : Rat) := by
      have := h1 o List.mem_cons_self
      exact_mod_cast (show (0 : Int) ≤ o.h by omega)
    have c := Rat.mul_nonneg a.1 b
    have d := Rat.mul_le_mul_of_nonneg_right a.2 b
    show 0 ≤ p * o.h + drive fs ps ∧ p * o.h + drive fs ps ≤ (L : Rat) * o.h + drive fs (backs L fs.length)
    grind
  | _ :: _, [], _, h, _ => by simp at h
theorem rdiv_le {a b c : Rat} (h : a ≤ b) (hc : 0 < c) : a / c ≤ b / c := by
  have : 0 ≤ c⁻¹ := Rat.le_of_lt (Rat.inv_pos.mpr hc)
  rw [Rat.div_def, Rat.div_def]
  exact Rat.mul_le_mul_of_nonneg_right h this
end Rf
namespace Rf
theorem iteN {c A B : Prop} [Decidable c] (h : ¬ c) (q : B) : if decide c = true then A else B := by
  rw [decide_eq_false h]
  exact q
end Rf

namespace Rf
open PySem PySem.Spec PyProof.Rows L2 Dl Fr
/-! ### equality of data -/
theorem eqv_str (x y : Str) : PyData.eqv (.str x) (.str y) = (x == y) := by simp only [PyData.eqv]
theorem eqv_int (x y : Int) : PyData.eqv (.int x) (.int y) = (x == y) := by simp only [PyData.eqv]
theorem eqv_Q (a b : Rat) : PyData.eqv (eQ a) (eQ b) = decide (a = b) := by
  unfold eQ
  simp only [PyData.eqv, PyData.eqvAll, Bool.and_true]
  rw [Bool.eq_iff_iff]
  simp only [Bool.and_eq_true, beq_iff_eq, decide_eq_true_eq]
  constructor
  · rintro ⟨h1, h2⟩
    exact rat_ext h1 h2
  · rintro rfl
    exact ⟨rfl, rfl⟩
theorem sh_Q (a : Rat) : SeqAt.shaped (eQ a) = true := rfl
def okS (s : Str) : Prop := SeqAt.shaped (.str s) = true
theorem rEq_str {x y : Str} {S : Sto} {Q : WK} (hx : okS x) (hy : okS y) (q : Q (.d (.bool (x == y))) S) : rEq false (.d (.str x)) (.d (.str y)) S Q := by
  refine ⟨hx, hy, ?_⟩
  rw [eqv_str]
  exact q
theorem rNe_str {x y : Str} {S : Sto} {Q : WK} (hx : okS x) (hy : okS y) (q : Q (.d (.bool (!(x == y)))) S) : rEq true (.d (.str x)) (.d (.str y)) S Q := by
  refine ⟨hx, hy, ?_⟩
  rw [eqv_str]
  exact q
theorem rEq_Q {a b : Rat} {S : Sto} {Q : WK} (q : Q (.d (.bool (decide (a = b)))) S) : rEq false (.d (eQ a)) (.d (eQ b)) S Q := by
  refine ⟨rfl, rfl, ?_⟩
  rw [eqv_Q]
  exact q
theorem rNe_Q {a b : Rat} {S : Sto} {Q : WK} (q : Q (.d (.bool (!decide (a = b)))) S) : rEq true (.d (eQ a)) (.d (eQ b)) S Q := by
  refine ⟨rfl, rfl, ?_⟩
  rw [eqv_Q]
  exact q
theorem rEq_of {d e : PyData} {b : Bool} {S : Sto} {Q : WK} (hd : SeqAt.shaped d = true) (he : SeqAt.shaped e = true) (h : PyData.eqv d e = b) (q : Q (.d (.bool b)) S) : rEq false (.d d) (.d e) S Q := by
  refine ⟨hd, he, ?_⟩
  rw [h]
  exact q
theorem rNe_of {d e : PyData} {b : Bool} {S : Sto} {Q : WK} (hd : SeqAt.shaped d = true) (he : SeqAt.shaped e = true) (h : PyData.eqv d e = b) (q : Q (.d (.bool (!b))) S) : rEq true (.d d) (.d e) S Q := by
  refine ⟨hd, he, ?_⟩
  rw [h]
  exact q
theorem mulq2 (a b : Rat) : Rat.divInt (a.num * b.num) ((a.den : Int) * (b.den : Int)) = a * b := by
  rw [q_eq]
  have h1 := dne a
  have h2 := dne b
  have e1 := nd a
  have e2 := nd b
  simp only [Rat.intCast_mul]
  rw [e1, e2]
  grind
/-! ### one of folk, the others -/
def others (fs : List One) (nm : Str) : List One := fs.filter fun o => !(o.n == nm)
def those (fs : List One) (nm : Str) : List One := fs.filter fun o => o.n == nm
def OkN (fs : List One) : Prop := ∀ o ∈ fs, okS o.n
def sp_others_of : DSp := fun ws S Q => ∃ fs nm, ws = [.d (eFolk fs), .d (.str nm)] ∧ (fs.length ≤ 1000 ∧ okS nm ∧ OkN fs) ∧ Q (.d (eFolk (others fs nm))) S
def sp_one_of : DSp := fun ws S Q => ∃ fs nm o r, ws = [.d (eFolk fs), .d (.str nm)] ∧ (fs.length ≤ 1000 ∧ okS nm ∧ OkN fs ∧ those fs nm = o :: r) ∧ Q (.d (eOne o)) S
theorem OkF.others {fs : List One} (h : OkF fs) (nm : Str) : OkF (others fs nm) := ⟨Nat.le_trans (List.length_filter_le _ _) h.len, fun o q => h.lo o (List.mem_filter.mp q).1, fun o q => h.hi o (List.mem_filter.mp q).1⟩
theorem OkN.others {fs : List One} (h : OkN fs) (nm : Str) : OkN (others fs nm) := fun o q => h o (List.mem_filter.mp q).1
theorem names7_ok : ∀ s ∈ names7, okS s := by
  intro s hs
  have h : ∀ s ∈ names7, decide (SeqAt.shaped (.str s) = true) = true := by
    simp only [names7, List.forall_mem_cons]
    refine ⟨?_, ?_, ?_, ?_, ?_, ?_, ?_, fun _ h => nomatch h⟩ <;> decide +kernel
  exact (decide_eq_true_iff (p := SeqAt.shaped (.str s) = true)).mp (h s hs)
theorem DrF.okN {most : Int} {fs : List One} (h : DrF most fs) : OkN fs := fun o ho => by
  refine names7_ok _ ?_
  have h1 : o.n ∈ fs.map (·.n) := List.mem_map_of_mem ho
  rw [h.nm] at h1
  exact List.mem_of_mem_take h1
theorem names7_nd : names7.Nodup := by decide +kernel
theorem DrF.nodup {most : Int} {fs : List One} (h : DrF most fs) : (fs.map (·.n)).Nodup := by
  rw [h.nm]
  exact names7_nd.sublist (List.take_sublist _ _)
/-! ### an unseen weight -/
abbrev Tr := One × Rat × Rat
def uTot (nm : Str) : List Tr → Rat
  | [] => 0
  | x :: r => (if x.1.n == nm then 0 else (x.2.2 - x.2.1) * x.1.h) + uTot nm r
def uOwn (nm : Str) (near : Rat) : Rat → List Tr → Rat
  | o, [] => o
  | o, x :: r => uOwn nm near (if x.1.n == nm then near - (x.2.2 - x.2.1) else o) r
def eU (t o : Rat) : PyData := if o = 0 then (if t = 0 then .str "any" else .none) else if t * o ≤ 0 then .none else eQ (t / o)
def unsT (W : Int) (fs : List One) (g : Rat) (ps : List Rat) (nm : Str) (ps' : List Rat) (gap : Rat) : Rat := (g - gap) * ((0 - heavy W (others fs nm) : Int) : Rat) + uTot nm (fs.zip (ps.zip ps'))
def unsO (fs : List One) (g : Rat) (ps : List Rat) (nm : Str) (ps' : List Rat) (gap : Rat) : Rat := uOwn nm (g - gap) (g - gap) (fs.zip (ps.zip ps'))
def sp_unseen : DSp := fun ws S Q => ∃ L W fs g ps nm ps' gap, ws = [.d (eRaft L W), .d (eFolk fs), .d (eSt g ps), .d (.str nm), .d (ePl ps'), .d (eQ gap)] ∧
  (OkR L W ∧ OkF fs ∧ OkN fs ∧ okS nm ∧ Sz 12 g ∧ Sz 400 gap ∧ (∀ p ∈ ps, Sz 12 p) ∧ ∀ p ∈ ps', Sz 12 p) ∧ Q (.d (eU (unsT W fs g ps nm ps' gap) (unsO fs g ps nm ps' gap))) S
theorem num0 {r : Rat} : r.num = 0 ↔ r = 0 := Rat.num_eq_zero
theorem numlt {r : Rat} : r.num < 0 ↔ r < 0 := by
  have := num_nonneg (a := r)
  constructor
  · intro h
    rw [← Rat.not_le]
    exact fun z => absurd (this.mpr z) (by omega)
  · intro h
    rw [← Rat.not_le] at h
    have h2 : ¬ 0 ≤ r.num := fun z => h (this.mp z)
    omega
theorem denP (a : Rat) : (0 : Rat) < ((a.den : Int) : Rat) := by
  have := dpos a
  exact_mod_cast this
theorem num_mul_le {t o : Rat} : t.num * o.num ≤ 0 ↔ t * o ≤ 0 := by
  have e1 := nd t
  have e2 := nd o
  have p1 := denP t
  have p2 := denP o
  have p := Rat.mul_pos p1 p2
  have e : ((t.num * o.num : Int) : Rat) = t * o * (((t.den : Int) : Rat) * ((o.den : Int) : Rat)) := by
    rw [Rat.intCast_mul, e1, e2]
    grind
  constructor
  · intro h
    have h1 : ((t.num * o.num : Int) : Rat) ≤ 0 := by exact_mod_cast h
    rw [e] at h1
    rw [← Rat.not_lt]
    intro z
    have := Rat.mul_pos z p
    grind
  · intro h
    have h1 : ((t.num * o.num : Int) : Rat) ≤ 0 := by
      rw [e]
      have h2 : 0 ≤ -(t * o) := by grind
      have := Rat.mul_nonneg h2 (Rat.le_of_lt p)
      grind
    exact_mod_cast h1
def absQ (t : Rat) : Rat := if t.num < 0 then -t else t
theorem eQ_abs (t : Rat) : PyData.tuple [.int (if t.num < 0 then -t.num else t.num), .int (t.den : Int)] = eQ (absQ t) := by
  unfold absQ eQ
  split
  · rw [Rat.neg_num, Rat.neg_den]
  · rfl
theorem sz_abs {n : Nat} {t : Rat} (h : Sz n t) : Sz n (absQ t) := by
  unfold absQ
  split
  · exact ⟨by rw [Rat.neg_num, Int.natAbs_neg]; exact h.1, by rw [Rat.neg_den]; exact h.2⟩
  · exact h
theorem abs_div {t o : Rat} (h : ¬ t * o ≤ 0) : absQ t * (((o.den : Int)) : Rat) / ((if o.num < 0 then -o.num else o.num : Int) : Rat) = t / o := by
  have e2 := nd o
  have d := dne o
  have ho : o ≠ 0 := fun z => h (by rw [z]; grind)
  unfold absQ
  have h1 : 0 < t * o := Rat.not_le.mp h
  have ht : t.num < 0 ↔ o.num < 0 := by
    rw [numlt, numlt]
    constructor
    · intro z
      rw [← Rat.not_le]
      intro y
      have := Rat.mul_nonneg (show 0 ≤ -t by grind) y
      grind
    · intro z
      rw [← Rat.not_le]
      intro y
      have := Rat.mul_nonneg y (show 0 ≤ -o by grind)
      grind
  by_cases c : o.num < 0
  · rw [if_pos (ht.mpr c), if_pos c, Rat.intCast_neg, e2]
    grind
  · rw [if_neg fun z => c (ht.mp z), if_neg c, e2]
    grind
def dWs (nm : Str) (w : Rat) : List Tr → Rat
  | [] => 0
  | x :: r => (if x.1.n == nm then w else (x.1.h : Rat)) + dWs nm w r
def dTs (nm : Str) (w : Rat) : List Tr → Rat
  | [] => 0
  | x :: r => (x.2.2 - x.2.1) * (if x.1.n == nm then w else (x.1.h : Rat)) + dTs nm w r
def does (W : Int) (fs : List One) (g : Rat) (ps : List Rat) (nm : Str) (w : Rat) (ps' : List Rat) (gap : Rat) : Bool := decide ((g - gap) * ((W : Rat) + dWs nm w (fs.zip (ps.zip ps'))) = dTs nm w (fs.zip (ps.zip ps')))
def sp__law_does : DSp := fun ws S Q => ∃ L W fs g ps nm w ps' gap, ws = [.d (eRaft L W), .d (eFolk fs), .d (eSt g ps), .d (.str nm), .d (eQ w), .d (ePl ps'), .d (eQ gap)] ∧
  (OkR L W ∧ OkF fs ∧ OkN fs ∧ (fs.map (·.n)).Nodup ∧ okS nm ∧ Sz 12 g ∧ Sz 400 gap ∧ Sz 1000 w ∧ (∀ p ∈ ps, Sz 12 p) ∧ ∀ p ∈ ps', Sz 12 p) ∧ Q (.d (.bool (does W fs g ps nm w ps' gap))) S
/-- what holds of these sums where the name is there once -/
theorem uns_out (nm : Str) (near : Rat) : ∀ (xs : List Tr), nm ∉ xs.map (·.1.n) → (∀ w, dWs nm w xs = ((sumH (others (xs.map (·.1)) nm) : Int) : Rat)) ∧ (∀ w, dTs nm w xs = uTot nm xs) ∧ ∀ o, uOwn nm near o xs = o
  | [], _ => ⟨fun w => rfl, fun w => rfl, fun o => rfl⟩
  | x :: r, h => by
    obtain ⟨h1, h2, h3⟩ := uns_out nm near r fun z => h (List.mem_cons_of_mem _ z)
    have hx : (x.1.n == nm) = false := beq_eq_false_iff_ne.mpr fun z => h (by rw [← z]; exact List.mem_cons_self)
    refine ⟨fun w => ?_, fun w => ?_, fun o => ?_⟩
    · have e : others (x.1 :: r.map (·.1)) nm = x.1 :: others (r.map (·.1)) nm := List.filter_cons_of_pos (by rw [hx]; rfl)
      show (if x.1.n == nm then w else (x.1.h : Rat)) + dWs nm w r = ((sumH (others (x.1 :: r.map (·.1)) nm) : Int) : Rat)
      rw [e, hx, h1]
      show (x.1.h : Rat) + _ = ((sumH (x.1 :: _) : Int) : Rat)
      have e2 : sumH (x.1 :: others (r.map (·.1)) nm) = x.1.h + sumH (others (r.map (·.1)) nm) := by simp [sumH]
      rw [e2, Rat.intCast_add]
    · show (x.2.2 - x.2.1) * (if x.1.n == nm then w else (x.1.h : Rat)) + dTs nm w r = (if x.1.n == nm then 0 else (x.2.2 - x.2.1) * x.1.h) + uTot nm r
      rw [hx, h2]
      rfl
    · show uOwn nm near (if x.1.n == nm then near - (x.2.2 - x.2.1) else o) r = o
      rw [hx]
      exact h3 o
theorem uns_in (nm : Str) (near : Rat) : ∀ (xs : List Tr), (xs.map (·.1.n)).Nodup → nm ∈ xs.map (·.1.n) → ∃ d : Rat, (∀ w, dWs nm w xs = ((sumH (others (xs.map (·.1)) nm) : Int) : Rat) + w) ∧ (∀ w, dTs nm w xs = uTot nm xs + d * w) ∧ ∀ o, uOwn nm near o xs = near - d
  | [], _, h => nomatch h
  | x :: r, hn, h => by
    rw [List.map_cons, List.nodup_cons] at hn
    by_cases hx : x.1.n = nm
    · have hx' : (x.1.n == nm) = true := beq_iff_eq.mpr hx
      obtain ⟨h1, h2, h3⟩ := uns_out nm near r (by rw [← hx]; exact hn.1)
      refine ⟨x.2.2 - x.2.1, fun w => ?_, fun w => ?_, fun o => ?_⟩
      · have e : others (x.1 :: r.map (·.1)) nm = others (r.map (·.1)) nm := List.filter_cons_of_neg (by rw [hx']; exact Bool.false_ne_true)
        show (if x.1.n == nm then w else (x.1.h : Rat)) + dWs nm w r = ((sumH (others (x.1 :: r.map (·.1)) nm) : Int) : Rat) + w
        rw [e, hx', h1]
        show w + _ = _
        grind
      · show (x.2.2 - x.2.1) * (if x.1.n == nm then w else (x.1.h : Rat)) + dTs nm w r = (if x.1.n == nm then 0 else (x.2.2 - x.2.1) * x.1.h) + uTot nm r + _
        rw [hx', h2]
        show (x.2.2 - x.2.1) * w + uTot nm r = 0 + uTot nm r + (x.2.2 - x.2.1) * w
        grind
      · show uOwn nm near (if x.1.n == nm then near - (x.2.2 - x.2.1) else o) r = _
        rw [hx']
        exact h3 _
    · have hx' : (x.1.n == nm) = false := beq_eq_false_iff_ne.mpr hx
      obtain ⟨d, h1, h2, h3⟩ := uns_in nm near r hn.2 (by
        rw [List.map_cons] at h
        exact (List.mem_cons.mp h).elim (fun z => absurd z.symm hx) id)
      refine ⟨d, fun w => ?_, fun w => ?_, fun o => ?_⟩
      · have e : others (x.1 :: r.map (·.1)) nm = x.1 :: others (r.map (·.1)) nm := List.filter_cons_of_pos (by rw [hx']; rfl)
        show (if x.1.n == nm then w else (x.1.h : Rat)) + dWs nm w r = ((sumH (others (x.1 :: r.map (·.1)) nm) : Int) : Rat) + w
        rw [e, hx', h1]
        have e2 : sumH (x.1 :: others (r.map (·.1)) nm) = x.1.h + sumH (others (r.map (·.1)) nm) := by simp [sumH]
        rw [e2, Rat.intCast_add]
        show (x.1.h : Rat) + _ = _
        grind
      · show (x.2.2 - x.2.1) * (if x.1.n == nm then w else (x.1.h : Rat)) + dTs nm w r = (if x.1.n == nm then 0 else (x.2.2 - x.2.1) * x.1.h) + uTot nm r + d * w
        rw [hx', h2]
        show (x.2.2 - x.2.1) * (x.1.h : Rat) + (uTot nm r + d * w) = (x.2.2 - x.2.1) * (x.1.h : Rat) + uTot nm r + d * w
        grind
      · show uOwn nm near (if x.1.n == nm then near - (x.2.2 - x.2.1) else o) r = _
        rw [hx']
        exact h3 o
theorem zip_fst_sub {α β : Type} : ∀ (xs : List α) (ys : List β), List.Sublist ((xs.zip ys).map (·.1)) xs
  | [], _ => by simp
  | x :: xs, [] => by simp
  | x :: xs, y :: ys => by
    show List.Sublist (x :: (xs.zip ys).map (·.1)) (x :: xs)
    exact (zip_fst_sub xs ys).cons₂ x
theorem zip3_fst {fs : List One} {ps ps' : List Rat} (h1 : ps.length = fs.length) (h2 : ps'.length = fs.length) : (fs.zip (ps.zip ps')).map (·.1) = fs := by
  rw [List.map_fst_zip]
  rw [List.length_zip]
  omega
theorem does_iff {W : Int} {fs : List One} {g : Rat} {ps : List Rat} {nm : Str} {ps' : List Rat} {gap : Rat} (h1 : ps.length = fs.length) (h2 : ps'.length = fs.length) (hn : (fs.map (·.n)).Nodup) (hm : nm ∈ fs.map (·.n)) (w : Rat) :
    does W fs g ps nm w ps' gap = decide (unsO fs g ps nm ps' gap * w = unsT W fs g ps nm ps' gap) := by
  have e0 := zip3_fst h1 h2
  have e1 : (fs.zip (ps.zip ps')).map (·.1.n) = fs.map (·.n) := by
    have z := congrArg (List.map fun o : One => o.n) e0
    rw [List.map_map] at z
    exact z
  obtain ⟨d, a1, a2, a3⟩ := uns_in nm (g - gap) (fs.zip (ps.zip ps')) (by rw [e1]; exact hn) (by rw [e1]; exact hm)
  unfold does unsO unsT
  rw [a1, a2, a3, e0]
  congr 1
  unfold heavy
  have e4 : ((0 - (W + sumH (others fs nm)) : Int) : Rat) = -((W : Rat) + ((sumH (others fs nm) : Int) : Rat)) := by
    rw [Rat.intCast_sub, Rat.intCast_add]
    have : ((0 : Int) : Rat) = 0 := rfl
    rw [this]
    grind
  rw [e4]
  apply propext
  constructor <;> intro h <;> grind
end Rf

namespace Rf
open PySem PySem.Spec PyProof.Rows L2 Dl Fr
abbrev d_ANY : PyData := .str "any"
abbrev d_NOUGHT : PyData := .tuple [.int 0, .int 1]
abbrev d_LETTERS : PyData := .str "abcdefghijklmnopqrstuvwxyz"
abbrev d_MOST_RAFT : PyData := .int 1000
abbrev d_MOST_FOLK : PyData := .int 7
abbrev d_MOST_HEAVY : PyData := .int 200
abbrev d_MOST_REACH : PyData := .int 100
def sp__law_of : DSp := fun ws S Q => ∃ b x ds, ws = [.c b, .d x] ∧ ((x = .list ds ∨ x = .tuple ds) ∧ Bg S b ∧ 0 < ds.length ∧ ds.length ≤ 1000) ∧ ∀ d S', d ∈ ds → Bs S b S' → Q (.d d) S'
theorem eqv_int0 {r : Rat} : PyData.eqv (.int r.num) (.int 0) = decide (r = 0) := by
  rw [eqv_int, Bool.eq_iff_iff, beq_iff_eq, decide_eq_true_eq]
  exact num0
theorem rEq_num0 {r : Rat} {S : Sto} {Q : WK} (q : Q (.d (.bool (decide (r = 0)))) S) : rEq false (.d (.int r.num)) (.d (.int 0)) S Q := by
  refine ⟨rfl, rfl, ?_⟩
  rw [eqv_int0]
  exact q
theorem itemAny {ds : List PyData} {k : Int} {Q : PyData → Prop} (h0 : 0 ≤ k) (h1 : k < ds.length) (h : ∀ x, x ∈ ds → Q x) : Dl.itemAt ds k Q := by
  obtain ⟨j, rfl⟩ := Int.eq_ofNat_of_zero_le h0
  have hj : j < ds.length := by omega
  have e2 : atI ds (j : Int) = some ds[j] := atI_nat (List.getElem?_eq_getElem hj)
  unfold Dl.itemAt
  rw [e2]
  exact h _ (List.getElem_mem hj)
end Rf

namespace Rf
open PySem PySem.Spec PyProof.Rows L2 Dl Fr
section
variable {S : Sto} {Q : WK}
theorem i_Q0 (r : Rat) : rItem (.d (eQ r)) (.d (.int 0)) S Q = Q (.d (.int r.num)) S := rfl
theorem i_Q1 (r : Rat) : rItem (.d (eQ r)) (.d (.int 1)) S Q = Q (.d (.int (r.den : Int))) S := rfl
theorem i_O0 (o : One) : rItem (.d (eOne o)) (.d (.int 0)) S Q = Q (.d (.str o.n)) S := rfl
theorem i_O1 (o : One) : rItem (.d (eOne o)) (.d (.int 1)) S Q = Q (.d (.int o.h)) S := rfl
theorem i_O2 (o : One) : rItem (.d (eOne o)) (.d (.int 2)) S Q = Q (.d (.int o.r)) S := rfl
theorem i_R0 (L W : Int) : rItem (.d (eRaft L W)) (.d (.int 0)) S Q = Q (.d (.int L)) S := rfl
theorem i_R1 (L W : Int) : rItem (.d (eRaft L W)) (.d (.int 1)) S Q = Q (.d (.int W)) S := rfl
theorem i_S0 (g : Rat) (ps : List Rat) : rItem (.d (eSt g ps)) (.d (.int 0)) S Q = Q (.d (eQ g)) S := rfl
theorem i_S1 (g : Rat) (ps : List Rat) : rItem (.d (eSt g ps)) (.d (.int 1)) S Q = Q (.d (ePl ps)) S := rfl
theorem i_T0 (a : PyData) (r : List PyData) : rItem (.d (.tuple (a :: r))) (.d (.int 0)) S Q = Q (.d a) S := by
  show Dl.itemAt (a :: r) 0 _ = _
  unfold Dl.itemAt
  rw [show atI (a :: r) 0 = some a from atI_nat (j := 0) rfl]
theorem i_T1 (a b : PyData) (r : List PyData) : rItem (.d (.tuple (a :: b :: r))) (.d (.int 1)) S Q = Q (.d b) S := by
  show Dl.itemAt (a :: b :: r) 1 _ = _
  unfold Dl.itemAt
  rw [show atI (a :: b :: r) 1 = some b from atI_nat (j := 1) rfl]
theorem c_abs (i : Int) : cAbs [.d (.int i)] S Q = Q (.d (.int (if i < 0 then -i else i))) S := rfl
theorem c_lenT (ds : List PyData) : cLen [.d (.tuple ds)] S Q = Q (.d (.int ds.length)) S := rfl
theorem c_lenL (ds : List PyData) : cLen [.d (.list ds)] S Q = Q (.d (.int ds.length)) S := rfl
theorem c_lenF (fs : List One) : cLen [.d (eFolk fs)] S Q = Q (.d (.int (fs.map eOne).length)) S := rfl
theorem gs_nil {τ : En} {R : En → Sto → Prop} : gsNil [] τ S R = R τ S := rfl
theorem gs_cons {g : DTG} {gs : DTGs} {d : PyData} {r : List PyData} {τ : En} {R : En → Sto → Prop} : gsCons g gs (d :: r) τ S R = g (.d d) τ S fun τ' S' => gs r τ' S' R := rfl
theorem c_tup (ds : List PyData) : cTuple [.d (.list ds)] S Q = Q (.d (.tuple ds)) S := rfl
end
end Rf
namespace Rf
open PySem PySem.Spec PyProof.Rows L2 Dl Fr
theorem sz_uTot (nm : Str) {n : Nat} : ∀ (xs : List Tr), (∀ x ∈ xs, 1 ≤ x.1.h ∧ x.1.h ≤ 200 ∧ Sz n x.2.1 ∧ Sz n x.2.2) → Sz (1 + xs.length * (2 * n + 10)) (uTot nm xs)
  | [], _ => by rw [List.length_nil, Nat.zero_mul]; exact sz0
  | x :: r, h => by
    obtain ⟨h1, h2, h3, h4⟩ := h x List.mem_cons_self
    have ih := sz_uTot nm r fun y hy => h y (List.mem_cons_of_mem _ hy)
    have a := (h4.sub h3).muld (t := x.1.h) (b := 1) (m := 8) (by decide) (h_lt h1 h2) (by decide)
    rw [Rat.intCast_one, rdiv_one] at a
    have a2 : Sz (n + n + 1 + 8) (if x.1.n == nm then 0 else (x.2.2 - x.2.1) * x.1.h) := by
      split
      · exact sz0.mono (by omega)
      · exact a
    refine (a2.add ih).mono ?_
    rw [List.length_cons, Nat.add_mul]
    omega
theorem sz_uOwn (nm : Str) {n m : Nat} {near : Rat} (hn : Sz m near) : ∀ (xs : List Tr) (o : Rat), (∀ x ∈ xs, Sz n x.2.1 ∧ Sz n x.2.2) → Sz (m + (2 * n + 2)) o → Sz (m + (2 * n + 2)) (uOwn nm near o xs)
  | [], o, _, ho => ho
  | x :: r, o, h, ho => by
    obtain ⟨h3, h4⟩ := h x List.mem_cons_self
    refine sz_uOwn nm hn r _ (fun y hy => h y (List.mem_cons_of_mem _ hy)) ?_
    split
    · exact (hn.sub (h4.sub h3)).mono (by omega)
    · exact ho
theorem sz_uns {W : Int} {fs : List One} {g : Rat} {ps : List Rat} {nm : Str} {ps' : List Rat} {gap : Rat} (h1 : 1 ≤ W) (h2 : W ≤ 1000) (hf : OkF fs) (hl : fs.length ≤ 5) (hg : Sz 12 g) (hgap : Sz 340 gap) (hp : ∀ p ∈ ps, Sz 12 p) (hp' : ∀ p ∈ ps', Sz 12 p) :
    Sz 600 (unsT W fs g ps nm ps' gap) ∧ Sz 390 (unsO fs g ps nm ps' gap) := by
  have hz := zip3_ok hf hp hp'
  have hlz : (fs.zip (ps.zip ps')).length ≤ 5 := by
    rw [List.length_zip]
    omega
  have hv := heavy_bd (hf.others nm) h1 h2
  have hn := hg.sub hgap
  refine ⟨?_, ?_⟩
  · have a := hn.muld (t := 0 - heavy W (others fs nm)) (b := 1) (m := 12) (by decide) (by omega) (by decide)
    rw [Rat.intCast_one, rdiv_one] at a
    refine (a.add (sz_uTot nm _ hz)).mono ?_
    have := Nat.mul_le_mul_right (2 * 12 + 10) hlz
    omega
  · exact (sz_uOwn nm (n := 12) hn _ _ (fun x hx => (hz x hx).2.2) (hn.mono (by omega))).mono (by omega)
theorem sz_quot {n m : Nat} {t o : Rat} (ht : Sz n t) (ho : Sz m o) (h : ¬ t * o ≤ 0) : Sz (n + m) (t / o) := by
  rw [← abs_div h]
  have hon : o.num ≠ 0 := fun z => h (by rw [num0.mp z]; grind)
  refine (sz_abs ht).muld ?_ (den_lt ho) ?_
  · split <;> omega
  · have := ho.1
    split
    · rw [Int.natAbs_neg]; exact this
    · exact this
def wts (h : Int) : List Rat := [Rat.divInt 1 2, ((1 : Int) : Rat), (h : Rat), ((777 : Int) : Rat)]
theorem e_wts (h : Int) : [PyData.tuple [.int 1, .int 2], .tuple [.int 1, .int 1], .tuple [.int h, .int 1], .tuple [.int 777, .int 1]] = (wts h).map eQ := by
  unfold wts
  rw [List.map_cons, List.map_cons, List.map_cons, List.map_cons, List.map_nil, e_int, e_int, e_int]
  rfl
theorem sz_wts {h : Int} (h1 : 1 ≤ h) (h2 : h ≤ 200) : ∀ w ∈ wts h, Sz 12 w ∧ 0 < w := by
  unfold wts
  simp only [List.forall_mem_cons]
  refine ⟨⟨⟨by decide +kernel, by decide +kernel⟩, by decide +kernel⟩, ⟨sz_int (by decide) (by decide), by decide +kernel⟩, ⟨sz_int (by omega) (by decide), ?_⟩, ⟨sz_int (by decide) (by decide), by decide +kernel⟩, fun _ h => nomatch h⟩
  exact_mod_cast (show (0 : Int) < h by omega)
theorem sz_lawGap {W : Int} {fs : List One} {g : Rat} {ps qs : List Rat} (h1 : 1 ≤ W) (h2 : W ≤ 1000) (hf : OkF fs) (hg : Sz 12 g) (hl : ps.length = fs.length) (hl' : qs.length = fs.length) (hp : ∀ p ∈ ps, Sz 12 p) (hq : ∀ p ∈ qs, Sz 12 p) : Sz 340 (lawGap W fs g ps qs) := by
  rw [law_gap_eq hl hl']
  exact (sz_gapBy hf h1 h2 (sz_front hf h1 h2 hg hp) hq).mono (by decide)
theorem inj_of_nodup {fs : List One} (hn : (fs.map (·.n)).Nodup) {x o : One} (hx : x ∈ fs) (ho : o ∈ fs) (e : x.n = o.n) : x = o := by
  induction fs with
  | nil => cases hx
  | cons a r ih =>
    rw [List.map_cons, List.nodup_cons] at hn
    rcases List.mem_cons.mp hx with hx | hx
    · rcases List.mem_cons.mp ho with ho | ho
      · rw [hx, ho]
      · exact absurd (List.mem_map.mpr ⟨o, ho, by rw [← e, hx]⟩) hn.1
    · rcases List.mem_cons.mp ho with ho | ho
      · exact absurd (List.mem_map.mpr ⟨x, hx, by rw [e, ho]⟩) hn.1
      · exact ih hn.2 hx ho
theorem own_zero {W : Int} {fs : List One} {g : Rat} {ps : List Rat} {nm : Str} {ps' : List Rat} (h1 : ps.length = fs.length) (h2 : ps'.length = fs.length) (hn : (fs.map (·.n)).Nodup) (hm : nm ∈ fs.map (·.n)) (o : One) (ho : o ∈ fs) (hon : o.n = nm) (hW : (0 : Rat) < (heavy W fs : Rat)) :
    does W fs g ps nm (o.h : Rat) ps' (lawGap W fs g ps ps') = true := by
  unfold does
  rw [decide_eq_true_iff]
  have hall : ∀ x ∈ fs, (if x.n == nm then (o.h : Rat) else (x.h : Rat)) = (x.h : Rat) := by
    intro x hx
    split
    · rename_i c
      have : x = o := by
        have e : x.n = o.n := (beq_iff_eq.mp c).trans hon.symm
        exact inj_of_nodup hn hx ho e
      rw [this]
    · rfl
  have e1 : ∀ xs : List Tr, (∀ x ∈ xs, x.1 ∈ fs) → dWs nm (o.h : Rat) xs = ((sumH (xs.map (·.1)) : Int) : Rat) := by
    intro xs
    induction xs with
    | nil => intro _; rfl
    | cons x r ih =>
      intro hx
      show (if x.1.n == nm then (o.h : Rat) else (x.1.h : Rat)) + dWs nm (o.h : Rat) r = ((sumH (x.1 :: r.map (·.1)) : Int) : Rat)
      rw [hall _ (hx x List.mem_cons_self), ih fun y hy => hx y (List.mem_cons_of_mem _ hy)]
      have e2 : sumH (x.1 :: r.map (·.1)) = x.1.h + sumH (r.map (·.1)) := by simp [sumH]
      rw [e2, Rat.intCast_add]
  have e2 : ∀ xs : List Tr, (∀ x ∈ xs, x.1 ∈ fs) → dTs nm (o.h : Rat) xs = shiftP xs := by
    intro xs
    induction xs with
    | nil => intro _; rfl
    | cons x r ih =>
      intro hx
      show (x.2.2 - x.2.1) * (if x.1.n == nm then (o.h : Rat) else (x.1.h : Rat)) + dTs nm (o.h : Rat) r = (x.2.2 - x.2.1) * x.1.h + shiftP r
      rw [hall _ (hx x List.mem_cons_self), ih fun y hy => hx y (List.mem_cons_of_mem _ hy)]
  have hmem : ∀ x ∈ fs.zip (ps.zip ps'), x.1 ∈ fs := fun x hx => (List.of_mem_zip (a := x.1) (b := x.2) hx).1
  rw [e1 _ hmem, e2 _ hmem, zip3_fst h1 h2]
  unfold lawGap
  have e3 : (W : Rat) + ((sumH fs : Int) : Rat) = (heavy W fs : Rat) := by unfold heavy; rw [Rat.intCast_add]
  rw [e3]
  show (g - (g - shift fs ps ps' / (heavy W fs : Rat))) * (heavy W fs : Rat) = shift fs ps ps'
  grind
/-- True, False in a list of truths -/
theorem any_bools (b : Bool) : ∀ bs : List Bool, ((bs.map PyData.bool).any fun z => PyData.eqv z (.bool b)) = bs.contains b
  | [] => rfl
  | c :: bs => by
    rw [List.map_cons, List.any_cons, any_bools b bs, List.contains_cons]
    simp only [PyData.eqv]
    cases c <;> cases b <;> rfl
theorem sh_bools (bs : List Bool) : SeqAt.shaped (.list (bs.map PyData.bool)) = true := by
  have h1 : ∀ bs : List Bool, PyData.canLayAll0 (bs.map PyData.bool) = true := by
    intro bs
    induction bs with
    | nil => rfl
    | cons b r ih => rw [List.map_cons, PyData.canLayAll0, ih]; rfl
  have h2 : ∀ bs : List Bool, PyData.depthAll (bs.map PyData.bool) ≤ 1 := by
    intro bs
    induction bs with
    | nil => simp [PyData.depthAll]
    | cons b r ih => rw [List.map_cons, PyData.depthAll, PyData.depth]; omega
  unfold SeqAt.shaped
  rw [PyData.canLay0, h1, PyData.depth]
  have := h2 bs
  simp
  omega
theorem rIn_bools {b : Bool} {bs : List Bool} {S : Sto} {Q : WK} (q : Q (.d (.bool (bs.contains b))) S) : Dl.rIn false (.d (.bool b)) (.d (.list (bs.map PyData.bool))) S Q := by
  refine ⟨rfl, sh_bools bs, ?_⟩
  show Q (.d (.bool ((bs.map PyData.bool).any fun z => PyData.eqv z (.bool b)))) S
  rw [any_bools]
  exact q
end Rf
namespace Rf
open PySem PySem.Spec PyProof.Rows L2 Dl Fr
/-! ### data that can be compared -/
def Shp (n : Nat) (d : PyData) : Prop := d.canLay0 = true ∧ d.depth ≤ n
theorem Shp.mono {n m : Nat} {d : PyData} (h : Shp n d) (hm : n ≤ m) : Shp m d := ⟨h.1, Nat.le_trans h.2 hm⟩
theorem Shp.ok {n : Nat} {d : PyData} (h : Shp n d) (hn : n ≤ 64 := by decide) : SeqAt.shaped d = true := by
  unfold SeqAt.shaped
  rw [h.1, decide_eq_true (Nat.le_trans h.2 hn)]
  rfl
theorem shp_all {n : Nat} : ∀ {ds : List PyData}, (∀ x ∈ ds, Shp n x) → PyData.canLayAll0 ds = true ∧ PyData.depthAll ds ≤ n
  | [], _ => ⟨rfl, by simp [PyData.depthAll]⟩
  | d :: ds, h => by
    obtain ⟨h1, h2⟩ := shp_all fun x hx => h x (List.mem_cons_of_mem _ hx)
    obtain ⟨h3, h4⟩ := h d List.mem_cons_self
    refine ⟨by rw [PyData.canLayAll0, h1, h3]; rfl, by rw [PyData.depthAll]; omega⟩
theorem shp_list {n : Nat} {ds : List PyData} (h : ∀ x ∈ ds, Shp n x) : Shp (n + 1) (.list ds) := by
  obtain ⟨h1, h2⟩ := shp_all h
  exact ⟨by rw [PyData.canLay0, h1], by rw [PyData.depth]; omega⟩
theorem shp_tup {n : Nat} {ds : List PyData} (h : ∀ x ∈ ds, Shp n x) : Shp (n + 1) (.tuple ds) := by
  obtain ⟨h1, h2⟩ := shp_all h
  exact ⟨by rw [PyData.canLay0, h1], by rw [PyData.depth]; omega⟩
theorem shp_int (i : Int) : Shp 0 (.int i) := ⟨rfl, by simp [PyData.depth]⟩
theorem shp_bool (i : Bool) : Shp 0 (.bool i) := ⟨rfl, by simp [PyData.depth]⟩
theorem shp_none : Shp 0 .none := ⟨rfl, by simp [PyData.depth]⟩
theorem shp_str {s : Str} (h : okS s) : Shp 0 (.str s) := ⟨SeqAt.canLay_of_shaped h, by simp [PyData.depth]⟩
theorem shp_Q (r : Rat) : Shp 1 (eQ r) := shp_tup (by simp only [List.forall_mem_cons]; exact ⟨shp_int _, shp_int _, fun _ h => nomatch h⟩)
theorem shp_one {o : One} (h : okS o.n) : Shp 1 (eOne o) := shp_tup (by simp only [List.forall_mem_cons]; exact ⟨shp_str h, shp_int _, shp_int _, fun _ h => nomatch h⟩)
theorem shp_folk {fs : List One} (h : OkN fs) : Shp 2 (eFolk fs) := shp_tup fun x hx => by
  obtain ⟨o, ho, rfl⟩ := List.mem_map.mp hx
  exact shp_one (h o ho)
theorem shp_pl (ps : List Rat) : Shp 2 (ePl ps) := shp_tup fun x hx => by
  obtain ⟨o, ho, rfl⟩ := List.mem_map.mp hx
  exact shp_Q o
theorem shp_st (g : Rat) (ps : List Rat) : Shp 3 (eSt g ps) := shp_tup (by simp only [List.forall_mem_cons]; exact ⟨(shp_Q g).mono (by decide), shp_pl _, fun _ h => nomatch h⟩)
theorem okS_any : okS "any" := by unfold okS; decide +kernel
theorem k09_fin {gap own : Rat} {h : Int} {d : PyData} {S : Sto} {Kt Kn : Sto → Prop} (hs : SeqAt.shaped d = true) (hyp : gap = own → PyData.eqv (.str "any") d = true ∨ PyData.eqv (eQ (h : Rat)) d = true) (hk : Kn S) :
    Dl.rEq false (.d (eQ gap)) (.d (eQ own)) S fun x S1 => asB x fun i => if i = true then 2 ≤ 1000 ∧ 2 ≤ 1000 ∧ Dl.rIn true (.d d) (.d (.list [.str "any", .tuple [.int h, .int 1]])) S1 fun x S1 => asB x fun i => if i = true then Kt S1 else Kn S1 else if false = true then Kt S1 else Kn S1 := by
  refine rEq_Q ?_
  refine ite2 (fun c => ?_) fun c => iteF hk
  refine ⟨k2, k2, hs, (shp_list (n := 1) (by simp only [List.forall_mem_cons]; exact ⟨(shp_str okS_any).mono (by decide), by rw [← e_int]; exact shp_Q _, fun _ h => nomatch h⟩)).ok, ?_⟩
  have e : ([PyData.str "any", .tuple [.int h, .int 1]].any fun z => PyData.eqv z d) = true := by
    rw [List.any_cons, List.any_cons, ← e_int]
    rcases hyp (of_decide_eq_true c) with q | q
    · rw [q]; rfl
    · rw [q, Bool.true_or, Bool.or_true]
  show asB (.d (.bool (!([PyData.str "any", .tuple [.int h, .int 1]].any fun z => PyData.eqv z d)))) _
  rw [e]
  show if (!true) = true then Kt S else Kn S
  rw [if_neg (by decide)]
  exact hk
end Rf

namespace Rf
open PySem PySem.Spec PyProof.Rows L2 Dl Fr
/-! ### sums over walks, the places a tuple or a list -/
def SqOf (x : PyData) (ds : List PyData) : Prop := x = .tuple ds ∨ x = .list ds
def sp__law_shiftL : DSp := fun ws S Q => ∃ fs ps ps' x a b, ws = [.d (eFolk fs), .d (ePl ps), .d x] ∧ SqOf x (ps'.map eQ) ∧ (OkF fs ∧ a + b ≤ 400 ∧ (∀ p ∈ ps, Sz a p) ∧ ∀ p ∈ ps', Sz b p) ∧ Q (.d (eQ (shift fs ps ps'))) S
theorem zip3_okL {a b : Nat} {fs : List One} {ps ps' : List Rat} (hf : OkF fs) (hp : ∀ p ∈ ps, Sz a p) (hp' : ∀ p ∈ ps', Sz b p) : ∀ x ∈ fs.zip (ps.zip ps'), 1 ≤ x.1.h ∧ x.1.h ≤ 200 ∧ Sz a x.2.1 ∧ Sz b x.2.2 := fun x hx => by
  have h := List.of_mem_zip (a := x.1) (b := x.2) hx
  have h2 := List.of_mem_zip (a := x.2.1) (b := x.2.2) h.2
  exact ⟨hf.lo _ h.1, hf.hi _ h.1, hp _ h2.1, hp' _ h2.2⟩
theorem sz_shiftPL {a b : Nat} : ∀ (xs : List (One × Rat × Rat)), (∀ x ∈ xs, 1 ≤ x.1.h ∧ x.1.h ≤ 200 ∧ Sz a x.2.1 ∧ Sz b x.2.2) → Sz (1 + xs.length * (a + b + 10)) (shiftP xs)
  | [], _ => by rw [List.length_nil, Nat.zero_mul]; exact sz0
  | x :: r, h => by
    obtain ⟨h1, h2, h3, h4⟩ := h x List.mem_cons_self
    have ih := sz_shiftPL r fun y hy => h y (List.mem_cons_of_mem _ hy)
    have q := (h4.sub h3).muld (t := x.1.h) (b := 1) (m := 8) (by decide) (h_lt h1 h2) (by decide)
    rw [Rat.intCast_one, rdiv_one] at q
    refine (q.add ih).mono ?_
    rw [List.length_cons, Nat.add_mul]
    omega
theorem sz_shiftL {a b : Nat} {fs : List One} {ps ps' : List Rat} (hf : OkF fs) (hab : a + b ≤ 400) (hp : ∀ p ∈ ps, Sz a p) (hp' : ∀ p ∈ ps', Sz b p) : Sz 2900 (shift fs ps ps') := by
  refine (sz_shiftPL _ (zip3_okL hf hp hp')).mono ?_
  have h1 : (fs.zip (ps.zip ps')).length ≤ 7 := by
    rw [List.length_zip]
    have := hf.len
    omega
  have := Nat.mul_le_mul h1 (show a + b + 10 ≤ 410 by omega)
  omega
def sp__law_gapL : DSp := fun ws S Q => ∃ L W fs g ps ps' x a b, ws = [.d (eRaft L W), .d (eFolk fs), .d (eSt g ps), .d x] ∧ SqOf x (ps'.map eQ) ∧ (OkR L W ∧ OkF fs ∧ Sz 1000 g ∧ a + b ≤ 400 ∧ (∀ p ∈ ps, Sz a p) ∧ ∀ p ∈ ps', Sz b p) ∧ Q (.d (eQ (lawGap W fs g ps ps'))) S
def sp__law_frontL : DSp := fun ws S Q => ∃ L W fs g ps, ws = [.d (eRaft L W), .d (eFolk fs), .d (eSt g ps)] ∧ (OkR L W ∧ OkF fs ∧ 0 < fs.length ∧ Sz 1000 g ∧ (∀ p ∈ ps, Sz 380 p)) ∧ Q (.d (eQ (lawGap W fs g ps (List.replicate fs.length ((0 : Int) : Rat))))) S
/-! ### which things are what -/
def isWh : PyData → Bool
  | .int _ => true
  | _ => false
def isFr : PyData → Bool
  | .tuple [.int t, .int b] => decide (0 ≤ t) && (decide (1 ≤ b) && (decide ((Rat.divInt t b).num = t) && decide (((Rat.divInt t b).den : Int) = b)))
  | _ => false
theorem isFr_Q (r : Rat) : isFr (eQ r) = decide (0 ≤ r) := by
  show (decide (0 ≤ r.num) && (decide (1 ≤ (r.den : Int)) && (decide ((Rat.divInt r.num (r.den : Int)).num = r.num) && decide (((Rat.divInt r.num (r.den : Int)).den : Int) = (r.den : Int))))) = _
  rw [Rat.num_divInt_den]
  have := dpos r
  rw [decide_eq_true (show 1 ≤ (r.den : Int) by omega), decide_eq_true rfl, decide_eq_true rfl, Bool.and_true, Bool.and_true, Bool.and_true, Bool.eq_iff_iff, decide_eq_true_iff, decide_eq_true_iff]
  exact num_nonneg
theorem isFr_of {d : PyData} (h : isFr d = true) : ∃ r : Rat, 0 ≤ r ∧ d = eQ r := by
  unfold isFr at h
  split at h
  · rename_i t b
    simp only [Bool.and_eq_true, decide_eq_true_iff] at h
    obtain ⟨h1, h2, h3, h4⟩ := h
    refine ⟨Rat.divInt t b, Rat.divInt_nonneg h1 (by omega), ?_⟩
    unfold eQ
    rw [h3, h4]
  · cases h
/-- a thing's numbers have few bits -/
def sml (n : Nat) : PyData → Prop
  | .int i => i.natAbs < 2 ^ n
  | .list ds => smlAll n ds
  | .tuple ds => smlAll n ds
  | .none => True
  | .bool _ => True
  | .str _ => True
  | .dict _ => True
where smlAll (n : Nat) : List PyData → Prop
  | [] => True
  | d :: ds => sml n d ∧ smlAll n ds
theorem smlAll_iff {n : Nat} : ∀ {ds : List PyData}, sml.smlAll n ds ↔ ∀ d ∈ ds, sml n d
  | [] => ⟨fun _ _ h => (nomatch h), fun _ => trivial⟩
  | d :: ds => by
    rw [List.forall_mem_cons]
    show sml n d ∧ sml.smlAll n ds ↔ _
    rw [smlAll_iff]
theorem sml_Q {n : Nat} {r : Rat} : sml n (eQ r) ↔ Sz n r := by
  show r.num.natAbs < 2 ^ n ∧ ((r.den : Int)).natAbs < 2 ^ n ∧ True ↔ _
  rw [Int.natAbs_natCast]
  exact ⟨fun h => ⟨h.1, h.2.1⟩, fun h => ⟨h.1, h.2, trivial⟩⟩
def sp_is_whole : DSp := fun ws S Q => ∃ d, ws = [.d d] ∧ Q (.d (.bool (isWh d))) S
def sp_is_fraction : DSp := fun ws S Q => ∃ d, ws = [.d d] ∧ sml 3000 d ∧ Q (.d (.bool (isFr d))) S
def valQ : PyData → Rat
  | .tuple [.int t, .int b] => Rat.divInt t b
  | _ => 0
theorem valQ_Q (r : Rat) : valQ (eQ r) = r := Rat.num_divInt_den r
def plOk (L : Int) (p : PyData) : Bool := isFr p && !decide ((L : Rat) < valQ p)
def isPl (L : Int) (n : Nat) : PyData → Bool
  | .tuple ds => decide (ds.length = n) && ds.all (plOk L)
  | _ => false
def isSt (L : Int) (n : Nat) : PyData → Bool
  | .tuple [a, b] => isFr a && isPl L n b
  | _ => false
def sp_are_places : DSp := fun ws S Q => ∃ L W fs d, ws = [.d (eRaft L W), .d (eFolk fs), .d d] ∧ (OkR L W ∧ fs.length ≤ 1000 ∧ sml 3000 d) ∧ Q (.d (.bool (isPl L fs.length d))) S
def sp_is_standing : DSp := fun ws S Q => ∃ L W fs d, ws = [.d (eRaft L W), .d (eFolk fs), .d d] ∧ (OkR L W ∧ fs.length ≤ 1000 ∧ sml 3000 d) ∧ Q (.d (.bool (isSt L fs.length d))) S
theorem isPl_of {L : Int} {n : Nat} {d : PyData} (h : isPl L n d = true) : ∃ ps : List Rat, d = ePl ps ∧ ps.length = n ∧ ∀ p ∈ ps, 0 ≤ p ∧ p ≤ L := by
  unfold isPl at h
  split at h
  · rename_i ds
    simp only [Bool.and_eq_true, decide_eq_true_iff, List.all_eq_true] at h
    obtain ⟨h1, h2⟩ := h
    have key : ∀ ds : List PyData, (∀ x ∈ ds, plOk L x = true) → ∃ ps : List Rat, ds = ps.map eQ ∧ ∀ p ∈ ps, 0 ≤ p ∧ p ≤ L := by
      intro ds
      induction ds with
      | nil => intro _; exact ⟨[], rfl, fun _ h => nomatch h⟩
      | cons d r ih =>
        intro h
        obtain ⟨ps, e, q⟩ := ih fun x hx => h x (List.mem_cons_of_mem _ hx)
        have hd := h d List.mem_cons_self
        unfold plOk at hd
        rw [Bool.and_eq_true] at hd
        obtain ⟨r0, hr0, rfl⟩ := isFr_of hd.1
        rw [valQ_Q] at hd
        refine ⟨r0 :: ps, by rw [e]; rfl, ?_⟩
        rw [List.forall_mem_cons]
        have h4 := hd.2
        simp only [Bool.not_eq_true', decide_eq_false_iff_not, Rat.not_lt] at h4
        exact ⟨⟨hr0, h4⟩, q⟩
    obtain ⟨ps, rfl, q⟩ := key ds h2
    exact ⟨ps, rfl, by rw [List.length_map] at h1; exact h1, q⟩
  · cases h
theorem isPl_pl {L : Int} {ps : List Rat} (h : ∀ p ∈ ps, 0 ≤ p ∧ p ≤ L) : isPl L ps.length (ePl ps) = true := by
  show (decide ((ps.map eQ).length = ps.length) && (ps.map eQ).all (plOk L)) = true
  rw [List.length_map, decide_eq_true rfl, Bool.true_and, List.all_eq_true]
  intro x hx
  obtain ⟨p, hp, rfl⟩ := List.mem_map.mp hx
  unfold plOk
  rw [isFr_Q, valQ_Q, decide_eq_true (h p hp).1, decide_eq_false (Rat.not_lt.mpr (h p hp).2)]
  rfl
/-! ### stepping off -/
def oneOf (fs : List One) (nm : Str) : One := (those fs nm).headD ⟨"", 0, 0⟩
def canF (L W : Int) (fs : List One) (front : Rat) (nm : Str) : Bool := !decide (((oneOf fs nm).r : Rat) < front - Rat.divInt (L * sumH (others fs nm)) (heavy W fs))
def far (fs : List One) (front : Rat) (nm : Str) : Rat := if ((oneOf fs nm).r : Rat) < front then ((oneOf fs nm).r : Rat) else front
def placeAt (W : Int) (fs : List One) (front : Rat) (nm : Str) (gap : Rat) : Rat := if sumH (others fs nm) > 0 then (front - gap) * (heavy W fs : Rat) / (sumH (others fs nm) : Rat) else 0
def placesAt (W : Int) (fs : List One) (front : Rat) (nm : Str) (gap : Rat) : List Rat := fs.map fun o => if o.n == nm then 0 else placeAt W fs front nm gap
/-- folk that can be, all of them -/
structure OkG (fs : List One) : Prop where
  f : OkF fs
  n : OkN fs
  nd : (fs.map (·.n)).Nodup
  r1 : ∀ o ∈ fs, 0 ≤ o.r
  r2 : ∀ o ∈ fs, o.r ≤ 100
theorem DrF.okG {most : Int} {fs : List One} (h : DrF most fs) (hm : most ≤ 7) : OkG fs := ⟨h.ok hm, h.okN, h.nodup, h.r1, h.r2⟩
theorem those_one {fs : List One} (h : (fs.map (·.n)).Nodup) {o : One} (ho : o ∈ fs) : those fs o.n = [o] := by
  induction fs with
  | nil => cases ho
  | cons a r ih =>
    rw [List.map_cons, List.nodup_cons] at h
    unfold those at ih ⊢
    rcases List.mem_cons.mp ho with e | ho
    · subst e
      rw [List.filter_cons_of_pos (by simp)]
      rw [List.filter_eq_nil_iff.mpr]
      intro x hx z
      exact h.1 (List.mem_map.mpr ⟨x, hx, beq_iff_eq.mp z⟩)
    · rw [List.filter_cons_of_neg (by
        intro z
        exact h.1 (List.mem_map.mpr ⟨o, ho, (beq_iff_eq.mp z).symm⟩))]
      exact ih h.2 ho
theorem oneOf_eq {fs : List One} (h : (fs.map (·.n)).Nodup) {o : One} (ho : o ∈ fs) : oneOf fs o.n = o := by
  unfold oneOf
  rw [those_one h ho]
  rfl
theorem OkG.mem {fs : List One} (h : OkG fs) {nm : Str} (hm : nm ∈ fs.map (·.n)) : ∃ o ∈ fs, o.n = nm ∧ those fs nm = [o] ∧ oneOf fs nm = o ∧ okS nm := by
  obtain ⟨o, ho, rfl⟩ := List.mem_map.mp hm
  exact ⟨o, ho, rfl, those_one h.nd ho, oneOf_eq h.nd ho, h.n o ho⟩
def sp_can_from : DSp := fun ws S Q => ∃ L W fs front nm, ws = [.d (eRaft L W), .d (eFolk fs), .d (eQ front), .d (.str nm)] ∧ (OkR L W ∧ OkG fs ∧ nm ∈ fs.map (·.n) ∧ Sz 2500 front) ∧ Q (.d (.bool (canF L W fs front nm))) S
def sp_farthest : DSp := fun ws S Q => ∃ fs front nm, ws = [.d (eFolk fs), .d (eQ front), .d (.str nm)] ∧ (OkG fs ∧ nm ∈ fs.map (·.n) ∧ Sz 2500 front) ∧ Q (.d (eQ (far fs front nm))) S
def sp_places_at : DSp := fun ws S Q => ∃ L W fs front nm gap, ws = [.d (eRaft L W), .d (eFolk fs), .d (eQ front), .d (.str nm), .d (eQ gap)] ∧ (OkR L W ∧ OkG fs ∧ nm ∈ fs.map (·.n) ∧ Sz 1400 front ∧ Sz 1400 gap) ∧ Q (.d (ePl (placesAt W fs front nm gap))) S
def plFor (L W : Int) (fs : List One) (front : Rat) (nm : Str) : PyData := if canF L W fs front nm = true then ePl (placesAt W fs front nm (far fs front nm)) else .none
def sp_places_for : DSp := fun ws S Q => ∃ L W fs g ps nm, ws = [.d (eRaft L W), .d (eFolk fs), .d (eSt g ps), .d (.str nm)] ∧ (OkR L W ∧ OkG fs ∧ nm ∈ fs.map (·.n) ∧ Sz 1000 g ∧ (∀ p ∈ ps, Sz 40 p)) ∧ Q (.d (plFor L W fs (frontG W fs g ps) nm)) S
def sp_can_step : DSp := fun ws S Q => ∃ L W fs g ps, ws = [.d (eRaft L W), .d (eFolk fs), .d (eSt g ps)] ∧ (OkR L W ∧ OkG fs ∧ Sz 1000 g ∧ (∀ p ∈ ps, Sz 100 p)) ∧ ∀ p, S p = none → Q (.c p) (put S p (.lst ((fs.filter fun o => canF L W fs (frontG W fs g ps) o.n).map fun o => .str o.n)))
theorem okG_r {fs : List One} (h : OkG fs) {nm : Str} (hm : nm ∈ fs.map (·.n)) : 0 ≤ (oneOf fs nm).r ∧ (oneOf fs nm).r ≤ 100 := by
  obtain ⟨o, ho, _, _, e, _⟩ := h.mem hm
  rw [e]
  exact ⟨h.r1 o ho, h.r2 o ho⟩
theorem sz_far {n : Nat} {fs : List One} (h : OkG fs) {nm : Str} (hm : nm ∈ fs.map (·.n)) {front : Rat} (hf : Sz n front) (hn : 7 ≤ n) : Sz n (far fs front nm) := by
  have := okG_r h hm
  unfold far
  split
  · exact (sz_int (n := 7) (by omega) (by decide)).mono hn
  · exact hf
theorem sumH_others {fs : List One} (h : OkF fs) (nm : Str) : 0 ≤ sumH (others fs nm) ∧ sumH (others fs nm) ≤ 1400 := by
  have h1 := h.others nm
  have := sumH_bd h1.lo h1.hi
  have := h1.len
  omega
theorem sz_placeAt {n m : Nat} {W : Int} {fs : List One} {front gap : Rat} {nm : Str} (h : OkF fs) (h1 : 1 ≤ W) (h2 : W ≤ 1000) (hf : Sz n front) (hg : Sz m gap) : Sz (n + m + 13) (placeAt W fs front nm gap) := by
  unfold placeAt
  split
  · have hv := heavy_bd h h1 h2
    have hs := sumH_others h nm
    exact ((hf.sub hg).muld (m := 12) (by omega) (by omega) (by omega)).mono (by omega)
  · exact sz0.mono (by omega)
theorem sz_placesAt {n m : Nat} {W : Int} {fs : List One} {front gap : Rat} {nm : Str} (h : OkF fs) (h1 : 1 ≤ W) (h2 : W ≤ 1000) (hf : Sz n front) (hg : Sz m gap) : ∀ p ∈ placesAt W fs front nm gap, Sz (n + m + 13) p := fun p hp => by
  obtain ⟨o, ho, rfl⟩ := List.mem_map.mp hp
  show Sz _ (if o.n == nm then 0 else placeAt W fs front nm gap)
  split
  · exact sz0.mono (by omega)
  · exact sz_placeAt h h1 h2 hf hg
end Rf
namespace Rf
open PySem PySem.Spec PyProof.Rows L2 Dl Fr
theorem rEq_int {i j : Int} {S : Sto} {Q : WK} (q : Q (.d (.bool (decide (i = j)))) S) : rEq false (.d (.int i)) (.d (.int j)) S Q := by
  refine ⟨rfl, rfl, ?_⟩
  rw [eqv_int]
  exact q
theorem rNe_int {i j : Int} {S : Sto} {Q : WK} (q : Q (.d (.bool (!decide (i = j)))) S) : rEq true (.d (.int i)) (.d (.int j)) S Q := by
  refine ⟨rfl, rfl, ?_⟩
  rw [eqv_int]
  exact q
theorem iteT' {c A B : Prop} [Decidable c] (h : c) (q : A) : if decide c = true then A else B := by
  rw [decide_eq_true h]
  exact q
theorem iteNT {c A B : Prop} [Decidable c] (h : c) (q : B) : if (!decide c) = true then A else B := by
  rw [decide_eq_true h]
  exact q
theorem iteNF {c A B : Prop} [Decidable c] (h : ¬ c) (q : A) : if (!decide c) = true then A else B := by
  rw [decide_eq_false h]
  exact q
/-- a list of just two -/
theorem two_or (ds : List PyData) : (∃ a b, ds = [a, b]) ∨ (ds.length : Int) ≠ 2 := by
  match ds with
  | [] => exact .inr (by decide)
  | [a] => exact .inr (by show ((1 : Nat) : Int) ≠ 2; decide)
  | [a, b] => exact .inl ⟨a, b, rfl⟩
  | a :: b :: c :: r => exact .inr (by rw [List.length_cons, List.length_cons, List.length_cons]; omega)
theorem three_or (ds : List PyData) : (∃ a b c, ds = [a, b, c]) ∨ (ds.length : Int) ≠ 3 := by
  match ds with
  | [] => exact .inr (by decide)
  | [a] => exact .inr (by show ((1 : Nat) : Int) ≠ 3; decide)
  | [a, b] => exact .inr (by show ((2 : Nat) : Int) ≠ 3; decide)
  | [a, b, c] => exact .inl ⟨a, b, c, rfl⟩
  | a :: b :: c :: d :: r => exact .inr (by rw [List.length_cons, List.length_cons, List.length_cons, List.length_cons]; omega)
theorem isFr_not2 {ds : List PyData} (h : (ds.length : Int) ≠ 2) : isFr (.tuple ds) = false := by
  unfold isFr
  split
  · rename_i e
    injection e with e
    rw [e] at h
    exact absurd rfl h
  · rfl
theorem isSt_not2 {L : Int} {n : Nat} {ds : List PyData} (h : (ds.length : Int) ≠ 2) : isSt L n (.tuple ds) = false := by
  unfold isSt
  split
  · rename_i e
    injection e with e
    rw [e] at h
    exact absurd rfl h
  · rfl
theorem low_eqv {t b : Int} (hb : 1 ≤ b) : PyData.eqv (eQ (Rat.divInt t b)) (.tuple [.int t, .int b]) = (decide ((Rat.divInt t b).num = t) && decide (((Rat.divInt t b).den : Int) = b)) := by
  unfold eQ
  simp only [PyData.eqv, PyData.eqvAll, Bool.and_true]
  congr 1
end Rf
namespace Rf
open PySem PySem.Spec PyProof.Rows L2 Dl Fr
/-! ### a place within a list -/
theorem cut_lo {xs ys : List PyData} : Dl.cutD (xs ++ ys) none (some (xs.length : Int)) = xs := by
  unfold Dl.cutD
  rw [HT.sIx_none, HT.sIx_nat, List.length_append, List.drop_zero, Nat.min_eq_left (by omega), Nat.sub_zero, List.take_left']
  rfl
theorem cut_hi {xs ys : List PyData} {y : PyData} : Dl.cutD (xs ++ y :: ys) (some ((xs.length : Int) + 1)) none = ys := by
  unfold Dl.cutD
  have e : ((xs.length : Int) + 1) = ((xs.length + 1 : Nat) : Int) := by omega
  rw [e, HT.sIx_nat, HT.sIx_none, List.length_append, List.length_cons, Nat.min_eq_left (by omega)]
  have e2 : List.drop (xs.length + 1) (xs ++ y :: ys) = ys := by
    rw [List.append_cons, List.drop_left']
    simp
  rw [e2]
  have e3 : xs.length + (ys.length + 1) - (xs.length + 1) = ys.length := by omega
  rw [e3, List.take_length]
theorem itemMid {xs ys : List PyData} {y : PyData} {S : Sto} {Q : WK} (q : Q (.d y) S) : rItem (.d (.tuple (xs ++ y :: ys))) (.d (.int (xs.length : Int))) S Q := by
  refine tupItem (atI_nat ?_) q
  rw [List.getElem?_append_right (Nat.le_refl _), Nat.sub_self]
  rfl
theorem idx_at {A B : List One} {o : One} {Qn : Nat → Prop} (hA : ∀ x ∈ A, x.n ≠ o.n) (q : Qn A.length) :
    ∃ (j : Nat) (z : PyData), ((A ++ o :: B).map fun x => PyData.str x.n)[j]? = some z ∧ PyData.eqv z (.str o.n) = true ∧ (∀ (m : Nat) (z' : PyData), m < j → ((A ++ o :: B).map fun x => PyData.str x.n)[m]? = some z' → PyData.eqv z' (.str o.n) = false) ∧ Qn j := by
  refine ⟨A.length, .str o.n, ?_, by rw [eqv_str]; exact beq_self_eq_true _, fun m z' hm hz => ?_, q⟩
  · rw [List.getElem?_map, List.getElem?_append_right (Nat.le_refl _), Nat.sub_self]
    rfl
  · rw [List.getElem?_map, List.getElem?_append_left hm] at hz
    rw [List.getElem?_eq_getElem hm] at hz
    cases hz
    rw [eqv_str]
    exact beq_eq_false_iff_ne.mpr (hA _ (List.getElem_mem hm))
theorem sh_names {fs : List One} (h : OkN fs) : SeqAt.shaped (.list (fs.map fun o => PyData.str o.n)) = true := (shp_list (n := 0) fun x hx => by
  obtain ⟨o, ho, rfl⟩ := List.mem_map.mp hx
  exact shp_str (h o ho)).ok
/-- somebody of the name, with the places -/
theorem split_at {fs : List One} (h : (fs.map (·.n)).Nodup) {o : One} (ho : o ∈ fs) : ∃ A B, fs = A ++ o :: B ∧ (∀ x ∈ A, x.n ≠ o.n) ∧ others fs o.n = A ++ B := by
  obtain ⟨A, B, rfl⟩ := List.append_of_mem ho
  rw [List.map_append, List.map_cons] at h
  have h1 : ∀ x ∈ A, x.n ≠ o.n := fun x hx e => by
    have := (List.nodup_append.mp h).2.2 x.n (List.mem_map_of_mem hx) o.n List.mem_cons_self
    exact this e
  have h2 : ∀ x ∈ B, x.n ≠ o.n := fun x hx e => by
    have := (List.nodup_cons.mp (List.nodup_append.mp h).2.1).1
    exact this (List.mem_map.mpr ⟨x, hx, e⟩)
  refine ⟨A, B, rfl, h1, ?_⟩
  unfold others
  rw [List.filter_append, List.filter_cons_of_neg (by simp), List.filter_eq_self.mpr, List.filter_eq_self.mpr]
  · intro x hx
    simpa using h2 x hx
  · intro x hx
    simpa using h1 x hx
theorem split_len {ps : List Rat} {a b : Nat} (h : ps.length = a + (b + 1)) : ∃ PA q PB, ps = PA ++ q :: PB ∧ PA.length = a ∧ PB.length = b := by
  refine ⟨ps.take a, ps[a]'(by omega), ps.drop (a + 1), ?_, by rw [List.length_take]; omega, by rw [List.length_drop]; omega⟩
  rw [List.getElem_cons_drop, List.take_append_drop]
def stepD (A : List One) (o : One) (B : List One) (g : Rat) (PA : List Rat) (q : Rat) (PB : List Rat) : PyData := if q = 0 ∧ ¬ (o.r : Rat) < g then .tuple [eFolk (A ++ B), eSt g (PA ++ PB)] else .none
def sp_stepped : DSp := fun ws S Q => ∃ d A o B g PA q PB, ws = [.d d, .d (eFolk (A ++ o :: B)), .d (eSt g (PA ++ q :: PB)), .d (.str o.n)] ∧ (OkG (A ++ o :: B) ∧ PA.length = A.length ∧ PA.length + PB.length ≤ 900 ∧ Sz 3000 g) ∧ Q (.d (stepD A o B g PA q PB)) S
end Rf
namespace Rf
open PySem PySem.Spec PyProof.Rows L2 Dl Fr
theorem c_slT {S : Sto} {Q : WK} (ds : List PyData) (lo hi : Option Int) : rSlT (.d (.tuple ds)) lo hi S Q = Q (.d (.tuple (Dl.cutD ds lo hi))) S := rfl
theorem c_cat {S : Sto} {Q : WK} (xs ys : List PyData) : rCat (.d (.tuple xs)) (.d (.tuple ys)) S Q = (xs.length + ys.length ≤ 1000 ∧ Q (.d (.tuple (xs ++ ys))) S) := rfl
end Rf
namespace Rf
open PySem PySem.Spec PyProof.Rows L2 Dl Fr
/-! ### the mathematics of stepping off -/
theorem hpos' {W : Int} {fs : List One} (hf : OkF fs) {L : Int} (hr : OkR L W) : (0 : Rat) < (heavy W fs : Rat) := hpos hf hr.w1 hr.w2
theorem drive_if (nm : Str) (a : Rat) : ∀ fs : List One, drive fs (fs.map fun o => if o.n == nm then 0 else a) = a * (sumH (others fs nm) : Rat)
  | [] => by show (0 : Rat) = a * ((0 : Int) : Rat); rw [Rat.intCast_zero]; grind
  | o :: fs => by
    have ih := drive_if nm a fs
    show (if o.n == nm then 0 else a) * o.h + drive fs (fs.map fun o => if o.n == nm then 0 else a) = _
    rw [ih]
    by_cases c : o.n == nm
    · have e : others (o :: fs) nm = others fs nm := List.filter_cons_of_neg (by rw [c]; exact Bool.false_ne_true)
      rw [if_pos c, e]
      grind
    · have e : others (o :: fs) nm = o :: others fs nm := List.filter_cons_of_pos (by rw [Bool.eq_false_iff.mpr c]; rfl)
      have e2 : sumH (o :: others fs nm) = o.h + sumH (others fs nm) := by simp [sumH]
      rw [if_neg c, e, e2, Rat.intCast_add]
      grind
/-- the gap with all others at the back -/
theorem near_eq {L W : Int} {fs : List One} (nm : Str) (front : Rat) (hW : 0 < heavy W fs) : gapBy W fs front (fs.map fun o => if o.n == nm then 0 else (L : Rat)) = front - Rat.divInt (L * sumH (others fs nm)) (heavy W fs) := by
  unfold gapBy
  rw [drive_if, q_eq, Rat.intCast_mul]
theorem canF_iff {L W : Int} {fs : List One} {front : Rat} {nm : Str} : canF L W fs front nm = true ↔ front - (L : Rat) * (sumH (others fs nm) : Rat) / (heavy W fs : Rat) ≤ ((oneOf fs nm).r : Rat) := by
  unfold canF
  rw [q_eq, Rat.intCast_mul, Bool.not_eq_true', decide_eq_false_iff_not, Rat.not_lt]
theorem far_le {fs : List One} {front : Rat} {nm : Str} : far fs front nm ≤ front ∧ far fs front nm ≤ ((oneOf fs nm).r : Rat) := by
  unfold far
  split
  · rename_i h
    exact ⟨Rat.le_of_lt h, Rat.le_refl⟩
  · rename_i h
    exact ⟨Rat.le_refl, Rat.not_lt.mp h⟩
theorem far_eq {fs : List One} {front : Rat} {nm : Str} : far fs front nm = front ∨ far fs front nm = ((oneOf fs nm).r : Rat) := by
  unfold far
  split
  · exact .inr rfl
  · exact .inl rfl
/-- the gap by the told places -/
theorem placesAt_gap {L W : Int} {fs : List One} {front : Rat} {nm : Str} (hf : OkF fs) (hr : OkR L W) (hc : canF L W fs front nm = true) : gapBy W fs front (placesAt W fs front nm (far fs front nm)) = far fs front nm := by
  have hp := hpos' hf hr
  have hs := sumH_others hf nm
  unfold gapBy placesAt
  rw [drive_if]
  unfold placeAt
  split
  · rename_i h
    have h2 : (0 : Rat) < (sumH (others fs nm) : Rat) := by exact_mod_cast h
    have e : (front - far fs front nm) * (heavy W fs : Rat) / (sumH (others fs nm) : Rat) * (sumH (others fs nm) : Rat) / (heavy W fs : Rat) = front - far fs front nm := by
      grind
    rw [e]
    grind
  · rename_i h
    have h2 : sumH (others fs nm) = 0 := by omega
    rw [canF_iff, h2] at hc
    rw [Rat.intCast_zero] at hc
    have e : far fs front nm = front := by
      unfold far
      rw [if_neg]
      rw [Rat.not_lt]
      have : (L : Rat) * 0 / (heavy W fs : Rat) = 0 := by grind
      grind
    rw [e]
    grind
theorem placeAt_bd {L W : Int} {fs : List One} {front : Rat} {nm : Str} (hf : OkF fs) (hr : OkR L W) (hc : canF L W fs front nm = true) : 0 ≤ placeAt W fs front nm (far fs front nm) ∧ placeAt W fs front nm (far fs front nm) ≤ L := by
  have hp := hpos' hf hr
  have hs := sumH_others hf nm
  have hL : (0 : Rat) ≤ (L : Rat) := by
    have := hr.l1
    exact_mod_cast (show (0 : Int) ≤ L by omega)
  unfold placeAt
  split
  · rename_i h
    have h2 : (0 : Rat) < (sumH (others fs nm) : Rat) := by exact_mod_cast h
    have f1 := (far_le (fs := fs) (front := front) (nm := nm)).1
    have a : 0 ≤ (front - far fs front nm) * (heavy W fs : Rat) := Rat.mul_nonneg (by grind) (Rat.le_of_lt hp)
    refine ⟨?_, ?_⟩
    · have := rdiv_le a h2
      grind
    · rw [canF_iff] at hc
      have key : (front - far fs front nm) * (heavy W fs : Rat) ≤ (L : Rat) * (sumH (others fs nm) : Rat) := by
        rcases far_eq (fs := fs) (front := front) (nm := nm) with e | e
        · rw [e]
          have := Rat.mul_nonneg hL (Rat.le_of_lt h2)
          grind
        · rw [e]
          have h3 : front - ((oneOf fs nm).r : Rat) ≤ (L : Rat) * (sumH (others fs nm) : Rat) / (heavy W fs : Rat) := by grind
          have h4 := Rat.mul_le_mul_of_nonneg_right h3 (Rat.le_of_lt hp)
          have e5 : (L : Rat) * (sumH (others fs nm) : Rat) / (heavy W fs : Rat) * (heavy W fs : Rat) = (L : Rat) * (sumH (others fs nm) : Rat) := by grind
          rw [e5] at h4
          exact h4
      have h6 := rdiv_le key h2
      have e7 : (L : Rat) * (sumH (others fs nm) : Rat) / (sumH (others fs nm) : Rat) = (L : Rat) := by grind
      rw [e7] at h6
      exact h6
  · exact ⟨Rat.le_refl, hL⟩
theorem placesAt_bd {L W : Int} {fs : List One} {front : Rat} {nm : Str} (hf : OkF fs) (hr : OkR L W) (hc : canF L W fs front nm = true) : ∀ p ∈ placesAt W fs front nm (far fs front nm), 0 ≤ p ∧ p ≤ L := fun p hp => by
  obtain ⟨o, ho, rfl⟩ := List.mem_map.mp hp
  show 0 ≤ (if o.n == nm then 0 else placeAt W fs front nm (far fs front nm)) ∧ _
  have h := placeAt_bd hf hr hc
  split
  · exact ⟨Rat.le_refl, Rat.le_trans h.1 h.2⟩
  · exact h
theorem placesAt_mid {W : Int} {A B : List One} {o : One} {front gap : Rat} : placesAt W (A ++ o :: B) front o.n gap = (A.map fun x => if x.n == o.n then 0 else placeAt W (A ++ o :: B) front o.n gap) ++ 0 :: (B.map fun x => if x.n == o.n then 0 else placeAt W (A ++ o :: B) front o.n gap) := by
  unfold placesAt
  rw [List.map_append, List.map_cons, if_pos (beq_self_eq_true _)]
def sp__law_places_so : DSp := fun ws S Q => ∃ L W fs g ps nm, ws = [.d (eRaft L W), .d (eFolk fs), .d (eSt g ps), .d (.str nm), .d (eQ (frontG W fs g ps))] ∧ (OkR L W ∧ OkG fs ∧ nm ∈ fs.map (·.n) ∧ ps.length = fs.length ∧ Sz 12 g ∧ (∀ p ∈ ps, Sz 12 p) ∧ canF L W fs (frontG W fs g ps) nm = true) ∧ Q (.d (.bool true)) S
end Rf
namespace Rf
open PySem PySem.Spec PyProof.Rows L2 Dl Fr
theorem cutT {α : Type} {f : α → PyData} {A B : List α} {o : α} {n : Int} {S : Sto} {Q : WK} (hn : n = (A.length : Int)) (hl : A.length + B.length ≤ 1000) (q : Q (.d (.tuple ((A ++ B).map f))) S) :
    rSlT (.d (.tuple ((A ++ o :: B).map f))) none (some n) S fun x S1 => rSlT (.d (.tuple ((A ++ o :: B).map f))) (some (n + 1)) none S1 fun y S2 => rCat x y S2 Q := by
  subst hn
  have e1 : (A ++ o :: B).map f = A.map f ++ f o :: B.map f := by rw [List.map_append, List.map_cons]
  have l1 : (A.length : Int) = ((A.map f).length : Int) := by rw [List.length_map]
  rw [e1, l1]
  show rCat (.d (.tuple (Dl.cutD (A.map f ++ f o :: B.map f) none (some ((A.map f).length : Int))))) (.d (.tuple (Dl.cutD (A.map f ++ f o :: B.map f) (some (((A.map f).length : Int) + 1)) none))) S Q
  rw [cut_lo, cut_hi]
  refine ⟨by rw [List.length_map, List.length_map]; exact hl, ?_⟩
  rw [← List.map_append]
  exact q
theorem cutFolk {A B : List One} {o : One} {n : Int} {S : Sto} {Q : WK} (hn : n = (A.length : Int)) (hl : A.length + B.length ≤ 1000) (q : Q (.d (eFolk (A ++ B))) S) :
    rSlT (.d (eFolk (A ++ o :: B))) none (some n) S fun x S1 => rSlT (.d (eFolk (A ++ o :: B))) (some (n + 1)) none S1 fun y S2 => rCat x y S2 Q := cutT hn hl q
theorem cutPl {A B : List Rat} {o : Rat} {n : Int} {S : Sto} {Q : WK} (hn : n = (A.length : Int)) (hl : A.length + B.length ≤ 1000) (q : Q (.d (ePl (A ++ B))) S) :
    rSlT (.d (ePl (A ++ o :: B))) none (some n) S fun x S1 => rSlT (.d (ePl (A ++ o :: B))) (some (n + 1)) none S1 fun y S2 => rCat x y S2 Q := cutT hn hl q
theorem itFolk {A B : List One} {o : One} {n : Int} {S : Sto} {Q : WK} (hn : n = (A.length : Int)) (q : Q (.d (eOne o)) S) : rItem (.d (eFolk (A ++ o :: B))) (.d (.int n)) S Q := by
  subst hn
  have e1 : eFolk (A ++ o :: B) = .tuple (A.map eOne ++ eOne o :: B.map eOne) := by unfold eFolk; rw [List.map_append, List.map_cons]
  have l1 : (A.length : Int) = ((A.map eOne).length : Int) := by rw [List.length_map]
  rw [e1, l1]
  exact itemMid q
theorem itPl {A B : List Rat} {o : Rat} {n : Int} {S : Sto} {Q : WK} (hn : n = (A.length : Int)) (q : Q (.d (eQ o)) S) : rItem (.d (ePl (A ++ o :: B))) (.d (.int n)) S Q := by
  subst hn
  have e1 : ePl (A ++ o :: B) = .tuple (A.map eQ ++ eQ o :: B.map eQ) := by unfold ePl; rw [List.map_append, List.map_cons]
  have l1 : (A.length : Int) = ((A.map eQ).length : Int) := by rw [List.length_map]
  rw [e1, l1]
  exact itemMid q
theorem shp_fst {fs : List One} {g : Rat} {ps : List Rat} (h : OkN fs) : Shp 4 (.tuple [eFolk fs, eSt g ps]) := shp_tup (n := 3) (by simp only [List.forall_mem_cons]; exact ⟨(shp_folk h).mono (by decide), shp_st _ _, fun _ h => nomatch h⟩)
end Rf
namespace Rf
open PySem PySem.Spec PyProof.Rows L2 Dl Fr
theorem forD_enum {α : Type} {g : DTG} {b : DTS} {D : DEnds} (enc : α → PyData) (I : List α → List α → En → Sto → Prop) (hnil : ∀ A τ S, I A [] τ S → D.nx τ S)
    (hcons : ∀ A a r τ S, I A (a :: r) τ S → ∀ K : En → Sto → Prop, (∀ τ' S', I (A ++ [a]) r τ' S' → K τ' S') → g (.d (.tuple [.int (A.length : Int), enc a])) τ S fun τ' S' => b { D with nx := K, ct := K, bk := D.nx } τ' S') :
    ∀ (xs A : List α) {τ : En} {S : Sto}, I A xs τ S → forD g b D (enumD A.length (xs.map enc)) τ S
  | [], A, _, _, h => hnil A _ _ h
  | a :: r, A, τ, S, h => by
    show g (.d (.tuple [.int (A.length : Int), enc a])) τ S _
    refine hcons A a r τ S h _ fun τ' S' h' => ?_
    have e : A.length + 1 = (A ++ [a]).length := by rw [List.length_append]; rfl
    rw [e]
    exact forD_enum enc I hnil hcons r (A ++ [a]) h'
theorem ne_cells {S : Sto} {a b : Addr} {ds : List PyData} {Q : WK} (ha : S a = some (.lst ds)) (hb : S b = some (.lst ds)) (h : SeqAt.shaped (.list ds) = true) (q : Q (.d (.bool false)) S) : Dl.rEq true (.c a) (.c b) S Q := by
  unfold Dl.rEq
  refine cellD ha (cellD hb ⟨h, h, ?_⟩)
  rw [SeqAt.eqv_refl _ (SeqAt.canLay_of_shaped h)]
  exact q
theorem back_eq {A B : List One} {o : One} {L : Int} (hA : ∀ x ∈ A, x.n ≠ o.n) (hB : ∀ x ∈ B, x.n ≠ o.n) : (List.replicate (A ++ o :: B).length (PyData.tuple [.int L, .int 1])).set A.length (.tuple [.int 0, .int 1]) = ((A ++ o :: B).map fun x => if x.n == o.n then 0 else (L : Rat)).map eQ := by
  have e1 : ∀ C : List One, (∀ x ∈ C, x.n ≠ o.n) → (C.map fun x => if x.n == o.n then 0 else (L : Rat)).map eQ = List.replicate C.length (PyData.tuple [.int L, .int 1]) := by
    intro C
    induction C with
    | nil => intro _; rfl
    | cons c r ih =>
      intro h
      have hc : (c.n == o.n) = false := beq_eq_false_iff_ne.mpr (h c List.mem_cons_self)
      rw [List.map_cons, List.map_cons, ih fun x hx => h x (List.mem_cons_of_mem _ hx), hc, List.length_cons, List.replicate_succ, ← e_int]
      rfl
  rw [List.map_append, List.map_append, e1 A hA, List.map_cons, List.map_cons, e1 B hB, List.length_append, List.length_cons, ← List.replicate_append_replicate, List.replicate_succ, List.set_append_right _ _ (by rw [List.length_replicate]; exact Nat.le_refl _), List.length_replicate, Nat.sub_self, beq_self_eq_true]
  rfl
theorem nodup_mid {A B : List One} {o : One} (h : ((A ++ o :: B).map (·.n)).Nodup) : (∀ x ∈ A, x.n ≠ o.n) ∧ (∀ x ∈ B, x.n ≠ o.n) := by
  rw [List.map_append, List.map_cons] at h
  refine ⟨fun x hx e => ?_, fun x hx e => ?_⟩
  · exact (List.nodup_append.mp h).2.2 x.n (List.mem_map_of_mem hx) o.n List.mem_cons_self e
  · exact (List.nodup_cons.mp (List.nodup_append.mp h).2.1).1 (List.mem_map.mpr ⟨x, hx, e⟩)
theorem ix_nat {n j : Nat} (h : j < n) : ixN n (j : Int) = some j := by
  unfold ixN
  simp
  omega
theorem repL1 {S : Sto} {a : Addr} {d : PyData} {k : Int} {Q : WK} (hS : S a = some (.lst [d])) (h0 : 0 ≤ k) (h1 : k ≤ 1000) (q : ∀ p, S p = none → Q (.c p) (put (del S a) p (.lst (List.replicate k.toNat d)))) : rRepL (.c a) (.d (.int k)) S Q := by
  show match S a with
    | some (.lst ds) => (0 ≤ k ∧ k ≤ 1000 ∧ ds.length * k.toNat ≤ 1000) ∧ ∀ p, S p = none → Q (.c p) (put (del S a) p (.lst (List.replicate k.toNat ds).flatten))
    | _ => False
  rw [hS]
  refine ⟨⟨h0, h1, by rw [List.length_singleton]; omega⟩, fun p hp => ?_⟩
  rw [rep_one]
  exact q p hp
theorem frz_c {S : Sto} {a : Addr} {ds : List PyData} {Q : WK} (hS : S a = some (.lst ds)) (q : Q (.d (.list ds)) (del S a)) : frzW (.c a) S Q := by
  unfold frzW
  simp only [hS]
  exact q
theorem mul_one_int (k : Int) : ([PyData.none].length : Int) * k = k := by show (1 : Int) * k = k; omega
end Rf
namespace Rf
open PySem PySem.Spec PyProof.Rows L2 Dl Fr
theorem cell_ne {S : Sto} {a b : Addr} {c : Cl} (h : S a = some c) (n : S b = none) : a ≠ b := fun z => by
  subst z
  rw [h] at n
  cases n
end Rf
namespace Rf
theorem filt_pos {α : Type} {p : α → Bool} {A : List α} {o : α} (h : p o = true) : (A ++ [o]).filter p = A.filter p ++ [o] := by
  rw [List.filter_append]
  simp [h]
theorem filt_neg {α : Type} {p : α → Bool} {A : List α} {o : α} (h : p o = false) : (A ++ [o]).filter p = A.filter p := by
  rw [List.filter_append]
  simp [h]
end Rf

namespace Rf
open PySem PySem.Spec PyProof.Rows L2 Dl Fr PySem.W
/-! ### the order of lots and of names -/
def klt (a b : List Str) : Bool := dataLt (kyD a) (kyD b)
def slt (a b : Str) : Bool := dataLt (.str a) (.str b)
theorem toks_inj : ∀ {a b : List Str}, keyToksAll (a.map PyData.str) = keyToksAll (b.map PyData.str) → a = b
  | [], [], _ => rfl
  | [], _ :: _, h => by simp [keyToksAll] at h
  | _ :: _, [], h => by simp [keyToksAll] at h
  | x :: xs, y :: ys, h => by
    rw [List.map_cons, List.map_cons, keyToksAll, keyToksAll, keyToks, keyToks] at h
    simp only [List.cons_append, List.nil_append, List.cons.injEq, true_and] at h
    have e1 : x = y := str_of_cps (by have := h.1; injection this)
    rw [e1, toks_inj h.2]
theorem key_toks (a : List Str) : keyToks (kyD a) = keyToksAll (a.map PyData.str) := by unfold kyD; rw [keyToks]
theorem klt_irrefl (a : List Str) : klt a a = false := lex_irrefl _
theorem klt_trans {a b c : List Str} (h1 : klt a b = true) (h2 : klt b c = true) : klt a c = true := lex_trans _ _ _ h1 h2
theorem klt_neg {a b c : List Str} (h : klt a c = true) : klt a b = true ∨ klt b c = true := lex_negTrans _ _ _ h
theorem klt_total {a b : List Str} (h1 : klt a b = false) (h2 : klt b a = false) : a = b := by
  have h := lex_total _ _ h1 h2
  rw [key_toks, key_toks] at h
  exact toks_inj h
theorem slt_irrefl (a : Str) : slt a a = false := lex_irrefl _
theorem slt_trans {a b c : Str} (h1 : slt a b = true) (h2 : slt b c = true) : slt a c = true := lex_trans _ _ _ h1 h2
theorem slt_neg {a b c : Str} (h : slt a c = true) : slt a b = true ∨ slt b c = true := lex_negTrans _ _ _ h
theorem slt_total {a b : Str} (h1 : slt a b = false) (h2 : slt b a = false) : a = b := by
  have h := lex_total _ _ h1 h2
  rw [keyToks, keyToks] at h
  injection h with h _
  injection h with h
  exact str_of_cps h
/-- an order, as lists are sorted by it -/
structure Lt {α : Type} (lt : α → α → Bool) : Prop where
  irr : ∀ a, lt a a = false
  tr : ∀ {a b c}, lt a b = true → lt b c = true → lt a c = true
  ng : ∀ {a b c}, lt a c = true → lt a b = true ∨ lt b c = true
  tot : ∀ {a b}, lt a b = false → lt b a = false → a = b
theorem lt_k : Lt klt := ⟨klt_irrefl, klt_trans, klt_neg, klt_total⟩
theorem lt_s : Lt slt := ⟨slt_irrefl, slt_trans, slt_neg, slt_total⟩
section
variable {α : Type} {lt : α → α → Bool}
theorem Lt.asym (O : Lt lt) {a b : α} (h : lt a b = true) : lt b a = false := by
  cases q : lt b a with
  | false => rfl
  | true => have := O.tr h q; rw [O.irr] at this; cases this
def srt (lt : α → α → Bool) (l : List α) : List α := l.mergeSort fun a b => !lt b a
theorem srt_perm (l : List α) : (srt lt l).Perm l := List.mergeSort_perm _ _
theorem srt_sorted (O : Lt lt) (l : List α) : (srt lt l).Pairwise fun a b => lt b a = false := by
  have h := List.pairwise_mergeSort (le := fun a b => !lt b a) (fun a b c h1 h2 => ?_) (fun a b => ?_) l
  · exact h.imp fun {a b} z => by simpa using z
  · have h1' : lt b a = false := by simpa using h1
    have h2' : lt c b = false := by simpa using h2
    cases q : lt c a with
    | false => rfl
    | true => rcases O.ng (b := b) q with z | z
              · rw [z] at h2'; cases h2'
              · rw [z] at h1'; cases h1'
  · cases q : lt b a with
    | false => rfl
    | true => rw [O.asym q]; rfl
theorem sorted_uniq (O : Lt lt) : ∀ {l m : List α}, l.Pairwise (fun a b => lt b a = false) → m.Pairwise (fun a b => lt b a = false) → l.Perm m → l = m
  | [], m, _, _, p => by rw [List.nil_perm.mp p]
  | a :: l, [], _, _, p => by have := p.length_eq; simp at this
  | a :: l, b :: m, hl, hm, p => by
    rw [List.pairwise_cons] at hl hm
    have e : a = b := by
      have ha : a ∈ b :: m := p.mem_iff.mp List.mem_cons_self
      have hb : b ∈ a :: l := p.mem_iff.mpr List.mem_cons_self
      rcases List.mem_cons.mp ha with z | z
      · exact z
      · rcases List.mem_cons.mp hb with y | y
        · exact y.symm
        · exact O.tot (hm.1 a z) (hl.1 b y)
    subst e
    rw [sorted_uniq O hl.2 hm.2 (List.perm_cons a |>.mp p)]
theorem srt_filter (O : Lt lt) {l m : List α} {p : α → Bool} (h : m.Perm (l.filter p)) : srt lt m = (srt lt l).filter p := by
  refine sorted_uniq O (srt_sorted O m) ((srt_sorted O l).sublist List.filter_sublist) ?_
  exact ((srt_perm m).trans h).trans ((srt_perm l).symm.filter p)
theorem srt_id (O : Lt lt) {l m : List α} (hm : m.Pairwise fun a b => lt b a = false) (h : l.Perm m) : srt lt l = m := sorted_uniq O (srt_sorted O l) hm ((srt_perm l).trans h)
end
def sortL (l : List (List Str)) : List (List Str) := srt klt l
def sortS (l : List Str) : List Str := srt slt l
theorem sortD_keys (l : List (List Str)) : sortD (l.map kyD) = (sortL l).map kyD := by
  unfold sortD sortL srt
  exact (List.map_mergeSort (r := fun a b => !klt b a) (s := dataLe false id) (f := kyD) (l := l) fun a _ b _ => rfl).symm
theorem sortD_strs (l : List Str) : sortD (l.map PyData.str) = (sortS l).map PyData.str := by
  unfold sortD sortS srt
  exact (List.map_mergeSort (r := fun a b => !slt b a) (s := dataLe false id) (f := PyData.str) (l := l) fun a _ b _ => rfl).symm
def sortN (l : List (List Str)) : List (List Str) := l.mergeSort fun a b => decide (a.length ≤ b.length)
theorem sortN_keys (l : List (List Str)) : sortLenD (l.map kyD) = (sortN l).map kyD := by
  unfold sortLenD sortN
  refine (List.map_mergeSort (f := kyD) (l := l) fun a _ b _ => ?_).symm
  have e : ∀ a : List Str, lenD (kyD a) = a.length := fun a => by show (a.map PyData.str).length = a.length; rw [List.length_map]
  show _ = (!dataLt (.int (lenD (kyD b) : Int)) (.int (lenD (kyD a) : Int)))
  rw [dataLt_int, e, e]
  by_cases c : a.length ≤ b.length
  · rw [decide_eq_true c, decide_eq_false (by omega)]; rfl
  · rw [decide_eq_false c, decide_eq_true (by omega)]; rfl
theorem al_strs : ∀ a b : List Str, alikeAll (a.map PyData.str) (b.map PyData.str) = true
  | [], _ => by rw [List.map_nil]; unfold alikeAll; rfl
  | _ :: _, [] => by simp [alikeAll]
  | x :: xs, y :: ys => by rw [List.map_cons, List.map_cons, alikeAll, al_strs xs ys]; rfl
theorem sb_keys {l : List (List Str)} (h0 : ∃ r, l = [] :: r) (hl : l.length ≤ 1000) : SbD (l.map kyD) := by
  refine ⟨fun d hd d' hd' => ?_, .inr ⟨fun d hd => ?_, ?_⟩, by rw [List.length_map]; exact hl, fun d hd => ?_⟩
  · obtain ⟨a, _, rfl⟩ := List.mem_map.mp hd
    obtain ⟨b, _, rfl⟩ := List.mem_map.mp hd'
    unfold kyD
    rw [alike]
    exact al_strs a b
  · obtain ⟨a, _, rfl⟩ := List.mem_map.mp hd
    exact ⟨_, rfl⟩
  · obtain ⟨r, rfl⟩ := h0
    exact ⟨_, rfl⟩
  · obtain ⟨a, _, rfl⟩ := List.mem_map.mp hd
    have : ∀ a : List Str, PyData.depthAll (a.map PyData.str) = 0 := by
      intro a
      induction a with
      | nil => simp [PyData.depthAll]
      | cons x r ih => rw [List.map_cons, PyData.depthAll, ih, PyData.depth]; rfl
    unfold kyD
    rw [PyData.depth, this]
    decide
theorem sb_strs {l : List Str} (hl : l.length ≤ 1000) : SbD (l.map PyData.str) := by
  refine ⟨fun d hd d' hd' => ?_, .inl (.inr fun d hd => ?_), by rw [List.length_map]; exact hl, fun d hd => ?_⟩
  · obtain ⟨a, _, rfl⟩ := List.mem_map.mp hd
    obtain ⟨b, _, rfl⟩ := List.mem_map.mp hd'
    rfl
  · obtain ⟨a, _, rfl⟩ := List.mem_map.mp hd
    exact ⟨fun z => (nomatch z), fun xs z => (nomatch z)⟩
  · obtain ⟨a, _, rfl⟩ := List.mem_map.mp hd
    rw [PyData.depth]
    decide
end Rf

namespace Rf
open PySem PySem.Spec PyProof.Rows L2 Dl Fr PySem.W
/-! ### lots, next gaps, tables -/
def leftOf (fs : List One) (lot : List Str) : List One := fs.filter fun o => !lot.contains o.n
def sp_left_of : DSp := fun ws S Q => ∃ fs lot, ws = [.d (eFolk fs), .d (kyD lot)] ∧ fs.length ≤ 1000 ∧ Q (.d (eFolk (leftOf fs lot))) S
abbrev sp__law_left := sp_left_of
def allL : List Str → List (List Str) → List (List Str)
  | [], acc => acc
  | n :: ns, acc => allL ns (acc ++ acc.map (· ++ [n]))
theorem allL_len : ∀ (ns : List Str) (acc : List (List Str)), (allL ns acc).length = acc.length * 2 ^ ns.length
  | [], acc => by simp [allL]
  | n :: ns, acc => by
    rw [allL, allL_len ns, List.length_append, List.length_map, List.length_cons, Nat.pow_succ]
    have : (acc.length + acc.length) * 2 ^ ns.length = acc.length * (2 ^ ns.length * 2) := by
      rw [← Nat.mul_two, Nat.mul_assoc, Nat.mul_comm 2]
    exact this
theorem allL_head : ∀ (ns : List Str) (acc : List (List Str)), (∃ r, acc = [] :: r) → ∃ r, allL ns acc = [] :: r
  | [], acc, h => h
  | n :: ns, acc, ⟨r, h⟩ => by
    subst h
    exact allL_head ns _ ⟨_, rfl⟩
def lotsOf (fs : List One) : List (List Str) := sortL (allL (fs.map (·.n)) [[]])
def sp_all_lots : DSp := fun ws S Q => ∃ fs, ws = [.d (eFolk fs)] ∧ fs.length ≤ 7 ∧ ∀ p, S p = none → Q (.c p) (put S p (.lst ((lotsOf fs).map kyD)))
abbrev sp__law_lots := sp_all_lots
def nextG (W : Int) (fs : List One) (front : Rat) (nm : Str) : Rat := (front * (heavy W fs : Rat) - far fs front nm * ((oneOf fs nm).h : Rat)) / ((heavy W fs - (oneOf fs nm).h : Int) : Rat)
def sp_next_gap : DSp := fun ws S Q => ∃ L W fs front nm, ws = [.d (eRaft L W), .d (eFolk fs), .d (eQ front), .d (.str nm)] ∧ (OkR L W ∧ OkG fs ∧ nm ∈ fs.map (·.n) ∧ Sz 1000 front) ∧ Q (.d (eQ (nextG W fs front nm))) S
theorem OkG.h {fs : List One} (h : OkG fs) {nm : Str} (hm : nm ∈ fs.map (·.n)) : 1 ≤ (oneOf fs nm).h ∧ (oneOf fs nm).h ≤ 200 ∧ (oneOf fs nm) ∈ fs ∧ (oneOf fs nm).n = nm := by
  obtain ⟨o, ho, e0, _, e, _⟩ := h.mem hm
  rw [e]
  exact ⟨h.f.lo o ho, h.f.hi o ho, ho, e0⟩
theorem sumH_mem {fs : List One} (h : ∀ o ∈ fs, 1 ≤ o.h) {o : One} (ho : o ∈ fs) : o.h ≤ sumH fs := by
  induction fs with
  | nil => cases ho
  | cons a r ih =>
    have e : sumH (a :: r) = a.h + sumH r := by simp [sumH]
    have h1 : 0 ≤ sumH r := by
      have : ∀ l : List One, (∀ o ∈ l, 1 ≤ o.h) → 0 ≤ sumH l := by
        intro l
        induction l with
        | nil => intro _; simp [sumH]
        | cons x t ih2 =>
          intro hx
          have e : sumH (x :: t) = x.h + sumH t := by simp [sumH]
          have := hx x List.mem_cons_self
          have := ih2 fun o ho => hx o (List.mem_cons_of_mem _ ho)
          omega
      exact this r fun o ho => h o (List.mem_cons_of_mem _ ho)
    have h2 := h a List.mem_cons_self
    rcases List.mem_cons.mp ho with rfl | ho
    · omega
    · have := ih (fun o ho => h o (List.mem_cons_of_mem _ ho)) ho
      omega
theorem heavy_own {L W : Int} {fs : List One} (hr : OkR L W) (h : OkG fs) {nm : Str} (hm : nm ∈ fs.map (·.n)) : 0 < heavy W fs - (oneOf fs nm).h ∧ heavy W fs - (oneOf fs nm).h ≤ 2400 := by
  obtain ⟨h1, h2, h3, _⟩ := h.h hm
  have h4 := sumH_mem h.f.lo h3
  have h5 := heavy_bd h.f hr.w1 hr.w2
  have := hr.w1
  unfold heavy at *
  omega
theorem next_front {L W : Int} {fs : List One} (hr : OkR L W) (h : OkG fs) {nm : Str} (hm : nm ∈ fs.map (·.n)) {front : Rat} (e : far fs front nm = front) : nextG W fs front nm = front := by
  have h1 := (heavy_own hr h hm).1
  have h2 : (0 : Rat) < ((heavy W fs - (oneOf fs nm).h : Int) : Rat) := by exact_mod_cast h1
  unfold nextG
  rw [e]
  rw [Rat.intCast_sub] at h2 ⊢
  grind
theorem sz_next {n : Nat} {L W : Int} {fs : List One} (hr : OkR L W) (h : OkG fs) {nm : Str} (hm : nm ∈ fs.map (·.n)) {front : Rat} (hf : Sz n front) : Sz (n + 16) (nextG W fs front nm) := by
  rcases far_eq (fs := fs) (front := front) (nm := nm) with e | e
  · rw [next_front hr h hm e]
    exact hf.mono (by omega)
  · have h1 := heavy_own hr h hm
    have h2 := heavy_bd h.f hr.w1 hr.w2
    have h3 := okG_r h hm
    have h4 := h.h hm
    have hd := dpos front
    have e2 : nextG W fs front nm = Rat.divInt (front.num * heavy W fs - (oneOf fs nm).r * (oneOf fs nm).h * (front.den : Int)) ((front.den : Int) * (heavy W fs - (oneOf fs nm).h)) := by
      unfold nextG
      have d1 := dne front
      have d2 : ((heavy W fs - (oneOf fs nm).h : Int) : Rat) ≠ 0 := ine (by omega)
      have e3 := nd front
      rw [e, q_eq]
      simp only [Rat.intCast_sub, Rat.intCast_mul] at d2 ⊢
      rw [e3]
      grind
    rw [e2]
    refine sz_q (Int.mul_pos hd h1.1) ?_ (up (natAbs_mul_lt (den_lt hf) (show (heavy W fs - (oneOf fs nm).h).natAbs < 2 ^ 12 by omega)) (by omega))
    have b1 : (front.num * heavy W fs).natAbs < 2 ^ (n + 15) := up (natAbs_mul_lt hf.1 (show (heavy W fs).natAbs < 2 ^ 12 by omega)) (by omega)
    have b2 : ((oneOf fs nm).r * (oneOf fs nm).h * (front.den : Int)).natAbs < 2 ^ (n + 15) := by
      have z := natAbs_mul_lt (natAbs_mul_lt (show (oneOf fs nm).r.natAbs < 2 ^ 7 by omega) (show (oneOf fs nm).h.natAbs < 2 ^ 8 by omega)) (den_lt hf)
      exact up z (by omega)
    exact up (two_lt' b1 b2) (by omega)
theorem OkG.left {fs : List One} (h : OkG fs) (lot : List Str) : OkG (leftOf fs lot) := by
  have hs : List.Sublist (leftOf fs lot) fs := List.filter_sublist
  have hm : ∀ o ∈ leftOf fs lot, o ∈ fs := fun o ho => hs.subset ho
  exact ⟨⟨Nat.le_trans hs.length_le h.f.len, fun o q => h.f.lo o (hm o q), fun o q => h.f.hi o (hm o q)⟩, fun o q => h.n o (hm o q), (hs.map _).nodup h.nd, fun o q => h.r1 o (hm o q), fun o q => h.r2 o (hm o q)⟩
def stepsL (L W : Int) (fs : List One) (lot : List Str) (front : Rat) : List (List Str × Rat) := ((leftOf fs lot).filter fun o => canF L W (leftOf fs lot) front o.n).map fun o => (sortS (lot ++ [o.n]), nextG W (leftOf fs lot) front o.n)
def eStep (p : List Str × Rat) : PyData := .tuple [kyD p.1, eQ p.2]
def sp_steps_from : DSp := fun ws S Q => ∃ L W fs lot front, ws = [.d (eRaft L W), .d (eFolk fs), .d (kyD lot), .d (eQ front)] ∧ (OkR L W ∧ OkG fs ∧ lot.length ≤ 7 ∧ Sz 900 front) ∧ Q (.d (.list ((stepsL L W fs lot front).map eStep))) S
end Rf
namespace Rf
open PySem PySem.Spec PyProof.Rows L2 Dl Fr PySem.W
/-! ### the table as it is filled -/
abbrev Tb := List (List Str × Rat)
def lkp (t : Tb) (l : List Str) : Option Rat := (t.find? fun p => decide (p.1 = l)).map (·.2)
def putT (t : Tb) (l : List Str) (g : Rat) : Tb := if (t.any fun p => decide (p.1 = l)) = true then t.map (fun p => if p.1 = l then (p.1, g) else p) else t ++ [(l, g)]
def encT (t : Tb) : List (List Str × PyData) := t.map fun p => (p.1, eQ p.2)
theorem enc_val (l : List Str) : ∀ t : Tb, valD (encT t) l = (lkp t l).map eQ
  | [] => rfl
  | p :: t => by
    have ih := enc_val l t
    by_cases c : p.1 = l
    · unfold valD lkp encT
      rw [List.map_cons, List.find?_cons_of_pos (by simpa using c), List.find?_cons_of_pos (by simpa using c)]
      rfl
    · unfold valD lkp encT at ih ⊢
      rw [List.map_cons, List.find?_cons_of_neg (by simpa using c), List.find?_cons_of_neg (by simpa using c)]
      exact ih
theorem enc_any (l : List Str) (t : Tb) : ((encT t).any fun kv => decide (kv.1 = l)) = (t.any fun p => decide (p.1 = l)) := by
  unfold encT
  rw [List.any_map]
  rfl
theorem enc_put (l : List Str) (g : Rat) (t : Tb) : putD (encT t) l (eQ g) = encT (putT t l g) := by
  unfold putD putT
  rw [enc_any]
  split
  · unfold encT
    rw [List.map_map, List.map_map]
    refine List.map_congr_left fun p _ => ?_
    show (if p.1 = l then (p.1, eQ g) else (p.1, eQ p.2)) = ((if p.1 = l then (p.1, g) else p).1, eQ (if p.1 = l then (p.1, g) else p).2)
    split <;> rfl
  · unfold encT
    rw [List.map_append]
    rfl
theorem putT_len (t : Tb) (l : List Str) (g : Rat) : (putT t l g).length ≤ t.length + 1 := by
  unfold putT
  split
  · rw [List.length_map]; omega
  · rw [List.length_append]; exact Nat.le_refl _
theorem putT_mem {t : Tb} {l : List Str} {g : Rat} {p : List Str × Rat} (h : p ∈ putT t l g) : p ∈ t ∨ p = (l, g) := by
  unfold putT at h
  split at h
  · obtain ⟨q, hq, e⟩ := List.mem_map.mp h
    split at e
    · rename_i c
      rw [c] at e
      exact .inr e.symm
    · rw [← e]
      exact .inl hq
  · rcases List.mem_append.mp h with z | z
    · exact .inl z
    · exact .inr (List.mem_singleton.mp z)
def upd1 (t : Tb) (p : List Str × Rat) : Tb := match lkp t p.1 with
  | none => putT t p.1 p.2
  | some g => if p.2 < g then putT t p.1 p.2 else t
def proc (L W : Int) (fs : List One) (t : Tb) (lot : List Str) : Tb := match lkp t lot with
  | none => t
  | some g => (stepsL L W fs lot g).foldl upd1 t
def gapsT (L W : Int) (fs : List One) (front : Rat) : Tb := (sortN (lotsOf fs)).foldl (proc L W fs) [([], front)]
def OkT (t : Tb) : Prop := ∀ p ∈ t, Sz (180 + 16 * p.1.length) p.2 ∧ p.1.length ≤ 8
theorem lkp_mem {t : Tb} {l : List Str} {g : Rat} (h : lkp t l = some g) : (l, g) ∈ t := by
  unfold lkp at h
  cases q : t.find? fun p => decide (p.1 = l) with
  | none => rw [q] at h; cases h
  | some p =>
    rw [q] at h
    have h1 := List.find?_some q
    have h2 := List.mem_of_find?_eq_some q
    have e : p.1 = l := by simpa using h1
    cases h
    rw [← e]
    exact h2
theorem upd1_ok {t : Tb} {p : List Str × Rat} (h : OkT t) (hp : Sz (180 + 16 * p.1.length) p.2 ∧ p.1.length ≤ 8) : OkT (upd1 t p) := by
  have key : OkT (putT t p.1 p.2) := fun q hq => by
    rcases putT_mem hq with z | z
    · exact h q z
    · rw [z]; exact hp
  unfold upd1
  split
  · exact key
  · split
    · exact key
    · exact h
theorem upd1_len {t : Tb} {p : List Str × Rat} : (upd1 t p).length ≤ t.length + 1 := by
  unfold upd1
  split
  · exact putT_len _ _ _
  · split
    · exact putT_len _ _ _
    · omega
theorem sortS_len (l : List Str) : (sortS l).length = l.length := (srt_perm l).length_eq
theorem stepsL_ok {L W : Int} {fs : List One} {lot : List Str} {front : Rat} (hr : OkR L W) (h : OkG fs) (hl : lot.length ≤ 7) (hf : Sz (180 + 16 * lot.length) front) : ∀ p ∈ stepsL L W fs lot front, Sz (180 + 16 * p.1.length) p.2 ∧ p.1.length ≤ 8 := fun p hp => by
  obtain ⟨o, ho, rfl⟩ := List.mem_map.mp hp
  have ho' := (List.mem_filter.mp ho).1
  have hz := sz_next hr (h.left lot) (List.mem_map_of_mem ho') hf
  show Sz (180 + 16 * (sortS (lot ++ [o.n])).length) _ ∧ (sortS (lot ++ [o.n])).length ≤ 8
  rw [sortS_len, List.length_append, List.length_singleton]
  exact ⟨hz.mono (by omega), by omega⟩
theorem stepsL_len {L W : Int} {fs : List One} {lot : List Str} {front : Rat} (h : OkG fs) : (stepsL L W fs lot front).length ≤ 7 := by
  unfold stepsL
  rw [List.length_map]
  exact Nat.le_trans (List.length_filter_le _ _) (h.left lot).f.len
theorem allL_mem : ∀ (ns : List Str) (acc : List (List Str)) (k : Nat), (∀ l ∈ acc, l.length ≤ k) → ∀ l ∈ allL ns acc, l.length ≤ k + ns.length
  | [], acc, k, h, l, hl => h l hl
  | n :: ns, acc, k, h, l, hl => by
    have := allL_mem ns (acc ++ acc.map (· ++ [n])) (k + 1) (fun l hl => by
      rcases List.mem_append.mp hl with z | z
      · have := h l z; omega
      · obtain ⟨l', z', rfl⟩ := List.mem_map.mp z
        have := h l' z'
        rw [List.length_append, List.length_singleton]
        omega) l hl
    rw [List.length_cons]
    omega
theorem lotsOf_len {fs : List One} : ∀ l ∈ lotsOf fs, l.length ≤ fs.length := fun l hl => by
  have h := allL_mem (fs.map (·.n)) [[]] 0 (fun l hl => by rw [List.mem_singleton.mp hl]; exact Nat.le_refl _) l ((srt_perm (lt := klt) (allL (fs.map fun o => o.n) [[]])).mem_iff.mp hl)
  rw [List.length_map] at h
  omega
theorem lotsOf_cnt {fs : List One} (h : fs.length ≤ 7) : (lotsOf fs).length ≤ 128 := by
  unfold lotsOf sortL
  rw [(srt_perm _).length_eq, allL_len, List.length_map, List.length_singleton, Nat.one_mul]
  exact Nat.le_trans (Nat.pow_le_pow_right (by decide) h) (by decide)
def sp_gaps_of : DSp := fun ws S Q => ∃ L W fs g ps, ws = [.d (eRaft L W), .d (eFolk fs), .d (eSt g ps)] ∧ (OkR L W ∧ OkG fs ∧ Sz 12 g ∧ (∀ p ∈ ps, Sz 12 p)) ∧ ∀ p, S p = none → Q (.c p) (put S p (.dic (encT (gapsT L W fs (frontG W fs g ps)))))
theorem asKey_k {l : List Str} {k : List Str → Prop} (q : k l) : asKey (.d (kyD l)) k := by
  show match Dl.strs? (l.map PyData.str) with
    | some ks => k ks
    | none => False
  rw [Dl.strs_map]
  exact q
theorem asDic_c {S : Sto} {a : Addr} {kvs : List (List Str × PyData)} {k : Addr → List (List Str × PyData) → Prop} (h : S a = some (.dic kvs)) (q : k a kvs) : asDic S (.c a) k := by
  unfold asDic
  simp only [h]
  exact q
end Rf

namespace Rf
open PySem PySem.Spec PyProof.Rows L2 Dl Fr PySem.W
/-! ### lots that are told -/
def keysT (t : Tb) : List (List Str) := t.map (·.1)
theorem keysT_put (t : Tb) (l : List Str) (g : Rat) : keysT (putT t l g) = keysT t ∨ keysT (putT t l g) = keysT t ++ [l] := by
  unfold putT
  split
  · left
    unfold keysT
    rw [List.map_map]
    refine List.map_congr_left fun p _ => ?_
    show (if p.1 = l then (p.1, g) else p).1 = p.1
    split <;> rfl
  · right
    unfold keysT
    rw [List.map_append]
    rfl
theorem keysT_upd (t : Tb) (p : List Str × Rat) : keysT (upd1 t p) = keysT t ∨ keysT (upd1 t p) = keysT t ++ [p.1] := by
  unfold upd1
  split
  · exact keysT_put _ _ _
  · split
    · exact keysT_put _ _ _
    · exact .inl rfl
theorem head_fold : ∀ (ps : List (List Str × Rat)) (t : Tb), (∃ r, keysT t = [] :: r) → ∃ r, keysT (ps.foldl upd1 t) = [] :: r
  | [], t, h => h
  | p :: ps, t, ⟨r, h⟩ => by
    rw [List.foldl_cons]
    refine head_fold ps _ ?_
    rcases keysT_upd t p with e | e
    · exact ⟨r, by rw [e, h]⟩
    · exact ⟨r ++ [p.1], by rw [e, h]; rfl⟩
theorem len_fold : ∀ (ps : List (List Str × Rat)) (t : Tb), (ps.foldl upd1 t).length ≤ t.length + ps.length
  | [], t => Nat.le_refl _
  | p :: ps, t => by
    rw [List.foldl_cons, List.length_cons]
    have := len_fold ps (upd1 t p)
    have := upd1_len (t := t) (p := p)
    omega
theorem gapsT_fold {L W : Int} {fs : List One} (hG : OkG fs) : ∀ (ls : List (List Str)) (t : Tb), (∃ r, keysT t = [] :: r) → (∃ r, keysT (ls.foldl (proc L W fs) t) = [] :: r) ∧ (ls.foldl (proc L W fs) t).length ≤ t.length + 7 * ls.length
  | [], t, h => ⟨h, Nat.le_refl _⟩
  | l :: ls, t, h => by
    rw [List.foldl_cons, List.length_cons]
    have h1 : (∃ r, keysT (proc L W fs t l) = [] :: r) ∧ (proc L W fs t l).length ≤ t.length + 7 := by
      unfold proc
      split
      · exact ⟨h, by omega⟩
      · rename_i g _
        refine ⟨head_fold _ _ h, ?_⟩
        have := len_fold (stepsL L W fs l g) t
        have := stepsL_len (L := L) (W := W) (lot := l) (front := g) hG
        omega
    have h2 := gapsT_fold (L := L) (W := W) hG ls _ h1.1
    exact ⟨h2.1, by omega⟩
theorem gapsT_ok {L W : Int} {fs : List One} {front : Rat} (hG : OkG fs) : (∃ r, keysT (gapsT L W fs front) = [] :: r) ∧ (gapsT L W fs front).length ≤ 900 := by
  have h := gapsT_fold (L := L) (W := W) hG (sortN (lotsOf fs)) [([], front)] ⟨[], rfl⟩
  have h2 : (sortN (lotsOf fs)).length ≤ 128 := by
    unfold sortN
    rw [(List.mergeSort_perm _ _).length_eq]
    exact lotsOf_cnt hG.f.len
  refine ⟨h.1, ?_⟩
  have h3 := h.2
  rw [List.length_singleton] at h3
  unfold gapsT
  omega
def toldLots (L W : Int) (fs : List One) (front : Rat) : List (List Str) := sortL (keysT (gapsT L W fs front))
def sp_lots : DSp := fun ws S Q => ∃ L W fs g ps, ws = [.d (eRaft L W), .d (eFolk fs), .d (eSt g ps)] ∧ (OkR L W ∧ OkG fs ∧ Sz 12 g ∧ (∀ p ∈ ps, Sz 12 p)) ∧ ∀ p, S p = none → Q (.c p) (put S p (.lst ((toldLots L W fs (frontG W fs g ps)).map kyD)))
theorem encT_keys (t : Tb) : ((encT t).map fun p => kyD p.1) = (keysT t).map kyD := by
  unfold encT keysT
  rw [List.map_map, List.map_map]
  rfl
theorem toldLots_cnt {L W : Int} {fs : List One} {front : Rat} (hG : OkG fs) : (toldLots L W fs front).length ≤ 900 ∧ [] ∈ toldLots L W fs front := by
  obtain ⟨⟨r, h1⟩, h2⟩ := gapsT_ok (L := L) (W := W) (front := front) hG
  have hp : (toldLots L W fs front).Perm (keysT (gapsT L W fs front)) := srt_perm _
  refine ⟨?_, hp.mem_iff.mpr (by rw [h1]; exact List.mem_cons_self)⟩
  rw [hp.length_eq]
  unfold keysT
  rw [List.length_map]
  exact h2
/-- the most, the first of the most -/
def mxL (ls : List (List Str)) : Nat := (ls.map List.length).foldl max 0
theorem foldl_max : ∀ (ns : List Nat) (a : Nat), a ≤ ns.foldl max a ∧ (∀ n ∈ ns, n ≤ ns.foldl max a) ∧ (ns.foldl max a = a ∨ ns.foldl max a ∈ ns)
  | [], a => ⟨Nat.le_refl _, fun _ h => (nomatch h), .inl rfl⟩
  | n :: ns, a => by
    obtain ⟨h1, h2, h3⟩ := foldl_max ns (max a n)
    rw [List.foldl_cons]
    refine ⟨by omega, fun m hm => ?_, ?_⟩
    · rcases List.mem_cons.mp hm with rfl | hm
      · omega
      · exact h2 m hm
    · rcases h3 with h3 | h3
      · rw [h3]
        by_cases c : a ≤ n
        · right
          rw [Nat.max_eq_right c]
          exact List.mem_cons_self
        · left
          exact Nat.max_eq_left (by omega)
      · exact .inr (List.mem_cons_of_mem _ h3)
def fstL (ls : List (List Str)) (m : Nat) : List Str := (ls.filter fun l => decide (l.length = m)).headD []
theorem fstL_eq {ls : List (List Str)} (h : ls ≠ []) : ∃ r, (ls.filter fun l => decide (l.length = mxL ls)) = fstL ls (mxL ls) :: r := by
  have hm : ∃ l ∈ ls, l.length = mxL ls := by
    obtain ⟨h1, h2, h3⟩ := foldl_max (ls.map List.length) 0
    rcases h3 with h3 | h3
    · obtain ⟨l, r, rfl⟩ := List.exists_cons_of_ne_nil h
      refine ⟨l, List.mem_cons_self, ?_⟩
      have := h2 l.length (List.mem_map_of_mem List.mem_cons_self)
      unfold mxL
      omega
    · obtain ⟨l, hl, e⟩ := List.mem_map.mp h3
      exact ⟨l, hl, e⟩
  obtain ⟨l, hl, e⟩ := hm
  have hne : (ls.filter fun l => decide (l.length = mxL ls)) ≠ [] := fun z => by
    have := List.filter_eq_nil_iff.mp z l hl
    exact this (decide_eq_true e)
  obtain ⟨x, r, hx⟩ := List.exists_cons_of_ne_nil hne
  unfold fstL
  rw [hx]
  exact ⟨r, rfl⟩
def eMost (ls : List (List Str)) : PyData := .tuple [.int (mxL ls : Int), kyD (fstL ls (mxL ls))]
def sp_most_ashore : DSp := fun ws S Q => ∃ L W fs g ps, ws = [.d (eRaft L W), .d (eFolk fs), .d (eSt g ps)] ∧ (OkR L W ∧ OkG fs ∧ Sz 12 g ∧ (∀ p ∈ ps, Sz 12 p)) ∧ Q (.d (eMost (toldLots L W fs (frontG W fs g ps)))) S
theorem max_uniq {ls : List (List Str)} {m : Int} (h1 : m ∈ ls.map fun l => (l.length : Int)) (h2 : ∀ y ∈ ls.map fun l => (l.length : Int), y ≤ m) : m = (mxL ls : Int) := by
  obtain ⟨a, b, c⟩ := foldl_max (ls.map List.length) 0
  obtain ⟨l, hl, rfl⟩ := List.mem_map.mp h1
  have b1 := b l.length (List.mem_map_of_mem hl)
  have b2 : mxL ls ≤ l.length := by
    unfold mxL
    rcases c with c | c
    · omega
    · obtain ⟨l', hl', e⟩ := List.mem_map.mp c
      have := h2 (l'.length : Int) (List.mem_map.mpr ⟨l', hl', rfl⟩)
      omega
  unfold mxL at *
  omega
/-! ### orders -/
def facN : Nat → Nat
  | 0 => 1
  | n + 1 => (n + 1) * facN n
def ordsN (L W : Int) : Nat → List One → Rat → List Str → List (List Str)
  | 0, _, _, lot => if lot = [] then [[]] else []
  | d + 1, fs, front, lot => if lot = [] then [[]] else lot.flatMap fun n => if canF L W fs front n = true then (ordsN L W d (leftOf fs [n]) (nextG W fs front n) (lot.filter fun x => !(x == n))).map (n :: ·) else []
def eOrd (os : List (List Str)) : PyData := .tuple [.int (os.length : Int), match os with
  | [] => .none
  | o :: _ => kyD o]
structure OkLot (fs : List One) (lot : List Str) : Prop where
  sub : ∀ n ∈ lot, n ∈ fs.map (·.n)
  nd : lot.Nodup
def sp_ordD (d : Nat) : DSp := fun ws S Q => ∃ L W fs front lot, ws = [.d (eRaft L W), .d (eFolk fs), .d (eQ front), .d (kyD lot)] ∧ (lot.length < d ∧ lot.length ≤ 7 ∧ OkR L W ∧ OkG fs ∧ OkLot fs lot ∧ Sz (400 - 16 * lot.length) front) ∧ Q (.d (eOrd (ordsN L W d fs front lot))) S
abbrev sp_orders_from : DSp := sp_ordD 7
def sp_lawOrdD (d : Nat) : DSp := fun ws S Q => ∃ L W fs front lot, ws = [.d (eRaft L W), .d (eFolk fs), .d (eQ front), .d (kyD lot)] ∧ (lot.length < d ∧ lot.length ≤ 5 ∧ OkR L W ∧ OkG fs ∧ OkLot fs lot ∧ Sz (400 - 16 * lot.length) front) ∧ Q (.d (.list ((ordsN L W d fs front lot).map kyD))) S
abbrev sp__law_orders : DSp := sp_lawOrdD 7
def sp_orders : DSp := fun ws S Q => ∃ L W fs g ps lot, ws = [.d (eRaft L W), .d (eFolk fs), .d (eSt g ps), .d (kyD lot)] ∧ (OkR L W ∧ OkG fs ∧ lot.length < 7 ∧ OkLot fs lot ∧ Sz 12 g ∧ (∀ p ∈ ps, Sz 12 p)) ∧ Q (.d (eOrd (ordsN L W 7 fs (frontG W fs g ps) lot))) S
theorem OkLot.rest {fs : List One} {lot : List Str} (h : OkLot fs lot) (n : Str) : OkLot (leftOf fs [n]) (lot.filter fun x => !(x == n)) := by
  refine ⟨fun m hm => ?_, h.nd.sublist List.filter_sublist⟩
  obtain ⟨h1, h2⟩ := List.mem_filter.mp hm
  obtain ⟨o, ho, rfl⟩ := List.mem_map.mp (h.sub m h1)
  refine List.mem_map_of_mem (List.mem_filter.mpr ⟨ho, ?_⟩)
  simpa using h2
theorem rest_len {lot : List Str} {n : Str} (hn : n ∈ lot) (hd : lot.Nodup) : (lot.filter fun x => !(x == n)).length + 1 = lot.length := by
  induction lot with
  | nil => cases hn
  | cons a r ih =>
    rw [List.nodup_cons] at hd
    by_cases c : a = n
    · subst c
      rw [List.filter_cons_of_neg (by simp), List.filter_eq_self.mpr, List.length_cons]
      intro x hx
      simpa using fun z : x = a => hd.1 (z ▸ hx)
    · rw [List.filter_cons_of_pos (by simpa using c), List.length_cons, List.length_cons, ih ((List.mem_cons.mp hn).elim (fun z => absurd z.symm c) id) hd.2]
theorem ords_len {L W : Int} : ∀ (d : Nat) (fs : List One) (front : Rat) (lot : List Str), lot.Nodup → (ordsN L W d fs front lot).length ≤ facN lot.length
  | 0, fs, front, lot, _ => by
    unfold ordsN
    split
    · rename_i h; rw [h]; exact Nat.le_refl _
    · exact Nat.zero_le _
  | d + 1, fs, front, lot, hd => by
    unfold ordsN
    split
    · rename_i h; rw [h]; exact Nat.le_refl _
    · have key : ∀ ns : List Str, (∀ n ∈ ns, n ∈ lot) → (ns.flatMap fun n => if canF L W fs front n = true then (ordsN L W d (leftOf fs [n]) (nextG W fs front n) (lot.filter fun x => !(x == n))).map (n :: ·) else []).length ≤ ns.length * facN (lot.length - 1) := by
        intro ns
        induction ns with
        | nil => intro _; exact Nat.zero_le _
        | cons n ns ih =>
          intro hn
          have h1 := ih fun m hm => hn m (List.mem_cons_of_mem _ hm)
          have h2 := rest_len (hn n List.mem_cons_self) hd
          have h3 := ords_len (L := L) (W := W) d (leftOf fs [n]) (nextG W fs front n) (lot.filter fun x => !(x == n)) (hd.sublist List.filter_sublist)
          rw [List.flatMap_cons, List.length_append, List.length_cons, Nat.add_mul, Nat.one_mul]
          have h4 : (if canF L W fs front n = true then (ordsN L W d (leftOf fs [n]) (nextG W fs front n) (lot.filter fun x => !(x == n))).map (n :: ·) else []).length ≤ facN (lot.length - 1) := by
            split
            · rw [List.length_map]
              rw [show lot.length - 1 = (lot.filter fun x => !(x == n)).length by omega]
              exact h3
            · exact Nat.zero_le _
          omega
      refine Nat.le_trans (key lot fun _ h => h) ?_
      cases hl : lot with
      | nil => rename_i h; exact absurd hl h
      | cons a r =>
        rw [List.length_cons, Nat.add_sub_cancel]
        exact Nat.le_refl _
end Rf
namespace Rf
open PySem PySem.Spec PyProof.Rows L2 Dl Fr PySem.W
theorem c_lenK {l : List Str} {S : Sto} {Q : WK} (q : Q (.d (.int (l.length : Int))) S) : cLen [.d (kyD l)] S Q := by
  show Q (.d (.int ((l.map PyData.str).length : Int))) S
  rw [List.length_map]
  exact q
end Rf
namespace Rf
open PySem PySem.Spec PyProof.Rows L2 Dl Fr PySem.W
theorem ords_mem {L W : Int} : ∀ (d : Nat) (fs : List One) (front : Rat) (lot : List Str), lot.Nodup → ∀ o ∈ ordsN L W d fs front lot, o.length = lot.length
  | 0, fs, front, lot, _, o, ho => by
    unfold ordsN at ho
    split at ho
    · rename_i h; rw [h, List.mem_singleton.mp ho]
    · cases ho
  | d + 1, fs, front, lot, hd, o, ho => by
    unfold ordsN at ho
    split at ho
    · rename_i h; rw [h, List.mem_singleton.mp ho]
    · obtain ⟨n, hn, hm⟩ := List.mem_flatMap.mp ho
      split at hm
      · obtain ⟨o', ho', rfl⟩ := List.mem_map.mp hm
        have h1 := ords_mem d _ _ _ (hd.sublist List.filter_sublist) o' ho'
        have h2 := rest_len hn hd
        rw [List.length_cons, h1]
        exact h2
      · cases hm
end Rf
namespace Rf
open PySem PySem.Spec PyProof.Rows L2 Dl Fr PySem.W
theorem sumH_split {nm : Str} : ∀ {fs : List One}, sumH fs = sumH (others fs nm) + sumH (those fs nm)
  | [] => rfl
  | o :: fs => by
    have ih := sumH_split (nm := nm) (fs := fs)
    have e : ∀ (a : One) (l : List One), sumH (a :: l) = a.h + sumH l := fun a l => by simp [sumH]
    by_cases c : (o.n == nm) = true
    · have e1 : others (o :: fs) nm = others fs nm := List.filter_cons_of_neg (by rw [c]; exact Bool.false_ne_true)
      have e2 : those (o :: fs) nm = o :: those fs nm := List.filter_cons_of_pos c
      rw [e1, e2, e, e, ih]
      omega
    · have c' : (o.n == nm) = false := Bool.eq_false_iff.mpr c
      have e1 : others (o :: fs) nm = o :: others fs nm := List.filter_cons_of_pos (by rw [c']; rfl)
      have e2 : those (o :: fs) nm = those fs nm := List.filter_cons_of_neg c
      rw [e1, e2, e, e, ih]
      omega
def goesD (L W : Int) (fs : List One) (front : Rat) (nm : Str) : PyData := if canF L W fs front nm = true then eQ (nextG W fs front nm) else .none
def sp__law_goes : DSp := fun ws S Q => ∃ L W fs front nm, ws = [.d (eRaft L W), .d (eFolk fs), .d (eQ front), .d (.str nm)] ∧ (OkR L W ∧ OkG fs ∧ nm ∈ fs.map (·.n) ∧ Sz 900 front) ∧ Q (.d (goesD L W fs front nm)) S
end Rf
namespace Rf
open PySem PySem.Spec PyProof.Rows L2 Dl Fr PySem.W
theorem it_l0 {a : PyData} {r : List PyData} {S : Sto} {Q : WK} (q : Q (.d a) S) : rItem (.d (.list (a :: r))) (.d (.int 0)) S Q := by
  show Dl.itemAt (a :: r) 0 _
  unfold Dl.itemAt
  rw [show atI (a :: r) 0 = some a from atI_nat (j := 0) rfl]
  exact q
end Rf

namespace Rf
open PySem PySem.Spec PyProof.Rows L2 Dl Fr PySem.W
/-! ### ways ashore -/
def pth (L W : Int) : List One → Rat → List Str → Prop
  | _, _, [] => True
  | fs, g, n :: o => n ∈ fs.map (·.n) ∧ canF L W fs g n = true ∧ pth L W (leftOf fs [n]) (nextG W fs g n) o
def fin (W : Int) : List One → Rat → List Str → Rat
  | _, g, [] => g
  | fs, g, n :: o => fin W (leftOf fs [n]) (nextG W fs g n) o
theorem left_left (fs : List One) (a b : List Str) : leftOf (leftOf fs a) b = leftOf fs (a ++ b) := by
  unfold leftOf
  rw [List.filter_filter]
  refine List.filter_congr fun o _ => ?_
  simp [List.contains_eq_mem, Bool.and_comm]
theorem left_nil (fs : List One) : leftOf fs [] = fs := by unfold leftOf; exact List.filter_eq_self.mpr fun _ _ => by simp
theorem left_perm {fs : List One} {a b : List Str} (h : a.Perm b) : leftOf fs a = leftOf fs b := by
  unfold leftOf
  refine List.filter_congr fun o _ => ?_
  have : a.contains o.n = b.contains o.n := by
    rw [Bool.eq_iff_iff, List.contains_iff_mem, List.contains_iff_mem]
    exact h.mem_iff
  rw [this]
theorem pth_snoc {L W : Int} : ∀ (o : List Str) (fs : List One) (g : Rat) (n : Str), pth L W fs g (o ++ [n]) ↔ pth L W fs g o ∧ n ∈ (leftOf fs o).map (·.n) ∧ canF L W (leftOf fs o) (fin W fs g o) n = true
  | [], fs, g, n => by
    rw [left_nil]
    show (n ∈ fs.map (·.n) ∧ canF L W fs g n = true ∧ True) ↔ True ∧ n ∈ fs.map (·.n) ∧ canF L W fs g n = true
    constructor
    · rintro ⟨a, b, _⟩; exact ⟨trivial, a, b⟩
    · rintro ⟨_, a, b⟩; exact ⟨a, b, trivial⟩
  | m :: o, fs, g, n => by
    have ih := pth_snoc (L := L) (W := W) o (leftOf fs [m]) (nextG W fs g m) n
    rw [left_left] at ih
    show (m ∈ fs.map (·.n) ∧ canF L W fs g m = true ∧ pth L W (leftOf fs [m]) (nextG W fs g m) (o ++ [n])) ↔ (m ∈ fs.map (·.n) ∧ canF L W fs g m = true ∧ pth L W (leftOf fs [m]) (nextG W fs g m) o) ∧ n ∈ (leftOf fs (m :: o)).map (·.n) ∧ canF L W (leftOf fs (m :: o)) (fin W (leftOf fs [m]) (nextG W fs g m) o) n = true
    rw [ih]
    constructor
    · rintro ⟨a, b, c, d, e⟩; exact ⟨⟨a, b, c⟩, d, e⟩
    · rintro ⟨⟨a, b, c⟩, d, e⟩; exact ⟨a, b, c, d, e⟩
theorem fin_snoc {W : Int} : ∀ (o : List Str) (fs : List One) (g : Rat) (n : Str), fin W fs g (o ++ [n]) = nextG W (leftOf fs o) (fin W fs g o) n
  | [], fs, g, n => by rw [left_nil]; rfl
  | m :: o, fs, g, n => by
    have ih := fin_snoc (W := W) o (leftOf fs [m]) (nextG W fs g m) n
    rw [left_left] at ih
    exact ih
theorem mem_left {fs : List One} {o : List Str} {n : Str} : n ∈ (leftOf fs o).map (·.n) ↔ n ∈ fs.map (·.n) ∧ n ∉ o := by
  constructor
  · intro h
    obtain ⟨x, hx, rfl⟩ := List.mem_map.mp h
    obtain ⟨h1, h2⟩ := List.mem_filter.mp hx
    exact ⟨List.mem_map_of_mem h1, by simpa using h2⟩
  · rintro ⟨h1, h2⟩
    obtain ⟨x, hx, rfl⟩ := List.mem_map.mp h1
    exact List.mem_map_of_mem (List.mem_filter.mpr ⟨hx, by simpa using h2⟩)
theorem pth_nd {L W : Int} : ∀ (o : List Str) (fs : List One) (g : Rat), pth L W fs g o → o.Nodup ∧ ∀ n ∈ o, n ∈ fs.map (·.n)
  | [], _, _, _ => ⟨List.nodup_nil, fun _ h => (nomatch h)⟩
  | m :: o, fs, g, h => by
    obtain ⟨h1, _, h3⟩ := h
    obtain ⟨h4, h5⟩ := pth_nd o _ _ h3
    refine ⟨List.nodup_cons.mpr ⟨fun z => ?_, h4⟩, fun n hn => ?_⟩
    · exact (mem_left.mp (h5 m z)).2 List.mem_cons_self
    · rcases List.mem_cons.mp hn with rfl | hn
      · exact h1
      · exact (mem_left.mp (h5 n hn)).1
/-- orders are the ways of a lot -/
theorem ords_iff {L W : Int} : ∀ (d : Nat) (fs : List One) (g : Rat) (lot : List Str), lot.length ≤ d → OkLot fs lot → ∀ o, o ∈ ordsN L W d fs g lot ↔ o.Perm lot ∧ pth L W fs g o
  | 0, fs, g, lot, hl, hk, o => by
    have e : lot = [] := List.length_eq_zero_iff.mp (by omega)
    subst e
    show o ∈ [[]] ↔ _
    constructor
    · intro h
      rw [List.mem_singleton.mp h]
      exact ⟨.nil, trivial⟩
    · rintro ⟨h, _⟩
      rw [List.perm_nil.mp h]
      exact List.mem_singleton_self _
  | d + 1, fs, g, lot, hl, hk, o => by
    unfold ordsN
    by_cases e : lot = []
    · subst e
      rw [if_pos rfl]
      constructor
      · intro h
        rw [List.mem_singleton.mp h]
        exact ⟨.nil, trivial⟩
      · rintro ⟨h, _⟩
        rw [List.perm_nil.mp h]
        exact List.mem_singleton_self _
    · rw [if_neg e, List.mem_flatMap]
      have key : ∀ n ∈ lot, (n :: lot.filter fun x => !(x == n)).Perm lot := fun n hn => by
        have := List.perm_cons_erase hn
        rw [hk.nd.erase_eq_filter] at this
        refine .trans (.cons n ?_) this.symm
        have e : (fun x => !(x == n)) = (fun x : Str => x != n) := rfl
        rw [e]
      constructor
      · rintro ⟨n, hn, hm⟩
        split at hm
        · rename_i hc
          obtain ⟨o', ho', rfl⟩ := List.mem_map.mp hm
          have hr := rest_len hn hk.nd
          obtain ⟨h1, h2⟩ := (ords_iff d (leftOf fs [n]) (nextG W fs g n) _ (by omega) (hk.rest n) o').mp ho'
          exact ⟨(List.Perm.cons n h1).trans (key n hn), hk.sub n hn, hc, h2⟩
        · cases hm
      · rintro ⟨hp, hq⟩
        cases o with
        | nil => exact absurd (List.nil_perm.mp hp) e
        | cons n o' =>
          have hn : n ∈ lot := hp.mem_iff.mp List.mem_cons_self
          obtain ⟨h1, h2, h3⟩ := hq
          refine ⟨n, hn, ?_⟩
          rw [if_pos h2]
          refine List.mem_map.mpr ⟨o', ?_, rfl⟩
          have hr := rest_len hn hk.nd
          exact (ords_iff d (leftOf fs [n]) (nextG W fs g n) _ (by omega) (hk.rest n) o').mpr ⟨(List.perm_cons n).mp (hp.trans (key n hn).symm), h3⟩
/-! ### a smaller gap is better -/
theorem canF_mono {L W : Int} {fs : List One} {g g' : Rat} {n : Str} (h : g' ≤ g) (hc : canF L W fs g n = true) : canF L W fs g' n = true := by
  rw [canF_iff] at hc ⊢
  grind
theorem next_mono {L W : Int} {fs : List One} (hr : OkR L W) (h : OkG fs) {n : Str} (hm : n ∈ fs.map (·.n)) {g g' : Rat} (hg : g' ≤ g) : nextG W fs g' n ≤ nextG W fs g n := by
  have h1 := (heavy_own hr h hm).1
  have h2 : (0 : Rat) < ((heavy W fs - (oneOf fs n).h : Int) : Rat) := by exact_mod_cast h1
  have h3 : (0 : Rat) < ((oneOf fs n).h : Rat) := by
    have := (h.h hm).1
    exact_mod_cast (show (0 : Int) < (oneOf fs n).h by omega)
  unfold nextG
  refine rdiv_le ?_ h2
  rw [Rat.intCast_sub] at h2
  have h5 := Rat.mul_nonneg (show 0 ≤ g - g' by grind) (Rat.le_of_lt h2)
  unfold far
  split
  · rename_i c1
    split
    · have h4 := Rat.mul_nonneg (show 0 ≤ g - g' by grind) (Rat.le_of_lt h3)
      grind
    · rename_i c2
      grind
  · rename_i c1
    split
    · rename_i c2
      have h4 := Rat.mul_nonneg (show 0 ≤ g - ((oneOf fs n).r : Rat) by grind) (Rat.le_of_lt h3)
      grind
    · grind
end Rf
namespace Rf
open PySem PySem.Spec PyProof.Rows L2 Dl Fr PySem.W
/-! ### what the table holds -/
theorem lkp_nil (l : List Str) : lkp [] l = none := rfl
theorem lkp_cons (p : List Str × Rat) (t : Tb) (l : List Str) : lkp (p :: t) l = if p.1 = l then some p.2 else lkp t l := by
  unfold lkp
  by_cases c : p.1 = l
  · rw [List.find?_cons_of_pos (by simpa using c), if_pos c]; rfl
  · rw [List.find?_cons_of_neg (by simpa using c), if_neg c]
theorem lkp_any (t : Tb) (l : List Str) : (t.any fun p => decide (p.1 = l)) = (lkp t l).isSome := by
  induction t with
  | nil => rfl
  | cons p t ih =>
    rw [List.any_cons, lkp_cons, ih]
    by_cases c : p.1 = l
    · rw [if_pos c, decide_eq_true c]; rfl
    · rw [if_neg c, decide_eq_false c]; rfl
theorem lkp_map (t : Tb) (l m : List Str) (g : Rat) : lkp (t.map fun p => if p.1 = l then (p.1, g) else p) m = if m = l then (lkp t m).map (fun _ => g) else lkp t m := by
  induction t with
  | nil => rw [List.map_nil, lkp_nil]; split <;> rfl
  | cons p t ih =>
    rw [List.map_cons, lkp_cons, lkp_cons, ih]
    by_cases c : p.1 = l
    · rw [if_pos c]
      by_cases d : p.1 = m
      · have e : m = l := d.symm.trans c
        rw [if_pos d, if_pos e, if_pos d]
        rfl
      · have e : m ≠ l := fun z => d (c.trans z.symm)
        simp only [d, e, if_false]
    · rw [if_neg c]
      by_cases d : p.1 = m
      · have e : m ≠ l := fun z => c (d.trans z)
        simp only [d, e, if_true, if_false]
      · simp only [d, if_false]
theorem lkp_app (t : Tb) (l m : List Str) (g : Rat) : lkp (t ++ [(l, g)]) m = match lkp t m with
    | some x => some x
    | none => if l = m then some g else none := by
  induction t with
  | nil => rw [List.nil_append, lkp_cons]; rfl
  | cons p t ih =>
    rw [List.cons_append, lkp_cons, lkp_cons, ih]
    by_cases c : p.1 = m
    · rw [if_pos c, if_pos c]
    · rw [if_neg c, if_neg c]
theorem lkp_put (t : Tb) (l m : List Str) (g : Rat) : lkp (putT t l g) m = if m = l then some g else lkp t m := by
  unfold putT
  rw [lkp_any]
  by_cases c : (lkp t l).isSome = true
  · rw [if_pos c, lkp_map]
    by_cases d : m = l
    · subst d
      rw [if_pos rfl, if_pos rfl]
      obtain ⟨x, hx⟩ := Option.isSome_iff_exists.mp c
      rw [hx]; rfl
    · rw [if_neg d, if_neg d]
  · rw [if_neg c, lkp_app]
    by_cases d : m = l
    · subst d
      have : lkp t m = none := by
        cases q : lkp t m with
        | none => rfl
        | some x => rw [q] at c; exact absurd rfl c
      rw [this, if_pos rfl]
    · rw [if_neg d, if_neg fun z => d z.symm]
      cases lkp t m <;> rfl
/-- t' holds at least what t does, as small -/
def Les (t t' : Tb) : Prop := ∀ l g, lkp t l = some g → ∃ g', lkp t' l = some g' ∧ g' ≤ g
theorem Les.refl (t : Tb) : Les t t := fun l g h => ⟨g, h, Rat.le_refl⟩
theorem Les.trans {a b c : Tb} (h : Les a b) (h' : Les b c) : Les a c := fun l g e => by
  obtain ⟨g1, e1, l1⟩ := h l g e
  obtain ⟨g2, e2, l2⟩ := h' l g1 e1
  exact ⟨g2, e2, Rat.le_trans l2 l1⟩
theorem upd1_les (t : Tb) (p : List Str × Rat) : Les t (upd1 t p) ∧ ∃ g', lkp (upd1 t p) p.1 = some g' ∧ g' ≤ p.2 := by
  unfold upd1
  cases q : lkp t p.1 with
  | none =>
    refine ⟨fun l g e => ?_, p.2, by rw [lkp_put, if_pos rfl], Rat.le_refl⟩
    have hne : l ≠ p.1 := fun z => by rw [z, q] at e; cases e
    exact ⟨g, by rw [lkp_put, if_neg hne]; exact e, Rat.le_refl⟩
  | some x =>
    show Les t (if p.2 < x then putT t p.1 p.2 else t) ∧ _
    split
    · rename_i c
      refine ⟨fun l g e => ?_, p.2, ?_, Rat.le_refl⟩
      · by_cases d : l = p.1
        · subst d
          rw [q] at e
          cases e
          exact ⟨p.2, by rw [lkp_put, if_pos rfl], Rat.le_of_lt c⟩
        · exact ⟨g, by rw [lkp_put, if_neg d]; exact e, Rat.le_refl⟩
      · show lkp (if p.2 < x then putT t p.1 p.2 else t) p.1 = _
        rw [if_pos c, lkp_put, if_pos rfl]
    · rename_i c
      refine ⟨Les.refl t, x, ?_, Rat.not_lt.mp c⟩
      show lkp (if p.2 < x then putT t p.1 p.2 else t) p.1 = _
      rw [if_neg c]
      exact q
theorem upd1_other (t : Tb) (p : List Str × Rat) {l : List Str} (h : l ≠ p.1) : lkp (upd1 t p) l = lkp t l := by
  unfold upd1
  split
  · rw [lkp_put, if_neg h]
  · split
    · rw [lkp_put, if_neg h]
    · rfl
theorem upd1_src (t : Tb) (p : List Str × Rat) {l : List Str} {g : Rat} (h : lkp (upd1 t p) l = some g) : lkp t l = some g ∨ (l, g) = p := by
  by_cases c : l = p.1
  · subst c
    unfold upd1 at h
    split at h
    · rw [lkp_put, if_pos rfl] at h
      cases h
      exact .inr rfl
    · split at h
      · rw [lkp_put, if_pos rfl] at h
        cases h
        exact .inr rfl
      · exact .inl h
  · rw [upd1_other t p c] at h
    exact .inl h
theorem fold_les : ∀ (ps : List (List Str × Rat)) (t : Tb), Les t (ps.foldl upd1 t) ∧ ∀ p ∈ ps, ∃ g', lkp (ps.foldl upd1 t) p.1 = some g' ∧ g' ≤ p.2
  | [], t => ⟨Les.refl t, fun _ h => (nomatch h)⟩
  | p :: ps, t => by
    obtain ⟨h1, g1, e1, l1⟩ := upd1_les t p
    obtain ⟨h2, h3⟩ := fold_les ps (upd1 t p)
    rw [List.foldl_cons]
    refine ⟨h1.trans h2, fun q hq => ?_⟩
    rcases List.mem_cons.mp hq with rfl | hq
    · obtain ⟨g2, e2, l2⟩ := h2 _ _ e1
      exact ⟨g2, e2, Rat.le_trans l2 l1⟩
    · exact h3 q hq
theorem fold_other : ∀ (ps : List (List Str × Rat)) (t : Tb) {l : List Str}, (∀ p ∈ ps, l ≠ p.1) → lkp (ps.foldl upd1 t) l = lkp t l
  | [], t, l, _ => rfl
  | p :: ps, t, l, h => by
    rw [List.foldl_cons, fold_other ps _ fun q hq => h q (List.mem_cons_of_mem _ hq), upd1_other _ _ (h p List.mem_cons_self)]
theorem fold_src : ∀ (ps : List (List Str × Rat)) (t : Tb) {l : List Str} {g : Rat}, lkp (ps.foldl upd1 t) l = some g → lkp t l = some g ∨ (l, g) ∈ ps
  | [], t, l, g, h => .inl h
  | p :: ps, t, l, g, h => by
    rw [List.foldl_cons] at h
    rcases fold_src ps _ h with h | h
    · rcases upd1_src t p h with h | h
      · exact .inl h
      · exact .inr (by rw [h]; exact List.mem_cons_self)
    · exact .inr (List.mem_cons_of_mem _ h)
/-- closed under the steps of l -/
def Clo (L W : Int) (fs : List One) (t : Tb) (l : List Str) : Prop := ∀ g, lkp t l = some g → ∀ p ∈ stepsL L W fs l g, ∃ g', lkp t p.1 = some g' ∧ g' ≤ p.2
theorem steps_len {L W : Int} {fs : List One} {l : List Str} {g : Rat} {p : List Str × Rat} (h : p ∈ stepsL L W fs l g) : p.1.length = l.length + 1 := by
  obtain ⟨o, _, rfl⟩ := List.mem_map.mp h
  show (sortS (l ++ [o.n])).length = _
  rw [sortS_len, List.length_append, List.length_singleton]
theorem proc_clo {L W : Int} {fs : List One} (t : Tb) (l0 : List Str) : Les t (proc L W fs t l0) ∧ Clo L W fs (proc L W fs t l0) l0 ∧ ∀ l, l.length ≤ l0.length → Clo L W fs t l → Clo L W fs (proc L W fs t l0) l := by
  unfold proc
  cases q : lkp t l0 with
  | none =>
    refine ⟨Les.refl t, fun g hg => ?_, fun l _ h => h⟩
    have hg' : lkp t l0 = some g := hg
    rw [q] at hg'
    cases hg'
  | some g0 =>
    show Les t ((stepsL L W fs l0 g0).foldl upd1 t) ∧ _
    obtain ⟨h1, h2⟩ := fold_les (stepsL L W fs l0 g0) t
    have h3 : ∀ l, l.length ≤ l0.length → lkp ((stepsL L W fs l0 g0).foldl upd1 t) l = lkp t l := fun l hl => fold_other _ t fun p hp z => by
      have := steps_len hp
      rw [z] at hl
      omega
    refine ⟨h1, fun g hg => ?_, fun l hl hc g hg p hp => ?_⟩
    · have hg' : lkp ((stepsL L W fs l0 g0).foldl upd1 t) l0 = some g := hg
      rw [h3 l0 (Nat.le_refl _), q] at hg'
      cases hg'
      exact h2
    · have hg' : lkp ((stepsL L W fs l0 g0).foldl upd1 t) l = some g := hg
      rw [h3 l hl] at hg'
      obtain ⟨g1, e1, l1⟩ := hc g hg' p hp
      obtain ⟨g2, e2, l2⟩ := h1 _ _ e1
      exact ⟨g2, e2, Rat.le_trans l2 l1⟩
theorem procs_clo {L W : Int} {fs : List One} : ∀ (ls done : List (List Str)) (t : Tb), (ls.Pairwise fun a b => a.length ≤ b.length) → (∀ a ∈ done, ∀ b ∈ ls, a.length ≤ b.length) → (∀ a ∈ done, Clo L W fs t a) → Les t (ls.foldl (proc L W fs) t) ∧ (∀ a ∈ done, Clo L W fs (ls.foldl (proc L W fs) t) a) ∧ ∀ a ∈ ls, Clo L W fs (ls.foldl (proc L W fs) t) a
  | [], done, t, _, _, hc => ⟨Les.refl t, hc, fun _ h => (nomatch h)⟩
  | l :: ls, done, t, hp, hd, hc => by
    rw [List.pairwise_cons] at hp
    obtain ⟨h1, h2, h3⟩ := proc_clo (L := L) (W := W) (fs := fs) t l
    have hh := procs_clo (L := L) (W := W) (fs := fs) ls (l :: done) (proc L W fs t l) hp.2 (fun a ha b hb => ?_) fun a ha => ?_
    · rw [List.foldl_cons]
      refine ⟨h1.trans hh.1, fun a ha => hh.2.1 a (List.mem_cons_of_mem _ ha), fun a ha => ?_⟩
      rcases List.mem_cons.mp ha with rfl | ha
      · exact hh.2.1 _ List.mem_cons_self
      · exact hh.2.2 a ha
    · rcases List.mem_cons.mp ha with rfl | ha
      · exact hp.1 b hb
      · exact hd a ha b (List.mem_cons_of_mem _ hb)
    · rcases List.mem_cons.mp ha with rfl | ha
      · exact h2
      · exact h3 a (hd a ha l List.mem_cons_self) (hc a ha)
theorem sortN_sorted (ls : List (List Str)) : (sortN ls).Pairwise fun a b => a.length ≤ b.length := by
  have h := List.pairwise_mergeSort (le := fun a b : List Str => decide (a.length ≤ b.length)) (fun a b c h1 h2 => ?_) (fun a b => ?_) ls
  · exact h.imp fun {a b} z => of_decide_eq_true z
  · have h1' := of_decide_eq_true h1
    have h2' := of_decide_eq_true h2
    exact decide_eq_true (by omega)
  · by_cases c : a.length ≤ b.length
    · rw [decide_eq_true c]; rfl
    · rw [decide_eq_true (show b.length ≤ a.length by omega), Bool.or_true]
theorem gapsT_clo {L W : Int} {fs : List One} {front : Rat} : (∃ g', lkp (gapsT L W fs front) [] = some g' ∧ g' ≤ front) ∧ ∀ l ∈ lotsOf fs, Clo L W fs (gapsT L W fs front) l := by
  have h := procs_clo (L := L) (W := W) (fs := fs) (sortN (lotsOf fs)) [] [([], front)] (sortN_sorted _) (fun _ h => (nomatch h)) fun _ h => (nomatch h)
  refine ⟨h.1 [] front rfl, fun l hl => h.2.2 l ?_⟩
  unfold sortN
  exact (List.mergeSort_perm _ _).mem_iff.mpr hl
/-- all that the table holds has a way -/
theorem procs_src {L W : Int} {fs : List One} (P : List Str → Rat → Prop) (hs : ∀ l g p, P l g → p ∈ stepsL L W fs l g → P p.1 p.2) : ∀ (ls : List (List Str)) (t : Tb), (∀ l g, lkp t l = some g → P l g) → ∀ l g, lkp (ls.foldl (proc L W fs) t) l = some g → P l g
  | [], t, h => h
  | l0 :: ls, t, h => by
    rw [List.foldl_cons]
    refine procs_src P hs ls _ fun l g hg => ?_
    unfold proc at hg
    cases q : lkp t l0 with
    | none => rw [q] at hg; exact h l g hg
    | some g0 =>
      rw [q] at hg
      rcases fold_src _ t hg with z | z
      · exact h l g z
      · exact hs l0 g0 (l, g) (h l0 g0 q) z
end Rf

namespace Rf
open PySem PySem.Spec PyProof.Rows L2 Dl Fr PySem.W
/-! ### all lots -/
theorem allL_in : ∀ (ns : List Str) (acc : List (List Str)) (l : List Str), l ∈ allL ns acc ↔ ∃ a ∈ acc, ∃ s, List.Sublist s ns ∧ l = a ++ s
  | [], acc, l => by
    show l ∈ acc ↔ _
    constructor
    · intro h; exact ⟨l, h, [], .slnil, (List.append_nil l).symm⟩
    · rintro ⟨a, ha, s, hs, rfl⟩
      rw [List.sublist_nil.mp hs, List.append_nil]
      exact ha
  | n :: ns, acc, l => by
    rw [allL, allL_in ns]
    constructor
    · rintro ⟨a, ha, s, hs, rfl⟩
      rcases List.mem_append.mp ha with h | h
      · exact ⟨a, h, s, .cons n hs, rfl⟩
      · obtain ⟨b, hb, rfl⟩ := List.mem_map.mp h
        exact ⟨b, hb, n :: s, .cons_cons n hs, by rw [List.append_assoc]; rfl⟩
    · rintro ⟨a, ha, s, hs, rfl⟩
      cases hs with
      | cons _ hs => exact ⟨a, List.mem_append_left _ ha, s, hs, rfl⟩
      | cons_cons _ hs =>
        rename_i s'
        exact ⟨a ++ [n], List.mem_append_right _ (List.mem_map_of_mem ha), s', hs, by rw [List.append_assoc]; rfl⟩
theorem allL_nd : ∀ (ns : List Str) (acc : List (List Str)), ns.Nodup → acc.Nodup → (∀ a ∈ acc, ∀ n ∈ ns, n ∉ a) → (allL ns acc).Nodup
  | [], acc, _, h, _ => h
  | n :: ns, acc, hn, ha, hd => by
    rw [List.nodup_cons] at hn
    rw [allL]
    refine allL_nd ns _ hn.2 ?_ fun a h m hm => ?_
    · refine List.nodup_append.mpr ⟨ha, ?_, fun a h1 b h2 e => ?_⟩
      · exact List.Pairwise.map _ (fun a b hne e => hne (List.append_cancel_right e)) ha
      · obtain ⟨c, hc, rfl⟩ := List.mem_map.mp h2
        refine hd a h1 n List.mem_cons_self ?_
        rw [e]
        exact List.mem_append_right _ (List.mem_singleton_self _)
    · rcases List.mem_append.mp h with h | h
      · exact hd a h m (List.mem_cons_of_mem _ hm)
      · obtain ⟨b, hb, rfl⟩ := List.mem_map.mp h
        intro z
        rcases List.mem_append.mp z with z | z
        · exact hd b hb m (List.mem_cons_of_mem _ hm) z
        · rw [List.mem_singleton.mp z] at hm
          exact hn.1 hm
def Asc (ns : List Str) : Prop := ns.Pairwise fun a b => slt a b = true
theorem lots_mem {fs : List One} {l : List Str} : l ∈ lotsOf fs ↔ List.Sublist l (fs.map (·.n)) := by
  unfold lotsOf sortL
  rw [(srt_perm _).mem_iff, allL_in]
  constructor
  · rintro ⟨a, ha, s, hs, rfl⟩
    rw [List.mem_singleton.mp ha]
    exact hs
  · intro h
    exact ⟨[], List.mem_singleton_self _, l, h, rfl⟩
theorem Asc.sorted {ns : List Str} (h : Asc ns) : ns.Pairwise fun a b => slt b a = false := h.imp fun {a b} z => lt_s.asym z
theorem Asc.sub {ns l : List Str} (h : Asc ns) (hs : List.Sublist l ns) : Asc l := List.Pairwise.sublist hs h
theorem sort_sub {ns l o : List Str} (h : Asc ns) (hs : List.Sublist l ns) (hp : o.Perm l) : sortS o = l := srt_id lt_s (h.sub hs).sorted hp
theorem sub_of {ns o : List Str} (h : Asc ns) (hn : ns.Nodup) (ho : o.Nodup) (hm : ∀ n ∈ o, n ∈ ns) : List.Sublist (sortS o) ns := by
  have hp : o.Perm (ns.filter fun n => decide (n ∈ o)) := by
    refine (List.perm_ext_iff_of_nodup ho (hn.sublist List.filter_sublist)).mpr fun a => ?_
    rw [List.mem_filter]
    constructor
    · intro h; exact ⟨hm a h, decide_eq_true h⟩
    · rintro ⟨_, h⟩; exact of_decide_eq_true h
  rw [sort_sub h List.filter_sublist hp]
  exact List.filter_sublist
theorem sort_congr {a b : List Str} (h : a.Perm b) : sortS a = sortS b := srt_id lt_s (srt_sorted lt_s b) (h.trans (srt_perm b).symm)
/-! ### the table's keys -/
theorem keys_mem {t : Tb} {l : List Str} : l ∈ keysT t ↔ ∃ g, lkp t l = some g := by
  induction t with
  | nil => exact ⟨fun h => (nomatch h), fun ⟨g, h⟩ => (nomatch h)⟩
  | cons p t ih =>
    rw [lkp_cons]
    show l ∈ p.1 :: keysT t ↔ _
    by_cases c : p.1 = l
    · rw [if_pos c]
      exact ⟨fun _ => ⟨_, rfl⟩, fun _ => by rw [c]; exact List.mem_cons_self⟩
    · rw [if_neg c, ← ih]
      exact ⟨fun h => (List.mem_cons.mp h).resolve_left fun z => c z.symm, List.mem_cons_of_mem _⟩
theorem keys_put {t : Tb} {l : List Str} {g : Rat} (h : (keysT t).Nodup) : (keysT (putT t l g)).Nodup := by
  unfold putT
  split
  · have e : keysT (t.map fun p => if p.1 = l then (p.1, g) else p) = keysT t := by
      unfold keysT
      rw [List.map_map]
      refine List.map_congr_left fun p _ => ?_
      show (if p.1 = l then (p.1, g) else p).1 = p.1
      split <;> rfl
    rw [e]; exact h
  · rename_i c
    have e : keysT (t ++ [(l, g)]) = keysT t ++ [l] := by unfold keysT; rw [List.map_append]; rfl
    rw [e]
    refine List.nodup_append.mpr ⟨h, List.pairwise_singleton _ _, fun a h1 b h2 e => ?_⟩
    rw [List.mem_singleton.mp h2] at e
    subst e
    obtain ⟨g, hg⟩ := keys_mem.mp h1
    rw [lkp_any, hg] at c
    exact c rfl
theorem keys_upd {t : Tb} {p : List Str × Rat} (h : (keysT t).Nodup) : (keysT (upd1 t p)).Nodup := by
  unfold upd1
  split
  · exact keys_put h
  · split
    · exact keys_put h
    · exact h
theorem keys_fold : ∀ (ps : List (List Str × Rat)) (t : Tb), (keysT t).Nodup → (keysT (ps.foldl upd1 t)).Nodup
  | [], t, h => h
  | p :: ps, t, h => by rw [List.foldl_cons]; exact keys_fold ps _ (keys_upd h)
theorem keys_procs {L W : Int} {fs : List One} : ∀ (ls : List (List Str)) (t : Tb), (keysT t).Nodup → (keysT (ls.foldl (proc L W fs) t)).Nodup
  | [], t, h => h
  | l :: ls, t, h => by
    rw [List.foldl_cons]
    refine keys_procs ls _ ?_
    unfold proc
    split
    · exact h
    · exact keys_fold _ _ h
/-! ### what is told is what can go -/
theorem gaps_sound {L W : Int} {fs : List One} {front : Rat} (hG : OkG fs) (hA : Asc (fs.map (·.n))) {l : List Str} {g : Rat} (h : lkp (gapsT L W fs front) l = some g) : ∃ o : List Str, o.Perm l ∧ pth L W fs front o ∧ fin W fs front o = g ∧ List.Sublist l (fs.map (·.n)) := by
  refine procs_src (L := L) (W := W) (fs := fs) (fun l g => ∃ o : List Str, o.Perm l ∧ pth L W fs front o ∧ fin W fs front o = g ∧ List.Sublist l (fs.map (·.n))) (fun l g p hP hp => ?_) (sortN (lotsOf fs)) [([], front)] (fun l g e => ?_) l g h
  · obtain ⟨o, h1, h2, h3, h4⟩ := hP
    obtain ⟨x, hx, rfl⟩ := List.mem_map.mp hp
    obtain ⟨hx1, hx2⟩ := List.mem_filter.mp hx
    have e := left_perm (fs := fs) h1
    have hq : pth L W fs front (o ++ [x.n]) := by
      rw [pth_snoc, e, h3]
      exact ⟨h2, List.mem_map_of_mem hx1, hx2⟩
    have hpp : (o ++ [x.n]).Perm (l ++ [x.n]) := h1.append_right _
    refine ⟨o ++ [x.n], hpp.trans (srt_perm _).symm, hq, ?_, ?_⟩
    · rw [fin_snoc, e, h3]
    · show List.Sublist (sortS (l ++ [x.n])) _
      rw [← sort_congr hpp]
      obtain ⟨a, b⟩ := pth_nd _ _ _ hq
      exact sub_of hA hG.nd a b
  · rw [lkp_cons] at e
    split at e
    · rename_i c
      cases e
      exact ⟨[], by rw [← c], trivial, rfl, by rw [← c]; exact List.nil_sublist _⟩
    · cases e
theorem gaps_full {L W : Int} {fs : List One} {front : Rat} (hR : OkR L W) (hG : OkG fs) (hA : Asc (fs.map (·.n))) : ∀ r : List Str, pth L W fs front r.reverse → ∃ g, lkp (gapsT L W fs front) (sortS r.reverse) = some g ∧ g ≤ fin W fs front r.reverse
  | [], _ => by
    have h := (gapsT_clo (L := L) (W := W) (fs := fs) (front := front)).1
    rw [List.reverse_nil, show sortS [] = [] from srt_id lt_s List.Pairwise.nil .nil]
    exact h
  | n :: r, h => by
    rw [List.reverse_cons] at h ⊢
    obtain ⟨h1, h2, h3⟩ := (pth_snoc _ _ _ _).mp h
    obtain ⟨g, e, hl⟩ := gaps_full hR hG hA r h1
    obtain ⟨a, b⟩ := pth_nd _ _ _ h1
    have hs := sub_of hA hG.nd a b
    have hL : leftOf fs (sortS r.reverse) = leftOf fs r.reverse := left_perm (srt_perm _)
    obtain ⟨x, hx, rfl⟩ := List.mem_map.mp h2
    have hstep : (sortS (sortS r.reverse ++ [x.n]), nextG W (leftOf fs (sortS r.reverse)) g x.n) ∈ stepsL L W fs (sortS r.reverse) g := by
      refine List.mem_map.mpr ⟨x, List.mem_filter.mpr ⟨by rw [hL]; exact hx, ?_⟩, rfl⟩
      rw [hL]
      exact canF_mono hl h3
    obtain ⟨g', e', hl'⟩ := (gapsT_clo (L := L) (W := W) (fs := fs) (front := front)).2 _ (lots_mem.mpr hs) g e _ hstep
    refine ⟨g', ?_, ?_⟩
    · rw [← e']
      exact congrArg _ (sort_congr ((srt_perm (lt := slt) r.reverse).symm.append_right _))
    · rw [fin_snoc]
      have := next_mono hR (hG.left r.reverse) h2 hl
      rw [hL] at hl'
      exact Rat.le_trans hl' this
theorem sub_lot {fs : List One} (hG : OkG fs) {l : List Str} (h : List.Sublist l (fs.map (·.n))) : OkLot fs l := ⟨fun n hn => h.subset hn, hG.nd.sublist h⟩
theorem told_due {L W : Int} {fs : List One} {front : Rat} (hR : OkR L W) (hG : OkG fs) (hA : Asc (fs.map (·.n))) (h7 : fs.length ≤ 7) : toldLots L W fs front = (lotsOf fs).filter fun l => !(ordsN L W 7 fs front l).isEmpty := by
  refine srt_filter lt_k ?_
  have hn : (keysT (gapsT L W fs front)).Nodup := keys_procs _ _ (List.pairwise_singleton _ _)
  have ha : (allL (fs.map (·.n)) [[]]).Nodup := allL_nd _ _ hG.nd (List.pairwise_singleton _ _) fun a ha n hn z => by
    rw [List.mem_singleton.mp ha] at z
    cases z
  refine (List.perm_ext_iff_of_nodup hn (ha.sublist List.filter_sublist)).mpr fun l => ?_
  have hm : l ∈ allL (fs.map (·.n)) [[]] ↔ List.Sublist l (fs.map (·.n)) := by
    rw [← lots_mem]
    unfold lotsOf sortL
    exact (srt_perm _).mem_iff.symm
  rw [List.mem_filter, hm, keys_mem]
  have hlen : List.Sublist l (fs.map (·.n)) → l.length ≤ 7 := fun h => by
    have := h.length_le
    rw [List.length_map] at this
    omega
  constructor
  · rintro ⟨g, hg⟩
    obtain ⟨o, h1, h2, _, h4⟩ := gaps_sound hG hA hg
    refine ⟨h4, ?_⟩
    have := (ords_iff (L := L) (W := W) 7 fs front l (hlen h4) (sub_lot hG h4) o).mpr ⟨h1, h2⟩
    cases q : ordsN L W 7 fs front l with
    | nil => rw [q] at this; cases this
    | cons => rfl
  · rintro ⟨h4, hne⟩
    cases q : ordsN L W 7 fs front l with
    | nil => rw [q] at hne; cases hne
    | cons o os =>
      have ho : o ∈ ordsN L W 7 fs front l := by rw [q]; exact List.mem_cons_self
      obtain ⟨h1, h2⟩ := (ords_iff (L := L) (W := W) 7 fs front l (hlen h4) (sub_lot hG h4) o).mp ho
      obtain ⟨g, hg, _⟩ := gaps_full hR hG hA o.reverse (by rw [List.reverse_reverse]; exact h2)
      rw [List.reverse_reverse, sort_sub hA h4 h1] at hg
      exact ⟨g, hg⟩
theorem asc7 : Asc names7 := by
  unfold Asc
  have : ∀ a b : Str, slt a b = true ↔ slt a b = true := fun _ _ => Iff.rfl
  decide +kernel
theorem DrF.asc {most : Int} {fs : List One} (h : DrF most fs) : Asc (fs.map (·.n)) := by
  rw [h.nm]
  exact asc7.sub (List.take_sublist _ _)
theorem shp_ky {l : List Str} (h : ∀ n ∈ l, okS n) : Shp 1 (kyD l) := shp_tup (n := 0) fun x hx => by
  obtain ⟨n, hn, rfl⟩ := List.mem_map.mp hx
  exact shp_str (h n hn)
theorem shp_kys {ls : List (List Str)} (h : ∀ l ∈ ls, ∀ n ∈ l, okS n) : Shp 2 (.list (ls.map kyD)) := shp_list fun x hx => by
  obtain ⟨l, hl, rfl⟩ := List.mem_map.mp hx
  exact shp_ky (h l hl)
theorem lotsOf_pow (fs : List One) : (lotsOf fs).length = 2 ^ fs.length := by
  unfold lotsOf sortL
  rw [(srt_perm _).length_eq, allL_len, List.length_map, List.length_singleton, Nat.one_mul]
theorem frz_at {i : Nat} {u : DTS} {D : DEnds} {τ : En} {S : Sto} {a : Addr} {ds : List PyData} (h : τ[i]? = some (some (.c a))) (hS : S a = some (.lst ds)) (q : u D (τ.set i (some (.d (.list ds)))) (del S a)) : sFrz i u D τ S := by
  unfold sFrz
  simp only [h, hS]
  exact q
theorem ne_nilK {os : List (List Str)} {S : Sto} {Q : WK} (h : SeqAt.shaped (.list (os.map kyD)) = true) (q : Q (.d (.bool (!os.isEmpty))) S) : Dl.rEq true (.d (.list (os.map kyD))) (.d (.list [])) S Q := by
  cases os with
  | nil => exact ne_self rfl q
  | cons o os =>
    refine rNe_of (b := false) h rfl ?_ q
    rw [List.map_cons]
    simp only [PyData.eqv, PyData.eqvAll]
theorem ne_cellD {S : Sto} {a : Addr} {ds : List PyData} {Q : WK} (ha : S a = some (.lst ds)) (h : SeqAt.shaped (.list ds) = true) (q : Q (.d (.bool false)) S) : Dl.rEq true (.c a) (.d (.list ds)) S Q := by
  unfold Dl.rEq
  refine cellD ha ⟨h, h, ?_⟩
  rw [SeqAt.eqv_refl _ (SeqAt.canLay_of_shaped h)]
  exact q
theorem ords_sub {L W : Int} {fs : List One} {g : Rat} {l o : List Str} (hl : l.length ≤ 7) (hk : OkLot fs l) (h : o ∈ ordsN L W 7 fs g l) : ∀ n ∈ o, n ∈ fs.map (·.n) := fun n hn => hk.sub n (((ords_iff 7 fs g l hl hk o).mp h).1.mem_iff.mp hn)
end Rf

namespace Rf
open PySem PySem.Spec PyProof.Rows L2 Dl Fr PySem.W
theorem num_posR (q : Rat) : 0 < q.num ↔ 0 < q := by
  have h := @Rat.num_nonneg (-q)
  rw [Rat.neg_num] at h
  constructor
  · intro c
    refine Rat.not_le.mp fun z => ?_
    have := h.mpr (by grind)
    omega
  · intro c
    have h1 : ¬ (0 ≤ -q) := by grind
    have := mt h.mp h1
    omega
def dueR (L W : Int) (fs : List One) (front : Rat) (R : Int) : Rat := if 0 < front - (R : Rat) then (front - (R : Rat)) * ((heavy W fs : Int) : Rat) / ((L : Int) : Rat) else 0
def sp_must_stay : DSp := fun ws S Q => ∃ L W fs g ps, ws = [.d (eRaft L W), .d (eFolk fs), .d (eSt g ps)] ∧ (OkR L W ∧ OkF fs ∧ (∀ o ∈ fs, 0 ≤ o.r ∧ o.r ≤ 100) ∧ Sz 12 g ∧ (∀ p ∈ ps, Sz 12 p)) ∧ ((∃ R, 0 < fs.length ∧ (∀ o ∈ fs, o.r = R) ∧ Q (.d (eQ (dueR L W fs (frontG W fs g ps) R))) S) ∨ ((∃ o ∈ fs, ∃ o' ∈ fs, o.r ≠ o'.r) ∧ Q (.d .none) S))
def fact : Nat → Nat
  | 0 => 1
  | n + 1 => (n + 1) * fact n
theorem fact_lt {n : Nat} (h : n ≤ 20) : fact n < 2 ^ 100 := by
  have : ∀ n, n < 21 → fact n < 2 ^ 100 := by decide +kernel
  exact this n (by omega)
def sp__law_product : DSp := fun ws S Q => ∃ n : Nat, ws = [.d (.int (n : Int))] ∧ n ≤ 20 ∧ Q (.d (.int (fact n : Int))) S
/-! ### alike reaches -/
def Tst (L W R : Int) (fs : List One) (f : Rat) (lot : List Str) : Prop := (f - (R : Rat)) * (heavy W fs : Rat) ≤ (L : Rat) * (sumH (leftOf fs lot) : Rat)
theorem sumH_sub {a b : List One} (h : List.Sublist a b) (hp : ∀ o ∈ b, 0 ≤ o.h) : 0 ≤ sumH a ∧ sumH a ≤ sumH b := by
  induction h with
  | slnil => exact ⟨by decide, Int.le_refl _⟩
  | cons x h ih =>
    have h1 := ih fun o ho => hp o (List.mem_cons_of_mem _ ho)
    have h2 := hp x List.mem_cons_self
    have e : ∀ l, sumH (x :: l) = x.h + sumH l := fun l => by unfold sumH; rw [List.map_cons, List.sum_cons]
    rw [e]
    omega
  | cons_cons x h ih =>
    have h1 := ih fun o ho => hp o (List.mem_cons_of_mem _ ho)
    have h2 := hp x List.mem_cons_self
    have e : ∀ l, sumH (x :: l) = x.h + sumH l := fun l => by unfold sumH; rw [List.map_cons, List.sum_cons]
    rw [e, e]
    omega
theorem left_one (fs : List One) (n : Str) : leftOf fs [n] = others fs n := by
  unfold leftOf others
  refine List.filter_congr fun o _ => ?_
  simp only [List.contains_eq_mem, List.mem_singleton]
  rfl
theorem heavy_left {W : Int} {fs : List One} (h : OkG fs) {n : Str} (hm : n ∈ fs.map (·.n)) : heavy W (leftOf fs [n]) = heavy W fs - (oneOf fs n).h := by
  obtain ⟨o, ho, rfl, ht, e, _⟩ := h.mem hm
  have := sumH_split (nm := o.n) (fs := fs)
  rw [ht] at this
  have e1 : sumH [o] = o.h := by simp [sumH]
  rw [left_one, e]
  unfold heavy
  omega
section
variable {L W R : Int}
theorem tst_rhs {fs : List One} (hr : OkR L W) (hG : OkG fs) (lot : List Str) : (0 : Rat) ≤ (L : Rat) * (sumH (leftOf fs lot) : Rat) := by
  have h1 := (sumH_sub (a := leftOf fs lot) List.filter_sublist fun o ho => by have := hG.f.lo o ho; omega).1
  have h2 := hr.l1
  exact Rat.mul_nonneg (by exact_mod_cast (show (0 : Int) ≤ L by omega)) (by exact_mod_cast h1)
theorem can_tst {fs : List One} {f : Rat} {n : Str} (hr : OkR L W) (hG : OkG fs) (ha : ∀ o ∈ fs, o.r = R) (hm : n ∈ fs.map (·.n)) : canF L W fs f n = true ↔ Tst L W R fs f [n] := by
  have hv := (heavy_bd hG.f hr.w1 hr.w2).1
  have hv' : (0 : Rat) < (heavy W fs : Rat) := by exact_mod_cast hv
  rw [canF_iff]
  unfold Tst
  rw [left_one]
  obtain ⟨o, ho, rfl, _, e, _⟩ := hG.mem hm
  rw [e, ha o ho]
  generalize (heavy W fs : Rat) = M at hv' ⊢
  generalize (L : Rat) * (sumH (others fs o.n) : Rat) = T
  constructor
  · intro h
    have h1 : f - (R : Rat) ≤ T / M := by grind
    have h2 := Rat.mul_le_mul_of_nonneg_right h1 (Rat.le_of_lt hv')
    have e : T / M * M = T := by grind
    rw [e] at h2
    exact h2
  · intro h
    have h1 := rdiv_le h hv'
    have e : (f - (R : Rat)) * M / M = f - (R : Rat) := by grind
    rw [e] at h1
    grind
theorem tst_step {fs : List One} {f : Rat} {n : Str} {lot rest : List Str} (hr : OkR L W) (hG : OkG fs) (ha : ∀ o ∈ fs, o.r = R) (hm : n ∈ fs.map (·.n)) (hp : (n :: rest).Perm lot) : Tst L W R (leftOf fs [n]) (nextG W fs f n) rest ↔ Tst L W R fs f lot := by
  have e1 : leftOf (leftOf fs [n]) rest = leftOf fs lot := by rw [left_left]; exact left_perm hp
  have h0 := tst_rhs hr hG lot
  have hv := (heavy_bd hG.f hr.w1 hr.w2).1
  have hv' : (0 : Rat) < (heavy W fs : Rat) := by exact_mod_cast hv
  have h1 := (heavy_own hr hG hm).1
  have h2 : (0 : Rat) < ((heavy W fs - (oneOf fs n).h : Int) : Rat) := by exact_mod_cast h1
  unfold Tst
  rw [e1, heavy_left hG hm]
  generalize (L : Rat) * (sumH (leftOf fs lot) : Rat) = T at h0 ⊢
  obtain ⟨o, ho, rfl, _, e, _⟩ := hG.mem hm
  have hro := ha o ho
  unfold nextG far
  rw [e] at h2 ⊢
  rw [hro]
  rw [Rat.intCast_sub] at h2 ⊢
  generalize (heavy W fs : Rat) = M at *
  generalize (o.h : Rat) = H at *
  generalize (R : Rat) = r at *
  have key : ∀ z : Rat, ((f * M - z * H) / (M - H) - r) * (M - H) = (f - r) * M + (r - z) * H := fun z => by
    have : (f * M - z * H) / (M - H) * (M - H) = f * M - z * H := by grind
    grind
  rw [key]
  split
  · rename_i c
    rw [show (f - r) * M + (r - r) * H = (f - r) * M by grind]
  · rename_i c
    have c' : f ≤ r := Rat.not_lt.mp c
    have a1 := Rat.mul_nonneg (show 0 ≤ r - f by grind) (Rat.le_of_lt hv')
    have a2 := Rat.mul_nonneg (show 0 ≤ r - f by grind) (Rat.le_of_lt h2)
    constructor
    · intro _; grind
    · intro _; grind
theorem tst_one {fs : List One} {f : Rat} {n : Str} {lot rest : List Str} (hr : OkR L W) (hG : OkG fs) (hp : (n :: rest).Perm lot) (h : Tst L W R fs f lot) : Tst L W R fs f [n] := by
  unfold Tst at h ⊢
  refine Rat.le_trans h ?_
  have e1 : leftOf fs lot = leftOf (leftOf fs [n]) rest := by rw [left_left]; exact (left_perm hp).symm
  rw [e1]
  have h1 := (sumH_sub (a := leftOf (leftOf fs [n]) rest) (b := leftOf fs [n]) List.filter_sublist fun o ho => by have := (hG.left [n]).f.lo o ho; omega).2
  have h2 := hr.l1
  exact Rat.mul_le_mul_of_nonneg_left (by exact_mod_cast h1) (by exact_mod_cast (show (0 : Int) ≤ L by omega))
theorem rest_perm {fs : List One} {lot : List Str} (hk : OkLot fs lot) {n : Str} (hn : n ∈ lot) : (n :: lot.filter fun x => !(x == n)).Perm lot := by
  have := List.perm_cons_erase hn
  rw [hk.nd.erase_eq_filter] at this
  exact .trans (.cons n (.refl _)) this.symm
theorem sum_const {α : Type} {c : Nat} {g : α → Nat} : ∀ (l : List α), (∀ a ∈ l, g a = c) → (l.map g).sum = l.length * c
  | [], _ => by simp
  | a :: l, h => by
    rw [List.map_cons, List.sum_cons, sum_const l fun x hx => h x (List.mem_cons_of_mem _ hx), h a List.mem_cons_self, List.length_cons, Nat.add_mul, Nat.one_mul, Nat.add_comm]
theorem ords_all (hr : OkR L W) : ∀ (d : Nat) (fs : List One) (f : Rat) (lot : List Str), lot.length ≤ d → OkG fs → (∀ o ∈ fs, o.r = R) → OkLot fs lot → Tst L W R fs f lot → (ordsN L W d fs f lot).length = fact lot.length ∧ (ordsN L W d fs f lot).head? = some lot
  | 0, fs, f, lot, hl, hG, ha, hk, ht => by
    have e : lot = [] := List.length_eq_zero_iff.mp (by omega)
    subst e
    exact ⟨rfl, rfl⟩
  | d + 1, fs, f, lot, hl, hG, ha, hk, ht => by
    unfold ordsN
    by_cases e : lot = []
    · subst e
      rw [if_pos rfl]
      exact ⟨rfl, rfl⟩
    · rw [if_neg e]
      have step : ∀ n ∈ lot, (if canF L W fs f n = true then (ordsN L W d (leftOf fs [n]) (nextG W fs f n) (lot.filter fun x => !(x == n))).map (n :: ·) else []).length = fact (lot.length - 1) ∧ (if canF L W fs f n = true then (ordsN L W d (leftOf fs [n]) (nextG W fs f n) (lot.filter fun x => !(x == n))).map (n :: ·) else []).head? = some (n :: lot.filter fun x => !(x == n)) := fun n hn => by
        have hp := rest_perm hk hn
        have hm := hk.sub n hn
        have hrl := rest_len hn hk.nd
        rw [if_pos ((can_tst hr hG ha hm).mpr (tst_one hr hG hp ht))]
        obtain ⟨h1, h2⟩ := ords_all hr d (leftOf fs [n]) (nextG W fs f n) (lot.filter fun x => !(x == n)) (by omega) (hG.left [n]) (fun o ho => ha o (List.mem_filter.mp ho).1) (hk.rest n) ((tst_step hr hG ha hm hp).mpr ht)
        rw [List.length_map, List.head?_map, h1, h2]
        exact ⟨by rw [show (lot.filter fun x => !(x == n)).length = lot.length - 1 by omega], rfl⟩
      constructor
      · rw [List.length_flatMap, sum_const (c := fact (lot.length - 1)) lot fun n hn => (step n hn).1]
        obtain ⟨a, t, rfl⟩ := List.exists_cons_of_ne_nil e
        rfl
      · obtain ⟨a, t, rfl⟩ := List.exists_cons_of_ne_nil e
        rw [List.flatMap_cons, List.head?_append, (step a List.mem_cons_self).2]
        have hnd := List.nodup_cons.mp hk.nd
        have e2 : ((a :: t).filter fun x => !(x == a)) = t := by
          rw [List.filter_cons_of_neg (by simp)]
          exact List.filter_eq_self.mpr fun x hx => by
            have : x ≠ a := fun z => hnd.1 (by rw [← z]; exact hx)
            simp [this]
        rw [e2]
        rfl
theorem ords_none (hr : OkR L W) : ∀ (d : Nat) (fs : List One) (f : Rat) (lot : List Str), lot.length ≤ d → OkG fs → (∀ o ∈ fs, o.r = R) → OkLot fs lot → lot ≠ [] → ¬ Tst L W R fs f lot → ordsN L W d fs f lot = []
  | 0, fs, f, lot, hl, hG, ha, hk, he, ht => absurd (List.length_eq_zero_iff.mp (by omega)) he
  | d + 1, fs, f, lot, hl, hG, ha, hk, he, ht => by
    unfold ordsN
    rw [if_neg he, List.flatMap_eq_nil_iff]
    intro n hn
    have hp := rest_perm hk hn
    have hm := hk.sub n hn
    have hrl := rest_len hn hk.nd
    split
    · rename_i hc
      by_cases e : (lot.filter fun x => !(x == n)) = []
      · rw [e] at hp
        have h1 := (can_tst hr hG ha hm).mp hc
        refine absurd ?_ ht
        unfold Tst at h1 ⊢
        rw [← left_perm hp]
        exact h1
      · rw [ords_none hr d _ _ _ (by omega) (hG.left [n]) (fun o ho => ha o (List.mem_filter.mp ho).1) (hk.rest n) e fun z => ht ((tst_step hr hG ha hm hp).mp z)]
        rfl
    · rfl
end
end Rf
namespace Rf
open PySem PySem.Spec PyProof.Rows L2 Dl Fr PySem.W
theorem due_tst {L W R : Int} {fs : List One} {f : Rat} {l : List Str} (hr : OkR L W) (hG : OkG fs) : decide ((sumH (leftOf fs l) : Rat) < dueR L W fs f R) = false ↔ Tst L W R fs f l := by
  have h0 := tst_rhs hr hG l
  have h1 := (sumH_sub (a := leftOf fs l) List.filter_sublist fun o ho => by have := hG.f.lo o ho; omega).1
  have h1' : (0 : Rat) ≤ (sumH (leftOf fs l) : Rat) := by exact_mod_cast h1
  have hL : (0 : Rat) < (L : Rat) := by
    have := hr.l1
    exact_mod_cast (show (0 : Int) < L by omega)
  have hv := (heavy_bd hG.f hr.w1 hr.w2).1
  have hv' : (0 : Rat) < (heavy W fs : Rat) := by exact_mod_cast hv
  rw [decide_eq_false_iff_not, Rat.not_lt]
  unfold Tst dueR
  generalize (sumH (leftOf fs l) : Rat) = s at *
  generalize (heavy W fs : Rat) = M at *
  generalize (L : Rat) = l' at *
  generalize f - (R : Rat) = ov
  split
  · constructor
    · intro h
      have h2 := Rat.mul_le_mul_of_nonneg_right h (Rat.le_of_lt hL)
      have e : ov * M / l' * l' = ov * M := by grind
      rw [e] at h2
      grind
    · intro h
      have h2 := rdiv_le h hL
      have e : l' * s / l' = s := by grind
      rw [e] at h2
      exact h2
  · rename_i c
    have h2 := Rat.mul_nonneg (show 0 ≤ -ov by grind) (Rat.le_of_lt hv')
    constructor
    · intro _; grind
    · intro _; exact h1'
/-- all with one reach -/
def alike (R : Int) (fs : List One) : List One := fs.map fun o => { o with r := R }
theorem alike_nm (R : Int) (fs : List One) : (alike R fs).map (·.n) = fs.map (·.n) := by unfold alike; rw [List.map_map]; rfl
theorem alike_r {R : Int} {fs : List One} : ∀ o ∈ alike R fs, o.r = R := fun o ho => by
  obtain ⟨x, _, rfl⟩ := List.mem_map.mp ho
  rfl
theorem alike_okG {R : Int} {fs : List One} (h : OkG fs) (h0 : 0 ≤ R) (h1 : R ≤ 100) : OkG (alike R fs) := by
  refine ⟨⟨by unfold alike; rw [List.length_map]; exact h.f.len, fun o ho => ?_, fun o ho => ?_⟩, fun o ho => ?_, by rw [alike_nm]; exact h.nd, fun o ho => by rw [alike_r o ho]; exact h0, fun o ho => by rw [alike_r o ho]; exact h1⟩
  · obtain ⟨x, hx, rfl⟩ := List.mem_map.mp ho
    exact h.f.lo x hx
  · obtain ⟨x, hx, rfl⟩ := List.mem_map.mp ho
    exact h.f.hi x hx
  · obtain ⟨x, hx, rfl⟩ := List.mem_map.mp ho
    exact h.n x hx
theorem cut_last {xs : List PyData} {y : PyData} : Dl.cutD (xs ++ [y]) none (some (-1)) = xs := by
  unfold Dl.cutD
  rw [HT.sIx_none, List.drop_zero, Nat.sub_zero]
  have e : HT.sIx (xs ++ [y]).length (xs ++ [y]).length (some (-1)) = xs.length := by
    rw [List.length_append, List.length_singleton]
    unfold HT.sIx
    simp
    omega
  rw [e, List.take_left']
  rfl
theorem at_last {xs : List PyData} {y : PyData} : atI (xs ++ [y]) (-1) = some y := by
  have e : ixN (xs ++ [y]).length (-1) = some xs.length := by
    rw [List.length_append, List.length_singleton]
    unfold ixN
    simp
    try omega
  unfold atI
  rw [e]
  show (xs ++ [y])[xs.length]? = some y
  rw [List.getElem?_append_right (Nat.le_refl _), Nat.sub_self]
  rfl
theorem div_by (q : Rat) {M L : Int} (hL : 0 < L) : Rat.divInt (q.num * M) ((q.den : Int) * L) = q * (M : Rat) / (L : Rat) := by
  rw [q_eq, Rat.intCast_mul, Rat.intCast_mul]
  have e : (q.num : Rat) / ((q.den : Int) : Rat) = q := by rw [← q_eq]; exact Rat.num_divInt_den q
  have d0 : ((q.den : Int) : Rat) ≠ 0 := by exact_mod_cast q.den_nz
  have l0 : (L : Rat) ≠ 0 := by exact_mod_cast (show L ≠ 0 by omega)
  have e2 : q * ((q.den : Int) : Rat) = (q.num : Rat) := by rw [← e]; grind
  generalize ((q.den : Int) : Rat) = d at *
  generalize (q.num : Rat) = n at *
  grind
end Rf

namespace Rf
open PySem PySem.Spec PyProof.Rows L2 Dl Fr
def topS (i : Nat) : Stmt := PySem.Challenge.pw_raftwalk_k08_whole_alike_reaches_ask_onl.main.body.getD i (.Pass ⟨0, 0, 0, 0⟩)
structure Bi (mg : Str → Option Value) : Prop where
  «abs» : mg "abs" = none
  «sum» : mg "sum" = none
  «zip» : mg "zip" = none
  «tuple» : mg "tuple" = none
  «sorted» : mg "sorted" = none
  «len» : mg "len" = none
  «min» : mg "min" = none
  «max» : mg "max" = none
  «range» : mg "range" = none
abbrev s_lowest : Stmt := topS 1
abbrev n_lowest : List Str := ["top", "bottom", "one", "other"]
theorem sc_lowest : FnScope ["top", "bottom", "one", "other"] ["top", "bottom"] (defScope s_lowest) := ⟨rfl, rfl, rfl, by decide +kernel, rfl, by decide +kernel, by decide +kernel⟩
abbrev s_plus : Stmt := topS 2
abbrev n_plus : List Str := ["one", "other"]
theorem sc_plus : FnScope ["one", "other"] ["one", "other"] (defScope s_plus) := ⟨rfl, rfl, rfl, by decide +kernel, rfl, by decide +kernel, by decide +kernel⟩
abbrev s_less : Stmt := topS 3
abbrev n_less : List Str := ["one", "other"]
theorem sc_less : FnScope ["one", "other"] ["one", "other"] (defScope s_less) := ⟨rfl, rfl, rfl, by decide +kernel, rfl, by decide +kernel, by decide +kernel⟩
abbrev s_times : Stmt := topS 4
abbrev n_times : List Str := ["one", "top", "bottom"]
theorem sc_times : FnScope ["one", "top", "bottom"] ["one", "top", "bottom"] (defScope s_times) := ⟨rfl, rfl, rfl, by decide +kernel, rfl, by decide +kernel, by decide +kernel⟩
abbrev s_is_lesser : Stmt := topS 5
abbrev n_is_lesser : List Str := ["one", "other"]
theorem sc_is_lesser : FnScope ["one", "other"] ["one", "other"] (defScope s_is_lesser) := ⟨rfl, rfl, rfl, by decide +kernel, rfl, by decide +kernel, by decide +kernel⟩
abbrev s_heavy_of : Stmt := topS 6
abbrev n_heavy_of : List Str := ["raft", "folk", "one"]
theorem sc_heavy_of : FnScope ["raft", "folk", "one"] ["raft", "folk"] (defScope s_heavy_of) := ⟨rfl, rfl, rfl, by decide +kernel, rfl, by decide +kernel, by decide +kernel⟩
abbrev s_drive_of : Stmt := topS 7
abbrev n_drive_of : List Str := ["folk", "places", "total", "one", "place"]
theorem sc_drive_of : FnScope ["folk", "places", "total", "one", "place"] ["folk", "places"] (defScope s_drive_of) := ⟨rfl, rfl, rfl, by decide +kernel, rfl, by decide +kernel, by decide +kernel⟩
abbrev s_front_gap : Stmt := topS 8
abbrev n_front_gap : List Str := ["raft", "folk", "standing"]
theorem sc_front_gap : FnScope ["raft", "folk", "standing"] ["raft", "folk", "standing"] (defScope s_front_gap) := ⟨rfl, rfl, rfl, by decide +kernel, rfl, by decide +kernel, by decide +kernel⟩
abbrev s_others_of : Stmt := topS 10
abbrev n_others_of : List Str := ["folk", "name", "one"]
theorem sc_others_of : FnScope ["folk", "name", "one"] ["folk", "name"] (defScope s_others_of) := ⟨rfl, rfl, rfl, by decide +kernel, rfl, by decide +kernel, by decide +kernel⟩
abbrev s_one_of : Stmt := topS 11
abbrev n_one_of : List Str := ["folk", "name", "one"]
theorem sc_one_of : FnScope ["folk", "name", "one"] ["folk", "name"] (defScope s_one_of) := ⟨rfl, rfl, rfl, by decide +kernel, rfl, by decide +kernel, by decide +kernel⟩
abbrev s_can_from : Stmt := topS 12
abbrev n_can_from : List Str := ["raft", "folk", "front", "name", "back", "nearest", "one"]
theorem sc_can_from : FnScope ["raft", "folk", "front", "name", "back", "nearest", "one"] ["raft", "folk", "front", "name"] (defScope s_can_from) := ⟨rfl, rfl, rfl, by decide +kernel, rfl, by decide +kernel, by decide +kernel⟩
abbrev s_farthest : Stmt := topS 13
abbrev n_farthest : List Str := ["folk", "front", "name", "reach"]
theorem sc_farthest : FnScope ["folk", "front", "name", "reach"] ["folk", "front", "name"] (defScope s_farthest) := ⟨rfl, rfl, rfl, by decide +kernel, rfl, by decide +kernel, by decide +kernel⟩
abbrev s_left_of : Stmt := topS 15
abbrev n_left_of : List Str := ["folk", "lot", "one"]
theorem sc_left_of : FnScope ["folk", "lot", "one"] ["folk", "lot"] (defScope s_left_of) := ⟨rfl, rfl, rfl, by decide +kernel, rfl, by decide +kernel, by decide +kernel⟩
abbrev s_all_lots : Stmt := topS 16
abbrev n_all_lots : List Str := ["folk", "found", "one", "lot"]
theorem sc_all_lots : FnScope ["folk", "found", "one", "lot"] ["folk"] (defScope s_all_lots) := ⟨rfl, rfl, rfl, by decide +kernel, rfl, by decide +kernel, by decide +kernel⟩
abbrev s_next_gap : Stmt := topS 17
abbrev n_next_gap : List Str := ["raft", "folk", "front", "name", "heavy", "own"]
theorem sc_next_gap : FnScope ["raft", "folk", "front", "name", "heavy", "own"] ["raft", "folk", "front", "name"] (defScope s_next_gap) := ⟨rfl, rfl, rfl, by decide +kernel, rfl, by decide +kernel, by decide +kernel⟩
abbrev s_steps_from : Stmt := topS 18
abbrev n_steps_from : List Str := ["raft", "folk", "lot", "front", "left", "found", "one"]
theorem sc_steps_from : FnScope ["raft", "folk", "lot", "front", "left", "found", "one"] ["raft", "folk", "lot", "front"] (defScope s_steps_from) := ⟨rfl, rfl, rfl, by decide +kernel, rfl, by decide +kernel, by decide +kernel⟩
abbrev s_gaps_of : Stmt := topS 19
abbrev n_gaps_of : List Str := ["raft", "folk", "standing", "found", "lot", "more", "gap"]
theorem sc_gaps_of : FnScope ["raft", "folk", "standing", "found", "lot", "more", "gap"] ["raft", "folk", "standing"] (defScope s_gaps_of) := ⟨rfl, rfl, rfl, by decide +kernel, rfl, by decide +kernel, by decide +kernel⟩
abbrev s_must_stay : Stmt := topS 20
abbrev n_must_stay : List Str := ["raft", "folk", "standing", "reaches", "over", "one"]
theorem sc_must_stay : FnScope ["raft", "folk", "standing", "reaches", "over", "one"] ["raft", "folk", "standing"] (defScope s_must_stay) := ⟨rfl, rfl, rfl, by decide +kernel, rfl, by decide +kernel, by decide +kernel⟩
abbrev s_lots : Stmt := topS 22
abbrev n_lots : List Str := ["raft", "folk", "standing"]
theorem sc_lots : FnScope ["raft", "folk", "standing"] ["raft", "folk", "standing"] (defScope s_lots) := ⟨rfl, rfl, rfl, by decide +kernel, rfl, by decide +kernel, by decide +kernel⟩
abbrev s_orders_from : Stmt := topS 23
abbrev n_orders_from : List Str := ["raft", "folk", "front", "lot", "total", "first", "name", "rest", "many", "names", "one"]
theorem sc_orders_from : FnScope ["raft", "folk", "front", "lot", "total", "first", "name", "rest", "many", "names", "one"] ["raft", "folk", "front", "lot"] (defScope s_orders_from) := ⟨rfl, rfl, rfl, by decide +kernel, rfl, by decide +kernel, by decide +kernel⟩
abbrev s_orders : Stmt := topS 24
abbrev n_orders : List Str := ["raft", "folk", "standing", "lot"]
theorem sc_orders : FnScope ["raft", "folk", "standing", "lot"] ["raft", "folk", "standing", "lot"] (defScope s_orders) := ⟨rfl, rfl, rfl, by decide +kernel, rfl, by decide +kernel, by decide +kernel⟩
abbrev s__law_bag : Stmt := topS 26
abbrev n__law_bag : List Str := ["script", "k", "cell"]
theorem sc__law_bag : FnScope ["script", "k", "cell"] ["script", "k"] (defScope s__law_bag) := ⟨rfl, rfl, rfl, by decide +kernel, rfl, by decide +kernel, by decide +kernel⟩
abbrev s__law_take : Stmt := topS 27
abbrev n__law_take : List Str := ["bag", "many", "found"]
theorem sc__law_take : FnScope ["bag", "many", "found"] ["bag", "many"] (defScope s__law_take) := ⟨rfl, rfl, rfl, by decide +kernel, rfl, by decide +kernel, by decide +kernel⟩
abbrev s__law_lowest : Stmt := topS 28
abbrev n__law_lowest : List Str := ["top", "bottom", "one", "other"]
theorem sc__law_lowest : FnScope ["top", "bottom", "one", "other"] ["top", "bottom"] (defScope s__law_lowest) := ⟨rfl, rfl, rfl, by decide +kernel, rfl, by decide +kernel, by decide +kernel⟩
abbrev s__law_plus : Stmt := topS 29
abbrev n__law_plus : List Str := ["one", "other"]
theorem sc__law_plus : FnScope ["one", "other"] ["one", "other"] (defScope s__law_plus) := ⟨rfl, rfl, rfl, by decide +kernel, rfl, by decide +kernel, by decide +kernel⟩
abbrev s__law_minus : Stmt := topS 30
abbrev n__law_minus : List Str := ["one", "other"]
theorem sc__law_minus : FnScope ["one", "other"] ["one", "other"] (defScope s__law_minus) := ⟨rfl, rfl, rfl, by decide +kernel, rfl, by decide +kernel, by decide +kernel⟩
abbrev s__law_times : Stmt := topS 31
abbrev n__law_times : List Str := ["part", "by"]
theorem sc__law_times : FnScope ["part", "by"] ["part", "by"] (defScope s__law_times) := ⟨rfl, rfl, rfl, by decide +kernel, rfl, by decide +kernel, by decide +kernel⟩
abbrev s__law_less : Stmt := topS 32
abbrev n__law_less : List Str := ["one", "other"]
theorem sc__law_less : FnScope ["one", "other"] ["one", "other"] (defScope s__law_less) := ⟨rfl, rfl, rfl, by decide +kernel, rfl, by decide +kernel, by decide +kernel⟩
abbrev s__law_raft : Stmt := topS 33
abbrev n__law_raft : List Str := ["bag", "wide"]
theorem sc__law_raft : FnScope ["bag", "wide"] ["bag"] (defScope s__law_raft) := ⟨rfl, rfl, rfl, by decide +kernel, rfl, by decide +kernel, by decide +kernel⟩
abbrev s__law_folk : Stmt := topS 34
abbrev n__law_folk : List Str := ["bag", "most", "found", "reach", "alike", "name", "heavy"]
theorem sc__law_folk : FnScope ["bag", "most", "found", "reach", "alike", "name", "heavy"] ["bag", "most"] (defScope s__law_folk) := ⟨rfl, rfl, rfl, by decide +kernel, rfl, by decide +kernel, by decide +kernel⟩
abbrev s__law_place : Stmt := topS 35
abbrev n__law_place : List Str := ["bag", "raft", "part"]
theorem sc__law_place : FnScope ["bag", "raft", "part"] ["bag", "raft"] (defScope s__law_place) := ⟨rfl, rfl, rfl, by decide +kernel, rfl, by decide +kernel, by decide +kernel⟩
abbrev s__law_places : Stmt := topS 36
abbrev n__law_places : List Str := ["bag", "raft", "folk", "one"]
theorem sc__law_places : FnScope ["bag", "raft", "folk", "one"] ["bag", "raft", "folk"] (defScope s__law_places) := ⟨rfl, rfl, rfl, by decide +kernel, rfl, by decide +kernel, by decide +kernel⟩
abbrev s__law_standing : Stmt := topS 37
abbrev n__law_standing : List Str := ["bag", "raft", "folk", "wide"]
theorem sc__law_standing : FnScope ["bag", "raft", "folk", "wide"] ["bag", "raft", "folk"] (defScope s__law_standing) := ⟨rfl, rfl, rfl, by decide +kernel, rfl, by decide +kernel, by decide +kernel⟩
abbrev s__law_heavy : Stmt := topS 38
abbrev n__law_heavy : List Str := ["raft", "folk", "one"]
theorem sc__law_heavy : FnScope ["raft", "folk", "one"] ["raft", "folk"] (defScope s__law_heavy) := ⟨rfl, rfl, rfl, by decide +kernel, rfl, by decide +kernel, by decide +kernel⟩
abbrev s__law_shift : Stmt := topS 39
abbrev n__law_shift : List Str := ["folk", "before", "after", "total", "one", "old", "new"]
theorem sc__law_shift : FnScope ["folk", "before", "after", "total", "one", "old", "new"] ["folk", "before", "after"] (defScope s__law_shift) := ⟨rfl, rfl, rfl, by decide +kernel, rfl, by decide +kernel, by decide +kernel⟩
abbrev s__law_gap : Stmt := topS 40
abbrev n__law_gap : List Str := ["raft", "folk", "standing", "places", "moved"]
theorem sc__law_gap : FnScope ["raft", "folk", "standing", "places", "moved"] ["raft", "folk", "standing", "places"] (defScope s__law_gap) := ⟨rfl, rfl, rfl, by decide +kernel, rfl, by decide +kernel, by decide +kernel⟩
abbrev s__law_front : Stmt := topS 41
abbrev n__law_front : List Str := ["raft", "folk", "standing"]
theorem sc__law_front : FnScope ["raft", "folk", "standing"] ["raft", "folk", "standing"] (defScope s__law_front) := ⟨rfl, rfl, rfl, by decide +kernel, rfl, by decide +kernel, by decide +kernel⟩
abbrev s__law_left : Stmt := topS 42
abbrev n__law_left : List Str := ["folk", "lot", "one"]
theorem sc__law_left : FnScope ["folk", "lot", "one"] ["folk", "lot"] (defScope s__law_left) := ⟨rfl, rfl, rfl, by decide +kernel, rfl, by decide +kernel, by decide +kernel⟩
abbrev s__law_lots : Stmt := topS 43
abbrev n__law_lots : List Str := ["folk", "found", "one", "lot"]
theorem sc__law_lots : FnScope ["folk", "found", "one", "lot"] ["folk"] (defScope s__law_lots) := ⟨rfl, rfl, rfl, by decide +kernel, rfl, by decide +kernel, by decide +kernel⟩
abbrev s__law_product : Stmt := topS 44
abbrev n__law_product : List Str := ["many", "found", "one"]
theorem sc__law_product : FnScope ["many", "found", "one"] ["many"] (defScope s__law_product) := ⟨rfl, rfl, rfl, by decide +kernel, rfl, by decide +kernel, by decide +kernel⟩
abbrev s_law : Stmt := topS 45
abbrev n_law : List Str := ["script", "k", "bag", "raft", "folk", "reach", "standing", "over", "due", "some", "lot", "stay", "other", "name", "heavy", "old", "one"]
theorem sc_law : FnScope ["script", "k", "bag", "raft", "folk", "reach", "standing", "over", "due", "some", "lot", "stay", "other", "name", "heavy", "old", "one"] ["script"] (defScope s_law) := ⟨rfl, rfl, rfl, by decide +kernel, rfl, by decide +kernel, by decide +kernel⟩
local macro_rules | `(tactic| walk_at "rd") => `(tactic| dsimp only [uVar, uC, uOp, uB, uChain, vAnd, vOr, vNot, uAnd, uOr, uNot, uIf, uIsN, uNotN, aNil, aCons, uTup, uLst, uLstC, uCall, uNoPart, uPart, uSl, sNext, sSeq, sDrop, sRet, sRetF, sRetN, sIf, gN, gTp, gSubL, sAsg, sSet, sPar, sAug, sWhile, sFor, Dl.iTp, Dl.iLs, Dl.iRange, Dl.iZip, Dl.iZip3, uComp, vYes, uApp, startD, asI, asB, asS, asT, asD, asDs, one1, two2, three3, rInt, rInt0, List.map_cons, List.map_nil, List.map, List.length_cons, List.length_nil, List.replicate, List.cons_append, List.nil_append, List.append_nil, List.getElem?_cons_zero, List.getElem?_cons_succ, List.set_cons_zero, List.set_cons_succ, Nat.reduceAdd, Nat.reduceSub])
local macro_rules | `(tactic| walk_at "rx") => `(tactic| try simp only [i_Q0, i_Q1, i_O0, i_O1, i_O2, i_R0, i_R1, i_S0, i_S1, i_T0, i_T1, c_abs, c_lenT, c_lenL, c_lenF, c_tup, gs_nil, gs_cons, uVar, uC, uOp, uB, uChain, vAnd, vOr, vNot, uAnd, uOr, uNot, uIf, uIsN, uNotN, aNil, aCons, uTup, uLst, uLstC, uCall, uNoPart, uPart, uSl, sNext, sSeq, sDrop, sRet, sRetF, sRetN, sIf, gN, gTp, gSubL, sAsg, sSet, sPar, sAug, sWhile, sFor, Dl.iTp, Dl.iLs, Dl.iRange, Dl.iZip, Dl.iZip3, uComp, vYes, uApp, startD, asI, asB, asS, asT, asD, asDs, one1, two2, three3, rInt, rInt0, List.map_cons, List.map_nil, List.map, List.length_cons, List.length_nil, List.replicate, List.cons_append, List.nil_append, List.append_nil, List.getElem?_cons_zero, List.getElem?_cons_succ, List.set_cons_zero, List.set_cons_succ, Nat.reduceAdd, Nat.reduceSub])
local macro_rules | `(tactic| walk_at "ry") => `(tactic| try simp only [Rf.c_slT, Rf.c_cat, Dl.wipeD, Dl.uIsi, Dl.dat, Dl.isTup, Dl.isLst, Dl.isStr, Dl.isInt, Dl.isBool, Dl.isSeq, Dl.iEnumT, Dl.uIdx, Dl.uFrz, Dl.uCompC, Bool.not_true, Bool.not_false, Bool.false_eq_true, ↓reduceIte, i_Q0, i_Q1, i_O0, i_O1, i_O2, i_R0, i_R1, i_S0, i_S1, i_T0, i_T1, c_abs, c_lenT, c_lenL, c_lenF, c_tup, gs_nil, gs_cons, uVar, uC, uOp, uB, uChain, vAnd, vOr, vNot, uAnd, uOr, uNot, uIf, uIsN, uNotN, aNil, aCons, uTup, uLst, uLstC, uCall, uNoPart, uPart, uSl, sNext, sSeq, sDrop, sRet, sRetF, sRetN, sIf, gN, gTp, gSubL, sAsg, sSet, sPar, sAug, sWhile, sFor, Dl.iTp, Dl.iLs, Dl.iRange, Dl.iZip, Dl.iZip3, uComp, vYes, uApp, startD, asI, asB, asS, asT, asD, asDs, one1, two2, three3, rInt, rInt0, List.map_cons, List.map_nil, List.map, List.length_cons, List.length_nil, List.replicate, List.cons_append, List.nil_append, List.append_nil, List.getElem?_cons_zero, List.getElem?_cons_succ, List.set_cons_zero, List.set_cons_succ, Nat.reduceAdd, Nat.reduceSub])
section
variable {P : Program} {w : World} {K : PySem.W.Frag} {mg : Str → Option Value} {base : Heap}
theorem ok_lowest {f : Addr} {fd : FuncData} (F : Fun K "lowest" "lowest" s_lowest f fd) (B : Bi mg) : FnOk P w K mg base CX0 1 f fd ["top", "bottom"] (spD K sp_lowest) := by
  refine ok_of F sc_lowest ?_ (fun cdv A outer s H E hr => (dss_cons (ds_par (i := 2) (j := 3) sc_lowest.nd (da_cons (de_callB k_abs B.abs (by decide +kernel) (da_cons (de_var 0) da_nil)) (da_cons (de_var 1) da_nil)))
      (dss_cons (ds_while (dt_cmp o_gt (de_var 3) de_int (nomark _)) (dss_one (ds_par (i := 2) (j := 3) sc_lowest.nd (da_cons (de_var 3) (da_cons (de_op o_mod (de_var 2) (de_var 3)) da_nil)))))
      (dss_one (ds_ret (de_tup (da_cons (de_op o_div (de_var 0) (de_var 2)) (da_cons (de_op o_div (de_var 1) (de_var 2)) da_nil)))))))) ?_
  · rintro ws S Q ⟨t, b, rfl, _⟩
    rfl
  · rintro ws S Q ⟨t, b, rfl, ⟨hb, h1, h2⟩, h⟩
    refine ⟨b.toNat + 1, ?_⟩
    have key : ∀ (k : Nat) (x y : Int), 0 ≤ x → 0 ≤ y → y.toNat ≤ k → (Int.gcd x y : Int) = (Int.gcd t b : Int) →
        whileN (uB (uOp rGt (uVar 3) (uC (PyData.int 0)))) (sPar 2 3 (aCons (uVar 3) (aCons (uOp rMod (uVar 2) (uVar 3)) aNil)))
          { nx := sRet (uTup (aCons (uOp rDiv (uVar 0) (uVar 2)) (aCons (uOp rDiv (uVar 1) (uVar 2)) aNil))) { nx := fun _ S' => Q (.d .none) S', rt := Q }, rt := Q } (k + 1) [some (.d (.int t)), some (.d (.int b)), some (.d (.int x)), some (.d (.int y))] S := by
      have fin : ∀ (x y : Int), 0 ≤ x → ¬ y > 0 → 0 ≤ y → (Int.gcd x y : Int) = (Int.gcd t b : Int) → sRet (uTup (aCons (uOp rDiv (uVar 0) (uVar 2)) (aCons (uOp rDiv (uVar 1) (uVar 2)) aNil))) { nx := fun _ S' => Q (.d .none) S', rt := Q } [some (.d (.int t)), some (.d (.int b)), some (.d (.int x)), some (.d (.int y))] S := by
        intro x y hx e0 hy hg
        have e : y = 0 := by omega
        subst e
        have e2 : x = (Int.gcd t b : Int) := by
          rw [← hg]
          simp [Int.gcd, Int.natAbs_of_nonneg hx]
        have g := gcd_pos (t := t) hb
        have gl := gcd_le (t := t) hb
        have sm : x.natAbs < 2 ^ 8000 := Nat.lt_of_le_of_lt (by omega) h2
        refine ⟨wide_div (by omega) sm (by decide) (by decide), wide_div (by omega) sm (by decide) (by decide), k2, ?_⟩
        have q : eQ (Rat.divInt t b) = .tuple [.int (t / x), .int (b / x)] := by
          unfold eQ
          rw [← low_num hb, ← low_den hb, e2]
        rw [q] at h
        exact h
      intro k
      induction k with
      | zero =>
        intro x y hx hy hk hg
        refine ite2 (fun e => ?_) fun e => fin x y hx (fun z => e (decide_eq_true z)) hy hg
        have hy' : 0 < y := of_decide_eq_true e
        omega
      | succ k ih =>
        intro x y hx hy hk hg
        refine ite2 (fun e => ?_) fun e => fin x y hx (fun z => e (decide_eq_true z)) hy hg
        have hy' : 0 < y := of_decide_eq_true e
        refine ⟨hy', ?_⟩
        have hm1 := Int.emod_nonneg x (Int.ne_of_gt hy')
        have hm2 := Int.emod_lt_of_pos x hy'
        refine ih y (x % y) hy hm1 (by omega) ?_
        rw [gcd_step hx hy']
        exact hg
    refine key b.toNat (if t < 0 then -t else t) b ?_ (by omega) (Nat.le_refl _) ?_
    · split <;> omega
    · split
      · simp [Int.gcd]
      · rfl
theorem ok_plus {f : Addr} {fd : FuncData} (F : Fun K "plus" "plus" s_plus f fd) (B : Bi mg) (c_lowest : Cal P w K mg base "lowest" ["top", "bottom"] 1 sp_lowest) : FnOk P w K mg base CX0 2 f fd ["one", "other"] (spD K sp_plus) := by
  refine ok_of F sc_plus ?_ (fun cdv A outer s H E hr => (dss_one (ds_ret (de_call c_lowest hr (da_cons (de_op o_add (de_op o_mul (de_ix x_item (de_var 0) de_int (fun _ _ => rfl)) (de_ix x_item (de_var 1) de_int (fun _ _ => rfl))) (de_op o_mul (de_ix x_item (de_var 1) de_int (fun _ _ => rfl)) (de_ix x_item (de_var 0) de_int (fun _ _ => rfl)))) (da_cons (de_op o_mul (de_ix x_item (de_var 0) de_int (fun _ _ => rfl)) (de_ix x_item (de_var 1) de_int (fun _ _ => rfl))) da_nil)))))) ?_
  · rintro ws S Q ⟨a, b, rfl, _⟩
    rfl
  · rintro ws S Q ⟨a, b, rfl, ⟨h1, h2⟩, h⟩
    have d1 := den_lt h1
    have d2 := den_lt h2
    refine ⟨cmul h1.1 d2, cmul h2.1 d1, cmul d1 d2, _, _, rfl, ⟨Int.mul_pos (dpos a) (dpos b), ?_, ?_⟩, ?_⟩
    · exact up (two_lt (natAbs_mul_lt h1.1 d2) (natAbs_mul_lt h2.1 d1)) (by decide)
    · exact up (natAbs_mul_lt d1 d2) (by decide)
    · rw [add_q]
      exact h
theorem ok_less {f : Addr} {fd : FuncData} (F : Fun K "less" "less" s_less f fd) (B : Bi mg) (c_lowest : Cal P w K mg base "lowest" ["top", "bottom"] 1 sp_lowest) : FnOk P w K mg base CX0 2 f fd ["one", "other"] (spD K sp_less) := by
  refine ok_of F sc_less ?_ (fun cdv A outer s H E hr => (dss_one (ds_ret (de_call c_lowest hr (da_cons (de_op o_sub (de_op o_mul (de_ix x_item (de_var 0) de_int (fun _ _ => rfl)) (de_ix x_item (de_var 1) de_int (fun _ _ => rfl))) (de_op o_mul (de_ix x_item (de_var 1) de_int (fun _ _ => rfl)) (de_ix x_item (de_var 0) de_int (fun _ _ => rfl)))) (da_cons (de_op o_mul (de_ix x_item (de_var 0) de_int (fun _ _ => rfl)) (de_ix x_item (de_var 1) de_int (fun _ _ => rfl))) da_nil)))))) ?_
  · rintro ws S Q ⟨a, b, rfl, _⟩
    rfl
  · rintro ws S Q ⟨a, b, rfl, ⟨h1, h2⟩, h⟩
    have d1 := den_lt h1
    have d2 := den_lt h2
    refine ⟨cmul h1.1 d2, cmul h2.1 d1, cmul d1 d2, _, _, rfl, ⟨Int.mul_pos (dpos a) (dpos b), ?_, ?_⟩, ?_⟩
    · exact up (two_lt' (natAbs_mul_lt h1.1 d2) (natAbs_mul_lt h2.1 d1)) (by decide)
    · exact up (natAbs_mul_lt d1 d2) (by decide)
    · rw [sub_q]
      exact h
theorem ok_times {f : Addr} {fd : FuncData} (F : Fun K "times" "times" s_times f fd) (B : Bi mg) (c_lowest : Cal P w K mg base "lowest" ["top", "bottom"] 1 sp_lowest) : FnOk P w K mg base CX0 2 f fd ["one", "top", "bottom"] (spD K sp_times) := by
  refine ok_of F sc_times ?_ (fun cdv A outer s H E hr => (dss_one (ds_ret (de_call c_lowest hr (da_cons (de_op o_mul (de_ix x_item (de_var 0) de_int (fun _ _ => rfl)) (de_var 1)) (da_cons (de_op o_mul (de_ix x_item (de_var 0) de_int (fun _ _ => rfl)) (de_var 2)) da_nil)))))) ?_
  · rintro ws S Q ⟨a, t, b, rfl, _⟩
    rfl
  · rintro ws S Q ⟨a, t, b, rfl, ⟨h1, hb, h2, h3⟩, h⟩
    have d1 := den_lt h1
    refine ⟨cmul h1.1 h2, cmul d1 h3, _, _, rfl, ⟨Int.mul_pos (dpos a) hb, ?_, ?_⟩, ?_⟩
    · exact up (natAbs_mul_lt h1.1 h2) (by decide)
    · exact up (natAbs_mul_lt d1 h3) (by decide)
    · rw [mul_q a t b (by omega)]
      exact h
theorem ok_is_lesser {f : Addr} {fd : FuncData} (F : Fun K "is_lesser" "is_lesser" s_is_lesser f fd) (B : Bi mg) : FnOk P w K mg base CX0 1 f fd ["one", "other"] (spD K sp_is_lesser) := by
  refine ok_of F sc_is_lesser ?_ (fun cdv A outer s H E hr => (dss_one (ds_ret (de_cmp o_lt (de_op o_mul (de_ix x_item (de_var 0) de_int (fun _ _ => rfl)) (de_ix x_item (de_var 1) de_int (fun _ _ => rfl))) (de_op o_mul (de_ix x_item (de_var 1) de_int (fun _ _ => rfl)) (de_ix x_item (de_var 0) de_int (fun _ _ => rfl))) (nomark _))))) ?_
  · rintro ws S Q ⟨a, b, rfl, _⟩
    rfl
  · rintro ws S Q ⟨a, b, rfl, ⟨h1, h2⟩, h⟩
    have d1 := den_lt h1
    have d2 := den_lt h2
    refine ⟨cmul h1.1 d2, cmul h2.1 d1, ?_⟩
    rw [← lt_q] at h
    exact h
theorem ok_heavy_of {f : Addr} {fd : FuncData} (F : Fun K "heavy_of" "heavy_of" s_heavy_of f fd) (B : Bi mg) : FnOk P w K mg base CX0 1 f fd ["raft", "folk"] (spD K sp_heavy_of) := by
  refine ok_of F sc_heavy_of ?_ (fun cdv A outer s H E hr => (dss_one (ds_ret (de_op o_add (de_ix x_item (de_var 0) de_int (fun _ _ => rfl)) (de_callB (k_sum rfl) B.sum (by decide +kernel) (da_cons (de_lc (own := [("one", 2)]) sc_heavy_of.nd (di_tup (de_var 1)) (blkOk_by (own := [("one", 2)]) (N := n_heavy_of) (sc := defScope s_heavy_of) (by decide +kernel)) (fun _ _ _ _ _ => (dg_name (i := 2) sc_heavy_of.nd)) (fun _ _ _ _ _ => dts_nil) (fun _ _ _ _ _ => (de_ix x_item (de_var 2) de_int (fun _ _ => rfl)))) da_nil)))))) ?_
  · rintro ws S Q ⟨L, W, fs, rfl, _⟩
    rfl
  · rintro ws S Q ⟨L, W, fs, rfl, hl, h⟩
    refine ⟨by rw [List.length_map]; exact hl, ?_⟩
    refine compD_all eOne (fun o => .int o.h) fs (fun a _ K1 q => ?_) ?_
    · exact q
    · show asIs (fs.map fun o => PyData.int o.h) _
      rw [show (fs.map fun o => PyData.int o.h) = (fs.map fun o => o.h).map PyData.int by rw [List.map_map]; rfl, asIs_map]
      exact h
theorem ok_drive_of {f : Addr} {fd : FuncData} (F : Fun K "drive_of" "drive_of" s_drive_of f fd) (B : Bi mg) (c_plus : Cal P w K mg base "plus" ["one", "other"] 2 sp_plus) (c_times : Cal P w K mg base "times" ["one", "top", "bottom"] 2 sp_times) : FnOk P w K mg base CX0 3 f fd ["folk", "places"] (spD K sp_drive_of) := by
  refine ok_of F sc_drive_of ?_ (fun cdv A outer s H E hr => (dss_cons (ds_set (i := 2) sc_drive_of.nd (de_tup (da_cons de_int (da_cons de_int da_nil))))
      (dss_cons (ds_for (vs := [3, 4]) rfl (di_zip B.zip (da_cons (de_var 0) (da_cons (de_var 1) da_nil))) (dg_tup (n := 2) rfl (dgs_cons (dg_name (i := 3) sc_drive_of.nd) (dgs_cons (dg_name (i := 4) sc_drive_of.nd) dgs_nil)))
      (dss_one (ds_set (i := 2) sc_drive_of.nd (de_call c_plus hr (da_cons (de_var 2) (da_cons (de_call c_times hr (da_cons (de_var 4) (da_cons (de_ix x_item (de_var 3) de_int (fun _ _ => rfl)) (da_cons de_int da_nil)))) da_nil))))))
      (dss_one (ds_ret (de_var 2)))))) ?_
  · rintro ws S Q ⟨fs, ps, rfl, _⟩
    rfl
  · rintro ws S Q ⟨fs, ps, rfl, ⟨hf, hp⟩, h⟩
    refine ⟨k2, ?_⟩
    show forD _ _ _ (zipD (fs.map eOne) (ps.map eQ)) _ _
    rw [zipD_map]
    have hz := zip_ok hf hp
    have hl : (fs.zip ps).length ≤ 7 := by
      rw [List.length_zip]
      have := hf.len
      omega
    refine forD_ind (fun x : One × Rat => .tuple [eOne x.1, eQ x.2]) (fun r τ S' => S' = S ∧ ∃ a x3 x4 m, τ = [some (.d (eFolk fs)), some (.d (ePl ps)), some (.d (eQ a)), x3, x4] ∧ Sz m a ∧ m + r.length * 259 ≤ 3000 ∧ (∀ x ∈ r, 1 ≤ x.1.h ∧ x.1.h ≤ 200 ∧ Sz 250 x.2) ∧ a + driveP r = drive fs ps) ?_ ?_ _ ?_
    · rintro τ S' ⟨rfl, a, x3, x4, m, rfl, _, _, _, e⟩
      have e2 : a = drive fs ps := by rw [← e]; show a = a + 0; grind
      subst e2
      exact h
    · rintro x r τ S' ⟨rfl, a, x3, x4, m, rfl, hm, hs, hx, e⟩ K1 hK
      obtain ⟨q1, q2, q3⟩ := hx x List.mem_cons_self
      rw [List.length_cons] at hs
      have hmul := q3.muld (t := x.1.h) (b := 1) (m := 8) (by decide) (h_lt q1 q2) (by decide)
      refine ⟨rfl, x.2, x.1.h, 1, rfl, ⟨q3.mono (by decide), by decide, up (h_lt q1 q2) (by decide), up (by decide : (1 : Nat) < 2 ^ 8) (by decide)⟩, ?_⟩
      refine ⟨a, x.2 * x.1.h / (1 : Int), rfl, ⟨hm.mono (by omega), hmul.mono (by decide)⟩, ?_⟩
      refine hK _ _ ⟨rfl, _, _, _, m + 258 + 1, rfl, hm.add hmul, by omega, fun y hy => hx y (List.mem_cons_of_mem _ hy), ?_⟩
      rw [← e, Rat.intCast_one, rdiv_one]
      show a + x.2 * x.1.h + driveP r = a + (x.2 * x.1.h + driveP r)
      grind
    · exact ⟨rfl, 0, _, _, 1, rfl, sz0, by omega, hz, by show (0 : Rat) + drive fs ps = drive fs ps; grind⟩
theorem ok_front_gap {f : Addr} {fd : FuncData} (F : Fun K "front_gap" "front_gap" s_front_gap f fd) (B : Bi mg) (c_plus : Cal P w K mg base "plus" ["one", "other"] 2 sp_plus) (c_times : Cal P w K mg base "times" ["one", "top", "bottom"] 2 sp_times) (c_drive_of : Cal P w K mg base "drive_of" ["folk", "places"] 3 sp_drive_of) (c_heavy_of : Cal P w K mg base "heavy_of" ["raft", "folk"] 1 sp_heavy_of) : FnOk P w K mg base CX0 4 f fd ["raft", "folk", "standing"] (spD K sp_front_gap) := by
  refine ok_of F sc_front_gap ?_ (fun cdv A outer s H E hr => (dss_one (ds_ret (de_call c_plus hr (da_cons (de_ix x_item (de_var 2) de_int (fun _ _ => rfl)) (da_cons (de_call c_times hr (da_cons (de_call c_drive_of hr (da_cons (de_var 1) (da_cons (de_ix x_item (de_var 2) de_int (fun _ _ => rfl)) da_nil))) (da_cons de_int (da_cons (de_call c_heavy_of hr (da_cons (de_var 0) (da_cons (de_var 1) da_nil))) da_nil)))) da_nil)))))) ?_
  · rintro ws S Q ⟨L, W, fs, g, ps, rfl, _⟩
    rfl
  · rintro ws S Q ⟨L, W, fs, g, ps, rfl, ⟨hr, hf, hg, hp⟩, h⟩
    have hv := heavy_bd hf hr.w1 hr.w2
    have hd := sz_drive hf hp
    have hv2 : (heavy W fs).natAbs < 2 ^ 12 := by omega
    refine ⟨fs, ps, rfl, ⟨hf, hp⟩, L, W, fs, rfl, by have := hf.len; omega, drive fs ps, 1, heavy W fs, rfl, ⟨hd.mono (by decide), hv.1, up (by decide : (1 : Nat) < 2 ^ 8) (by decide), up hv2 (by decide)⟩, g, _, rfl, ⟨hg.mono (by decide), (hd.muld hv.1 (by decide : (1 : Int).natAbs < 2 ^ 12) hv2).mono (by decide)⟩, ?_⟩
    have e : frontG W fs g ps = g + drive fs ps * ((1 : Int) : Rat) / (heavy W fs : Rat) := by
      unfold frontG
      rw [Rat.intCast_one]
      grind
    rw [← e]
    exact h
theorem ok_others_of {f : Addr} {fd : FuncData} (F : Fun K "others_of" "others_of" s_others_of f fd) (B : Bi mg) : FnOk P w K mg base CX0 1 f fd ["folk", "name"] (spD K sp_others_of) := by
  refine ok_of F sc_others_of ?_ (fun cdv A outer s H E hr => (dss_one (ds_ret (de_callTy k_tuple B.tuple (by decide +kernel) (da_cons (de_lc (own := [("one", 2)]) sc_others_of.nd (di_tup (de_var 0)) (blkOk_by (own := [("one", 2)]) (N := n_others_of) (sc := defScope s_others_of) (by decide +kernel)) (fun _ _ _ _ _ => (dg_name (i := 2) sc_others_of.nd)) (fun _ _ _ _ _ => (dts_one (dt_cmp (o_ne hr.units) (de_ix x_item (de_var 2) de_int (fun _ _ => rfl)) (de_var 1) (nomark _)))) (fun _ _ _ _ _ => (de_var 2))) da_nil))))) ?_
  · rintro ws S Q ⟨fs, nm, rfl, _⟩
    rfl
  · rintro ws S Q ⟨fs, nm, rfl, ⟨hl, hnm, hN⟩, h⟩
    refine ⟨by rw [List.length_map]; exact hl, ?_⟩
    refine compD_ty eOne (fun o => !(o.n == nm)) eOne fs (fun a ha K1 K2 q1 q2 => ?_) ?_
    · walk_at "rd"
      refine tupItem (ds := [.str a.n, .int a.h, .int a.r]) rfl ?_
      refine rNe_str (hN a ha) hnm ?_
      refine ite2 (fun c => q1 c) fun c => q2 (by simpa using c)
    · exact h

theorem ok_one_of {f : Addr} {fd : FuncData} (F : Fun K "one_of" "one_of" s_one_of f fd) (B : Bi mg) : FnOk P w K mg base CX0 1 f fd ["folk", "name"] (spD K sp_one_of) := by
  refine ok_of F sc_one_of ?_ (fun cdv A outer s H E hr => (dss_one (ds_ret (de_ix x_item (de_lc (own := [("one", 2)]) sc_one_of.nd (di_tup (de_var 0)) (blkOk_by (own := [("one", 2)]) (N := n_one_of) (sc := defScope s_one_of) (by decide +kernel)) (fun _ _ _ _ _ => (dg_name (i := 2) sc_one_of.nd)) (fun _ _ _ _ _ => (dts_one (dt_cmp (o_eq hr.units) (de_ix x_item (de_var 2) de_int (fun _ _ => rfl)) (de_var 1) (nomark _)))) (fun _ _ _ _ _ => (de_var 2))) de_int (fun _ _ => rfl))))) ?_
  · rintro ws S Q ⟨fs, nm, o, r, rfl, _⟩
    rfl
  · rintro ws S Q ⟨fs, nm, o, r, rfl, ⟨hl, hnm, hN, ht⟩, h⟩
    refine ⟨by rw [List.length_map]; exact hl, ?_⟩
    refine compD_ty eOne (fun o => o.n == nm) eOne fs (fun a ha K1 K2 q1 q2 => ?_) ?_
    · walk_at "ry"
      refine rEq_str (hN a ha) hnm ?_
      refine ite2 (fun c => q1 c) fun c => q2 (by simpa using c)
    · have e : (fs.filter fun o => o.n == nm) = o :: r := ht
      rw [e]
      show rItem (.d (.list (eOne o :: r.map eOne))) (.d (.int 0)) S _
      unfold rItem asSq dat
      show Dl.itemAt (eOne o :: r.map eOne) 0 _
      unfold Dl.itemAt
      rw [show atI (eOne o :: r.map eOne) 0 = some (eOne o) from atI_nat (j := 0) rfl]
      exact h
theorem ok_can_from {f : Addr} {fd : FuncData} (F : Fun K "can_from" "can_from" s_can_from f fd) (B : Bi mg) (c_less : Cal P w K mg base "less" ["one", "other"] 2 sp_less) (c_lowest : Cal P w K mg base "lowest" ["top", "bottom"] 1 sp_lowest) (c_is_lesser : Cal P w K mg base "is_lesser" ["one", "other"] 1 sp_is_lesser) (c_heavy_of : Cal P w K mg base "heavy_of" ["raft", "folk"] 1 sp_heavy_of) (c_others_of : Cal P w K mg base "others_of" ["folk", "name"] 1 sp_others_of) (c_one_of : Cal P w K mg base "one_of" ["folk", "name"] 1 sp_one_of) : FnOk P w K mg base CX0 3 f fd ["raft", "folk", "front", "name"] (spD K sp_can_from) := by
  refine ok_of F sc_can_from ?_ (fun cdv A outer s H E hr => (dss_cons (ds_set (i := 4) sc_can_from.nd (de_callB (k_sum rfl) B.sum (by decide +kernel) (da_cons (de_lc (own := [("one", 6)]) sc_can_from.nd (di_tup (de_call c_others_of hr (da_cons (de_var 1) (da_cons (de_var 3) da_nil)))) (blkOk_by (own := [("one", 6)]) (N := n_can_from) (sc := defScope s_can_from) (by decide +kernel)) (fun _ _ _ _ _ => (dg_name (i := 6) sc_can_from.nd)) (fun _ _ _ _ _ => dts_nil) (fun _ _ _ _ _ => (de_ix x_item (de_var 6) de_int (fun _ _ => rfl)))) da_nil)))
      (dss_cons (ds_set (i := 5) sc_can_from.nd (de_call c_less hr (da_cons (de_var 2) (da_cons (de_call c_lowest hr (da_cons (de_op o_mul (de_ix x_item (de_var 0) de_int (fun _ _ => rfl)) (de_var 4)) (da_cons (de_call c_heavy_of hr (da_cons (de_var 0) (da_cons (de_var 1) da_nil))) da_nil))) da_nil))))
      (dss_one (ds_ret (de_not (de_call c_is_lesser hr (da_cons (de_tup (da_cons (de_ix x_item (de_call c_one_of hr (da_cons (de_var 1) (da_cons (de_var 3) da_nil))) de_int (fun _ _ => rfl)) (da_cons de_int da_nil))) (da_cons (de_var 5) da_nil))))))))) ?_
  · rintro ws S Q ⟨L, W, fs, front, nm, rfl, _⟩
    rfl
  · rintro ws S Q ⟨L, W, fs, front, nm, rfl, ⟨hr, hg, hm, hf⟩, h⟩
    obtain ⟨o, ho, hon, ht, ho1, hnm⟩ := hg.mem hm
    have hlen := hg.f.len
    have hl2 := (hg.f.others nm).len
    have hs := sumH_others hg.f nm
    have hv := heavy_bd hg.f hr.w1 hr.w2
    have l1 := hr.l1
    have l2 := hr.l2
    have hmul : (L * sumH (others fs nm)).natAbs < 2 ^ 21 := natAbs_mul_lt (a := 10) (b := 11) (by omega) (by omega)
    have hv2 : (heavy W fs).natAbs < 2 ^ 12 := by omega
    have o1 := hg.r1 o ho
    have o2 := hg.r2 o ho
    refine ⟨fs, nm, rfl, ⟨by omega, hnm, hg.n⟩, by rw [List.length_map]; omega, ?_⟩
    refine compD_all eOne (fun o => .int o.h) (others fs nm) (fun a _ K1 q => ?_) ?_
    · walk_at "rx"
      exact q
    · show asIs ((others fs nm).map fun o => PyData.int o.h) _
      rw [show ((others fs nm).map fun o => PyData.int o.h) = ((others fs nm).map fun o => o.h).map PyData.int by rw [List.map_map]; rfl, asIs_map]
      show sSeq _ _ _ _ _
      walk_at "ry"
      refine ⟨cmul (a := 10) (b := 11) (by omega) (show (sumH (others fs nm)).natAbs < 2 ^ 11 by omega), ?_⟩
      refine ⟨L, W, fs, rfl, by omega, L * sumH (others fs nm), heavy W fs, rfl, ⟨hv.1, up hmul (by decide), up hv2 (by decide)⟩, ?_⟩
      have hq := sz_q (n := 21) hv.1 hmul (up hv2 (by decide))
      refine ⟨front, _, rfl, ⟨hf.mono (by decide), hq.mono (by decide)⟩, ?_⟩
      refine ⟨fs, nm, o, [], rfl, ⟨by omega, hnm, hg.n, ht⟩, ?_⟩
      walk_at "ry"
      refine ⟨k2, (o.r : Rat), _, by rw [e_int], ⟨(sz_int (n := 7) (by omega) (by decide)).mono (by decide), (hf.sub hq).mono (by decide)⟩, ?_⟩
      unfold canF at h
      rw [ho1] at h
      exact h
theorem ok_farthest {f : Addr} {fd : FuncData} (F : Fun K "farthest" "farthest" s_farthest f fd) (B : Bi mg) (c_is_lesser : Cal P w K mg base "is_lesser" ["one", "other"] 1 sp_is_lesser) (c_one_of : Cal P w K mg base "one_of" ["folk", "name"] 1 sp_one_of) : FnOk P w K mg base CX0 2 f fd ["folk", "front", "name"] (spD K sp_farthest) := by
  refine ok_of F sc_farthest ?_ (fun cdv A outer s H E hr => (dss_cons (ds_set (i := 3) sc_farthest.nd (de_tup (da_cons (de_ix x_item (de_call c_one_of hr (da_cons (de_var 0) (da_cons (de_var 2) da_nil))) de_int (fun _ _ => rfl)) (da_cons de_int da_nil))))
      (dss_one (ds_ret (de_ifExp (dt_val (de_call c_is_lesser hr (da_cons (de_var 3) (da_cons (de_var 1) da_nil)))) (de_var 3) (de_var 1)))))) ?_
  · rintro ws S Q ⟨fs, front, nm, rfl, _⟩
    rfl
  · rintro ws S Q ⟨fs, front, nm, rfl, ⟨hg, hm, hf⟩, h⟩
    obtain ⟨o, ho, hon, ht, ho1, hnm⟩ := hg.mem hm
    have hlen := hg.f.len
    have o1 := hg.r1 o ho
    have o2 := hg.r2 o ho
    refine ⟨fs, nm, o, [], rfl, ⟨by omega, hnm, hg.n, ht⟩, ?_⟩
    walk_at "ry"
    refine ⟨k2, (o.r : Rat), front, by rw [e_int], ⟨(sz_int (n := 7) (by omega) (by decide)).mono (by decide), hf.mono (by decide)⟩, ?_⟩
    unfold far at h
    rw [ho1] at h
    refine ite2 (fun c => ?_) fun c => ?_
    · rw [if_pos (of_decide_eq_true c), e_int] at h
      exact h
    · rw [if_neg fun z => c (decide_eq_true z)] at h
      exact h
theorem ok_left_of {f : Addr} {fd : FuncData} (F : Fun K "left_of" "left_of" s_left_of f fd) (B : Bi mg) : FnOk P w K mg base CX0 1 f fd ["folk", "lot"] (spD K sp_left_of) := by
  refine ok_of F sc_left_of ?_ (fun cdv A outer s H E hr => (dss_one (ds_ret (de_callTy k_tuple B.tuple (by decide +kernel) (da_cons (de_lc (own := [("one", 2)]) sc_left_of.nd (di_tup (de_var 0)) (blkOk_by (own := [("one", 2)]) (N := n_left_of) (sc := defScope s_left_of) (by decide +kernel)) (fun _ _ _ _ _ => (dg_name (i := 2) sc_left_of.nd)) (fun _ _ _ _ _ => (dts_one (dt_cmp o_ninT (de_ix x_item (de_var 2) de_int (fun _ _ => rfl)) (de_var 1) rfl))) (fun _ _ _ _ _ => (de_var 2))) da_nil))))) ?_
  · rintro ws S Q ⟨fs, lot, rfl, _⟩
    rfl
  · rintro ws S Q ⟨fs, lot, rfl, hl, h⟩
    refine ⟨by rw [List.length_map]; exact hl, ?_⟩
    refine compD_ty eOne (fun o => !lot.contains o.n) eOne fs (fun a ha K1 K2 q1 q2 => ?_) ?_
    · walk_at "ry"
      show match Dl.strs? (lot.map PyData.str) with
        | some ns => _
        | none => False
      rw [Dl.strs_map]
      refine ite2 (fun c => q1 c) fun c => q2 (by simpa using c)
    · exact h
theorem ok_all_lots {f : Addr} {fd : FuncData} (F : Fun K "all_lots" "all_lots" s_all_lots f fd) (B : Bi mg) : FnOk P w K mg base CX0 1 f fd ["folk"] (spD K sp_all_lots) := by
  refine ok_of F sc_all_lots ?_ (fun cdv A outer s H E hr => (dss_cons (ds_set (i := 1) sc_all_lots.nd (de_lst (da_cons (de_tup da_nil) da_nil)))
      (dss_cons (ds_for (vs := [2]) rfl (di_tup (de_var 0)) (dg_name (i := 2) sc_all_lots.nd)
      (dss_one (ds_set (i := 1) sc_all_lots.nd (de_op o_catL (de_var 1) (de_lc (own := [("lot", 3)]) sc_all_lots.nd (di_list (de_var 1)) (blkOk_by (own := [("lot", 3)]) (N := n_all_lots) (sc := defScope s_all_lots) (by decide +kernel)) (fun _ _ _ _ _ => (dg_name (i := 3) sc_all_lots.nd)) (fun _ _ _ _ _ => dts_nil) (fun _ _ _ _ _ => (de_op o_cat (de_var 3) (de_tup (da_cons (de_ix x_item (de_var 2) de_int (fun _ _ => rfl)) da_nil)))))))))
      (dss_one (ds_ret (de_callB (k_sort hr) B.sorted (by decide +kernel) (da_cons (de_var 1) da_nil))))))) ?_
  · rintro ws S Q ⟨fs, rfl, _⟩
    rfl
  · rintro ws S Q ⟨fs, rfl, hl, h⟩
    walk_at "ry"
    refine ⟨Nat.zero_le _, k1, ?_⟩
    show forD _ _ _ (fs.map eOne) _ _
    refine forD_ind eOne (fun r τ S' => S' = S ∧ ∃ (acc : List (List Str)) (x2 x3 : Option Dl.W), τ = [some (.d (eFolk fs)), some (.d (.list (acc.map kyD))), x2, x3] ∧ acc.length * 2 ^ r.length ≤ 128 ∧ (∀ l ∈ acc, l.length + r.length ≤ 7) ∧ (∃ t, acc = [] :: t) ∧ allL (r.map (·.n)) acc = allL (fs.map (·.n)) [[]]) ?_ ?_ _ ?_
    · rintro τ S' ⟨rfl, acc, x2, x3, rfl, hb, _, h0, e⟩
      walk_at "ry"
      have e' : acc = allL (fs.map (·.n)) [[]] := e
      refine ⟨sb_keys h0 (by rw [List.length_nil, Nat.pow_zero] at hb; omega), fun p hp => ?_⟩
      rw [sortD_keys, e']
      exact h p hp
    · rintro o r τ S' ⟨rfl, acc, x2, x3, rfl, hb, hl7, ⟨t, h0⟩, e⟩ K1 hK
      rw [List.length_cons, Nat.pow_succ] at hb
      have hacc : acc.length ≤ 128 := by
        have := Nat.pos_of_ne_zero (show 2 ^ r.length ≠ 0 from Nat.ne_of_gt (Nat.two_pow_pos _))
        have := Nat.le_mul_of_pos_right acc.length (show 0 < 2 ^ r.length * 2 by omega)
        omega
      walk_at "ry"
      refine ⟨by rw [List.length_map]; omega, ?_⟩
      refine compD_all kyD (fun l => kyD (l ++ [o.n])) acc (fun a ha K2 q => ?_) ?_
      · walk_at "ry"
        refine ⟨k1, ?_⟩
        show Dl.rCat (.d (.tuple (a.map PyData.str))) (.d (.tuple [.str o.n])) S' _
        have := hl7 a ha
        rw [List.length_cons] at this
        refine ⟨by rw [List.length_map]; show a.length + 1 ≤ 1000; omega, ?_⟩
        have e2 : kyD (a ++ [o.n]) = .tuple (a.map PyData.str ++ [.str o.n]) := by unfold kyD; rw [List.map_append]; rfl
        rw [← e2]
        exact q
      · refine ⟨by rw [List.length_map, List.length_map]; omega, ?_⟩
        have e3 : acc.map kyD ++ (acc.map fun l => kyD (l ++ [o.n])) = (acc ++ acc.map (· ++ [o.n])).map kyD := by rw [List.map_append, List.map_map]; rfl
        rw [e3]
        refine hK _ _ ⟨rfl, acc ++ acc.map (· ++ [o.n]), _, _, rfl, ?_, ?_, ⟨_, by rw [h0]; rfl⟩, e⟩
        · rw [List.length_append, List.length_map]
          have : (acc.length + acc.length) * 2 ^ r.length = acc.length * (2 ^ r.length * 2) := by
            rw [← Nat.mul_two, Nat.mul_assoc, Nat.mul_comm 2]
          omega
        · intro l hl'
          rcases List.mem_append.mp hl' with z | z
          · have := hl7 l z
            rw [List.length_cons] at this
            omega
          · obtain ⟨l', z', rfl⟩ := List.mem_map.mp z
            have := hl7 l' z'
            rw [List.length_cons] at this
            rw [List.length_append, List.length_singleton]
            omega
    · refine ⟨rfl, [[]], _, _, rfl, ?_, fun l hl' => ?_, ⟨[], rfl⟩, rfl⟩
      · rw [List.length_singleton, Nat.one_mul]
        exact Nat.le_trans (Nat.pow_le_pow_right (by decide) hl) (by decide)
      · rw [List.mem_singleton.mp hl']
        simpa using hl
theorem ok_next_gap {f : Addr} {fd : FuncData} (F : Fun K "next_gap" "next_gap" s_next_gap f fd) (B : Bi mg) (c_times : Cal P w K mg base "times" ["one", "top", "bottom"] 2 sp_times) (c_heavy_of : Cal P w K mg base "heavy_of" ["raft", "folk"] 1 sp_heavy_of) (c_less : Cal P w K mg base "less" ["one", "other"] 2 sp_less) (c_one_of : Cal P w K mg base "one_of" ["folk", "name"] 1 sp_one_of) (c_farthest : Cal P w K mg base "farthest" ["folk", "front", "name"] 2 sp_farthest) : FnOk P w K mg base CX0 3 f fd ["raft", "folk", "front", "name"] (spD K sp_next_gap) := by
  refine ok_of F sc_next_gap ?_ (fun cdv A outer s H E hr => (dss_cons (ds_par (i := 4) (j := 5) sc_next_gap.nd (da_cons (de_call c_heavy_of hr (da_cons (de_var 0) (da_cons (de_var 1) da_nil))) (da_cons (de_ix x_item (de_call c_one_of hr (da_cons (de_var 1) (da_cons (de_var 3) da_nil))) de_int (fun _ _ => rfl)) da_nil)))
      (dss_one (ds_ret (de_call c_times hr (da_cons (de_call c_less hr (da_cons (de_call c_times hr (da_cons (de_var 2) (da_cons (de_var 4) (da_cons de_int da_nil)))) (da_cons (de_call c_times hr (da_cons (de_call c_farthest hr (da_cons (de_var 1) (da_cons (de_var 2) (da_cons (de_var 3) da_nil)))) (da_cons (de_var 5) (da_cons de_int da_nil)))) da_nil))) (da_cons de_int (da_cons (de_op o_sub (de_var 4) (de_var 5)) da_nil)))))))) ?_
  · rintro ws S Q ⟨L, W, fs, front, nm, rfl, _⟩
    rfl
  · rintro ws S Q ⟨L, W, fs, front, nm, rfl, ⟨hr, hg, hm, hf⟩, h⟩
    obtain ⟨o, ho, hon, ht, ho1, hnm⟩ := hg.mem hm
    have hlen := hg.f.len
    have hv := heavy_bd hg.f hr.w1 hr.w2
    have h1 := heavy_own hr hg hm
    have hfar := sz_far hg hm hf (by decide)
    unfold nextG at h
    rw [ho1] at h h1
    have o1 := hg.f.lo o ho
    have o2 := hg.f.hi o ho
    refine ⟨L, W, fs, rfl, by omega, ?_⟩
    refine ⟨fs, nm, o, [], rfl, ⟨by omega, hnm, hg.n, ht⟩, ?_⟩
    walk_at "ry"
    have m1 := hf.muld (t := heavy W fs) (b := 1) (m := 12) (by decide) (by omega) (by decide)
    refine ⟨front, heavy W fs, 1, rfl, ⟨hf.mono (by decide), by decide, up (show (heavy W fs).natAbs < 2 ^ 12 by omega) (by decide), up (by decide : (1 : Nat) < 2 ^ 8) (by decide)⟩, ?_⟩
    refine ⟨fs, front, nm, rfl, ⟨hg, hm, hf.mono (by decide)⟩, ?_⟩
    have m2 := hfar.muld (t := o.h) (b := 1) (m := 8) (by decide) (h_lt o1 o2) (by decide)
    refine ⟨_, o.h, 1, rfl, ⟨hfar.mono (by decide), by decide, up (h_lt o1 o2) (by decide), up (by decide : (1 : Nat) < 2 ^ 8) (by decide)⟩, ?_⟩
    refine ⟨_, _, rfl, ⟨m1.mono (by decide), m2.mono (by decide)⟩, ?_⟩
    refine ⟨_, 1, heavy W fs - o.h, rfl, ⟨(m1.sub m2).mono (by decide), h1.1, up (by decide : (1 : Nat) < 2 ^ 8) (by decide), up (show (heavy W fs - o.h).natAbs < 2 ^ 12 by omega) (by decide)⟩, ?_⟩
    rw [Rat.intCast_one, rdiv_one, rdiv_one]
    have e : ∀ a : Rat, a * 1 = a := fun a => by grind
    rw [e]
    exact h
theorem ok_steps_from {f : Addr} {fd : FuncData} (F : Fun K "steps_from" "steps_from" s_steps_from f fd) (B : Bi mg) (c_left_of : Cal P w K mg base "left_of" ["folk", "lot"] 1 sp_left_of) (c_can_from : Cal P w K mg base "can_from" ["raft", "folk", "front", "name"] 3 sp_can_from) (c_next_gap : Cal P w K mg base "next_gap" ["raft", "folk", "front", "name"] 3 sp_next_gap) : FnOk P w K mg base CX0 4 f fd ["raft", "folk", "lot", "front"] (spD K sp_steps_from) := by
  refine ok_of F sc_steps_from ?_ (fun cdv A outer s H E hr => (dss_cons (ds_set (i := 4) sc_steps_from.nd (de_call c_left_of hr (da_cons (de_var 1) (da_cons (de_var 2) da_nil))))
      (dss_cons (ds_set (i := 5) sc_steps_from.nd (de_lstC da_nil))
      (dss_cons (ds_for (vs := [6]) rfl (di_tup (de_var 4)) (dg_name (i := 6) sc_steps_from.nd)
      (dss_one (ds_if (dt_val (de_call c_can_from hr (da_cons (de_var 0) (da_cons (de_var 4) (da_cons (de_var 3) (da_cons (de_ix x_item (de_var 6) de_int (fun _ _ => rfl)) da_nil)))))) (dss_one (ds_expr (de_app (de_var 5) (da_cons (de_tup (da_cons (de_callTy k_tuple B.tuple (by decide +kernel) (da_cons (de_frz (de_callB (k_sort hr) B.sorted (by decide +kernel) (da_cons (de_op o_cat (de_var 2) (de_tup (da_cons (de_ix x_item (de_var 6) de_int (fun _ _ => rfl)) da_nil))) da_nil))) da_nil)) (da_cons (de_call c_next_gap hr (da_cons (de_var 0) (da_cons (de_var 4) (da_cons (de_var 3) (da_cons (de_ix x_item (de_var 6) de_int (fun _ _ => rfl)) da_nil))))) da_nil))) da_nil)))) dss_nil)))
      (dss_one (ds_retF (de_var 5))))))) ?_
  · rintro ws S Q ⟨L, W, fs, lot, front, rfl, _⟩
    rfl
  · rintro ws S Q ⟨L, W, fs, lot, front, rfl, ⟨hr, hG, hlot, hf⟩, h⟩
    have hlen := hG.f.len
    refine ⟨fs, lot, rfl, by omega, ?_⟩
    have hL := hG.left lot
    unfold stepsL at h
    generalize leftOf fs lot = left at hL h
    have hll := hL.f.len
    walk_at "ry"
    refine ⟨Nat.zero_le _, fun dc hdc => ?_⟩
    show forD _ _ _ (left.map eOne) _ _
    refine forD_ind eOne (fun r τ S' => (∀ o ∈ r, o ∈ left) ∧ ∃ (acc : List (List Str × Rat)) (x6 : Option Dl.W), τ = [some (.d (eRaft L W)), some (.d (eFolk fs)), some (.d (kyD lot)), some (.d (eQ front)), some (.d (eFolk left)), some (.c dc), x6] ∧ S' = put S dc (.lst (acc.map eStep)) ∧ acc.length + r.length ≤ 7 ∧ acc ++ ((r.filter fun o => canF L W left front o.n).map fun o => (sortS (lot ++ [o.n]), nextG W left front o.n)) = ((left.filter fun o => canF L W left front o.n).map fun o => (sortS (lot ++ [o.n]), nextG W left front o.n))) ?_ ?_ _ ?_
    · rintro τ S' ⟨_, acc, x6, rfl, rfl, _, e⟩
      rw [List.filter_nil, List.map_nil, List.append_nil] at e
      subst e
      walk_at "ry"
      rw [put_same]
      show Q _ (del (put S dc _) dc)
      rw [del_put hdc]
      exact h
    · rintro o r τ S' ⟨hor, acc, x6, rfl, rfl, hal, e⟩ K1 hK
      have ho := hor o List.mem_cons_self
      have hm : o.n ∈ left.map (·.n) := List.mem_map_of_mem ho
      rw [List.length_cons] at hal
      walk_at "ry"
      refine ⟨L, W, left, front, o.n, rfl, ⟨hr, hL, hm, hf.mono (by decide)⟩, ?_⟩
      refine ite2 (fun c => ?_) fun c => ?_
      · have hc : canF L W left front o.n = true := c
        walk_at "ry"
        refine ⟨cellIs put_same, k1, ?_⟩
        show Dl.rCat (.d (.tuple (lot.map PyData.str))) (.d (.tuple [.str o.n])) _ _
        refine ⟨by rw [List.length_map]; show lot.length + 1 ≤ 1000; omega, ?_⟩
        have e2 : lot.map PyData.str ++ [.str o.n] = (lot ++ [o.n]).map PyData.str := by rw [List.map_append]; rfl
        rw [e2]
        refine ⟨sb_strs (by rw [List.length_append, List.length_singleton]; omega), fun p hp => ?_⟩
        rw [sortD_strs]
        refine frz_c put_same ?_
        rw [del_put hp]
        walk_at "ry"
        refine ⟨L, W, left, front, o.n, rfl, ⟨hr, hL, hm, hf.mono (by decide)⟩, ?_⟩
        walk_at "ry"
        refine ⟨k2, ?_⟩
        refine cellApp put_same (by rw [List.length_map]; omega) ?_
        rw [put_put]
        refine hK _ _ ⟨fun x hx => hor x (List.mem_cons_of_mem _ hx), acc ++ [(sortS (lot ++ [o.n]), nextG W left front o.n)], _, rfl, by rw [List.map_append]; rfl, by rw [List.length_append, List.length_singleton]; omega, ?_⟩
        have hfl : (o :: r).filter (fun o => canF L W left front o.n) = o :: r.filter (fun o => canF L W left front o.n) := @List.filter_cons_of_pos One (fun o => canF L W left front o.n) o r hc
        rw [← e, hfl, List.map_cons, List.append_assoc]
        rfl
      · have hc : canF L W left front o.n = false := by simpa using c
        refine hK _ _ ⟨fun x hx => hor x (List.mem_cons_of_mem _ hx), acc, _, rfl, rfl, by omega, ?_⟩
        rw [← e, List.filter_cons_of_neg (by rw [hc]; exact Bool.false_ne_true)]
    · exact ⟨fun _ z => z, [], _, rfl, rfl, by rw [List.length_nil]; omega, rfl⟩
theorem ok_gaps_of {f : Addr} {fd : FuncData} (F : Fun K "gaps_of" "gaps_of" s_gaps_of f fd) (B : Bi mg) (c_front_gap : Cal P w K mg base "front_gap" ["raft", "folk", "standing"] 4 sp_front_gap) (c_all_lots : Cal P w K mg base "all_lots" ["folk"] 1 sp_all_lots) (c_steps_from : Cal P w K mg base "steps_from" ["raft", "folk", "lot", "front"] 4 sp_steps_from) (c_is_lesser : Cal P w K mg base "is_lesser" ["one", "other"] 1 sp_is_lesser) : FnOk P w K mg base CX0 5 f fd ["raft", "folk", "standing"] (spD K sp_gaps_of) := by
  refine ok_of F sc_gaps_of ?_ (fun cdv A outer s H E hr => (dss_cons (ds_set (i := 3) sc_gaps_of.nd (de_disp1 hr (de_tup da_nil) (de_call c_front_gap hr (da_cons (de_var 0) (da_cons (de_var 1) (da_cons (de_var 2) da_nil))))))
      (dss_cons (ds_for (vs := [4]) rfl (di_list (de_frz (de_sortLen hr B.sorted B.len (da_cons (de_frz (de_call c_all_lots hr (da_cons (de_var 1) da_nil))) da_nil)))) (dg_name (i := 4) sc_gaps_of.nd)
      (dss_one (ds_if (dt_inD hr (de_var 4) (de_var 3)) (dss_one (ds_for (vs := [5, 6]) rfl (di_list (de_call c_steps_from hr (da_cons (de_var 0) (da_cons (de_var 1) (da_cons (de_var 4) (da_cons (de_getD hr (de_var 3) (de_var 4) (fun _ _ => rfl)) da_nil)))))) (dg_tup (n := 2) rfl (dgs_cons (dg_name (i := 5) sc_gaps_of.nd) (dgs_cons (dg_name (i := 6) sc_gaps_of.nd) dgs_nil)))
      (dss_one (ds_if (PW.pt (dw_or (dt_ninD hr (de_var 5) (de_var 3)) (dw_or1 (dt_val (de_call c_is_lesser hr (da_cons (de_var 6) (da_cons (de_getD hr (de_var 3) (de_var 5) (fun _ _ => rfl)) da_nil))))))) (dss_one (ds_putD hr (de_var 3) (de_var 5) (de_var 6))) dss_nil)))) dss_nil)))
      (dss_one (ds_ret (de_var 3)))))) ?_
  · rintro ws S Q ⟨L, W, fs, g, ps, rfl, _⟩
    rfl
  · rintro ws S Q ⟨L, W, fs, g, ps, rfl, ⟨hr, hG, hg, hp⟩, h⟩
    have hlen := hG.f.len
    have hsf := (sz_front hG.f hr.w1 hr.w2 hg hp).mono (show _ ≤ 180 by decide)
    walk_at "ry"
    refine ⟨Nat.zero_le _, L, W, fs, g, ps, rfl, ⟨hr, hG.f, hg.mono (by decide), fun p q => (hp p q).mono (by decide)⟩, ?_⟩
    refine asKey_k (l := []) ?_
    generalize frontG W fs g ps = front at hsf h
    walk_at "ry"
    intro dc hdc
    refine ⟨fs, rfl, hlen, fun c1 hc1 => ?_⟩
    refine frz_c put_same ?_
    rw [del_put hc1]
    refine ⟨⟨fun d hd => ?_, ?_⟩, fun c2 hc2 => ?_⟩
    · obtain ⟨l, _, rfl⟩ := List.mem_map.mp hd
      exact ⟨_, rfl⟩
    · rw [List.length_map]
      have := lotsOf_cnt hlen
      omega
    · refine frz_c put_same ?_
      rw [del_put hc2, sortN_keys]
      show forD _ _ _ ((sortN (lotsOf fs)).map kyD) _ _
      have hN : (sortN (lotsOf fs)).Perm (lotsOf fs) := List.mergeSort_perm _ _
      have hcnt := lotsOf_cnt hlen
      have hlr : (sortN (lotsOf fs)).length ≤ 128 := by rw [hN.length_eq]; exact hcnt
      have hll : ∀ l ∈ sortN (lotsOf fs), l.length ≤ 7 := fun l hl => Nat.le_trans (lotsOf_len l (hN.mem_iff.mp hl)) hlen
      refine forD_ind kyD (fun r τ S' => (∀ l ∈ r, l.length ≤ 7) ∧ ∃ (t : Tb) (x4 x5 x6 : Option Dl.W), τ = [some (.d (eRaft L W)), some (.d (eFolk fs)), some (.d (eSt g ps)), some (.c dc), x4, x5, x6] ∧ S' = put S dc (.dic (encT t)) ∧ OkT t ∧ t.length + 7 * r.length ≤ 900 ∧ r.foldl (proc L W fs) t = gapsT L W fs front) ?_ ?_ _ ?_
      · rintro τ S' ⟨_, t, x4, x5, x6, rfl, rfl, _, _, e⟩
        have e' : t = gapsT L W fs front := e
        rw [e']
        exact h dc hdc
      · rintro lot r τ S' ⟨hlr, t, x4, x5, x6, rfl, rfl, ht, hb, e⟩ K1 hK
        have hl7 := hlr lot List.mem_cons_self
        rw [List.length_cons] at hb
        have hlr' := fun x hx => hlr x (List.mem_cons_of_mem _ hx)
        walk_at "ry"
        refine asKey_k ?_
        refine asDic_c put_same ?_
        walk_at "ry"
        rw [enc_val]
        cases hlk : lkp t lot with
        | none =>
          refine hK _ _ ⟨hlr', t, _, _, _, rfl, rfl, ht, by omega, ?_⟩
          rw [← e, List.foldl_cons]
          unfold proc
          rw [hlk]
        | some gp =>
          have hgp : Sz (180 + 16 * lot.length) gp := (ht _ (lkp_mem hlk)).1
          refine iteT ?_
          walk_at "ry"
          refine asKey_k ?_
          refine asDic_c put_same ?_
          rw [enc_val, hlk]
          show sp_steps_from [.d (eRaft L W), .d (eFolk fs), .d (kyD lot), .d (eQ gp)] _ _
          refine ⟨L, W, fs, lot, gp, rfl, ⟨hr, hG, hl7, hgp.mono (by omega)⟩, ?_⟩
          have hst := stepsL_ok hr hG hl7 hgp
          have hsl := stepsL_len (L := L) (W := W) (lot := lot) (front := gp) hG
          have hpr : r.foldl (proc L W fs) ((stepsL L W fs lot gp).foldl upd1 t) = gapsT L W fs front := by
            rw [← e, List.foldl_cons]
            congr 1
            show _ = proc L W fs t lot
            unfold proc
            rw [hlk]
          generalize stepsL L W fs lot gp = sl at hst hsl hpr
          show forD _ _ _ (sl.map eStep) _ _
          refine forD_ind eStep (fun r2 τ S' => (∀ p ∈ r2, Sz (180 + 16 * p.1.length) p.2 ∧ p.1.length ≤ 8) ∧ ∃ (t2 : Tb) (x4 x5 x6 : Option Dl.W), τ = [some (.d (eRaft L W)), some (.d (eFolk fs)), some (.d (eSt g ps)), some (.c dc), x4, x5, x6] ∧ S' = put S dc (.dic (encT t2)) ∧ OkT t2 ∧ t2.length + r2.length + 7 * r.length ≤ 900 ∧ r2.foldl upd1 t2 = sl.foldl upd1 t) ?_ ?_ _ ⟨hst, t, _, _, _, rfl, rfl, ht, by omega, rfl⟩
          · rintro τ S' ⟨_, t2, y4, y5, y6, rfl, rfl, ht2, hb2, e2⟩
            have e2' : t2 = sl.foldl upd1 t := e2
            exact hK _ _ ⟨hlr', t2, _, _, _, rfl, rfl, ht2, by rw [List.length_nil] at hb2; omega, by rw [e2']; exact hpr⟩
          · rintro p r2 τ S' ⟨hp2, t2, y4, y5, y6, rfl, rfl, ht2, hb2, e2⟩ K2 hK2
            have hpp := hp2 p List.mem_cons_self
            rw [List.length_cons] at hb2
            have hp2' := fun x hx => hp2 x (List.mem_cons_of_mem _ hx)
            have ok := upd1_ok ht2 hpp
            have oklen := upd1_len (t := t2) (p := p)
            have fin : ∀ t3, t3 = upd1 t2 p → ∀ y4, K2 [some (.d (eRaft L W)), some (.d (eFolk fs)), some (.d (eSt g ps)), some (.c dc), y4, some (.d (kyD p.1)), some (.d (eQ p.2))] (put S dc (.dic (encT t3))) := fun t3 e3 y4 => by
              subst e3
              exact hK2 _ _ ⟨hp2', _, _, _, _, rfl, rfl, ok, by omega, e2⟩
            have hl3 : (encT t2).length < 1000 := by unfold encT; rw [List.length_map]; omega
            refine ⟨rfl, ?_⟩
            walk_at "ry"
            refine asKey_k ?_
            refine asDic_c put_same ?_
            rw [enc_val]
            unfold upd1 at fin
            cases hl2 : lkp t2 p.1 with
            | none =>
              rw [hl2] at fin
              refine iteT ?_
              walk_at "ry"
              refine asKey_k ?_
              refine asDic_c put_same ⟨hl3, ?_⟩
              rw [put_put, enc_put]
              exact fin _ rfl _
            | some g2 =>
              rw [hl2] at fin
              have hg2 := (ht2 _ (lkp_mem hl2))
              refine iteF ?_
              walk_at "ry"
              refine asKey_k ?_
              refine asDic_c put_same ?_
              rw [enc_val, hl2]
              show sp_is_lesser [.d (eQ p.2), .d (eQ g2)] _ _
              refine ⟨p.2, g2, rfl, ⟨hpp.1.mono (by omega), hg2.1.mono (by have := hg2.2; simp only at this ⊢; omega)⟩, ?_⟩
              refine ite2 (fun c => ?_) fun c => ?_
              · have c' := of_decide_eq_true c
                refine asKey_k ?_
                refine asDic_c put_same ⟨hl3, ?_⟩
                rw [put_put, enc_put]
                exact fin _ (if_pos c').symm _
              · exact fin _ (if_neg fun z => c (decide_eq_true z)).symm _
      · exact ⟨hll, [([], front)], _, _, _, rfl, rfl, fun p hp => by rw [List.mem_singleton.mp hp]; exact ⟨hsf, Nat.zero_le _⟩, by rw [List.length_singleton]; omega, rfl⟩
theorem ok_must_stay {f : Addr} {fd : FuncData} (F : Fun K "must_stay" "must_stay" s_must_stay f fd) (B : Bi mg) (c_less : Cal P w K mg base "less" ["one", "other"] 2 sp_less) (c_front_gap : Cal P w K mg base "front_gap" ["raft", "folk", "standing"] 4 sp_front_gap) (c_times : Cal P w K mg base "times" ["one", "top", "bottom"] 2 sp_times) (c_lowest : Cal P w K mg base "lowest" ["top", "bottom"] 1 sp_lowest) (c_heavy_of : Cal P w K mg base "heavy_of" ["raft", "folk"] 1 sp_heavy_of) : FnOk P w K mg base CX0 5 f fd ["raft", "folk", "standing"] (spD K sp_must_stay) := by
  refine ok_of F sc_must_stay ?_ (fun cdv A outer s H E hr => (dss_cons (ds_setLc (i := 3) (own := [("one", 5)]) sc_must_stay.nd (di_tup (de_var 1)) (blkOk_by (own := [("one", 5)]) (N := n_must_stay) (sc := defScope s_must_stay) (by decide +kernel)) (fun _ _ _ _ _ => (dg_name (i := 5) sc_must_stay.nd)) (fun _ _ _ _ _ => dts_nil) (fun _ _ _ _ _ => (de_ix x_item (de_var 5) de_int (fun _ _ => rfl))))
      (dss_cons (ds_if (dt_cmp (o_ne hr.units) (de_callB (k_minL rfl) B.min (by decide +kernel) (da_cons (de_var 3) da_nil)) (de_callB (k_maxL rfl) B.max (by decide +kernel) (da_cons (de_var 3) da_nil)) (nomark _)) (dss_one (ds_ret de_non)) dss_nil)
      (dss_cons (ds_set (i := 4) sc_must_stay.nd (de_call c_less hr (da_cons (de_call c_front_gap hr (da_cons (de_var 0) (da_cons (de_var 1) (da_cons (de_var 2) da_nil)))) (da_cons (de_tup (da_cons (de_ix x_item (de_var 3) de_int (fun _ _ => rfl)) (da_cons de_int da_nil))) da_nil))))
      (dss_one (ds_ret (de_ifExp (dt_cmp o_gt (de_ix x_item (de_var 4) de_int (fun _ _ => rfl)) de_int (nomark _)) (de_call c_times hr (da_cons (de_var 4) (da_cons (de_call c_heavy_of hr (da_cons (de_var 0) (da_cons (de_var 1) da_nil))) (da_cons (de_ix x_item (de_var 0) de_int (fun _ _ => rfl)) da_nil)))) (de_call c_lowest hr (da_cons de_int (da_cons de_int da_nil)))))))))) ?_
  · rintro ws S Q ⟨L, W, fs, g, ps, rfl, _⟩
    rfl
  · rintro ws S Q ⟨L, W, fs, g, ps, rfl, ⟨hr, hf, hb, hg, hp⟩, h⟩
    have hlen := hf.len
    refine ⟨by rw [List.length_map]; omega, ?_⟩
    refine compD_all eOne (fun o => .int o.r) fs (fun a _ K1 q => ?_) ?_
    · walk_at "rx"
      exact q
    · walk_at "ry"
      have e : (fs.map fun o => PyData.int o.r) = (fs.map fun o => o.r).map PyData.int := by rw [List.map_map]; rfl
      have hne : 0 < fs.length := by
        rcases h with ⟨R, h, _⟩ | ⟨⟨o, ho, _⟩, _⟩
        · exact h
        · exact List.length_pos_of_mem ho
      rw [e]
      show asIs _ _
      rw [asIs_map]
      refine ⟨by rw [List.length_map]; exact hne, fun m m1 m2 => ?_⟩
      show asIs _ _
      rw [asIs_map]
      refine ⟨by rw [List.length_map]; exact hne, fun x x1 x2 => ?_⟩
      refine rNe_int ?_
      rcases h with ⟨R, _, ha, h⟩ | ⟨⟨o, ho, o', ho', hd⟩, h⟩
      · have e1 : m = R := by
          obtain ⟨o, ho, rfl⟩ := List.mem_map.mp m1
          exact ha o ho
        have e2 : x = R := by
          obtain ⟨o, ho, rfl⟩ := List.mem_map.mp x1
          exact ha o ho
        have hR : 0 ≤ R ∧ R ≤ 100 := by
          obtain ⟨o, ho, rfl⟩ := List.mem_map.mp m1
          have := hb o ho
          omega
        subst e1
        subst e2
        refine iteNT rfl ?_
        refine ⟨L, W, fs, g, ps, rfl, ⟨hr, hf, hg.mono (by decide), fun p q => (hp p q).mono (by decide)⟩, ?_⟩
        have hsf := (sz_front hf hr.w1 hr.w2 hg hp).mono (show _ ≤ 173 by decide)
        have hv := heavy_bd hf hr.w1 hr.w2
        have hl1 := hr.l1
        have hl2 := hr.l2
        obtain ⟨o, r, rfl⟩ := List.exists_cons_of_ne_nil (List.length_pos_iff.mp hne)
        have ho := ha o List.mem_cons_self
        generalize frontG W (o :: r) g ps = front at h hsf ⊢
        show rItem (.d (.list (.int o.r :: (r.map fun o => o.r).map PyData.int))) (.d (.int 0)) _ _
        unfold rItem asSq dat
        show Dl.itemAt (.int o.r :: (r.map fun o => o.r).map PyData.int) 0 _
        unfold Dl.itemAt
        rw [show atI (PyData.int o.r :: (r.map fun o => o.r).map PyData.int) 0 = some (.int o.r) from atI_nat (j := 0) rfl]
        rw [ho]
        have hsr : Sz 7 (x : Rat) := sz_int (n := 7) (by omega) (by decide)
        refine ⟨k2, front, (x : Rat), by rw [e_int], ⟨hsf.mono (by decide), hsr.mono (by decide)⟩, ?_⟩
        have hsd := (hsf.sub hsr).mono (show _ ≤ 300 by decide)
        unfold dueR at h
        generalize front - (x : Rat) = ov at h hsd ⊢
        show (if decide (ov.num > 0) = true then _ else _)
        have hpos : 0 < ov.num ↔ 0 < ov := num_posR ov
        refine ite2 (fun c => ?_) fun c => ?_
        · have c' := hpos.mp (of_decide_eq_true c)
          rw [if_pos c'] at h
          refine ⟨L, W, o :: r, rfl, by omega, ?_⟩
          exact ⟨ov, _, L, rfl, ⟨hsd.mono (by decide), by omega, up (show (heavy W (o :: r)).natAbs < 2 ^ 12 by omega) (by decide), up (show L.natAbs < 2 ^ 12 by omega) (by decide)⟩, h⟩
        · have c' : ¬ 0 < ov := fun z => c (decide_eq_true (hpos.mpr z))
          rw [if_neg c'] at h
          refine ⟨0, 1, rfl, ⟨by decide, by decide, by decide⟩, ?_⟩
          exact h
      · have hmx : m ≠ x := fun z => by
          have a1 := m2 _ (List.mem_map_of_mem ho)
          have a2 := x2 _ (List.mem_map_of_mem ho)
          have a3 := m2 _ (List.mem_map_of_mem ho')
          have a4 := x2 _ (List.mem_map_of_mem ho')
          omega
        rw [decide_eq_false hmx]
        exact iteT h

theorem ok_lots {f : Addr} {fd : FuncData} (F : Fun K "lots" "lots" s_lots f fd) (B : Bi mg) (c_gaps_of : Cal P w K mg base "gaps_of" ["raft", "folk", "standing"] 5 sp_gaps_of) : FnOk P w K mg base CX0 6 f fd ["raft", "folk", "standing"] (spD K sp_lots) := by
  refine ok_ofF F sc_lots ?_ (fun cdv A outer s H E hr => (dss_one (ds_ret (de_callB (k_sortDic hr rfl) B.sorted (by decide +kernel) (da_cons (de_call c_gaps_of hr (da_cons (de_var 0) (da_cons (de_var 1) (da_cons (de_var 2) da_nil)))) da_nil))))) ?_
  · rintro ws S Q ⟨L, W, fs, g, ps, rfl, _⟩
    rfl
  · rintro ws S Q ⟨L, W, fs, g, ps, rfl, ⟨hr, hG, hg, hp⟩, h⟩
    refine ⟨L, W, fs, g, ps, rfl, ⟨hr, hG, hg, hp⟩, fun dc hdc => ?_⟩
    obtain ⟨h0, hl⟩ := gapsT_ok (L := L) (W := W) (front := frontG W fs g ps) hG
    show cSortDic [.c dc] _ _
    simp only [cSortDic, one1]
    refine asDic_c put_same ?_
    refine ⟨?_, fun p hp' => ?_⟩
    · rw [encT_keys]
      exact sb_keys h0 (by unfold keysT; rw [List.length_map]; omega)
    · rw [encT_keys, sortD_keys]
      have np : dc ≠ p := cell_ne put_same hp'
      have hSp : S p = none := by rw [put_ne (Ne.symm np)] at hp'; exact hp'
      refine ⟨_, fun a c ha => ?_, h p hSp⟩
      by_cases e : a = p
      · subst e
        rw [put_same] at ha ⊢
        exact ha
      · rw [put_ne e] at ha ⊢
        rw [put_ne (cell_ne ha hdc)]
        exact ha
theorem ok_orders_from {f : Addr} {fd : FuncData} (F : Fun K "orders_from" "orders_from" s_orders_from f fd) (B : Bi mg) (hmg : mg "orders_from" = some (.ref f)) (hbd : Binds K fd ["raft", "folk", "front", "lot"] []) (c_can_from : Cal P w K mg base "can_from" ["raft", "folk", "front", "name"] 3 sp_can_from) (c_left_of : Cal P w K mg base "left_of" ["folk", "lot"] 1 sp_left_of) (c_next_gap : Cal P w K mg base "next_gap" ["raft", "folk", "front", "name"] 3 sp_next_gap) : ∀ d : Nat, FnOk P w K mg base CX0 (3 + d) f fd ["raft", "folk", "front", "lot"] (spD K (sp_ordD d)) := by
  intro d
  induction d with
  | zero => exact ok_never fun ws S Q ⟨L, W, fs, front, lot, _, ⟨z, _⟩, _⟩ => absurd z (Nat.not_lt_zero _)
  | succ d ih =>
    have c_orders_from : Cal P w K mg base "orders_from" ["raft", "folk", "front", "lot"] (3 + d) (sp_ordD d) := cal_of F hmg hbd ih
    refine ok_of F sc_orders_from ?_ (fun cdv A outer s H E hr => (dss_cons (ds_if (dt_cmp (o_eq hr.units) (de_var 3) (de_tup da_nil) (nomark _)) (dss_one (ds_ret (de_tup (da_cons de_int (da_cons (de_tup da_nil) da_nil))))) dss_nil)
      (dss_cons (ds_asg (vs := [4, 5]) (de_tup (da_cons de_int (da_cons de_non da_nil))) (dg_tup (n := 2) rfl (dgs_cons (dg_name (i := 4) sc_orders_from.nd) (dgs_cons (dg_name (i := 5) sc_orders_from.nd) dgs_nil))))
      (dss_cons (ds_for (vs := [6]) rfl (di_tup (de_var 3)) (dg_name (i := 6) sc_orders_from.nd)
      (dss_one (ds_if (dt_val (de_call c_can_from hr (da_cons (de_var 0) (da_cons (de_var 1) (da_cons (de_var 2) (da_cons (de_var 6) da_nil)))) (hj := Nat.le_trans (by decide : 3 ≤ 3) (Nat.le_add_right _ _)))) (dss_cons (ds_set (i := 7) sc_orders_from.nd (de_callTy k_tuple B.tuple (by decide +kernel) (da_cons (de_lc (own := [("one", 10)]) sc_orders_from.nd (di_tup (de_var 3)) (blkOk_by (own := [("one", 10)]) (N := n_orders_from) (sc := defScope s_orders_from) (by decide +kernel)) (fun _ _ _ _ _ => (dg_name (i := 10) sc_orders_from.nd)) (fun _ _ _ _ _ => (dts_one (dt_cmp (o_ne hr.units) (de_var 10) (de_var 6) (nomark _)))) (fun _ _ _ _ _ => (de_var 10))) da_nil)))
      (dss_cons (ds_asg (vs := [8, 9]) (de_call c_orders_from hr (da_cons (de_var 0) (da_cons (de_call c_left_of hr (da_cons (de_var 1) (da_cons (de_tup (da_cons (de_var 6) da_nil)) da_nil)) (hj := Nat.le_trans (by decide : 1 ≤ 3) (Nat.le_add_right _ _))) (da_cons (de_call c_next_gap hr (da_cons (de_var 0) (da_cons (de_var 1) (da_cons (de_var 2) (da_cons (de_var 6) da_nil)))) (hj := Nat.le_trans (by decide : 3 ≤ 3) (Nat.le_add_right _ _))) (da_cons (de_var 7) da_nil)))) (hj := Nat.le_refl _)) (dg_tup (n := 2) rfl (dgs_cons (dg_name (i := 8) sc_orders_from.nd) (dgs_cons (dg_name (i := 9) sc_orders_from.nd) dgs_nil))))
      (dss_cons (ds_aug (i := 4) sc_orders_from.nd (de_var 8))
      (dss_one (ds_if (PW.pt (dw_and (dt_isN (de_var 5)) (dw_and1 (dt_notN (de_var 9))))) (dss_one (ds_set (i := 5) sc_orders_from.nd (de_op o_cat (de_tup (da_cons (de_var 6) da_nil)) (de_var 9)))) dss_nil))))) dss_nil)))
      (dss_one (ds_ret (de_tup (da_cons (de_var 4) (da_cons (de_var 5) da_nil))))))))) ?_
    · rintro ws S Q ⟨L, W, fs, front, lot, rfl, _⟩
      rfl
    · rintro ws S Q ⟨L, W, fs, front, lot, rfl, ⟨hl, hl7, hr, hG, ho, hf⟩, h⟩
      have hlen := hG.f.len
      have hok : ∀ n ∈ lot, okS n := fun n hn => by
        obtain ⟨o, ho', rfl⟩ := List.mem_map.mp (ho.sub n hn)
        exact hG.n o ho'
      have hky : SeqAt.shaped (kyD lot) = true := (shp_tup (n := 0) fun x hx => by
        obtain ⟨n, hn, rfl⟩ := List.mem_map.mp hx
        exact shp_str (hok n hn)).ok
      walk_at "ry"
      refine ⟨Nat.zero_le _, ?_⟩
      by_cases hlot : lot = []
      · subst hlot
        refine eq_self (d := .tuple []) rfl ?_
        refine iteT ⟨Nat.zero_le _, k2, ?_⟩
        unfold ordsN at h
        exact h
      · refine rEq_of (b := false) hky rfl ?_ ?_
        · obtain ⟨n, r, rfl⟩ := List.exists_cons_of_ne_nil hlot
          unfold kyD
          rw [List.map_cons]
          simp only [PyData.eqv, PyData.eqvAll]
        · refine iteF ?_
          unfold ordsN at h
          rw [if_neg hlot] at h
          refine ⟨k2, trivial, ?_⟩
          show forD _ _ _ (lot.map PyData.str) _ _
          have hff : ∀ n ∈ lot, Sz (400 - 16 * (lot.filter fun x => !(x == n)).length) (nextG W fs front n) := fun n hn => by
            have z := sz_next hr hG (ho.sub n hn) hf
            have := rest_len hn ho.nd
            exact z.mono (by omega)
          generalize hfn : (fun n => if canF L W fs front n = true then (ordsN L W d (leftOf fs [n]) (nextG W fs front n) (lot.filter fun x => !(x == n))).map (n :: ·) else []) = fn at h
          refine forD_ind PyData.str (fun r τ S' => (∀ n ∈ r, n ∈ lot) ∧ S' = S ∧ ∃ (acc : List (List Str)) (fst : PyData) (x6 x7 x8 x9 x10 : Option Dl.W), τ = [some (.d (eRaft L W)), some (.d (eFolk fs)), some (.d (eQ front)), some (.d (kyD lot)), some (.d (.int (acc.length : Int))), some (.d fst), x6, x7, x8, x9, x10] ∧ eOrd acc = .tuple [.int (acc.length : Int), fst] ∧ acc ++ r.flatMap fn = lot.flatMap fn) ?_ ?_ _ ?_
          · rintro τ S' ⟨_, rfl, acc, fst, x6, x7, x8, x9, x10, rfl, e1, e2⟩
            rw [List.flatMap_nil, List.append_nil] at e2
            rw [← e2, e1] at h
            exact ⟨k2, h⟩
          · rintro n r τ S' ⟨hr2, rfl, acc, fst, x6, x7, x8, x9, x10, rfl, e1, e2⟩ K1 hK
            have hn := hr2 n List.mem_cons_self
            have hnf := ho.sub n hn
            walk_at "ry"
            refine ⟨L, W, fs, front, n, rfl, ⟨hr, hG, hnf, hf.mono (by omega)⟩, ?_⟩
            have efn : fn n = if canF L W fs front n = true then (ordsN L W d (leftOf fs [n]) (nextG W fs front n) (lot.filter fun x => !(x == n))).map (n :: ·) else [] := by rw [← hfn]
            rw [List.flatMap_cons] at e2
            refine ite2 (fun c => ?_) fun c => ?_
            · rw [if_pos c] at efn
              walk_at "ry"
              show (lot.map PyData.str).length ≤ 1000 ∧ compD _ _ _ _ (lot.map PyData.str) _ _
              refine ⟨by rw [List.length_map]; omega, ?_⟩
              refine compD_ty PyData.str (fun x => !(x == n)) PyData.str lot (fun a ha K2 K3 q1 q2 => ?_) ?_
              · walk_at "ry"
                refine rNe_str (hok a ha) (hok n hn) ?_
                refine ite2 (fun c => q1 c) fun c => q2 (by simpa using c)
              · walk_at "ry"
                refine ⟨k1, fs, [n], rfl, by omega, ?_⟩
                refine ⟨L, W, fs, front, n, rfl, ⟨hr, hG, hnf, hf.mono (by omega)⟩, ?_⟩
                have hrl := rest_len hn ho.nd
                refine ⟨L, W, leftOf fs [n], _, lot.filter fun x => !(x == n), rfl, ⟨by omega, by omega, hr, hG.left _, ho.rest n, hff n hn⟩, ?_⟩
                have hol := ords_mem (L := L) (W := W) d (leftOf fs [n]) (nextG W fs front n) _ (ho.rest n).nd
                generalize ordsN L W d (leftOf fs [n]) (nextG W fs front n) (lot.filter fun x => !(x == n)) = os at efn hol
                rw [efn] at e2
                have hnext := fun m hm => hr2 m (List.mem_cons_of_mem _ hm)
                unfold eOrd
                refine ⟨rfl, ?_⟩
                cases os with
                | nil =>
                  rw [List.map_nil, List.nil_append] at e2
                  walk_at "ry"
                  have fin : ∀ y6 y7 y8 y9 y10, K1 [some (.d (eRaft L W)), some (.d (eFolk fs)), some (.d (eQ front)), some (.d (kyD lot)), some (.d (.int ((acc.length : Int) + ((0 : Nat) : Int)))), some (.d fst), y6, y7, y8, y9, y10] S' := fun y6 y7 y8 y9 y10 => by
                    rw [show (acc.length : Int) + ((0 : Nat) : Int) = (acc.length : Int) by omega]
                    exact hK _ _ ⟨hnext, rfl, acc, fst, _, _, _, _, _, rfl, e1, e2⟩
                  refine ite2 (fun _ => ?_) fun _ => ?_
                  · first
                      | exact fin _ _ _ _ _
                      | exact iteF (fin _ _ _ _ _)
                  · exact fin _ _ _ _ _
                | cons o1 ot =>
                  walk_at "ry"
                  have e3 : (acc.length : Int) + (((o1 :: ot).length : Nat) : Int) = ((acc ++ (o1 :: ot).map (n :: ·)).length : Int) := by
                    rw [List.length_append, List.length_map]; omega
                  have e4 : acc ++ (o1 :: ot).map (n :: ·) ++ r.flatMap fn = lot.flatMap fn := by rw [← e2, List.append_assoc]
                  rw [List.length_cons] at e3
                  cases acc with
                  | nil =>
                    have ef : fst = .none := by
                      unfold eOrd at e1
                      injection e1 with e1
                      injection e1 with _ e1
                      injection e1 with e1 _
                      exact e1.symm
                    subst ef
                    refine iteT ?_
                    refine iteT ?_
                    refine ⟨k1, ?_⟩
                    refine ⟨?_, ?_⟩
                    · have h5 := hol o1 List.mem_cons_self
                      show 1 + (o1.map PyData.str).length ≤ 1000
                      rw [List.length_map, h5]
                      omega
                    · rw [e3]
                      exact hK _ _ ⟨hnext, rfl, _, _, _, _, _, _, _, rfl, rfl, e4⟩
                  | cons a1 at1 =>
                    have ef : fst = kyD a1 := by
                      unfold eOrd at e1
                      injection e1 with e1
                      injection e1 with _ e1
                      injection e1 with e1 _
                      exact e1.symm
                    subst ef
                    refine iteF ?_
                    rw [e3]
                    exact hK _ _ ⟨hnext, rfl, _, _, _, _, _, _, _, rfl, rfl, e4⟩
            · rw [if_neg c] at efn
              rw [efn, List.nil_append] at e2
              exact hK _ _ ⟨fun m hm => hr2 m (List.mem_cons_of_mem _ hm), rfl, acc, fst, _, _, _, _, _, rfl, e1, e2⟩
          · exact ⟨fun _ z => z, rfl, [], .none, _, _, _, _, _, rfl, rfl, rfl⟩

theorem ok_orders {f : Addr} {fd : FuncData} (F : Fun K "orders" "orders" s_orders f fd) (B : Bi mg) (c_orders_from : Cal P w K mg base "orders_from" ["raft", "folk", "front", "lot"] 10 sp_orders_from) (c_front_gap : Cal P w K mg base "front_gap" ["raft", "folk", "standing"] 4 sp_front_gap) : FnOk P w K mg base CX0 11 f fd ["raft", "folk", "standing", "lot"] (spD K sp_orders) := by
  refine ok_of F sc_orders ?_ (fun cdv A outer s H E hr => (dss_one (ds_ret (de_call c_orders_from hr (da_cons (de_var 0) (da_cons (de_var 1) (da_cons (de_call c_front_gap hr (da_cons (de_var 0) (da_cons (de_var 1) (da_cons (de_var 2) da_nil)))) (da_cons (de_var 3) da_nil)))))))) ?_
  · rintro ws S Q ⟨L, W, fs, g, ps, lot, rfl, _⟩
    rfl
  · rintro ws S Q ⟨L, W, fs, g, ps, lot, rfl, ⟨hr, hG, hl, ho, hg, hp⟩, h⟩
    have hsf := (sz_front hG.f hr.w1 hr.w2 hg hp).mono (show _ ≤ 400 - 16 * lot.length by omega)
    refine ⟨L, W, fs, g, ps, rfl, ⟨hr, hG.f, hg.mono (by decide), fun p q => (hp p q).mono (by decide)⟩, ?_⟩
    exact ⟨L, W, fs, _, lot, rfl, ⟨hl, by omega, hr, hG, ho, hsf⟩, h⟩
theorem ok__law_bag {f : Addr} {fd : FuncData} (F : Fun K "_law_bag" "_law_bag" s__law_bag f fd) (B : Bi mg) : FnOk P w K mg base CX0 1 f fd ["script", "k"] (spD K sp__law_bag) := by
  refine ok_of F sc__law_bag ?_ (fun cdv A outer s H E hr => (dss_cons (ds_set (i := 2) sc__law_bag.nd de_int)
      (dss_cons (ds_if (dt_cmp o_lt (de_var 1) (de_callB k_len B.len boot_len (da_cons (de_var 0) da_nil)) (nomark _)) (dss_one (ds_set (i := 2) sc__law_bag.nd (de_callB k_abs B.abs (by decide +kernel) (da_cons (de_ix x_item (de_var 0) (de_var 1) (fun _ _ => rfl)) da_nil)))) dss_nil)
      (dss_cons (ds_if (dt_cmp o_lt (de_var 2) (de_op o_pow de_int de_int) (nomark _)) (dss_one (ds_ret (de_lstC (da_cons de_int (da_cons (de_op o_add de_int (de_op o_mod (de_op o_add (de_op o_mul (de_var 2) de_int) (de_op o_mul de_int (de_var 1))) de_int)) da_nil))))) dss_nil)
      (dss_one (ds_ret (de_lstC (da_cons (de_var 2) (da_cons (de_op o_add de_int (de_op o_mod (de_op o_add (de_var 2) (de_var 1)) de_int)) da_nil))))))))) ?_
  · rintro ws S Q ⟨ns, k, rfl, _⟩
    rfl
  · rintro ws S Q ⟨ns, k, rfl, ⟨hk0, hk1⟩, h⟩
    have b0 : ∀ x : Int, 0 ≤ x % 2147483646 ∧ x % 2147483646 < 2147483646 := fun x => ⟨Int.emod_nonneg _ (by decide), Int.emod_lt_of_pos _ (by decide)⟩
    refine ite2 (fun e => ?_) fun e => ?_
    · have e1 : k < ((ns.map PyData.int).length : Int) := of_decide_eq_true e
      rw [List.length_map] at e1
      walk_at "rd"
      refine itemInts hk0 e1 fun x _ => ?_
      walk_at "rd"
      refine ⟨⟨by decide, by decide, by decide⟩, ?_⟩
      walk_at "rd"
      refine ite2 (fun e2 => ?_) fun e2 => ?_
      · have c1 : (if x < 0 then -x else x) < 10 ^ 18 := of_decide_eq_true e2
        have c2 : (if x < 0 then -x else x).natAbs < 2 ^ 60 := by split at c1 <;> split <;> omega
        refine ⟨cmul c2 (by decide : (7919 : Int).natAbs < 2 ^ 20), cmul (by decide : (104729 : Int).natAbs < 2 ^ 20) (by omega : k.natAbs < 2 ^ 10), show (0 : Int) < 2147483646 by decide, k2, fun p hp => ?_⟩
        have z := b0 ((if x < 0 then -x else x) * 7919 + 104729 * k)
        exact h p _ hp ⟨0, _, by decide, by omega, by omega, rfl⟩
      · refine ⟨show (0 : Int) < 2147483646 by decide, k2, fun p hp => ?_⟩
        have z := b0 ((if x < 0 then -x else x) + k)
        exact h p _ hp ⟨(if x < 0 then -x else x), _, by split <;> omega, by omega, by omega, rfl⟩
    · walk_at "rd"
      refine ⟨⟨by decide, by decide, by decide⟩, ?_⟩
      refine ⟨cmul (by decide : (0 : Int).natAbs < 2 ^ 20) (by decide : (7919 : Int).natAbs < 2 ^ 20), cmul (by decide : (104729 : Int).natAbs < 2 ^ 20) (by omega : k.natAbs < 2 ^ 10), show (0 : Int) < 2147483646 by decide, k2, fun p hp => ?_⟩
      have z := b0 (0 * 7919 + 104729 * k)
      exact h p _ hp ⟨0, _, by decide, by omega, by omega, rfl⟩
theorem ok__law_take {f : Addr} {fd : FuncData} (F : Fun K "_law_take" "_law_take" s__law_take f fd) (B : Bi mg) : FnOk P w K mg base CX0 1 f fd ["bag", "many"] (spD K sp__law_take) := by
  refine ok_of F sc__law_take ?_ (fun cdv A outer s H E hr => (dss_cons (ds_if (dt_cmp o_gt (de_ix x_item (de_var 0) de_int (fun _ _ => rfl)) de_int (nomark _)) (dss_cons (ds_set (i := 2) sc__law_take.nd (de_op o_mod (de_ix x_item (de_var 0) de_int (fun _ _ => rfl)) (de_var 1)))
      (dss_cons (ds_asg (vs := []) (de_op o_div (de_ix x_item (de_var 0) de_int (fun _ _ => rfl)) (de_var 1)) (dg_sub (de_var 0) de_int))
      (dss_one (ds_ret (de_var 2))))) dss_nil)
      (dss_cons (ds_asg (vs := []) (de_op o_mod (de_op o_mul (de_ix x_item (de_var 0) de_int (fun _ _ => rfl)) de_int) de_int) (dg_sub (de_var 0) de_int))
      (dss_one (ds_ret (de_op o_mod (de_op o_div (de_op o_mod (de_op o_mul (de_ix x_item (de_var 0) de_int (fun _ _ => rfl)) (de_ix x_item (de_var 0) de_int (fun _ _ => rfl))) de_int) de_int) (de_var 1))))))) ?_
  · rintro ws S Q ⟨b, many, rfl, _⟩
    rfl
  · rintro ws S Q ⟨b, many, rfl, ⟨⟨x, y, hS, h1, h2, h3⟩, hm, hm2⟩, h⟩
    have sm : many.natAbs < 2 ^ 30 := by omega
    refine cellItem (i := 0) hS rfl ?_
    refine ite2 (fun e => ?_) fun e => ?_
    · refine cellItem (i := 0) hS rfl ?_
      refine ⟨hm, ?_⟩
      walk_at "rd"
      refine cellItem (i := 0) hS rfl ?_
      refine ⟨wide_div hm sm (by decide) (by decide), ?_⟩
      refine cellSet (j := 0) hS rfl ?_
      exact h _ _ (Int.emod_nonneg x (Int.ne_of_gt hm)) (Int.emod_lt_of_pos x hm) ⟨x / many, y, Int.ediv_nonneg h1 (Int.le_of_lt hm), h2, h3, rfl⟩
    · walk_at "rd"
      have a0 : 0 ≤ y * 48271 % 2147483647 := Int.emod_nonneg _ (by decide)
      have a1 : y * 48271 % 2147483647 < 2147483647 := Int.emod_lt_of_pos _ (by decide)
      refine cellItem (i := 1) hS rfl ?_
      refine ⟨cmul (a := 31) (b := 20) (by omega) (by decide), show (0 : Int) < 2147483647 by decide, ?_⟩
      refine cellSet (j := 1) hS rfl ?_
      refine cellItem (i := 1) put_same rfl ?_
      refine cellItem (i := 1) put_same rfl ?_
      refine ⟨cmul (a := 31) (b := 31) (by omega) (by omega), show (0 : Int) < 2147483629 by decide, wide_div (b := 10) (by decide) (by decide) (by decide) (by decide), hm, ?_⟩
      exact h _ _ (Int.emod_nonneg _ (Int.ne_of_gt hm)) (Int.emod_lt_of_pos _ hm) ⟨x, y * 48271 % 2147483647, h1, a0, by omega, rfl⟩
theorem ok__law_lowest {f : Addr} {fd : FuncData} (F : Fun K "_law_lowest" "_law_lowest" s__law_lowest f fd) (B : Bi mg) : FnOk P w K mg base CX0 1 f fd ["top", "bottom"] (spD K sp_lowest) := by
  refine ok_of F sc__law_lowest ?_ (fun cdv A outer s H E hr => (dss_cons (ds_par (i := 2) (j := 3) sc__law_lowest.nd (da_cons (de_callB k_abs B.abs (by decide +kernel) (da_cons (de_var 0) da_nil)) (da_cons (de_var 1) da_nil)))
      (dss_cons (ds_while (dt_cmp o_gt (de_var 3) de_int (nomark _)) (dss_one (ds_par (i := 2) (j := 3) sc__law_lowest.nd (da_cons (de_var 3) (da_cons (de_op o_mod (de_var 2) (de_var 3)) da_nil)))))
      (dss_one (ds_ret (de_tup (da_cons (de_op o_div (de_var 0) (de_var 2)) (da_cons (de_op o_div (de_var 1) (de_var 2)) da_nil)))))))) ?_
  · rintro ws S Q ⟨t, b, rfl, _⟩
    rfl
  · rintro ws S Q ⟨t, b, rfl, ⟨hb, h1, h2⟩, h⟩
    refine ⟨b.toNat + 1, ?_⟩
    have key : ∀ (k : Nat) (x y : Int), 0 ≤ x → 0 ≤ y → y.toNat ≤ k → (Int.gcd x y : Int) = (Int.gcd t b : Int) →
        whileN (uB (uOp rGt (uVar 3) (uC (PyData.int 0)))) (sPar 2 3 (aCons (uVar 3) (aCons (uOp rMod (uVar 2) (uVar 3)) aNil)))
          { nx := sRet (uTup (aCons (uOp rDiv (uVar 0) (uVar 2)) (aCons (uOp rDiv (uVar 1) (uVar 2)) aNil))) { nx := fun _ S' => Q (.d .none) S', rt := Q }, rt := Q } (k + 1) [some (.d (.int t)), some (.d (.int b)), some (.d (.int x)), some (.d (.int y))] S := by
      have fin : ∀ (x y : Int), 0 ≤ x → ¬ y > 0 → 0 ≤ y → (Int.gcd x y : Int) = (Int.gcd t b : Int) → sRet (uTup (aCons (uOp rDiv (uVar 0) (uVar 2)) (aCons (uOp rDiv (uVar 1) (uVar 2)) aNil))) { nx := fun _ S' => Q (.d .none) S', rt := Q } [some (.d (.int t)), some (.d (.int b)), some (.d (.int x)), some (.d (.int y))] S := by
        intro x y hx e0 hy hg
        have e : y = 0 := by omega
        subst e
        have e2 : x = (Int.gcd t b : Int) := by
          rw [← hg]
          simp [Int.gcd, Int.natAbs_of_nonneg hx]
        have g := gcd_pos (t := t) hb
        have gl := gcd_le (t := t) hb
        have sm : x.natAbs < 2 ^ 8000 := Nat.lt_of_le_of_lt (by omega) h2
        refine ⟨wide_div (by omega) sm (by decide) (by decide), wide_div (by omega) sm (by decide) (by decide), k2, ?_⟩
        have q : eQ (Rat.divInt t b) = .tuple [.int (t / x), .int (b / x)] := by
          unfold eQ
          rw [← low_num hb, ← low_den hb, e2]
        rw [q] at h
        exact h
      intro k
      induction k with
      | zero =>
        intro x y hx hy hk hg
        refine ite2 (fun e => ?_) fun e => fin x y hx (fun z => e (decide_eq_true z)) hy hg
        have hy' : 0 < y := of_decide_eq_true e
        omega
      | succ k ih =>
        intro x y hx hy hk hg
        refine ite2 (fun e => ?_) fun e => fin x y hx (fun z => e (decide_eq_true z)) hy hg
        have hy' : 0 < y := of_decide_eq_true e
        refine ⟨hy', ?_⟩
        have hm1 := Int.emod_nonneg x (Int.ne_of_gt hy')
        have hm2 := Int.emod_lt_of_pos x hy'
        refine ih y (x % y) hy hm1 (by omega) ?_
        rw [gcd_step hx hy']
        exact hg
    refine key b.toNat (if t < 0 then -t else t) b ?_ (by omega) (Nat.le_refl _) ?_
    · split <;> omega
    · split
      · simp [Int.gcd]
      · rfl
theorem ok__law_plus {f : Addr} {fd : FuncData} (F : Fun K "_law_plus" "_law_plus" s__law_plus f fd) (B : Bi mg) (c__law_lowest : Cal P w K mg base "_law_lowest" ["top", "bottom"] 1 sp__law_lowest) : FnOk P w K mg base CX0 2 f fd ["one", "other"] (spD K sp_plus) := by
  refine ok_of F sc__law_plus ?_ (fun cdv A outer s H E hr => (dss_one (ds_ret (de_call c__law_lowest hr (da_cons (de_op o_add (de_op o_mul (de_ix x_item (de_var 0) de_int (fun _ _ => rfl)) (de_ix x_item (de_var 1) de_int (fun _ _ => rfl))) (de_op o_mul (de_ix x_item (de_var 1) de_int (fun _ _ => rfl)) (de_ix x_item (de_var 0) de_int (fun _ _ => rfl)))) (da_cons (de_op o_mul (de_ix x_item (de_var 0) de_int (fun _ _ => rfl)) (de_ix x_item (de_var 1) de_int (fun _ _ => rfl))) da_nil)))))) ?_
  · rintro ws S Q ⟨a, b, rfl, _⟩
    rfl
  · rintro ws S Q ⟨a, b, rfl, ⟨h1, h2⟩, h⟩
    have d1 := den_lt h1
    have d2 := den_lt h2
    refine ⟨cmul h1.1 d2, cmul h2.1 d1, cmul d1 d2, _, _, rfl, ⟨Int.mul_pos (dpos a) (dpos b), ?_, ?_⟩, ?_⟩
    · exact up (two_lt (natAbs_mul_lt h1.1 d2) (natAbs_mul_lt h2.1 d1)) (by decide)
    · exact up (natAbs_mul_lt d1 d2) (by decide)
    · rw [add_q]
      exact h
theorem ok__law_minus {f : Addr} {fd : FuncData} (F : Fun K "_law_minus" "_law_minus" s__law_minus f fd) (B : Bi mg) (c__law_lowest : Cal P w K mg base "_law_lowest" ["top", "bottom"] 1 sp__law_lowest) : FnOk P w K mg base CX0 2 f fd ["one", "other"] (spD K sp_less) := by
  refine ok_of F sc__law_minus ?_ (fun cdv A outer s H E hr => (dss_one (ds_ret (de_call c__law_lowest hr (da_cons (de_op o_sub (de_op o_mul (de_ix x_item (de_var 0) de_int (fun _ _ => rfl)) (de_ix x_item (de_var 1) de_int (fun _ _ => rfl))) (de_op o_mul (de_ix x_item (de_var 1) de_int (fun _ _ => rfl)) (de_ix x_item (de_var 0) de_int (fun _ _ => rfl)))) (da_cons (de_op o_mul (de_ix x_item (de_var 0) de_int (fun _ _ => rfl)) (de_ix x_item (de_var 1) de_int (fun _ _ => rfl))) da_nil)))))) ?_
  · rintro ws S Q ⟨a, b, rfl, _⟩
    rfl
  · rintro ws S Q ⟨a, b, rfl, ⟨h1, h2⟩, h⟩
    have d1 := den_lt h1
    have d2 := den_lt h2
    refine ⟨cmul h1.1 d2, cmul h2.1 d1, cmul d1 d2, _, _, rfl, ⟨Int.mul_pos (dpos a) (dpos b), ?_, ?_⟩, ?_⟩
    · exact up (two_lt' (natAbs_mul_lt h1.1 d2) (natAbs_mul_lt h2.1 d1)) (by decide)
    · exact up (natAbs_mul_lt d1 d2) (by decide)
    · rw [sub_q]
      exact h
theorem ok__law_times {f : Addr} {fd : FuncData} (F : Fun K "_law_times" "_law_times" s__law_times f fd) (B : Bi mg) (c__law_lowest : Cal P w K mg base "_law_lowest" ["top", "bottom"] 1 sp__law_lowest) : FnOk P w K mg base CX0 2 f fd ["part", "by"] (spD K sp__law_times) := by
  refine ok_of F sc__law_times ?_ (fun cdv A outer s H E hr => (dss_one (ds_ret (de_call c__law_lowest hr (da_cons (de_op o_mul (de_ix x_item (de_var 0) de_int (fun _ _ => rfl)) (de_var 1)) (da_cons (de_ix x_item (de_var 0) de_int (fun _ _ => rfl)) da_nil)))))) ?_
  · rintro ws S Q ⟨a, t, rfl, _⟩
    rfl
  · rintro ws S Q ⟨a, t, rfl, ⟨h1, h2⟩, h⟩
    have d1 := den_lt h1
    refine ⟨cmul h1.1 h2, _, _, rfl, ⟨dpos a, ?_, ?_⟩, ?_⟩
    · exact up (natAbs_mul_lt h1.1 h2) (by decide)
    · exact up d1 (by decide)
    · have e := mul_q a t 1 (by decide)
      rw [Int.mul_one, Rat.intCast_one, rdiv_one] at e
      rw [e]
      exact h
theorem ok__law_less {f : Addr} {fd : FuncData} (F : Fun K "_law_less" "_law_less" s__law_less f fd) (B : Bi mg) : FnOk P w K mg base CX0 1 f fd ["one", "other"] (spD K sp_is_lesser) := by
  refine ok_of F sc__law_less ?_ (fun cdv A outer s H E hr => (dss_one (ds_ret (de_cmp o_lt (de_op o_mul (de_ix x_item (de_var 0) de_int (fun _ _ => rfl)) (de_ix x_item (de_var 1) de_int (fun _ _ => rfl))) (de_op o_mul (de_ix x_item (de_var 1) de_int (fun _ _ => rfl)) (de_ix x_item (de_var 0) de_int (fun _ _ => rfl))) (nomark _))))) ?_
  · rintro ws S Q ⟨a, b, rfl, _⟩
    rfl
  · rintro ws S Q ⟨a, b, rfl, ⟨h1, h2⟩, h⟩
    have d1 := den_lt h1
    have d2 := den_lt h2
    refine ⟨cmul h1.1 d2, cmul h2.1 d1, ?_⟩
    rw [← lt_q] at h
    exact h
theorem ok__law_raft {f : Addr} {fd : FuncData} (F : Fun K "_law_raft" "_law_raft" s__law_raft f fd) (B : Bi mg) (c__law_take : Cal P w K mg base "_law_take" ["bag", "many"] 1 sp__law_take) : FnOk P w K mg base CX0 2 f fd ["bag"] (spD K sp__law_raft) := by
  refine ok_of F sc__law_raft ?_ (fun cdv A outer s H E hr => (dss_cons (ds_set (i := 1) sc__law_raft.nd (de_ix x_item (de_lst (da_cons de_int (da_cons de_int (da_cons de_int da_nil)))) (de_call c__law_take hr (da_cons (de_var 0) (da_cons de_int da_nil))) (fun _ _ => rfl)))
      (dss_one (ds_ret (de_tup (da_cons (de_op o_add de_int (de_call c__law_take hr (da_cons (de_var 0) (da_cons (de_var 1) da_nil)))) (da_cons (de_op o_add de_int (de_call c__law_take hr (da_cons (de_var 0) (da_cons (de_ix x_item (de_lst (da_cons de_int (da_cons de_int (da_cons de_int da_nil)))) (de_call c__law_take hr (da_cons (de_var 0) (da_cons de_int da_nil))) (fun _ _ => rfl)) da_nil)))) da_nil))))))) ?_
  · rintro ws S Q ⟨b, rfl, _⟩
    rfl
  · rintro ws S Q ⟨b, rfl, hb, h⟩
    refine ⟨k3, b, 3, rfl, ⟨hb, by decide, by decide⟩, fun v S1 v0 v1 s1 => ?_⟩
    refine pick3 v0 v1 fun m hm => ?_
    have m1 : 1 ≤ m ∧ m ≤ 1000 := by rcases hm with rfl | rfl | rfl <;> decide
    refine ⟨b, m, rfl, ⟨s1.ok, by omega, by omega⟩, fun u S2 u0 u1 s2 => ?_⟩
    refine ⟨k3, b, 3, rfl, ⟨s2.ok, by decide, by decide⟩, fun v' S3 v0' v1' s3 => ?_⟩
    refine pick3 v0' v1' fun m' hm' => ?_
    have m2 : 1 ≤ m' ∧ m' ≤ 1000 := by rcases hm' with rfl | rfl | rfl <;> decide
    refine ⟨b, m', rfl, ⟨s3.ok, by omega, by omega⟩, fun u' S4 u0' u1' s4 => ?_⟩
    refine ⟨k2, h (1 + u) (1 + u') S4 ⟨by omega, by omega, by omega, by omega⟩ (s1.trans (s2.trans (s3.trans s4)))⟩
theorem ok__law_folk {f : Addr} {fd : FuncData} (F : Fun K "_law_folk" "_law_folk" s__law_folk f fd) (B : Bi mg) (c__law_take : Cal P w K mg base "_law_take" ["bag", "many"] 1 sp__law_take) : FnOk P w K mg base CX0 2 f fd ["bag", "most"] (spD K sp__law_folk) := by
  refine ok_ofF F sc__law_folk ?_ (fun cdv A outer s H E hr => (dss_cons (ds_set (i := 2) sc__law_folk.nd (de_lstC da_nil))
      (dss_cons (ds_set (i := 3) sc__law_folk.nd (de_call c__law_take hr (da_cons (de_var 0) (da_cons (de_ix x_item (de_lst (da_cons de_int (da_cons de_int da_nil))) (de_call c__law_take hr (da_cons (de_var 0) (da_cons de_int da_nil))) (fun _ _ => rfl)) da_nil))))
      (dss_cons (ds_set (i := 4) sc__law_folk.nd (de_cmp (o_eq hr.units) (de_call c__law_take hr (da_cons (de_var 0) (da_cons de_int da_nil))) de_int (nomark _)))
      (dss_cons (ds_for (vs := [5]) rfl (di_list (de_slice s_lst (de_lst (da_cons de_str (da_cons de_str (da_cons de_str (da_cons de_str (da_cons de_str (da_cons de_str (da_cons de_str da_nil)))))))) do_none (do_some (de_op o_add de_int (de_call c__law_take hr (da_cons (de_var 0) (da_cons (de_var 1) da_nil))))))) (dg_name (i := 5) sc__law_folk.nd)
      (dss_cons (ds_set (i := 6) sc__law_folk.nd (de_op o_add de_int (de_call c__law_take hr (da_cons (de_var 0) (da_cons (de_ix x_item (de_lst (da_cons de_int (da_cons de_int (da_cons de_int da_nil)))) (de_call c__law_take hr (da_cons (de_var 0) (da_cons de_int da_nil))) (fun _ _ => rfl)) da_nil)))))
      (dss_one (ds_expr (de_app (de_var 2) (da_cons (de_tup (da_cons (de_var 5) (da_cons (de_var 6) (da_cons (de_ifExp (dt_val (de_var 4)) (de_var 3) (de_call c__law_take hr (da_cons (de_var 0) (da_cons (de_ix x_item (de_lst (da_cons de_int (da_cons de_int da_nil))) (de_call c__law_take hr (da_cons (de_var 0) (da_cons de_int da_nil))) (fun _ _ => rfl)) da_nil)))) da_nil)))) da_nil))))))
      (dss_one (ds_ret (de_callTy k_tuple B.tuple (by decide +kernel) (da_cons (de_var 2) da_nil))))))))) ?_
  · rintro ws S Q ⟨b, most, rfl, _⟩
    rfl
  · rintro ws S Q ⟨b, most, rfl, ⟨hb, hm1, hm2⟩, h⟩
    refine ⟨Nat.zero_le _, fun p hp => ?_⟩
    have hpb : b ≠ p := fun e => by
      obtain ⟨x, y, e2, _⟩ := hb
      rw [e, hp] at e2
      cases e2
    have hb0 : Bg (put S p (.lst [])) b := by
      obtain ⟨x, y, e2, q⟩ := hb
      exact ⟨x, y, by rw [put_ne hpb]; exact e2, q⟩
    refine ⟨k2, b, 2, rfl, ⟨hb0, by decide, by decide⟩, fun v S1 v0 v1 s1 => ?_⟩
    refine pick2 v0 v1 fun m hm => ?_
    have hm' : 1 ≤ m ∧ m ≤ 101 := by rcases hm with rfl | rfl <;> decide
    refine ⟨b, m, rfl, ⟨s1.ok, by omega, by omega⟩, fun reach S2 r0 r1 s2 => ?_⟩
    refine ⟨b, 2, rfl, ⟨s2.ok, by decide, by decide⟩, fun al S3 a0 a1 s3 => ?_⟩
    refine ⟨rfl, rfl, k7, b, most, rfl, ⟨s3.ok, by omega, by omega⟩, fun cnt S4 c0 c1 s4 => ?_⟩
    have s14 := s1.trans (s2.trans (s3.trans s4))
    walk_at "rd"
    have ecut : cutD [PyData.str "ann", .str "bo", .str "cy", .str "dee", .str "eli", .str "fay", .str "gus"] none (some (1 + cnt)) = (names7.take (1 + cnt).toNat).map PyData.str := by
      have hc : cnt = 0 ∨ cnt = 1 ∨ cnt = 2 ∨ cnt = 3 ∨ cnt = 4 ∨ cnt = 5 ∨ cnt = 6 := by omega
      rcases hc with rfl | rfl | rfl | rfl | rfl | rfl | rfl <;> rfl
    show forD _ _ _ (cutD [PyData.str "ann", .str "bo", .str "cy", .str "dee", .str "eli", .str "fay", .str "gus"] none (some (1 + cnt))) _ _
    rw [ecut]
    refine forD_ind PyData.str (fun r τ S' => ∃ (fs : List One) (x5 x6 : Option W) (Sb : Sto), τ = [some (.c b), some (.d (.int most)), some (.c p), some (.d (.int reach)), some (.d (.bool (al == 0))), x5, x6] ∧ S' = put Sb p (.lst (fs.map eOne)) ∧ Bs S b Sb ∧ fs.map (·.n) ++ r = names7.take (1 + cnt).toNat ∧ ∀ o ∈ fs, 1 ≤ o.h ∧ o.h ≤ 200 ∧ 0 ≤ o.r ∧ o.r ≤ 100) ?_ ?_ _ ?_
    · rintro τ S' ⟨fs, x5, x6, Sb, rfl, rfl, hs, hn, ho⟩
      rw [List.append_nil] at hn
      have hl : fs.length = (1 + cnt).toNat := by
        have e := congrArg List.length hn
        rw [List.length_map, List.length_take] at e
        have : names7.length = 7 := rfl
        omega
      have hnp : Sb p = none := by rw [hs.ne (Ne.symm hpb)]; exact hp
      have hd : DrF most fs := ⟨by omega, by omega, by rw [hl]; exact hn, fun o q => (ho o q).1, fun o q => (ho o q).2.1, fun o q => (ho o q).2.2.1, fun o q => (ho o q).2.2.2⟩
      walk_at "rd"
      refine cellL put_same ?_
      exact ⟨Sb, le_put hnp, h fs Sb hd hs⟩
    · rintro nm r τ S' ⟨fs, x5, x6, Sb, rfl, rfl, hs, hn, ho⟩ K1 hK
      walk_at "rd"
      have hlen : fs.length < 1000 := by
        have e := congrArg List.length hn
        rw [List.length_append, List.length_map, List.length_take] at e
        have : names7.length = 7 := rfl
        omega
      refine ⟨k3, b, 3, rfl, ⟨hs.ok.put hpb, by decide, by decide⟩, fun v T1 v0 v1 t1 => ?_⟩
      refine pick3 v0 v1 fun m3 hm3 => ?_
      have hm3' : 1 ≤ m3 ∧ m3 ≤ 200 := by rcases hm3 with rfl | rfl | rfl <;> decide
      refine ⟨b, m3, rfl, ⟨t1.ok, by omega, by omega⟩, fun hv T2 hv0 hv1 t2 => ?_⟩
      obtain ⟨U2, u2, rfl⟩ := (t1.trans t2).under hpb
      refine ⟨cellIs put_same, ?_⟩
      walk_at "rd"
      have next : ∀ (rc : Int) (U3 : Sto), 0 ≤ rc → rc ≤ 100 → Bs Sb b U3 → K1 [some (.c b), some (.d (.int most)), some (.c p), some (.d (.int reach)), some (.d (.bool (al == 0))), some (.d (.str nm)), some (.d (.int (1 + hv)))] (put U3 p (.lst (fs.map eOne ++ [.tuple [.str nm, .int (1 + hv), .int rc]]))) := by
        intro rc U3 rc0 rc1 u3
        refine hK _ _ ⟨fs ++ [⟨nm, 1 + hv, rc⟩], _, _, U3, rfl, by rw [List.map_append]; rfl, hs.trans u3, ?_, fun o q => ?_⟩
        · rw [List.map_append, List.append_assoc]
          exact hn
        · rcases List.mem_append.mp q with q | q
          · exact ho o q
          · rw [List.mem_singleton.mp q]
            exact ⟨by show 1 ≤ 1 + hv; omega, by show 1 + hv ≤ 200; omega, rc0, rc1⟩
      refine ite2 (fun e => ?_) fun e => ?_
      · refine ⟨k3, ?_⟩
        refine cellApp put_same (by rw [List.length_map]; exact hlen) ?_
        rw [put_put]
        exact next reach U2 r0 (by omega) u2
      · refine ⟨k2, b, 2, rfl, ⟨u2.ok.put hpb, by decide, by decide⟩, fun v' T3 v0' v1' t3 => ?_⟩
        refine pick2 v0' v1' fun m4 hm4 => ?_
        have hm4' : 1 ≤ m4 ∧ m4 ≤ 101 := by rcases hm4 with rfl | rfl <;> decide
        refine ⟨b, m4, rfl, ⟨t3.ok, by omega, by omega⟩, fun rc T4 rc0 rc1 t4 => ?_⟩
        obtain ⟨U4, u4, rfl⟩ := (t3.trans t4).under hpb
        refine ⟨k3, ?_⟩
        refine cellApp put_same (by rw [List.length_map]; exact hlen) ?_
        rw [put_put]
        exact next rc U4 rc0 (by omega) (u2.trans u4)
    · obtain ⟨x, y, q1, q2, q3, e⟩ := s14
      exact ⟨[], none, none, put S b (.lst [.int x, .int y]), rfl, by rw [e]; exact put_comm hpb.symm, ⟨x, y, q1, q2, q3, rfl⟩, rfl, fun _ h => nomatch h⟩
theorem ok__law_place {f : Addr} {fd : FuncData} (F : Fun K "_law_place" "_law_place" s__law_place f fd) (B : Bi mg) (c__law_take : Cal P w K mg base "_law_take" ["bag", "many"] 1 sp__law_take) (c__law_lowest : Cal P w K mg base "_law_lowest" ["top", "bottom"] 1 sp__law_lowest) : FnOk P w K mg base CX0 2 f fd ["bag", "raft"] (spD K sp__law_place) := by
  refine ok_of F sc__law_place ?_ (fun cdv A outer s H E hr => (dss_cons (ds_set (i := 2) sc__law_place.nd (de_call c__law_take hr (da_cons (de_var 0) (da_cons de_int da_nil))))
      (dss_one (ds_ret (de_call c__law_lowest hr (da_cons (de_op o_mul (de_ix x_item (de_var 1) de_int (fun _ _ => rfl)) (de_var 2)) (da_cons de_int da_nil))))))) ?_
  · rintro ws S Q ⟨b, L, W, rfl, _⟩
    rfl
  · rintro ws S Q ⟨b, L, W, rfl, ⟨hb, hr⟩, h⟩
    refine ⟨b, 5, rfl, ⟨hb, by decide, by decide⟩, fun v S1 v0 v1 s1 => ?_⟩
    have l1 := hr.l1
    have l2 := hr.l2
    have m0 : 0 ≤ L * v := Int.mul_nonneg (by omega) v0
    have m1 : L * v ≤ 4 * L := by
      have := Int.mul_le_mul_of_nonneg_left (show v ≤ 4 by omega) (show 0 ≤ L by omega)
      omega
    refine ⟨cmul (a := 10) (b := 10) (by omega) (by omega), L * v, 4, rfl, ⟨by decide, up (show (L * v).natAbs < 2 ^ 12 by omega) (by decide), up (by decide : (4 : Nat) < 2 ^ 12) (by decide)⟩, ?_⟩
    exact h _ S1 (drp_of (by omega) m0 m1) s1
theorem ok__law_places {f : Addr} {fd : FuncData} (F : Fun K "_law_places" "_law_places" s__law_places f fd) (B : Bi mg) (c__law_place : Cal P w K mg base "_law_place" ["bag", "raft"] 2 sp__law_place) : FnOk P w K mg base CX0 3 f fd ["bag", "raft", "folk"] (spD K sp__law_places) := by
  refine ok_of F sc__law_places ?_ (fun cdv A outer s H E hr => (dss_one (ds_ret (de_callTy k_tuple B.tuple (by decide +kernel) (da_cons (de_lc (own := [("one", 3)]) sc__law_places.nd (di_tup (de_var 2)) (blkOk_by (own := [("one", 3)]) (N := n__law_places) (sc := defScope s__law_places) (by decide +kernel)) (fun _ _ _ _ _ => (dg_name (i := 3) sc__law_places.nd)) (fun _ _ _ _ _ => dts_nil) (fun _ _ _ _ _ => (de_call c__law_place hr (da_cons (de_var 0) (da_cons (de_var 1) da_nil))))) da_nil))))) ?_
  · rintro ws S Q ⟨b, L, W, fs, rfl, _⟩
    rfl
  · rintro ws S Q ⟨b, L, W, fs, rfl, ⟨hb, hr, hl⟩, h⟩
    refine ⟨by rw [List.length_map]; omega, ?_⟩
    refine compD_st eOne eQ (fun S' => Bs S b S') (DrP L) fs (fun a _ S1 K1 j q => ?_) hb.refl fun bs S' hl' hp j => ?_
    · exact ⟨b, L, W, rfl, ⟨j.ok, hr⟩, fun p S2 hp s2 => q p S2 hp (j.trans s2)⟩
    · exact h bs S' hl' hp j
theorem ok__law_standing {f : Addr} {fd : FuncData} (F : Fun K "_law_standing" "_law_standing" s__law_standing f fd) (B : Bi mg) (c__law_take : Cal P w K mg base "_law_take" ["bag", "many"] 1 sp__law_take) (c__law_lowest : Cal P w K mg base "_law_lowest" ["top", "bottom"] 1 sp__law_lowest) (c__law_places : Cal P w K mg base "_law_places" ["bag", "raft", "folk"] 3 sp__law_places) : FnOk P w K mg base CX0 4 f fd ["bag", "raft", "folk"] (spD K sp__law_standing) := by
  refine ok_of F sc__law_standing ?_ (fun cdv A outer s H E hr => (dss_cons (ds_set (i := 3) sc__law_standing.nd (de_ix x_item (de_lst (da_cons de_int (da_cons (de_ix x_item (de_var 1) de_int (fun _ _ => rfl)) (da_cons de_int da_nil)))) (de_call c__law_take hr (da_cons (de_var 0) (da_cons de_int da_nil))) (fun _ _ => rfl)))
      (dss_one (ds_ret (de_tup (da_cons (de_call c__law_lowest hr (da_cons (de_call c__law_take hr (da_cons (de_var 0) (da_cons (de_op o_add (de_op o_mul de_int (de_var 3)) de_int) da_nil))) (da_cons de_int da_nil))) (da_cons (de_call c__law_places hr (da_cons (de_var 0) (da_cons (de_var 1) (da_cons (de_var 2) da_nil)))) da_nil))))))) ?_
  · rintro ws S Q ⟨b, L, W, fs, rfl, _⟩
    rfl
  · rintro ws S Q ⟨b, L, W, fs, rfl, ⟨hb, hr, hl⟩, h⟩
    have l1 := hr.l1
    have l2 := hr.l2
    refine ⟨k3, b, 3, rfl, ⟨hb, by decide, by decide⟩, fun v S1 v0 v1 s1 => ?_⟩
    refine pick3 v0 v1 fun m hm => ?_
    have hm1 : 1 ≤ m ∧ m ≤ 1000 := by rcases hm with rfl | rfl | rfl <;> omega
    refine ⟨cmul (a := 10) (b := 10) (by decide) (by omega), b, 2 * m + 1, rfl, ⟨s1.ok, by omega, by omega⟩, fun t S2 t0 t1 s2 => ?_⟩
    refine ⟨t, 2, rfl, ⟨by decide, up (show t.natAbs < 2 ^ 12 by omega) (by decide), up (by decide : (2 : Nat) < 2 ^ 12) (by decide)⟩, ?_⟩
    refine ⟨b, L, W, fs, rfl, ⟨s2.ok, hr, hl⟩, fun ps S3 hl2 hp s3 => ?_⟩
    refine ⟨k2, ?_⟩
    exact h _ ps S3 ⟨Rat.divInt_nonneg t0 (by decide), sz_q (by decide) (by omega) (by decide)⟩ hl2 hp (s1.trans (s2.trans s3))
theorem ok__law_heavy {f : Addr} {fd : FuncData} (F : Fun K "_law_heavy" "_law_heavy" s__law_heavy f fd) (B : Bi mg) : FnOk P w K mg base CX0 1 f fd ["raft", "folk"] (spD K sp_heavy_of) := by
  refine ok_of F sc__law_heavy ?_ (fun cdv A outer s H E hr => (dss_one (ds_ret (de_op o_add (de_ix x_item (de_var 0) de_int (fun _ _ => rfl)) (de_callB (k_sum rfl) B.sum (by decide +kernel) (da_cons (de_lc (own := [("one", 2)]) sc__law_heavy.nd (di_tup (de_var 1)) (blkOk_by (own := [("one", 2)]) (N := n__law_heavy) (sc := defScope s__law_heavy) (by decide +kernel)) (fun _ _ _ _ _ => (dg_name (i := 2) sc__law_heavy.nd)) (fun _ _ _ _ _ => dts_nil) (fun _ _ _ _ _ => (de_ix x_item (de_var 2) de_int (fun _ _ => rfl)))) da_nil)))))) ?_
  · rintro ws S Q ⟨L, W, fs, rfl, _⟩
    rfl
  · rintro ws S Q ⟨L, W, fs, rfl, hl, h⟩
    refine ⟨by rw [List.length_map]; exact hl, ?_⟩
    refine compD_all eOne (fun o => .int o.h) fs (fun a _ K1 q => ?_) ?_
    · exact q
    · show asIs (fs.map fun o => PyData.int o.h) _
      rw [show (fs.map fun o => PyData.int o.h) = (fs.map fun o => o.h).map PyData.int by rw [List.map_map]; rfl, asIs_map]
      exact h
theorem ok__law_shift {f : Addr} {fd : FuncData} (F : Fun K "_law_shift" "_law_shift" s__law_shift f fd) (B : Bi mg) (c__law_plus : Cal P w K mg base "_law_plus" ["one", "other"] 2 sp__law_plus) (c__law_times : Cal P w K mg base "_law_times" ["part", "by"] 2 sp__law_times) (c__law_minus : Cal P w K mg base "_law_minus" ["one", "other"] 2 sp__law_minus) : FnOk P w K mg base CX0 3 f fd ["folk", "before", "after"] (spD K sp__law_shiftL) := by
  refine ok_of F sc__law_shift ?_ (fun cdv A outer s H E hr => (dss_cons (ds_set (i := 3) sc__law_shift.nd (de_tup (da_cons de_int (da_cons de_int da_nil))))
      (dss_cons (ds_for (vs := [4, 5, 6]) rfl (di_zip3L B.zip (da_cons (de_var 0) (da_cons (de_var 1) (da_cons (de_var 2) da_nil)))) (dg_tup (n := 3) rfl (dgs_cons (dg_name (i := 4) sc__law_shift.nd) (dgs_cons (dg_name (i := 5) sc__law_shift.nd) (dgs_cons (dg_name (i := 6) sc__law_shift.nd) dgs_nil))))
      (dss_one (ds_set (i := 3) sc__law_shift.nd (de_call c__law_plus hr (da_cons (de_var 3) (da_cons (de_call c__law_times hr (da_cons (de_call c__law_minus hr (da_cons (de_var 6) (da_cons (de_var 5) da_nil))) (da_cons (de_ix x_item (de_var 4) de_int (fun _ _ => rfl)) da_nil))) da_nil))))))
      (dss_one (ds_ret (de_var 3)))))) ?_
  · rintro ws S Q ⟨fs, ps, ps', x, a, b, rfl, _⟩
    rfl
  · rintro ws S Q ⟨fs, ps, ps', x, na, nb, rfl, hx, ⟨hf, hab, hp, hp'⟩, h⟩
    have hz := zip3_okL hf hp hp'
    have hl : (fs.zip (ps.zip ps')).length ≤ 7 := by
      rw [List.length_zip]
      have := hf.len
      omega
    rcases hx with rfl | rfl <;>
    · refine ⟨k2, ?_⟩
      show forD _ _ _ (zip3D (fs.map eOne) (ps.map eQ) (ps'.map eQ)) _ _
      rw [zip3D_map]
      refine forD_ind (fun x : One × Rat × Rat => .tuple [eOne x.1, eQ x.2.1, eQ x.2.2]) (fun r τ S' => S' = S ∧ ∃ a x2 x3 x4 x5 m, τ = [some (.d (eFolk fs)), some (.d (ePl ps)), x2, some (.d (eQ a)), x3, x4, x5] ∧ Sz m a ∧ m + r.length * 410 ≤ 2900 ∧ (∀ x ∈ r, 1 ≤ x.1.h ∧ x.1.h ≤ 200 ∧ Sz na x.2.1 ∧ Sz nb x.2.2) ∧ a + shiftP r = shift fs ps ps') ?_ ?_ _ ?_
      · rintro τ S' ⟨rfl, a, x2, x3, x4, x5, m, rfl, _, _, _, e⟩
        have e2 : a = shift fs ps ps' := by rw [← e]; show a = a + 0; grind
        subst e2
        exact h
      · rintro x r τ S' ⟨rfl, a, x2, x3, x4, x5, m, rfl, hm, hs, hx, e⟩ K1 hK
        obtain ⟨q1, q2, q3, q4⟩ := hx x List.mem_cons_self
        rw [List.length_cons] at hs
        have hsub := q4.sub q3
        have hmul := hsub.muld (t := x.1.h) (b := 1) (m := 8) (by decide) (h_lt q1 q2) (by decide)
        rw [Rat.intCast_one, rdiv_one] at hmul
        refine ⟨rfl, x.2.2, x.2.1, rfl, ⟨q4.mono (by omega), q3.mono (by omega)⟩, ?_⟩
        refine ⟨_, x.1.h, rfl, ⟨hsub.mono (by omega), up (h_lt q1 q2) (by decide)⟩, ?_⟩
        refine ⟨a, _, rfl, ⟨hm.mono (by omega), hmul.mono (by omega)⟩, ?_⟩
        refine hK _ _ ⟨rfl, _, _, _, _, _, _, rfl, (hm.add hmul).mono (show _ ≤ m + 410 by omega), by omega, fun y hy => hx y (List.mem_cons_of_mem _ hy), ?_⟩
        rw [← e]
        show a + (x.2.2 - x.2.1) * x.1.h + shiftP r = a + ((x.2.2 - x.2.1) * x.1.h + shiftP r)
        grind
      · exact ⟨rfl, 0, _, _, _, _, 1, rfl, sz0, by omega, hz, by show (0 : Rat) + shift fs ps ps' = shift fs ps ps'; grind⟩
theorem ok__law_gap {f : Addr} {fd : FuncData} (F : Fun K "_law_gap" "_law_gap" s__law_gap f fd) (B : Bi mg) (c__law_shift : Cal P w K mg base "_law_shift" ["folk", "before", "after"] 3 sp__law_shiftL) (c__law_minus : Cal P w K mg base "_law_minus" ["one", "other"] 2 sp__law_minus) (c__law_lowest : Cal P w K mg base "_law_lowest" ["top", "bottom"] 1 sp__law_lowest) (c__law_heavy : Cal P w K mg base "_law_heavy" ["raft", "folk"] 1 sp__law_heavy) : FnOk P w K mg base CX0 4 f fd ["raft", "folk", "standing", "places"] (spD K sp__law_gapL) := by
  refine ok_of F sc__law_gap ?_ (fun cdv A outer s H E hr => (dss_cons (ds_set (i := 4) sc__law_gap.nd (de_call c__law_shift hr (da_cons (de_var 1) (da_cons (de_ix x_item (de_var 2) de_int (fun _ _ => rfl)) (da_cons (de_var 3) da_nil)))))
      (dss_one (ds_ret (de_call c__law_minus hr (da_cons (de_ix x_item (de_var 2) de_int (fun _ _ => rfl)) (da_cons (de_call c__law_lowest hr (da_cons (de_ix x_item (de_var 4) de_int (fun _ _ => rfl)) (da_cons (de_op o_mul (de_ix x_item (de_var 4) de_int (fun _ _ => rfl)) (de_call c__law_heavy hr (da_cons (de_var 0) (da_cons (de_var 1) da_nil)))) da_nil))) da_nil))))))) ?_
  · rintro ws S Q ⟨L, W, fs, g, ps, ps', x, a, b, rfl, _⟩
    rfl
  · rintro ws S Q ⟨L, W, fs, g, ps, ps', x, a, b, rfl, hx, ⟨hr, hf, hg, hab, hp, hp'⟩, h⟩
    have hv := heavy_bd hf hr.w1 hr.w2
    have hs := sz_shiftL hf hab hp hp'
    have hd := den_lt hs
    have hv2 : (heavy W fs).natAbs < 2 ^ 12 := by omega
    refine ⟨fs, ps, ps', x, a, b, rfl, hx, ⟨hf, hab, hp, hp'⟩, ?_⟩
    refine ⟨L, W, fs, rfl, by have := hf.len; omega, cmul hd hv2, _, _, rfl, ⟨Int.mul_pos (dpos _) hv.1, up hs.1 (by decide), up (natAbs_mul_lt hd hv2) (by decide)⟩, ?_⟩
    have e : Rat.divInt (shift fs ps ps').num (((shift fs ps ps').den : Int) * heavy W fs) = shift fs ps ps' / (heavy W fs : Rat) := by
      have e1 := mul_q (shift fs ps ps') 1 (heavy W fs) (by omega)
      rw [Int.mul_one, Rat.intCast_one] at e1
      rw [e1]
      grind
    have hq := sz_q (n := 2950) (Int.mul_pos (dpos (shift fs ps ps')) hv.1) (up hs.1 (by decide)) (up (natAbs_mul_lt hd hv2) (by decide))
    refine ⟨g, _, rfl, ⟨hg.mono (by decide), hq.mono (by decide)⟩, ?_⟩
    rw [e]
    exact h
theorem ok__law_front {f : Addr} {fd : FuncData} (F : Fun K "_law_front" "_law_front" s__law_front f fd) (B : Bi mg) (c__law_gap : Cal P w K mg base "_law_gap" ["raft", "folk", "standing", "places"] 4 sp__law_gapL) : FnOk P w K mg base CX0 5 f fd ["raft", "folk", "standing"] (spD K sp__law_frontL) := by
  refine ok_of F sc__law_front ?_ (fun cdv A outer s H E hr => (dss_one (ds_ret (de_call c__law_gap hr (da_cons (de_var 0) (da_cons (de_var 1) (da_cons (de_var 2) (da_cons (de_op o_rep (de_tup (da_cons (de_tup (da_cons de_int (da_cons de_int da_nil))) da_nil)) (de_callB k_len B.len boot_len (da_cons (de_var 1) da_nil))) da_nil)))))))) ?_
  · rintro ws S Q ⟨L, W, fs, g, ps, rfl, _⟩
    rfl
  · rintro ws S Q ⟨L, W, fs, g, ps, rfl, ⟨hr, hf, hn, hg, hp⟩, h⟩
    have hlen := hf.len
    refine ⟨k2, k1, ⟨Nat.one_pos, k1, ?_, ?_⟩, L, W, fs, g, ps, List.replicate fs.length ((0 : Int) : Rat), _, 380, 10, rfl, .inl ?_, ⟨hr, hf, hg, by decide, hp, fun p hp => ?_⟩, h⟩
    · show (1 : Int) ≤ ((fs.map eOne).length : Int)
      rw [List.length_map]
      omega
    · show ((fs.map eOne).length : Int) ≤ 1000
      rw [List.length_map]
      omega
    · show PyData.tuple (List.replicate ((fs.map eOne).length : Int).toNat [PyData.tuple [.int 0, .int 1]]).flatten = _
      rw [rep_places, List.length_map, Int.toNat_natCast]
    · rw [List.eq_of_mem_replicate hp]
      exact sz_int (n := 10) (by decide) (by decide)

theorem ok__law_left {f : Addr} {fd : FuncData} (F : Fun K "_law_left" "_law_left" s__law_left f fd) (B : Bi mg) : FnOk P w K mg base CX0 1 f fd ["folk", "lot"] (spD K sp_left_of) := by
  refine ok_of F sc__law_left ?_ (fun cdv A outer s H E hr => (dss_one (ds_ret (de_callTy k_tuple B.tuple (by decide +kernel) (da_cons (de_lc (own := [("one", 2)]) sc__law_left.nd (di_tup (de_var 0)) (blkOk_by (own := [("one", 2)]) (N := n__law_left) (sc := defScope s__law_left) (by decide +kernel)) (fun _ _ _ _ _ => (dg_name (i := 2) sc__law_left.nd)) (fun _ _ _ _ _ => (dts_one (dt_cmp o_ninT (de_ix x_item (de_var 2) de_int (fun _ _ => rfl)) (de_var 1) rfl))) (fun _ _ _ _ _ => (de_var 2))) da_nil))))) ?_
  · rintro ws S Q ⟨fs, lot, rfl, _⟩
    rfl
  · rintro ws S Q ⟨fs, lot, rfl, hl, h⟩
    refine ⟨by rw [List.length_map]; exact hl, ?_⟩
    refine compD_ty eOne (fun o => !lot.contains o.n) eOne fs (fun a ha K1 K2 q1 q2 => ?_) ?_
    · walk_at "ry"
      show match Dl.strs? (lot.map PyData.str) with
        | some ns => _
        | none => False
      rw [Dl.strs_map]
      refine ite2 (fun c => q1 c) fun c => q2 (by simpa using c)
    · exact h
theorem ok__law_lots {f : Addr} {fd : FuncData} (F : Fun K "_law_lots" "_law_lots" s__law_lots f fd) (B : Bi mg) : FnOk P w K mg base CX0 1 f fd ["folk"] (spD K sp_all_lots) := by
  refine ok_of F sc__law_lots ?_ (fun cdv A outer s H E hr => (dss_cons (ds_set (i := 1) sc__law_lots.nd (de_lst (da_cons (de_tup da_nil) da_nil)))
      (dss_cons (ds_for (vs := [2]) rfl (di_tup (de_var 0)) (dg_name (i := 2) sc__law_lots.nd)
      (dss_one (ds_set (i := 1) sc__law_lots.nd (de_op o_catL (de_var 1) (de_lc (own := [("lot", 3)]) sc__law_lots.nd (di_list (de_var 1)) (blkOk_by (own := [("lot", 3)]) (N := n__law_lots) (sc := defScope s__law_lots) (by decide +kernel)) (fun _ _ _ _ _ => (dg_name (i := 3) sc__law_lots.nd)) (fun _ _ _ _ _ => dts_nil) (fun _ _ _ _ _ => (de_op o_cat (de_var 3) (de_tup (da_cons (de_ix x_item (de_var 2) de_int (fun _ _ => rfl)) da_nil)))))))))
      (dss_one (ds_ret (de_callB (k_sort hr) B.sorted (by decide +kernel) (da_cons (de_var 1) da_nil))))))) ?_
  · rintro ws S Q ⟨fs, rfl, _⟩
    rfl
  · rintro ws S Q ⟨fs, rfl, hl, h⟩
    walk_at "ry"
    refine ⟨Nat.zero_le _, k1, ?_⟩
    show forD _ _ _ (fs.map eOne) _ _
    refine forD_ind eOne (fun r τ S' => S' = S ∧ ∃ (acc : List (List Str)) (x2 x3 : Option Dl.W), τ = [some (.d (eFolk fs)), some (.d (.list (acc.map kyD))), x2, x3] ∧ acc.length * 2 ^ r.length ≤ 128 ∧ (∀ l ∈ acc, l.length + r.length ≤ 7) ∧ (∃ t, acc = [] :: t) ∧ allL (r.map (·.n)) acc = allL (fs.map (·.n)) [[]]) ?_ ?_ _ ?_
    · rintro τ S' ⟨rfl, acc, x2, x3, rfl, hb, _, h0, e⟩
      walk_at "ry"
      have e' : acc = allL (fs.map (·.n)) [[]] := e
      refine ⟨sb_keys h0 (by rw [List.length_nil, Nat.pow_zero] at hb; omega), fun p hp => ?_⟩
      rw [sortD_keys, e']
      exact h p hp
    · rintro o r τ S' ⟨rfl, acc, x2, x3, rfl, hb, hl7, ⟨t, h0⟩, e⟩ K1 hK
      rw [List.length_cons, Nat.pow_succ] at hb
      have hacc : acc.length ≤ 128 := by
        have := Nat.pos_of_ne_zero (show 2 ^ r.length ≠ 0 from Nat.ne_of_gt (Nat.two_pow_pos _))
        have := Nat.le_mul_of_pos_right acc.length (show 0 < 2 ^ r.length * 2 by omega)
        omega
      walk_at "ry"
      refine ⟨by rw [List.length_map]; omega, ?_⟩
      refine compD_all kyD (fun l => kyD (l ++ [o.n])) acc (fun a ha K2 q => ?_) ?_
      · walk_at "ry"
        refine ⟨k1, ?_⟩
        show Dl.rCat (.d (.tuple (a.map PyData.str))) (.d (.tuple [.str o.n])) S' _
        have := hl7 a ha
        rw [List.length_cons] at this
        refine ⟨by rw [List.length_map]; show a.length + 1 ≤ 1000; omega, ?_⟩
        have e2 : kyD (a ++ [o.n]) = .tuple (a.map PyData.str ++ [.str o.n]) := by unfold kyD; rw [List.map_append]; rfl
        rw [← e2]
        exact q
      · refine ⟨by rw [List.length_map, List.length_map]; omega, ?_⟩
        have e3 : acc.map kyD ++ (acc.map fun l => kyD (l ++ [o.n])) = (acc ++ acc.map (· ++ [o.n])).map kyD := by rw [List.map_append, List.map_map]; rfl
        rw [e3]
        refine hK _ _ ⟨rfl, acc ++ acc.map (· ++ [o.n]), _, _, rfl, ?_, ?_, ⟨_, by rw [h0]; rfl⟩, e⟩
        · rw [List.length_append, List.length_map]
          have : (acc.length + acc.length) * 2 ^ r.length = acc.length * (2 ^ r.length * 2) := by
            rw [← Nat.mul_two, Nat.mul_assoc, Nat.mul_comm 2]
          omega
        · intro l hl'
          rcases List.mem_append.mp hl' with z | z
          · have := hl7 l z
            rw [List.length_cons] at this
            omega
          · obtain ⟨l', z', rfl⟩ := List.mem_map.mp z
            have := hl7 l' z'
            rw [List.length_cons] at this
            rw [List.length_append, List.length_singleton]
            omega
    · refine ⟨rfl, [[]], _, _, rfl, ?_, fun l hl' => ?_, ⟨[], rfl⟩, rfl⟩
      · rw [List.length_singleton, Nat.one_mul]
        exact Nat.le_trans (Nat.pow_le_pow_right (by decide) hl) (by decide)
      · rw [List.mem_singleton.mp hl']
        simpa using hl
theorem ok__law_product {f : Addr} {fd : FuncData} (F : Fun K "_law_product" "_law_product" s__law_product f fd) (B : Bi mg)  : FnOk P w K mg base CX0 1 f fd ["many"] (spD K sp__law_product) := by
  refine ok_of F sc__law_product ?_ (fun cdv A outer s H E hr => (dss_cons (ds_set (i := 1) sc__law_product.nd de_int)
      (dss_cons (ds_for (vs := [2]) rfl (di_range2 B.range (da_cons de_int (da_cons (de_op o_add (de_var 0) de_int) da_nil))) (dg_name (i := 2) sc__law_product.nd)
      (dss_one (ds_set (i := 1) sc__law_product.nd (de_op o_mul (de_var 1) (de_var 2)))))
      (dss_one (ds_ret (de_var 1)))))) ?_
  · rintro ws S Q ⟨n, rfl, _⟩
    rfl
  · rintro ws S Q ⟨n, rfl, hn, h⟩
    walk_at "ry"
    refine ⟨⟨by decide, by decide, by omega, by omega⟩, ?_⟩
    show forD _ _ _ ((List.range (((n : Int) + 1 - 2).toNat)).map fun (k : Nat) => PyData.int (2 + (k : Int))) _ _
    rw [List.range_eq_range']
    refine forD_ind (fun (k : Nat) => PyData.int (2 + (k : Int))) (fun r τ S' => S' = S ∧ ∃ k j : Nat, r = List.range' k j ∧ k + j = ((n : Int) + 1 - 2).toNat ∧ ∃ x, τ = [some (.d (.int (n : Int))), some (.d (.int (fact (k + 1) : Int))), x]) ?_ ?_ _ ⟨rfl, 0, _, rfl, Nat.zero_add _, _, rfl⟩
    · rintro τ S' ⟨rfl, k, j, hk, hkj, x, rfl⟩
      have hj : j = 0 := by
        cases j with
        | zero => rfl
        | succ j => rw [List.range'_succ] at hk; cases hk
      subst hj
      have e : fact (k + 1) = fact n := by
        rcases Nat.eq_zero_or_pos n with z | z
        · subst z
          have : k = 0 := by omega
          subst this
          rfl
        · have : k + 1 = n := by omega
          rw [this]
      rw [e]
      exact h
    · rintro a r τ S' ⟨rfl, k, j, hk, hkj, x, rfl⟩ K1 hK
      cases j with
      | zero => cases hk
      | succ j =>
        rw [List.range'_succ] at hk
        injection hk with h1 h2
        subst h1
        subst h2
        walk_at "ry"
        have e : (fact (a + 1) : Int) * (2 + (a : Int)) = (fact (a + 1 + 1) : Int) := by
          have : fact (a + 1 + 1) = (a + 1 + 1) * fact (a + 1) := rfl
          rw [this, Int.natCast_mul, Int.mul_comm]
          congr 1
          omega
        refine ⟨cmul (a := 100) (b := 10) (by rw [Int.natAbs_natCast]; exact fact_lt (by omega)) (by omega), ?_⟩
        rw [e]
        exact hK _ _ ⟨rfl, a + 1, j, rfl, by omega, _, rfl⟩

theorem ok_law {f : Addr} {fd : FuncData} (F : Fun K "law" "law" s_law f fd) (B : Bi mg) (c__law_bag : Cal P w K mg base "_law_bag" ["script", "k"] 1 sp__law_bag) (c__law_take : Cal P w K mg base "_law_take" ["bag", "many"] 1 sp__law_take) (c__law_standing : Cal P w K mg base "_law_standing" ["bag", "raft", "folk"] 4 sp__law_standing) (c__law_minus : Cal P w K mg base "_law_minus" ["one", "other"] 2 sp__law_minus) (c__law_lots : Cal P w K mg base "_law_lots" ["folk"] 1 sp__law_lots) (c__law_raft : Cal P w K mg base "_law_raft" ["bag"] 2 sp__law_raft) (c__law_folk : Cal P w K mg base "_law_folk" ["bag", "most"] 2 sp__law_folk) (c__law_front : Cal P w K mg base "_law_front" ["raft", "folk", "standing"] 5 sp__law_frontL) (c__law_lowest : Cal P w K mg base "_law_lowest" ["top", "bottom"] 1 sp__law_lowest) (c_must_stay : Cal P w K mg base "must_stay" ["raft", "folk", "standing"] 5 sp_must_stay) (c_lots : Cal P w K mg base "lots" ["raft", "folk", "standing"] 6 sp_lots) (c__law_heavy : Cal P w K mg base "_law_heavy" ["raft", "folk"] 1 sp__law_heavy) (c__law_less : Cal P w K mg base "_law_less" ["one", "other"] 1 sp__law_less) (c_orders : Cal P w K mg base "orders" ["raft", "folk", "standing", "lot"] 11 sp_orders) (c__law_left : Cal P w K mg base "_law_left" ["folk", "lot"] 1 sp__law_left) (c__law_product : Cal P w K mg base "_law_product" ["many"] 1 sp__law_product) : FnOk P w K mg base CX0 12 f fd ["script"] (spD K sp_law) := by
  refine ok_of F sc_law ?_ (fun cdv A outer s H E hr => (dss_cons (ds_for (vs := [1]) rfl (di_range B.range (da_cons (de_op o_add de_int (de_callB (k_min2 rfl) B.min (by decide +kernel) (da_cons (de_callB k_len B.len boot_len (da_cons (de_var 0) da_nil)) (da_cons de_int da_nil)))) da_nil)) (dg_name (i := 1) sc_law.nd)
      (dss_cons (ds_set (i := 2) sc_law.nd (de_call c__law_bag hr (da_cons (de_var 0) (da_cons (de_var 1) da_nil))))
      (dss_cons (ds_par (i := 3) (j := 4) sc_law.nd (da_cons (de_call c__law_raft hr (da_cons (de_var 2) da_nil)) (da_cons (de_call c__law_folk hr (da_cons (de_var 2) (da_cons de_int da_nil))) da_nil)))
      (dss_cons (ds_set (i := 5) sc_law.nd (de_call c__law_take hr (da_cons (de_var 2) (da_cons (de_ix x_item (de_lst (da_cons de_int (da_cons de_int da_nil))) (de_call c__law_take hr (da_cons (de_var 2) (da_cons de_int da_nil))) (fun _ _ => rfl)) da_nil))))
      (dss_cons (ds_set (i := 4) sc_law.nd (de_callTy k_tuple B.tuple (by decide +kernel) (da_cons (de_lc (own := [("name", 13), ("heavy", 14), ("old", 15)]) sc_law.nd (di_tup (de_var 4)) (blkOk_by (own := [("name", 13), ("heavy", 14), ("old", 15)]) (N := n_law) (sc := defScope s_law) (by decide +kernel)) (fun _ _ _ _ _ => (dg_tup (n := 3) rfl (dgs_cons (dg_name (i := 13) sc_law.nd) (dgs_cons (dg_name (i := 14) sc_law.nd) (dgs_cons (dg_name (i := 15) sc_law.nd) dgs_nil))))) (fun _ _ _ _ _ => dts_nil) (fun _ _ _ _ _ => (de_tup (da_cons (de_var 13) (da_cons (de_var 14) (da_cons (de_var 5) da_nil)))))) da_nil)))
      (dss_cons (ds_set (i := 6) sc_law.nd (de_call c__law_standing hr (da_cons (de_var 2) (da_cons (de_var 3) (da_cons (de_var 4) da_nil)))))
      (dss_cons (ds_set (i := 7) sc_law.nd (de_call c__law_minus hr (da_cons (de_call c__law_front hr (da_cons (de_var 3) (da_cons (de_var 4) (da_cons (de_var 6) da_nil)))) (da_cons (de_tup (da_cons (de_var 5) (da_cons de_int da_nil))) da_nil))))
      (dss_cons (ds_set (i := 8) sc_law.nd (de_tup (da_cons de_int (da_cons de_int da_nil))))
      (dss_cons (ds_if (dt_cmp o_gt (de_ix x_item (de_var 7) de_int (fun _ _ => rfl)) de_int (nomark _)) (dss_one (ds_set (i := 8) sc_law.nd (de_call c__law_lowest hr (da_cons (de_op o_mul (de_ix x_item (de_var 7) de_int (fun _ _ => rfl)) (de_call c__law_heavy hr (da_cons (de_var 3) (da_cons (de_var 4) da_nil)))) (da_cons (de_op o_mul (de_ix x_item (de_var 7) de_int (fun _ _ => rfl)) (de_ix x_item (de_var 3) de_int (fun _ _ => rfl))) da_nil))))) dss_nil)
      (dss_cons (ds_if (dt_cmp (o_ne hr.units) (de_call c_must_stay hr (da_cons (de_var 3) (da_cons (de_var 4) (da_cons (de_var 6) da_nil)))) (de_var 8) (nomark _)) (dss_one (ds_ret de_bl)) dss_nil)
      (dss_cons (ds_set (i := 9) sc_law.nd (de_lstC da_nil))
      (dss_cons (ds_for (vs := [10]) rfl (di_list (de_frz (de_call c__law_lots hr (da_cons (de_var 4) da_nil)))) (dg_name (i := 10) sc_law.nd)
      (dss_cons (ds_set (i := 11) sc_law.nd (de_callB (k_sum rfl) B.sum (by decide +kernel) (da_cons (de_lc (own := [("one", 16)]) sc_law.nd (di_tup (de_call c__law_left hr (da_cons (de_var 4) (da_cons (de_var 10) da_nil)))) (blkOk_by (own := [("one", 16)]) (N := n_law) (sc := defScope s_law) (by decide +kernel)) (fun _ _ _ _ _ => (dg_name (i := 16) sc_law.nd)) (fun _ _ _ _ _ => dts_nil) (fun _ _ _ _ _ => (de_ix x_item (de_var 16) de_int (fun _ _ => rfl)))) da_nil)))
      (dss_one (ds_if (PW.pt (dw_or (dt_cmp (o_eq hr.units) (de_var 10) (de_tup da_nil) (nomark _)) (dw_or1 (dt_not (dt_val (de_call c__law_less hr (da_cons (de_tup (da_cons (de_var 11) (da_cons de_int da_nil))) (da_cons (de_var 8) da_nil)))))))) (dss_cons (ds_expr (de_app (de_var 9) (da_cons (de_var 10) da_nil)))
      (dss_one (ds_if (dt_cmp (o_ne hr.units) (de_call c_orders hr (da_cons (de_var 3) (da_cons (de_var 4) (da_cons (de_var 6) (da_cons (de_var 10) da_nil))))) (de_tup (da_cons (de_call c__law_product hr (da_cons (de_callB k_len B.len boot_len (da_cons (de_var 10) da_nil)) da_nil)) (da_cons (de_var 10) da_nil))) (nomark _)) (dss_one (ds_ret de_bl)) dss_nil))) (dss_one (ds_if (dt_cmp (o_ne hr.units) (de_call c_orders hr (da_cons (de_var 3) (da_cons (de_var 4) (da_cons (de_var 6) (da_cons (de_var 10) da_nil))))) (de_tup (da_cons de_int (da_cons de_non da_nil))) (nomark _)) (dss_one (ds_ret de_bl)) dss_nil))))))
      (dss_cons (ds_if (dt_cmp (o_ne hr.units) (de_call c_lots hr (da_cons (de_var 3) (da_cons (de_var 4) (da_cons (de_var 6) da_nil)))) (de_var 9) (nomark _)) (dss_one (ds_ret de_bl)) dss_nil)
      (dss_one (ds_if (dt_cmp o_gt (de_callB k_len B.len boot_len (da_cons (de_var 4) da_nil)) de_int (nomark _)) (dss_cons (ds_set (i := 12) sc_law.nd (de_op o_cat (de_slice s_tup (de_var 4) do_none (do_some (de_neg de_int))) (de_tup (da_cons (de_op o_cat (de_slice s_tup (de_ix x_item (de_var 4) (de_neg de_int) (fun _ _ => rfl)) do_none (do_some de_int)) (de_tup (da_cons (de_op o_add (de_var 5) de_int) da_nil))) da_nil))))
      (dss_one (ds_if (dt_notN (de_call c_must_stay hr (da_cons (de_var 3) (da_cons (de_var 12) (da_cons (de_var 6) da_nil))))) (dss_one (ds_ret de_bl)) dss_nil))) dss_nil)))))))))))))))
      (dss_one (ds_ret de_bl)))) ?_
  · rintro ws S Q ⟨ns, rfl, _⟩
    rfl
  · rintro ws S Q ⟨ns, rfl, hl, h⟩
    walk_at "rd"
    refine ⟨?_, ?_⟩
    · show -(2 ^ 62) ≤ (1 : Int) + (if (10 : Int) < ((ns.map PyData.int).length : Int) then 10 else ((ns.map PyData.int).length : Int)) ∧ (1 : Int) + (if (10 : Int) < ((ns.map PyData.int).length : Int) then 10 else ((ns.map PyData.int).length : Int)) < 2 ^ 62
      split <;> omega
    · show forD _ _ _ (rangeD ((1 : Int) + (if (10 : Int) < ((ns.map PyData.int).length : Int) then 10 else ((ns.map PyData.int).length : Int))).toNat) _ _
      refine forD_ind (fun i : Nat => PyData.int (i : Int)) (fun r τ S' => (∀ i ∈ r, i < 100) ∧ ∃ x1 x2 x3 x4 x5 x6 x7 x8 x9 x10 x11 x12 x13 x14 x15 x16, τ = [some (.d (.list (ns.map PyData.int))), x1, x2, x3, x4, x5, x6, x7, x8, x9, x10, x11, x12, x13, x14, x15, x16]) ?_ ?_ _ ?_
      · rintro τ S' ⟨_, x1, x2, x3, x4, x5, x6, x7, x8, x9, x10, x11, x12, x13, x14, x15, x16, rfl⟩
        exact h S'
      · rintro k r τ S' ⟨hk, x1, x2, x3, x4, x5, x6, x7, x8, x9, x10, x11, x12, x13, x14, x15, x16, rfl⟩ K1 hK
        have hk0 := hk k List.mem_cons_self
        have hK' : ∀ x1 x2 x3 x4 x5 x6 x7 x8 x9 x10 x11 x12 x13 x14 x15 x16 S2, K1 [some (.d (.list (ns.map PyData.int))), x1, x2, x3, x4, x5, x6, x7, x8, x9, x10, x11, x12, x13, x14, x15, x16] S2 := fun x1 x2 x3 x4 x5 x6 x7 x8 x9 x10 x11 x12 x13 x14 x15 x16 S2 => hK _ _ ⟨fun i hi => hk i (List.mem_cons_of_mem _ hi), _, _, _, _, _, _, _, _, _, _, _, _, _, _, _, _, rfl⟩
        walk_at "rd"
        refine ⟨ns, k, rfl, ⟨by omega, by omega⟩, fun p S1 hp s1 => ?_⟩
        refine ⟨p, rfl, s1.ok, fun L W S2 hr s2 => ?_⟩
        refine ⟨p, 6, rfl, ⟨s2.ok, by decide, by decide⟩, fun fs S3 hF s3 => ?_⟩
        have hG0 := hF.okG (by decide)
        have hlen0 := hG0.f.len
        refine ⟨k2, p, 2, rfl, ⟨s3.ok, by decide, by decide⟩, fun v S4 v0 v1 s4 => ?_⟩
        have hit : ∀ {S' : Sto} {Q' : WK}, (∀ many : Int, many = 4 ∨ many = 60 → Q' (.d (.int many)) S') → rItem (.d (.list [.int 4, .int 60])) (.d (.int v)) S' Q' := fun {S' Q'} q => by
          rcases (show v = 0 ∨ v = 1 by omega) with rfl | rfl
          · exact q 4 (.inl rfl)
          · exact q 60 (.inr rfl)
        refine hit fun many hmany => ?_
        refine ⟨p, many, rfl, ⟨s4.ok, by omega, by omega⟩, fun R S5 r0 r1 s5 => ?_⟩
        refine ⟨by rw [List.length_map]; omega, ?_⟩
        refine compD_all eOne (fun o => eOne { o with r := R }) fs (fun a _ K2 q => ?_) ?_
        · walk_at "ry"
          exact ⟨rfl, by decide, q⟩
        rw [c_tup]
        have hG := alike_okG hG0 r0 (show R ≤ 100 by omega)
        have hal : ∀ o ∈ alike R fs, o.r = R := alike_r
        have hA : Asc ((alike R fs).map (·.n)) := by rw [alike_nm]; exact hF.asc
        have hl6 : (alike R fs).length ≤ 6 := by unfold alike; rw [List.length_map]; have := hF.len; omega
        have hn : 0 < (alike R fs).length := by unfold alike; rw [List.length_map]; exact hF.n0
        have eF : PyData.tuple (fs.map fun o => eOne { o with r := R }) = eFolk (alike R fs) := by unfold eFolk alike; rw [List.map_map]; rfl
        rw [eF]
        generalize alike R fs = fs at hG hal hA hl6 hn
        have hf := hG.f
        refine ⟨p, L, W, fs, rfl, ⟨s5.ok, hr, by omega⟩, fun g ps S6 ⟨g0, hg⟩ hl4 hps s6 => ?_⟩
        have hp12 : ∀ q ∈ ps, Sz 12 q := fun q hq => (hps q hq).sz
        have hv := heavy_bd hf hr.w1 hr.w2
        refine ⟨L, W, fs, g, ps, rfl, ⟨hr, hf, hn, hg.mono (by decide), fun q hq => (hp12 q hq).mono (by decide)⟩, ?_⟩
        rw [law_front_eq (g := g) (W := W) hl4]
        have hsf := (sz_front hf hr.w1 hr.w2 hg hp12).mono (show _ ≤ 173 by decide)
        have hsr : Sz 7 (R : Rat) := sz_int (n := 7) (by omega) (by decide)
        have htd := told_due (L := L) (W := W) (front := frontG W fs g ps) hr hG hA (by omega)
        have hlo : ∀ {S' : Sto} {Q' : WK}, (∀ c, S' c = none → Q' (.c c) (put S' c (.lst ((toldLots L W fs (frontG W fs g ps)).map kyD)))) → sp_lots [.d (eRaft L W), .d (eFolk fs), .d (eSt g ps)] S' Q' := fun q => ⟨L, W, fs, g, ps, rfl, ⟨hr, hG, hg, hp12⟩, q⟩
        have hms : ∀ {S' : Sto} {Q' : WK}, Q' (.d (eQ (dueR L W fs (frontG W fs g ps) R))) S' → sp_must_stay [.d (eRaft L W), .d (eFolk fs), .d (eSt g ps)] S' Q' := fun q => ⟨L, W, fs, g, ps, rfl, ⟨hr, hf, fun o ho => ⟨hG.r1 o ho, hG.r2 o ho⟩, hg, hp12⟩, .inl ⟨R, hn, hal, q⟩⟩
        have hcnt : (lotsOf fs).length ≤ 128 := lotsOf_cnt (by omega)
        have hok : ∀ l ∈ lotsOf fs, l.length ≤ 6 ∧ OkLot fs l := fun l h => by
          have hs := lots_mem.mp h
          have := hs.length_le
          rw [List.length_map] at this
          exact ⟨by omega, sub_lot hG hs⟩
        have hor : ∀ l ∈ lotsOf fs, ∀ {S' : Sto} {Q' : WK}, Q' (.d (eOrd (ordsN L W 7 fs (frontG W fs g ps) l))) S' → sp_orders [.d (eRaft L W), .d (eFolk fs), .d (eSt g ps), .d (kyD l)] S' Q' := fun l h S' Q' q => ⟨L, W, fs, g, ps, l, rfl, ⟨hr, hG, by have := (hok l h).1; omega, (hok l h).2, hg, hp12⟩, q⟩
        obtain ⟨hl900, h0⟩ := toldLots_cnt (L := L) (W := W) (front := frontG W fs g ps) hG
        have hnm : ∀ n ∈ fs.map (·.n), okS n := fun n hn => by
          obtain ⟨o, ho, rfl⟩ := List.mem_map.mp hn
          exact hG.n o ho
        have hst : SeqAt.shaped (.list ((toldLots L W fs (frontG W fs g ps)).map kyD)) = true := by
          rw [htd]
          exact (shp_kys fun l hl n hn => hnm n ((hok l (List.mem_filter.mp hl).1).2.sub n hn)).ok
        generalize frontG W fs g ps = front at htd hlo hms hor hsf hl900 h0 hst ⊢
        generalize toldLots L W fs front = td at htd hlo hl900 h0 hst
        refine ⟨k2, front, (R : Rat), by rw [e_int], ⟨hsf.mono (by decide), hsr.mono (by decide)⟩, ?_⟩
        have hsd := (hsf.sub hsr).mono (show _ ≤ 300 by decide)
        have hdt : ∀ l, decide ((sumH (leftOf fs l) : Rat) < dueR L W fs front R) = false ↔ Tst L W R fs front l := fun l => due_tst hr hG
        have hdd : dueR L W fs front R = if 0 < front - (R : Rat) then (front - (R : Rat)) * ((heavy W fs : Int) : Rat) / ((L : Int) : Rat) else 0 := rfl
        generalize dueR L W fs front R = D at hms hdt hdd
        generalize front - (R : Rat) = ov at hsd hdd
        have hl1 := hr.l1
        have hl2 := hr.l2
        have hnum := hsd.1
        have hden : (ov.den : Int).natAbs < 2 ^ 300 := by rw [Int.natAbs_natCast]; exact hsd.2
        have hdp : 0 < (ov.den : Int) := by have := ov.den_pos; omega
        have hDs : Sz 400 D := by
          rw [hdd]
          split
          · rw [← div_by ov (show 0 < L by omega)]
            exact (sz_q (n := 312) (Int.mul_pos hdp (by omega)) (natAbs_mul_lt (a := 300) (b := 12) hnum (by omega)) (natAbs_mul_lt (a := 300) (b := 12) hden (by omega))).mono (by decide)
          · exact sz0.mono (by decide)
        refine ⟨k2, ?_⟩
        show (if decide (ov.num > 0) = true then _ else _)
        refine ite2 (fun c => ?ca) fun c => ?cb
        case' ca =>
          have c' := (num_posR ov).mp (of_decide_eq_true c)
          rw [if_pos c'] at hdd
          refine ⟨L, W, fs, rfl, by omega, ?_⟩
          refine ⟨cmul (a := 300) (b := 12) hnum (by omega), cmul (a := 300) (b := 12) hden (by omega), ?_⟩
          refine ⟨_, _, rfl, ⟨Int.mul_pos hdp (by omega), up (natAbs_mul_lt (a := 300) (b := 12) hnum (by omega)) (by decide), up (natAbs_mul_lt (a := 300) (b := 12) hden (by omega)) (by decide)⟩, ?_⟩
          rw [div_by ov (by omega), ← hdd]
        case' cb =>
          have c' : ¬ 0 < ov := fun z => c (decide_eq_true ((num_posR ov).mpr z))
          rw [if_neg c'] at hdd
          have eD : PyData.tuple [.int 0, .int 1] = eQ D := by rw [hdd]; rfl
          rw [eD]
        all_goals
          refine hms ?_
          refine ne_self (sh_Q _) ?_
          refine iteF ?_
          refine ⟨Nat.zero_le _, fun dc hdc => ?_⟩
          refine ⟨fs, rfl, by omega, fun cl hcl => ?_⟩
          refine frz_c put_same ?_
          rw [del_put hcl]
          show forD _ _ _ ((lotsOf fs).map kyD) _ _
          refine forD_ind kyD (fun r τ S' => ∃ A, lotsOf fs = A ++ r ∧ S' dc = some (.lst ((A.filter fun l => !(ordsN L W 7 fs front l).isEmpty).map kyD)) ∧ ∃ x10 x11 x12 x13 x14 x15 x16, τ = [some (.d (.list (ns.map PyData.int))), some (.d (.int k)), some (.c p), some (.d (eRaft L W)), some (.d (eFolk fs)), some (.d (.int R)), some (.d (eSt g ps)), some (.d (eQ ov)), some (.d (eQ D)), some (.c dc), x10, x11, x12, x13, x14, x15, x16]) ?_ ?_ _ ⟨[], rfl, put_same, _, _, _, _, _, _, _, rfl⟩
          · rintro τ S' ⟨A, e, hd, x10, x11, x12, x13, x14, x15, x16, rfl⟩
            rw [List.append_nil] at e
            rw [← e, ← htd] at hd
            walk_at "ry"
            refine hlo fun c1 hc1 => ?_
            have n1 : dc ≠ c1 := cell_ne hd hc1
            refine ne_cells put_same (by rw [put_ne n1]; exact hd) hst ?_
            refine iteF ?_
            generalize put S' c1 _ = S7
            refine ite2 (fun c => ?_) fun c => hK' _ _ _ _ _ _ _ _ _ _ _ _ _ _ _ _ _
            have c1 := of_decide_eq_true c
            rw [List.length_map] at c1
            have hne : fs ≠ [] := List.length_pos_iff.mp hn
            obtain ⟨B, o, hB⟩ : ∃ B o, fs = B ++ [o] := ⟨fs.dropLast, fs.getLast hne, (List.dropLast_concat_getLast hne).symm⟩
            have hBl : B.length + 1 = fs.length := by rw [hB, List.length_append, List.length_singleton]
            have e1 : eFolk fs = .tuple (B.map eOne ++ [eOne o]) := by rw [hB]; unfold eFolk; rw [List.map_append]; rfl
            have e3 : PyData.tuple (B.map eOne ++ [.tuple ([.str o.n, .int o.h] ++ [.int (R + 1)])]) = eFolk (B ++ [{ o with r := R + 1 }]) := by unfold eFolk; rw [List.map_append]; rfl
            have fin : ∀ {Q' : WK}, Q' (.d .none) S7 → sp_must_stay [.d (eRaft L W), .d (PyData.tuple (B.map eOne ++ [.tuple ([.str o.n, .int o.h] ++ [.int (R + 1)])])), .d (eSt g ps)] S7 Q' := fun {Q'} q => by
              rw [e3]
              have hmem : ∀ x ∈ B ++ [{ o with r := R + 1 }], (x ∈ fs ∨ (x.r = R + 1 ∧ x.h = o.h)) := fun x hx => by
                rcases List.mem_append.mp hx with z | z
                · left; rw [hB]; exact List.mem_append_left _ z
                · right; rw [List.mem_singleton.mp z]; exact ⟨rfl, rfl⟩
              have ho : o ∈ fs := by rw [hB]; exact List.mem_append_right _ (List.mem_singleton_self _)
              refine ⟨L, W, _, g, ps, rfl, ⟨hr, ⟨by rw [List.length_append, List.length_singleton]; omega, fun x hx => ?_, fun x hx => ?_⟩, fun x hx => ?_, hg, hp12⟩, .inr ⟨?_, q⟩⟩
              · rcases hmem x hx with z | z
                · exact hf.lo x z
                · rw [z.2]; exact hf.lo o ho
              · rcases hmem x hx with z | z
                · exact hf.hi x z
                · rw [z.2]; exact hf.hi o ho
              · rcases hmem x hx with z | z
                · exact ⟨hG.r1 x z, hG.r2 x z⟩
                · rw [z.1]; omega
              · obtain ⟨b, B', hb⟩ := List.exists_cons_of_ne_nil (show B ≠ [] from fun z => by rw [z] at hBl; simp at hBl; omega)
                refine ⟨b, by rw [hb]; exact List.mem_cons_self, { o with r := R + 1 }, List.mem_append_right _ (List.mem_singleton_self _), ?_⟩
                have : b.r = R := hal b (by rw [hB, hb]; exact List.mem_cons_self)
                show b.r ≠ R + 1
                omega
            rw [e1]
            have sl : ∀ {Q' : WK}, Q' (.d (.tuple (B.map eOne))) S7 → Dl.rSlT (.d (.tuple (B.map eOne ++ [eOne o]))) none (some (-1)) S7 Q' := fun {Q'} q => by
              show Q' (.d (.tuple (Dl.cutD (B.map eOne ++ [eOne o]) none (some (-1))))) S7
              rw [cut_last]
              exact q
            have ng : ∀ {τ' : En} {Q' : WK}, Q' (.d (.int (-1))) S7 → uNeg (uC (.int 1)) τ' S7 Q' := fun q => q
            refine ng ?_
            refine sl ?_
            refine ng ?_
            refine tupItem at_last ?_
            refine ⟨by decide, (show 2 + 1 ≤ 1000 by decide), ?_⟩
            refine ⟨by decide, by rw [List.length_map]; show B.length + 1 ≤ 1000; omega, ?_⟩
            refine fin ?_
            exact iteF (hK' _ _ _ _ _ _ _ _ _ _ _ _ _ _ _ _ _)
          · rintro l r τ S' ⟨A, e, hd, x10, x11, x12, x13, x14, x15, x16, rfl⟩ K2 hK2
            have hm : l ∈ lotsOf fs := by rw [e]; exact List.mem_append_right _ List.mem_cons_self
            obtain ⟨hl1, hl2⟩ := hok l hm
            have hAl : A.length < 128 := by rw [e, List.length_append, List.length_cons] at hcnt; omega
            walk_at "ry"
            refine ⟨fs, l, rfl, by omega, ?_⟩
            have hlf := (hG.left l).f
            have hll := hlf.len
            refine ⟨by rw [List.length_map]; omega, ?_⟩
            refine compD_all eOne (fun o => .int o.h) (leftOf fs l) (fun a _ K1 q => ?_) ?_
            · exact q
            show asIs ((leftOf fs l).map fun o => PyData.int o.h) _
            rw [show ((leftOf fs l).map fun o => PyData.int o.h) = ((leftOf fs l).map fun o => o.h).map PyData.int by rw [List.map_map]; rfl, asIs_map]
            have hsu := sumH_bd hlf.lo hlf.hi
            have hdt' := hdt l
            have hlk : ∀ n ∈ l, okS n := fun n hn => hnm n (hl2.sub n hn)
            have hsho : SeqAt.shaped (.tuple [.int (fact l.length : Int), kyD l]) = true := (shp_tup (n := 1) (by
              simp only [List.forall_mem_cons]
              exact ⟨(shp_int _).mono (by decide), shp_ky hlk, fun _ h => nomatch h⟩)).ok
            have hoe : ((ordsN L W 7 fs front l).length = fact l.length ∧ (ordsN L W 7 fs front l).head? = some l) → eOrd (ordsN L W 7 fs front l) = .tuple [.int (fact l.length : Int), kyD l] ∧ (!(ordsN L W 7 fs front l).isEmpty) = true := fun ⟨q1, q2⟩ => by
              cases q : ordsN L W 7 fs front l with
              | nil => rw [q] at q2; cases q2
              | cons o os =>
                rw [q] at q1 q2
                injection q2 with q2
                subst q2
                refine ⟨?_, rfl⟩
                show PyData.tuple [.int ((o :: os).length : Int), kyD o] = _
                rw [q1]
            have hfp : (!(ordsN L W 7 fs front l).isEmpty) = true → _ := @filt_pos (List Str) (fun l => !(ordsN L W 7 fs front l).isEmpty) A l
            have hfn : (!(ordsN L W 7 fs front l).isEmpty) = false → _ := @filt_neg (List Str) (fun l => !(ordsN L W 7 fs front l).isEmpty) A l
            have fin : ∀ (S2 : Sto) y11 y12 y13 y14 y15 y16, S2 dc = some (.lst (((A ++ [l]).filter fun l => !(ordsN L W 7 fs front l).isEmpty).map kyD)) → K2 [some (.d (.list (ns.map PyData.int))), some (.d (.int k)), some (.c p), some (.d (eRaft L W)), some (.d (eFolk fs)), some (.d (.int R)), some (.d (eSt g ps)), some (.d (eQ ov)), some (.d (eQ D)), some (.c dc), some (.d (kyD l)), y11, y12, y13, y14, y15, y16] S2 := fun S2 y11 y12 y13 y14 y15 y16 hd2 => hK2 _ _ ⟨A ++ [l], by rw [e, List.append_assoc]; rfl, hd2, _, _, _, _, _, _, _, rfl⟩
            walk_at "ry"
            refine ⟨Nat.zero_le _, ?_⟩
            by_cases hl0 : l = []
            · have hgo : (ordsN L W 7 fs front l).length = fact l.length ∧ (ordsN L W 7 fs front l).head? = some l := by
                rw [hl0, show ordsN L W 7 fs front [] = [[]] by unfold ordsN; rw [if_pos rfl]]
                exact ⟨rfl, rfl⟩
              refine rEq_of (b := true) (shp_ky hlk).ok rfl (by rw [hl0]; rfl) ?_
              refine iteT ?_
              refine ⟨cellIs hd, ?_⟩
              refine cellApp hd (by
                rw [List.length_map]
                have := List.length_filter_le (fun l => !(ordsN L W 7 fs front l).isEmpty) A
                omega) ?_
              refine hor l hm ?_
              refine c_lenK ?_
              refine ⟨l.length, rfl, by omega, ?_⟩
              refine ⟨k2, ?_⟩
              rw [(hoe hgo).1]
              refine ne_self hsho ?_
              refine iteF (fin _ _ _ _ _ _ _ ?_)
              rw [put_same, hfp (hoe hgo).2, List.map_append, List.map_cons, List.map_nil]
            · refine rEq_of (b := false) (shp_ky hlk).ok rfl ?_ ?_
              · obtain ⟨n, r, rfl⟩ := List.exists_cons_of_ne_nil hl0
                unfold kyD
                rw [List.map_cons]
                simp only [PyData.eqv, PyData.eqvAll]
              refine iteF ?_
              refine ⟨k2, (sumH (leftOf fs l) : Rat), D, by rw [e_int]; rfl, ⟨(sz_int (n := 12) (by omega) (by decide)).mono (by decide), hDs.mono (by decide)⟩, ?_⟩
              cases hless : decide ((sumH (leftOf fs l) : Rat) < D) with
              | false =>
                have hgo := ords_all hr 7 fs front l (by omega) hG hal hl2 (hdt'.mp hless)
                refine iteT ?_
                refine ⟨cellIs hd, ?_⟩
                refine cellApp hd (by
                  rw [List.length_map]
                  have := List.length_filter_le (fun l => !(ordsN L W 7 fs front l).isEmpty) A
                  omega) ?_
                refine hor l hm ?_
                refine c_lenK ?_
                refine ⟨l.length, rfl, by omega, ?_⟩
                refine ⟨k2, ?_⟩
                rw [(hoe hgo).1]
                refine ne_self hsho ?_
                refine iteF (fin _ _ _ _ _ _ _ ?_)
                rw [put_same, hfp (hoe hgo).2, List.map_append, List.map_cons, List.map_nil]
              | true =>
                have hno := ords_none hr 7 fs front l (by omega) hG hal hl2 hl0 fun z => by
                  rw [hdt'.mpr z] at hless
                  cases hless
                refine iteF ?_
                refine hor l hm ?_
                rw [hno]
                refine ⟨k2, ?_⟩
                refine ne_self (d := eOrd []) rfl ?_
                refine iteF (fin _ _ _ _ _ _ _ ?_)
                rw [hfn (by rw [hno]; rfl)]
                exact hd
      · refine ⟨fun i hi => ?_, none, none, none, none, none, none, none, none, none, none, none, none, none, none, none, none, rfl⟩
        have h1 := List.mem_range.mp hi
        have : ns.length ≤ 63 := hl
        split at h1 <;> (rw [List.length_map] at *; omega)

end
theorem all_mk {l : PySem.W.OpenLaw} {w : World} {K : PySem.W.Frag} {h : Heap} {mg : Str → Option Value} {fa : Addr} (X : K.In h) (G : h.Ns mainGlobals mg) (hfa : mg "law" = some (.ref fa))
    {f_0 : Addr} {od_0 an_0 : Option Addr} {sl_0 : Array (Option Value)} {oc_0 kV_0 dc_0 pm_0 cd_0 ct_0 : Value}
    {f_1 : Addr} {od_1 an_1 : Option Addr} {sl_1 : Array (Option Value)} {oc_1 kV_1 dc_1 pm_1 cd_1 ct_1 : Value}
    {f_2 : Addr} {od_2 an_2 : Option Addr} {sl_2 : Array (Option Value)} {oc_2 kV_2 dc_2 pm_2 cd_2 ct_2 : Value}
    {f_3 : Addr} {od_3 an_3 : Option Addr} {sl_3 : Array (Option Value)} {oc_3 kV_3 dc_3 pm_3 cd_3 ct_3 : Value}
    {f_4 : Addr} {od_4 an_4 : Option Addr} {sl_4 : Array (Option Value)} {oc_4 kV_4 dc_4 pm_4 cd_4 ct_4 : Value}
    {f_5 : Addr} {od_5 an_5 : Option Addr} {sl_5 : Array (Option Value)} {oc_5 kV_5 dc_5 pm_5 cd_5 ct_5 : Value}
    {f_6 : Addr} {od_6 an_6 : Option Addr} {sl_6 : Array (Option Value)} {oc_6 kV_6 dc_6 pm_6 cd_6 ct_6 : Value}
    {f_7 : Addr} {od_7 an_7 : Option Addr} {sl_7 : Array (Option Value)} {oc_7 kV_7 dc_7 pm_7 cd_7 ct_7 : Value}
    {f_8 : Addr} {od_8 an_8 : Option Addr} {sl_8 : Array (Option Value)} {oc_8 kV_8 dc_8 pm_8 cd_8 ct_8 : Value}
    {f_9 : Addr} {od_9 an_9 : Option Addr} {sl_9 : Array (Option Value)} {oc_9 kV_9 dc_9 pm_9 cd_9 ct_9 : Value}
    {f_10 : Addr} {od_10 an_10 : Option Addr} {sl_10 : Array (Option Value)} {oc_10 kV_10 dc_10 pm_10 cd_10 ct_10 : Value}
    {f_11 : Addr} {od_11 an_11 : Option Addr} {sl_11 : Array (Option Value)} {oc_11 kV_11 dc_11 pm_11 cd_11 ct_11 : Value}
    {f_12 : Addr} {od_12 an_12 : Option Addr} {sl_12 : Array (Option Value)} {oc_12 kV_12 dc_12 pm_12 cd_12 ct_12 : Value}
    {f_13 : Addr} {od_13 an_13 : Option Addr} {sl_13 : Array (Option Value)} {oc_13 kV_13 dc_13 pm_13 cd_13 ct_13 : Value}
    {f_14 : Addr} {od_14 an_14 : Option Addr} {sl_14 : Array (Option Value)} {oc_14 kV_14 dc_14 pm_14 cd_14 ct_14 : Value}
    {f_15 : Addr} {od_15 an_15 : Option Addr} {sl_15 : Array (Option Value)} {oc_15 kV_15 dc_15 pm_15 cd_15 ct_15 : Value}
    {f_16 : Addr} {od_16 an_16 : Option Addr} {sl_16 : Array (Option Value)} {oc_16 kV_16 dc_16 pm_16 cd_16 ct_16 : Value}
    {f_17 : Addr} {od_17 an_17 : Option Addr} {sl_17 : Array (Option Value)} {oc_17 kV_17 dc_17 pm_17 cd_17 ct_17 : Value}
    {f_18 : Addr} {od_18 an_18 : Option Addr} {sl_18 : Array (Option Value)} {oc_18 kV_18 dc_18 pm_18 cd_18 ct_18 : Value}
    {f_19 : Addr} {od_19 an_19 : Option Addr} {sl_19 : Array (Option Value)} {oc_19 kV_19 dc_19 pm_19 cd_19 ct_19 : Value}
    {f_20 : Addr} {od_20 an_20 : Option Addr} {sl_20 : Array (Option Value)} {oc_20 kV_20 dc_20 pm_20 cd_20 ct_20 : Value}
    {f_21 : Addr} {od_21 an_21 : Option Addr} {sl_21 : Array (Option Value)} {oc_21 kV_21 dc_21 pm_21 cd_21 ct_21 : Value}
    {f_22 : Addr} {od_22 an_22 : Option Addr} {sl_22 : Array (Option Value)} {oc_22 kV_22 dc_22 pm_22 cd_22 ct_22 : Value}
    {f_23 : Addr} {od_23 an_23 : Option Addr} {sl_23 : Array (Option Value)} {oc_23 kV_23 dc_23 pm_23 cd_23 ct_23 : Value}
    {f_24 : Addr} {od_24 an_24 : Option Addr} {sl_24 : Array (Option Value)} {oc_24 kV_24 dc_24 pm_24 cd_24 ct_24 : Value}
    {f_25 : Addr} {od_25 an_25 : Option Addr} {sl_25 : Array (Option Value)} {oc_25 kV_25 dc_25 pm_25 cd_25 ct_25 : Value}
    {f_26 : Addr} {od_26 an_26 : Option Addr} {sl_26 : Array (Option Value)} {oc_26 kV_26 dc_26 pm_26 cd_26 ct_26 : Value}
    {f_27 : Addr} {od_27 an_27 : Option Addr} {sl_27 : Array (Option Value)} {oc_27 kV_27 dc_27 pm_27 cd_27 ct_27 : Value}
    {f_28 : Addr} {od_28 an_28 : Option Addr} {sl_28 : Array (Option Value)} {oc_28 kV_28 dc_28 pm_28 cd_28 ct_28 : Value}
    {f_29 : Addr} {od_29 an_29 : Option Addr} {sl_29 : Array (Option Value)} {oc_29 kV_29 dc_29 pm_29 cd_29 ct_29 : Value}
    {f_30 : Addr} {od_30 an_30 : Option Addr} {sl_30 : Array (Option Value)} {oc_30 kV_30 dc_30 pm_30 cd_30 ct_30 : Value}
    {f_31 : Addr} {od_31 an_31 : Option Addr} {sl_31 : Array (Option Value)} {oc_31 kV_31 dc_31 pm_31 cd_31 ct_31 : Value}
    {f_32 : Addr} {od_32 an_32 : Option Addr} {sl_32 : Array (Option Value)} {oc_32 kV_32 dc_32 pm_32 cd_32 ct_32 : Value}
    {f_33 : Addr} {od_33 an_33 : Option Addr} {sl_33 : Array (Option Value)} {oc_33 kV_33 dc_33 pm_33 cd_33 ct_33 : Value}
    {f_34 : Addr} {od_34 an_34 : Option Addr} {sl_34 : Array (Option Value)} {oc_34 kV_34 dc_34 pm_34 cd_34 ct_34 : Value}
    {f_35 : Addr} {od_35 an_35 : Option Addr} {sl_35 : Array (Option Value)} {oc_35 kV_35 dc_35 pm_35 cd_35 ct_35 : Value}
    {f_36 : Addr} {od_36 an_36 : Option Addr} {sl_36 : Array (Option Value)} {oc_36 kV_36 dc_36 pm_36 cd_36 ct_36 : Value}
    {f_37 : Addr} {od_37 an_37 : Option Addr} {sl_37 : Array (Option Value)} {oc_37 kV_37 dc_37 pm_37 cd_37 ct_37 : Value}
    {f_38 : Addr} {od_38 an_38 : Option Addr} {sl_38 : Array (Option Value)} {oc_38 kV_38 dc_38 pm_38 cd_38 ct_38 : Value}
    {f_39 : Addr} {od_39 an_39 : Option Addr} {sl_39 : Array (Option Value)} {oc_39 kV_39 dc_39 pm_39 cd_39 ct_39 : Value}
    {f_40 : Addr} {od_40 an_40 : Option Addr} {sl_40 : Array (Option Value)} {oc_40 kV_40 dc_40 pm_40 cd_40 ct_40 : Value}
    (a_0 : PySem.W.nsIn K mainGlobals "lowest" = some (some (.ref f_0)))
    (l_0 : K.lookup f_0 = some ⟨oc_0, od_0, .func (PySem.W.fnOf "lowest" "lowest" (defArgs s_lowest) (defBody s_lowest) (defScope s_lowest) .none kV_0 dc_0 pm_0 an_0 cd_0 ct_0), sl_0⟩)
    (c_0 : PySem.W.codeIn K cd_0 "lowest" = true) (k_0 : PySem.W.keepIn K (.ref f_0) = true)
    (a_1 : PySem.W.nsIn K mainGlobals "plus" = some (some (.ref f_1)))
    (l_1 : K.lookup f_1 = some ⟨oc_1, od_1, .func (PySem.W.fnOf "plus" "plus" (defArgs s_plus) (defBody s_plus) (defScope s_plus) .none kV_1 dc_1 pm_1 an_1 cd_1 ct_1), sl_1⟩)
    (c_1 : PySem.W.codeIn K cd_1 "plus" = true) (k_1 : PySem.W.keepIn K (.ref f_1) = true)
    (a_2 : PySem.W.nsIn K mainGlobals "less" = some (some (.ref f_2)))
    (l_2 : K.lookup f_2 = some ⟨oc_2, od_2, .func (PySem.W.fnOf "less" "less" (defArgs s_less) (defBody s_less) (defScope s_less) .none kV_2 dc_2 pm_2 an_2 cd_2 ct_2), sl_2⟩)
    (c_2 : PySem.W.codeIn K cd_2 "less" = true) (k_2 : PySem.W.keepIn K (.ref f_2) = true)
    (a_3 : PySem.W.nsIn K mainGlobals "times" = some (some (.ref f_3)))
    (l_3 : K.lookup f_3 = some ⟨oc_3, od_3, .func (PySem.W.fnOf "times" "times" (defArgs s_times) (defBody s_times) (defScope s_times) .none kV_3 dc_3 pm_3 an_3 cd_3 ct_3), sl_3⟩)
    (c_3 : PySem.W.codeIn K cd_3 "times" = true) (k_3 : PySem.W.keepIn K (.ref f_3) = true)
    (a_4 : PySem.W.nsIn K mainGlobals "is_lesser" = some (some (.ref f_4)))
    (l_4 : K.lookup f_4 = some ⟨oc_4, od_4, .func (PySem.W.fnOf "is_lesser" "is_lesser" (defArgs s_is_lesser) (defBody s_is_lesser) (defScope s_is_lesser) .none kV_4 dc_4 pm_4 an_4 cd_4 ct_4), sl_4⟩)
    (c_4 : PySem.W.codeIn K cd_4 "is_lesser" = true) (k_4 : PySem.W.keepIn K (.ref f_4) = true)
    (a_5 : PySem.W.nsIn K mainGlobals "heavy_of" = some (some (.ref f_5)))
    (l_5 : K.lookup f_5 = some ⟨oc_5, od_5, .func (PySem.W.fnOf "heavy_of" "heavy_of" (defArgs s_heavy_of) (defBody s_heavy_of) (defScope s_heavy_of) .none kV_5 dc_5 pm_5 an_5 cd_5 ct_5), sl_5⟩)
    (c_5 : PySem.W.codeIn K cd_5 "heavy_of" = true) (k_5 : PySem.W.keepIn K (.ref f_5) = true)
    (a_6 : PySem.W.nsIn K mainGlobals "drive_of" = some (some (.ref f_6)))
    (l_6 : K.lookup f_6 = some ⟨oc_6, od_6, .func (PySem.W.fnOf "drive_of" "drive_of" (defArgs s_drive_of) (defBody s_drive_of) (defScope s_drive_of) .none kV_6 dc_6 pm_6 an_6 cd_6 ct_6), sl_6⟩)
    (c_6 : PySem.W.codeIn K cd_6 "drive_of" = true) (k_6 : PySem.W.keepIn K (.ref f_6) = true)
    (a_7 : PySem.W.nsIn K mainGlobals "front_gap" = some (some (.ref f_7)))
    (l_7 : K.lookup f_7 = some ⟨oc_7, od_7, .func (PySem.W.fnOf "front_gap" "front_gap" (defArgs s_front_gap) (defBody s_front_gap) (defScope s_front_gap) .none kV_7 dc_7 pm_7 an_7 cd_7 ct_7), sl_7⟩)
    (c_7 : PySem.W.codeIn K cd_7 "front_gap" = true) (k_7 : PySem.W.keepIn K (.ref f_7) = true)
    (a_8 : PySem.W.nsIn K mainGlobals "others_of" = some (some (.ref f_8)))
    (l_8 : K.lookup f_8 = some ⟨oc_8, od_8, .func (PySem.W.fnOf "others_of" "others_of" (defArgs s_others_of) (defBody s_others_of) (defScope s_others_of) .none kV_8 dc_8 pm_8 an_8 cd_8 ct_8), sl_8⟩)
    (c_8 : PySem.W.codeIn K cd_8 "others_of" = true) (k_8 : PySem.W.keepIn K (.ref f_8) = true)
    (a_9 : PySem.W.nsIn K mainGlobals "one_of" = some (some (.ref f_9)))
    (l_9 : K.lookup f_9 = some ⟨oc_9, od_9, .func (PySem.W.fnOf "one_of" "one_of" (defArgs s_one_of) (defBody s_one_of) (defScope s_one_of) .none kV_9 dc_9 pm_9 an_9 cd_9 ct_9), sl_9⟩)
    (c_9 : PySem.W.codeIn K cd_9 "one_of" = true) (k_9 : PySem.W.keepIn K (.ref f_9) = true)
    (a_10 : PySem.W.nsIn K mainGlobals "can_from" = some (some (.ref f_10)))
    (l_10 : K.lookup f_10 = some ⟨oc_10, od_10, .func (PySem.W.fnOf "can_from" "can_from" (defArgs s_can_from) (defBody s_can_from) (defScope s_can_from) .none kV_10 dc_10 pm_10 an_10 cd_10 ct_10), sl_10⟩)
    (c_10 : PySem.W.codeIn K cd_10 "can_from" = true) (k_10 : PySem.W.keepIn K (.ref f_10) = true)
    (a_11 : PySem.W.nsIn K mainGlobals "farthest" = some (some (.ref f_11)))
    (l_11 : K.lookup f_11 = some ⟨oc_11, od_11, .func (PySem.W.fnOf "farthest" "farthest" (defArgs s_farthest) (defBody s_farthest) (defScope s_farthest) .none kV_11 dc_11 pm_11 an_11 cd_11 ct_11), sl_11⟩)
    (c_11 : PySem.W.codeIn K cd_11 "farthest" = true) (k_11 : PySem.W.keepIn K (.ref f_11) = true)
    (a_12 : PySem.W.nsIn K mainGlobals "left_of" = some (some (.ref f_12)))
    (l_12 : K.lookup f_12 = some ⟨oc_12, od_12, .func (PySem.W.fnOf "left_of" "left_of" (defArgs s_left_of) (defBody s_left_of) (defScope s_left_of) .none kV_12 dc_12 pm_12 an_12 cd_12 ct_12), sl_12⟩)
    (c_12 : PySem.W.codeIn K cd_12 "left_of" = true) (k_12 : PySem.W.keepIn K (.ref f_12) = true)
    (a_13 : PySem.W.nsIn K mainGlobals "all_lots" = some (some (.ref f_13)))
    (l_13 : K.lookup f_13 = some ⟨oc_13, od_13, .func (PySem.W.fnOf "all_lots" "all_lots" (defArgs s_all_lots) (defBody s_all_lots) (defScope s_all_lots) .none kV_13 dc_13 pm_13 an_13 cd_13 ct_13), sl_13⟩)
    (c_13 : PySem.W.codeIn K cd_13 "all_lots" = true) (k_13 : PySem.W.keepIn K (.ref f_13) = true)
    (a_14 : PySem.W.nsIn K mainGlobals "next_gap" = some (some (.ref f_14)))
    (l_14 : K.lookup f_14 = some ⟨oc_14, od_14, .func (PySem.W.fnOf "next_gap" "next_gap" (defArgs s_next_gap) (defBody s_next_gap) (defScope s_next_gap) .none kV_14 dc_14 pm_14 an_14 cd_14 ct_14), sl_14⟩)
    (c_14 : PySem.W.codeIn K cd_14 "next_gap" = true) (k_14 : PySem.W.keepIn K (.ref f_14) = true)
    (a_15 : PySem.W.nsIn K mainGlobals "steps_from" = some (some (.ref f_15)))
    (l_15 : K.lookup f_15 = some ⟨oc_15, od_15, .func (PySem.W.fnOf "steps_from" "steps_from" (defArgs s_steps_from) (defBody s_steps_from) (defScope s_steps_from) .none kV_15 dc_15 pm_15 an_15 cd_15 ct_15), sl_15⟩)
    (c_15 : PySem.W.codeIn K cd_15 "steps_from" = true) (k_15 : PySem.W.keepIn K (.ref f_15) = true)
    (a_16 : PySem.W.nsIn K mainGlobals "gaps_of" = some (some (.ref f_16)))
    (l_16 : K.lookup f_16 = some ⟨oc_16, od_16, .func (PySem.W.fnOf "gaps_of" "gaps_of" (defArgs s_gaps_of) (defBody s_gaps_of) (defScope s_gaps_of) .none kV_16 dc_16 pm_16 an_16 cd_16 ct_16), sl_16⟩)
    (c_16 : PySem.W.codeIn K cd_16 "gaps_of" = true) (k_16 : PySem.W.keepIn K (.ref f_16) = true)
    (a_17 : PySem.W.nsIn K mainGlobals "must_stay" = some (some (.ref f_17)))
    (l_17 : K.lookup f_17 = some ⟨oc_17, od_17, .func (PySem.W.fnOf "must_stay" "must_stay" (defArgs s_must_stay) (defBody s_must_stay) (defScope s_must_stay) .none kV_17 dc_17 pm_17 an_17 cd_17 ct_17), sl_17⟩)
    (c_17 : PySem.W.codeIn K cd_17 "must_stay" = true) (k_17 : PySem.W.keepIn K (.ref f_17) = true)
    (a_18 : PySem.W.nsIn K mainGlobals "lots" = some (some (.ref f_18)))
    (l_18 : K.lookup f_18 = some ⟨oc_18, od_18, .func (PySem.W.fnOf "lots" "lots" (defArgs s_lots) (defBody s_lots) (defScope s_lots) .none kV_18 dc_18 pm_18 an_18 cd_18 ct_18), sl_18⟩)
    (c_18 : PySem.W.codeIn K cd_18 "lots" = true) (k_18 : PySem.W.keepIn K (.ref f_18) = true)
    (a_19 : PySem.W.nsIn K mainGlobals "orders_from" = some (some (.ref f_19)))
    (l_19 : K.lookup f_19 = some ⟨oc_19, od_19, .func (PySem.W.fnOf "orders_from" "orders_from" (defArgs s_orders_from) (defBody s_orders_from) (defScope s_orders_from) .none kV_19 dc_19 pm_19 an_19 cd_19 ct_19), sl_19⟩)
    (c_19 : PySem.W.codeIn K cd_19 "orders_from" = true) (k_19 : PySem.W.keepIn K (.ref f_19) = true)
    (a_20 : PySem.W.nsIn K mainGlobals "orders" = some (some (.ref f_20)))
    (l_20 : K.lookup f_20 = some ⟨oc_20, od_20, .func (PySem.W.fnOf "orders" "orders" (defArgs s_orders) (defBody s_orders) (defScope s_orders) .none kV_20 dc_20 pm_20 an_20 cd_20 ct_20), sl_20⟩)
    (c_20 : PySem.W.codeIn K cd_20 "orders" = true) (k_20 : PySem.W.keepIn K (.ref f_20) = true)
    (a_21 : PySem.W.nsIn K mainGlobals "_law_bag" = some (some (.ref f_21)))
    (l_21 : K.lookup f_21 = some ⟨oc_21, od_21, .func (PySem.W.fnOf "_law_bag" "_law_bag" (defArgs s__law_bag) (defBody s__law_bag) (defScope s__law_bag) .none kV_21 dc_21 pm_21 an_21 cd_21 ct_21), sl_21⟩)
    (c_21 : PySem.W.codeIn K cd_21 "_law_bag" = true) (k_21 : PySem.W.keepIn K (.ref f_21) = true)
    (a_22 : PySem.W.nsIn K mainGlobals "_law_take" = some (some (.ref f_22)))
    (l_22 : K.lookup f_22 = some ⟨oc_22, od_22, .func (PySem.W.fnOf "_law_take" "_law_take" (defArgs s__law_take) (defBody s__law_take) (defScope s__law_take) .none kV_22 dc_22 pm_22 an_22 cd_22 ct_22), sl_22⟩)
    (c_22 : PySem.W.codeIn K cd_22 "_law_take" = true) (k_22 : PySem.W.keepIn K (.ref f_22) = true)
    (a_23 : PySem.W.nsIn K mainGlobals "_law_lowest" = some (some (.ref f_23)))
    (l_23 : K.lookup f_23 = some ⟨oc_23, od_23, .func (PySem.W.fnOf "_law_lowest" "_law_lowest" (defArgs s__law_lowest) (defBody s__law_lowest) (defScope s__law_lowest) .none kV_23 dc_23 pm_23 an_23 cd_23 ct_23), sl_23⟩)
    (c_23 : PySem.W.codeIn K cd_23 "_law_lowest" = true) (k_23 : PySem.W.keepIn K (.ref f_23) = true)
    (a_24 : PySem.W.nsIn K mainGlobals "_law_plus" = some (some (.ref f_24)))
    (l_24 : K.lookup f_24 = some ⟨oc_24, od_24, .func (PySem.W.fnOf "_law_plus" "_law_plus" (defArgs s__law_plus) (defBody s__law_plus) (defScope s__law_plus) .none kV_24 dc_24 pm_24 an_24 cd_24 ct_24), sl_24⟩)
    (c_24 : PySem.W.codeIn K cd_24 "_law_plus" = true) (k_24 : PySem.W.keepIn K (.ref f_24) = true)
    (a_25 : PySem.W.nsIn K mainGlobals "_law_minus" = some (some (.ref f_25)))
    (l_25 : K.lookup f_25 = some ⟨oc_25, od_25, .func (PySem.W.fnOf "_law_minus" "_law_minus" (defArgs s__law_minus) (defBody s__law_minus) (defScope s__law_minus) .none kV_25 dc_25 pm_25 an_25 cd_25 ct_25), sl_25⟩)
    (c_25 : PySem.W.codeIn K cd_25 "_law_minus" = true) (k_25 : PySem.W.keepIn K (.ref f_25) = true)
    (a_26 : PySem.W.nsIn K mainGlobals "_law_times" = some (some (.ref f_26)))
    (l_26 : K.lookup f_26 = some ⟨oc_26, od_26, .func (PySem.W.fnOf "_law_times" "_law_times" (defArgs s__law_times) (defBody s__law_times) (defScope s__law_times) .none kV_26 dc_26 pm_26 an_26 cd_26 ct_26), sl_26⟩)
    (c_26 : PySem.W.codeIn K cd_26 "_law_times" = true) (k_26 : PySem.W.keepIn K (.ref f_26) = true)
    (a_27 : PySem.W.nsIn K mainGlobals "_law_less" = some (some (.ref f_27)))
    (l_27 : K.lookup f_27 = some ⟨oc_27, od_27, .func (PySem.W.fnOf "_law_less" "_law_less" (defArgs s__law_less) (defBody s__law_less) (defScope s__law_less) .none kV_27 dc_27 pm_27 an_27 cd_27 ct_27), sl_27⟩)
    (c_27 : PySem.W.codeIn K cd_27 "_law_less" = true) (k_27 : PySem.W.keepIn K (.ref f_27) = true)
    (a_28 : PySem.W.nsIn K mainGlobals "_law_raft" = some (some (.ref f_28)))
    (l_28 : K.lookup f_28 = some ⟨oc_28, od_28, .func (PySem.W.fnOf "_law_raft" "_law_raft" (defArgs s__law_raft) (defBody s__law_raft) (defScope s__law_raft) .none kV_28 dc_28 pm_28 an_28 cd_28 ct_28), sl_28⟩)
    (c_28 : PySem.W.codeIn K cd_28 "_law_raft" = true) (k_28 : PySem.W.keepIn K (.ref f_28) = true)
    (a_29 : PySem.W.nsIn K mainGlobals "_law_folk" = some (some (.ref f_29)))
    (l_29 : K.lookup f_29 = some ⟨oc_29, od_29, .func (PySem.W.fnOf "_law_folk" "_law_folk" (defArgs s__law_folk) (defBody s__law_folk) (defScope s__law_folk) .none kV_29 dc_29 pm_29 an_29 cd_29 ct_29), sl_29⟩)
    (c_29 : PySem.W.codeIn K cd_29 "_law_folk" = true) (k_29 : PySem.W.keepIn K (.ref f_29) = true)
    (a_30 : PySem.W.nsIn K mainGlobals "_law_place" = some (some (.ref f_30)))
    (l_30 : K.lookup f_30 = some ⟨oc_30, od_30, .func (PySem.W.fnOf "_law_place" "_law_place" (defArgs s__law_place) (defBody s__law_place) (defScope s__law_place) .none kV_30 dc_30 pm_30 an_30 cd_30 ct_30), sl_30⟩)
    (c_30 : PySem.W.codeIn K cd_30 "_law_place" = true) (k_30 : PySem.W.keepIn K (.ref f_30) = true)
    (a_31 : PySem.W.nsIn K mainGlobals "_law_places" = some (some (.ref f_31)))
    (l_31 : K.lookup f_31 = some ⟨oc_31, od_31, .func (PySem.W.fnOf "_law_places" "_law_places" (defArgs s__law_places) (defBody s__law_places) (defScope s__law_places) .none kV_31 dc_31 pm_31 an_31 cd_31 ct_31), sl_31⟩)
    (c_31 : PySem.W.codeIn K cd_31 "_law_places" = true) (k_31 : PySem.W.keepIn K (.ref f_31) = true)
    (a_32 : PySem.W.nsIn K mainGlobals "_law_standing" = some (some (.ref f_32)))
    (l_32 : K.lookup f_32 = some ⟨oc_32, od_32, .func (PySem.W.fnOf "_law_standing" "_law_standing" (defArgs s__law_standing) (defBody s__law_standing) (defScope s__law_standing) .none kV_32 dc_32 pm_32 an_32 cd_32 ct_32), sl_32⟩)
    (c_32 : PySem.W.codeIn K cd_32 "_law_standing" = true) (k_32 : PySem.W.keepIn K (.ref f_32) = true)
    (a_33 : PySem.W.nsIn K mainGlobals "_law_heavy" = some (some (.ref f_33)))
    (l_33 : K.lookup f_33 = some ⟨oc_33, od_33, .func (PySem.W.fnOf "_law_heavy" "_law_heavy" (defArgs s__law_heavy) (defBody s__law_heavy) (defScope s__law_heavy) .none kV_33 dc_33 pm_33 an_33 cd_33 ct_33), sl_33⟩)
    (c_33 : PySem.W.codeIn K cd_33 "_law_heavy" = true) (k_33 : PySem.W.keepIn K (.ref f_33) = true)
    (a_34 : PySem.W.nsIn K mainGlobals "_law_shift" = some (some (.ref f_34)))
    (l_34 : K.lookup f_34 = some ⟨oc_34, od_34, .func (PySem.W.fnOf "_law_shift" "_law_shift" (defArgs s__law_shift) (defBody s__law_shift) (defScope s__law_shift) .none kV_34 dc_34 pm_34 an_34 cd_34 ct_34), sl_34⟩)
    (c_34 : PySem.W.codeIn K cd_34 "_law_shift" = true) (k_34 : PySem.W.keepIn K (.ref f_34) = true)
    (a_35 : PySem.W.nsIn K mainGlobals "_law_gap" = some (some (.ref f_35)))
    (l_35 : K.lookup f_35 = some ⟨oc_35, od_35, .func (PySem.W.fnOf "_law_gap" "_law_gap" (defArgs s__law_gap) (defBody s__law_gap) (defScope s__law_gap) .none kV_35 dc_35 pm_35 an_35 cd_35 ct_35), sl_35⟩)
    (c_35 : PySem.W.codeIn K cd_35 "_law_gap" = true) (k_35 : PySem.W.keepIn K (.ref f_35) = true)
    (a_36 : PySem.W.nsIn K mainGlobals "_law_front" = some (some (.ref f_36)))
    (l_36 : K.lookup f_36 = some ⟨oc_36, od_36, .func (PySem.W.fnOf "_law_front" "_law_front" (defArgs s__law_front) (defBody s__law_front) (defScope s__law_front) .none kV_36 dc_36 pm_36 an_36 cd_36 ct_36), sl_36⟩)
    (c_36 : PySem.W.codeIn K cd_36 "_law_front" = true) (k_36 : PySem.W.keepIn K (.ref f_36) = true)
    (a_37 : PySem.W.nsIn K mainGlobals "_law_left" = some (some (.ref f_37)))
    (l_37 : K.lookup f_37 = some ⟨oc_37, od_37, .func (PySem.W.fnOf "_law_left" "_law_left" (defArgs s__law_left) (defBody s__law_left) (defScope s__law_left) .none kV_37 dc_37 pm_37 an_37 cd_37 ct_37), sl_37⟩)
    (c_37 : PySem.W.codeIn K cd_37 "_law_left" = true) (k_37 : PySem.W.keepIn K (.ref f_37) = true)
    (a_38 : PySem.W.nsIn K mainGlobals "_law_lots" = some (some (.ref f_38)))
    (l_38 : K.lookup f_38 = some ⟨oc_38, od_38, .func (PySem.W.fnOf "_law_lots" "_law_lots" (defArgs s__law_lots) (defBody s__law_lots) (defScope s__law_lots) .none kV_38 dc_38 pm_38 an_38 cd_38 ct_38), sl_38⟩)
    (c_38 : PySem.W.codeIn K cd_38 "_law_lots" = true) (k_38 : PySem.W.keepIn K (.ref f_38) = true)
    (a_39 : PySem.W.nsIn K mainGlobals "_law_product" = some (some (.ref f_39)))
    (l_39 : K.lookup f_39 = some ⟨oc_39, od_39, .func (PySem.W.fnOf "_law_product" "_law_product" (defArgs s__law_product) (defBody s__law_product) (defScope s__law_product) .none kV_39 dc_39 pm_39 an_39 cd_39 ct_39), sl_39⟩)
    (c_39 : PySem.W.codeIn K cd_39 "_law_product" = true) (k_39 : PySem.W.keepIn K (.ref f_39) = true)
    (a_40 : PySem.W.nsIn K mainGlobals "law" = some (some (.ref f_40)))
    (l_40 : K.lookup f_40 = some ⟨oc_40, od_40, .func (PySem.W.fnOf "law" "law" (defArgs s_law) (defBody s_law) (defScope s_law) .none kV_40 dc_40 pm_40 an_40 cd_40 ct_40), sl_40⟩)
    (c_40 : PySem.W.codeIn K cd_40 "law" = true) (k_40 : PySem.W.keepIn K (.ref f_40) = true)
    (z_0 : PySem.W.nsIn K mainGlobals "abs" = some none)
    (z_1 : PySem.W.nsIn K mainGlobals "sum" = some none)
    (z_2 : PySem.W.nsIn K mainGlobals "zip" = some none)
    (z_3 : PySem.W.nsIn K mainGlobals "tuple" = some none)
    (z_4 : PySem.W.nsIn K mainGlobals "sorted" = some none)
    (z_5 : PySem.W.nsIn K mainGlobals "len" = some none)
    (z_6 : PySem.W.nsIn K mainGlobals "min" = some none)
    (z_7 : PySem.W.nsIn K mainGlobals "max" = some none)
    (z_8 : PySem.W.nsIn K mainGlobals "range" = some none) :
    ∃ fd : FuncData, (∀ (s : Shared) (v : Value), BindsTo s fd ⟨[v], []⟩ [("script", v)]) ∧ ∀ base : Heap, K.In base → base.Ns mainGlobals mg → FnOk l.prog w K mg base CX0 12 fa fd ["script"] (spD K sp_law) := by
  have e := hfa.symm.trans (PySem.W.mg_of X G a_40)
  cases e
  have B : Bi mg := ⟨PySem.W.mg_none_of X G z_0, PySem.W.mg_none_of X G z_1, PySem.W.mg_none_of X G z_2, PySem.W.mg_none_of X G z_3, PySem.W.mg_none_of X G z_4, PySem.W.mg_none_of X G z_5, PySem.W.mg_none_of X G z_6, PySem.W.mg_none_of X G z_7, PySem.W.mg_none_of X G z_8⟩
  have F_0 := fun_mk (st := s_lowest) l_0 c_0 k_0
  have b_0 := F_0.binds (ps := ["top", "bottom"]) fun _ _ _ _ _ _ us hl => match us, hl with | [_, _], _ => rfl
  have C_lowest : ∀ base : Heap, Cal l.prog w K mg base "lowest" ["top", "bottom"] 1 sp_lowest := fun base => cal_of F_0 (PySem.W.mg_of X G a_0) b_0 (ok_lowest F_0 B)
  have F_1 := fun_mk (st := s_plus) l_1 c_1 k_1
  have b_1 := F_1.binds (ps := ["one", "other"]) fun _ _ _ _ _ _ us hl => match us, hl with | [_, _], _ => rfl
  have C_plus : ∀ base : Heap, Cal l.prog w K mg base "plus" ["one", "other"] 2 sp_plus := fun base => cal_of F_1 (PySem.W.mg_of X G a_1) b_1 (ok_plus F_1 B (C_lowest base))
  have F_2 := fun_mk (st := s_less) l_2 c_2 k_2
  have b_2 := F_2.binds (ps := ["one", "other"]) fun _ _ _ _ _ _ us hl => match us, hl with | [_, _], _ => rfl
  have C_less : ∀ base : Heap, Cal l.prog w K mg base "less" ["one", "other"] 2 sp_less := fun base => cal_of F_2 (PySem.W.mg_of X G a_2) b_2 (ok_less F_2 B (C_lowest base))
  have F_3 := fun_mk (st := s_times) l_3 c_3 k_3
  have b_3 := F_3.binds (ps := ["one", "top", "bottom"]) fun _ _ _ _ _ _ us hl => match us, hl with | [_, _, _], _ => rfl
  have C_times : ∀ base : Heap, Cal l.prog w K mg base "times" ["one", "top", "bottom"] 2 sp_times := fun base => cal_of F_3 (PySem.W.mg_of X G a_3) b_3 (ok_times F_3 B (C_lowest base))
  have F_4 := fun_mk (st := s_is_lesser) l_4 c_4 k_4
  have b_4 := F_4.binds (ps := ["one", "other"]) fun _ _ _ _ _ _ us hl => match us, hl with | [_, _], _ => rfl
  have C_is_lesser : ∀ base : Heap, Cal l.prog w K mg base "is_lesser" ["one", "other"] 1 sp_is_lesser := fun base => cal_of F_4 (PySem.W.mg_of X G a_4) b_4 (ok_is_lesser F_4 B)
  have F_5 := fun_mk (st := s_heavy_of) l_5 c_5 k_5
  have b_5 := F_5.binds (ps := ["raft", "folk"]) fun _ _ _ _ _ _ us hl => match us, hl with | [_, _], _ => rfl
  have C_heavy_of : ∀ base : Heap, Cal l.prog w K mg base "heavy_of" ["raft", "folk"] 1 sp_heavy_of := fun base => cal_of F_5 (PySem.W.mg_of X G a_5) b_5 (ok_heavy_of F_5 B)
  have F_6 := fun_mk (st := s_drive_of) l_6 c_6 k_6
  have b_6 := F_6.binds (ps := ["folk", "places"]) fun _ _ _ _ _ _ us hl => match us, hl with | [_, _], _ => rfl
  have C_drive_of : ∀ base : Heap, Cal l.prog w K mg base "drive_of" ["folk", "places"] 3 sp_drive_of := fun base => cal_of F_6 (PySem.W.mg_of X G a_6) b_6 (ok_drive_of F_6 B (C_plus base) (C_times base))
  have F_7 := fun_mk (st := s_front_gap) l_7 c_7 k_7
  have b_7 := F_7.binds (ps := ["raft", "folk", "standing"]) fun _ _ _ _ _ _ us hl => match us, hl with | [_, _, _], _ => rfl
  have C_front_gap : ∀ base : Heap, Cal l.prog w K mg base "front_gap" ["raft", "folk", "standing"] 4 sp_front_gap := fun base => cal_of F_7 (PySem.W.mg_of X G a_7) b_7 (ok_front_gap F_7 B (C_plus base) (C_times base) (C_drive_of base) (C_heavy_of base))
  have F_8 := fun_mk (st := s_others_of) l_8 c_8 k_8
  have b_8 := F_8.binds (ps := ["folk", "name"]) fun _ _ _ _ _ _ us hl => match us, hl with | [_, _], _ => rfl
  have C_others_of : ∀ base : Heap, Cal l.prog w K mg base "others_of" ["folk", "name"] 1 sp_others_of := fun base => cal_of F_8 (PySem.W.mg_of X G a_8) b_8 (ok_others_of F_8 B)
  have F_9 := fun_mk (st := s_one_of) l_9 c_9 k_9
  have b_9 := F_9.binds (ps := ["folk", "name"]) fun _ _ _ _ _ _ us hl => match us, hl with | [_, _], _ => rfl
  have C_one_of : ∀ base : Heap, Cal l.prog w K mg base "one_of" ["folk", "name"] 1 sp_one_of := fun base => cal_of F_9 (PySem.W.mg_of X G a_9) b_9 (ok_one_of F_9 B)
  have F_10 := fun_mk (st := s_can_from) l_10 c_10 k_10
  have b_10 := F_10.binds (ps := ["raft", "folk", "front", "name"]) fun _ _ _ _ _ _ us hl => match us, hl with | [_, _, _, _], _ => rfl
  have C_can_from : ∀ base : Heap, Cal l.prog w K mg base "can_from" ["raft", "folk", "front", "name"] 3 sp_can_from := fun base => cal_of F_10 (PySem.W.mg_of X G a_10) b_10 (ok_can_from F_10 B (C_less base) (C_lowest base) (C_is_lesser base) (C_heavy_of base) (C_others_of base) (C_one_of base))
  have F_11 := fun_mk (st := s_farthest) l_11 c_11 k_11
  have b_11 := F_11.binds (ps := ["folk", "front", "name"]) fun _ _ _ _ _ _ us hl => match us, hl with | [_, _, _], _ => rfl
  have C_farthest : ∀ base : Heap, Cal l.prog w K mg base "farthest" ["folk", "front", "name"] 2 sp_farthest := fun base => cal_of F_11 (PySem.W.mg_of X G a_11) b_11 (ok_farthest F_11 B (C_is_lesser base) (C_one_of base))
  have F_12 := fun_mk (st := s_left_of) l_12 c_12 k_12
  have b_12 := F_12.binds (ps := ["folk", "lot"]) fun _ _ _ _ _ _ us hl => match us, hl with | [_, _], _ => rfl
  have C_left_of : ∀ base : Heap, Cal l.prog w K mg base "left_of" ["folk", "lot"] 1 sp_left_of := fun base => cal_of F_12 (PySem.W.mg_of X G a_12) b_12 (ok_left_of F_12 B)
  have F_13 := fun_mk (st := s_all_lots) l_13 c_13 k_13
  have b_13 := F_13.binds (ps := ["folk"]) fun _ _ _ _ _ _ us hl => match us, hl with | [_], _ => rfl
  have C_all_lots : ∀ base : Heap, Cal l.prog w K mg base "all_lots" ["folk"] 1 sp_all_lots := fun base => cal_of F_13 (PySem.W.mg_of X G a_13) b_13 (ok_all_lots F_13 B)
  have F_14 := fun_mk (st := s_next_gap) l_14 c_14 k_14
  have b_14 := F_14.binds (ps := ["raft", "folk", "front", "name"]) fun _ _ _ _ _ _ us hl => match us, hl with | [_, _, _, _], _ => rfl
  have C_next_gap : ∀ base : Heap, Cal l.prog w K mg base "next_gap" ["raft", "folk", "front", "name"] 3 sp_next_gap := fun base => cal_of F_14 (PySem.W.mg_of X G a_14) b_14 (ok_next_gap F_14 B (C_times base) (C_heavy_of base) (C_less base) (C_one_of base) (C_farthest base))
  have F_15 := fun_mk (st := s_steps_from) l_15 c_15 k_15
  have b_15 := F_15.binds (ps := ["raft", "folk", "lot", "front"]) fun _ _ _ _ _ _ us hl => match us, hl with | [_, _, _, _], _ => rfl
  have C_steps_from : ∀ base : Heap, Cal l.prog w K mg base "steps_from" ["raft", "folk", "lot", "front"] 4 sp_steps_from := fun base => cal_of F_15 (PySem.W.mg_of X G a_15) b_15 (ok_steps_from F_15 B (C_left_of base) (C_can_from base) (C_next_gap base))
  have F_16 := fun_mk (st := s_gaps_of) l_16 c_16 k_16
  have b_16 := F_16.binds (ps := ["raft", "folk", "standing"]) fun _ _ _ _ _ _ us hl => match us, hl with | [_, _, _], _ => rfl
  have C_gaps_of : ∀ base : Heap, Cal l.prog w K mg base "gaps_of" ["raft", "folk", "standing"] 5 sp_gaps_of := fun base => cal_of F_16 (PySem.W.mg_of X G a_16) b_16 (ok_gaps_of F_16 B (C_front_gap base) (C_all_lots base) (C_steps_from base) (C_is_lesser base))
  have F_17 := fun_mk (st := s_must_stay) l_17 c_17 k_17
  have b_17 := F_17.binds (ps := ["raft", "folk", "standing"]) fun _ _ _ _ _ _ us hl => match us, hl with | [_, _, _], _ => rfl
  have C_must_stay : ∀ base : Heap, Cal l.prog w K mg base "must_stay" ["raft", "folk", "standing"] 5 sp_must_stay := fun base => cal_of F_17 (PySem.W.mg_of X G a_17) b_17 (ok_must_stay F_17 B (C_less base) (C_front_gap base) (C_times base) (C_lowest base) (C_heavy_of base))
  have F_18 := fun_mk (st := s_lots) l_18 c_18 k_18
  have b_18 := F_18.binds (ps := ["raft", "folk", "standing"]) fun _ _ _ _ _ _ us hl => match us, hl with | [_, _, _], _ => rfl
  have C_lots : ∀ base : Heap, Cal l.prog w K mg base "lots" ["raft", "folk", "standing"] 6 sp_lots := fun base => cal_of F_18 (PySem.W.mg_of X G a_18) b_18 (ok_lots F_18 B (C_gaps_of base))
  have F_19 := fun_mk (st := s_orders_from) l_19 c_19 k_19
  have b_19 := F_19.binds (ps := ["raft", "folk", "front", "lot"]) fun _ _ _ _ _ _ us hl => match us, hl with | [_, _, _, _], _ => rfl
  have C_orders_from : ∀ base : Heap, Cal l.prog w K mg base "orders_from" ["raft", "folk", "front", "lot"] 10 sp_orders_from := fun base => cal_of F_19 (PySem.W.mg_of X G a_19) b_19 (ok_orders_from F_19 B (PySem.W.mg_of X G a_19) b_19 (C_can_from base) (C_left_of base) (C_next_gap base) 7)
  have F_20 := fun_mk (st := s_orders) l_20 c_20 k_20
  have b_20 := F_20.binds (ps := ["raft", "folk", "standing", "lot"]) fun _ _ _ _ _ _ us hl => match us, hl with | [_, _, _, _], _ => rfl
  have C_orders : ∀ base : Heap, Cal l.prog w K mg base "orders" ["raft", "folk", "standing", "lot"] 11 sp_orders := fun base => cal_of F_20 (PySem.W.mg_of X G a_20) b_20 (ok_orders F_20 B (C_orders_from base) (C_front_gap base))
  have F_21 := fun_mk (st := s__law_bag) l_21 c_21 k_21
  have b_21 := F_21.binds (ps := ["script", "k"]) fun _ _ _ _ _ _ us hl => match us, hl with | [_, _], _ => rfl
  have C__law_bag : ∀ base : Heap, Cal l.prog w K mg base "_law_bag" ["script", "k"] 1 sp__law_bag := fun base => cal_of F_21 (PySem.W.mg_of X G a_21) b_21 (ok__law_bag F_21 B)
  have F_22 := fun_mk (st := s__law_take) l_22 c_22 k_22
  have b_22 := F_22.binds (ps := ["bag", "many"]) fun _ _ _ _ _ _ us hl => match us, hl with | [_, _], _ => rfl
  have C__law_take : ∀ base : Heap, Cal l.prog w K mg base "_law_take" ["bag", "many"] 1 sp__law_take := fun base => cal_of F_22 (PySem.W.mg_of X G a_22) b_22 (ok__law_take F_22 B)
  have F_23 := fun_mk (st := s__law_lowest) l_23 c_23 k_23
  have b_23 := F_23.binds (ps := ["top", "bottom"]) fun _ _ _ _ _ _ us hl => match us, hl with | [_, _], _ => rfl
  have C__law_lowest : ∀ base : Heap, Cal l.prog w K mg base "_law_lowest" ["top", "bottom"] 1 sp__law_lowest := fun base => cal_of F_23 (PySem.W.mg_of X G a_23) b_23 (ok__law_lowest F_23 B)
  have F_24 := fun_mk (st := s__law_plus) l_24 c_24 k_24
  have b_24 := F_24.binds (ps := ["one", "other"]) fun _ _ _ _ _ _ us hl => match us, hl with | [_, _], _ => rfl
  have C__law_plus : ∀ base : Heap, Cal l.prog w K mg base "_law_plus" ["one", "other"] 2 sp__law_plus := fun base => cal_of F_24 (PySem.W.mg_of X G a_24) b_24 (ok__law_plus F_24 B (C__law_lowest base))
  have F_25 := fun_mk (st := s__law_minus) l_25 c_25 k_25
  have b_25 := F_25.binds (ps := ["one", "other"]) fun _ _ _ _ _ _ us hl => match us, hl with | [_, _], _ => rfl
  have C__law_minus : ∀ base : Heap, Cal l.prog w K mg base "_law_minus" ["one", "other"] 2 sp__law_minus := fun base => cal_of F_25 (PySem.W.mg_of X G a_25) b_25 (ok__law_minus F_25 B (C__law_lowest base))
  have F_26 := fun_mk (st := s__law_times) l_26 c_26 k_26
  have b_26 := F_26.binds (ps := ["part", "by"]) fun _ _ _ _ _ _ us hl => match us, hl with | [_, _], _ => rfl
  have C__law_times : ∀ base : Heap, Cal l.prog w K mg base "_law_times" ["part", "by"] 2 sp__law_times := fun base => cal_of F_26 (PySem.W.mg_of X G a_26) b_26 (ok__law_times F_26 B (C__law_lowest base))
  have F_27 := fun_mk (st := s__law_less) l_27 c_27 k_27
  have b_27 := F_27.binds (ps := ["one", "other"]) fun _ _ _ _ _ _ us hl => match us, hl with | [_, _], _ => rfl
  have C__law_less : ∀ base : Heap, Cal l.prog w K mg base "_law_less" ["one", "other"] 1 sp__law_less := fun base => cal_of F_27 (PySem.W.mg_of X G a_27) b_27 (ok__law_less F_27 B)
  have F_28 := fun_mk (st := s__law_raft) l_28 c_28 k_28
  have b_28 := F_28.binds (ps := ["bag"]) fun _ _ _ _ _ _ us hl => match us, hl with | [_], _ => rfl
  have C__law_raft : ∀ base : Heap, Cal l.prog w K mg base "_law_raft" ["bag"] 2 sp__law_raft := fun base => cal_of F_28 (PySem.W.mg_of X G a_28) b_28 (ok__law_raft F_28 B (C__law_take base))
  have F_29 := fun_mk (st := s__law_folk) l_29 c_29 k_29
  have b_29 := F_29.binds (ps := ["bag", "most"]) fun _ _ _ _ _ _ us hl => match us, hl with | [_, _], _ => rfl
  have C__law_folk : ∀ base : Heap, Cal l.prog w K mg base "_law_folk" ["bag", "most"] 2 sp__law_folk := fun base => cal_of F_29 (PySem.W.mg_of X G a_29) b_29 (ok__law_folk F_29 B (C__law_take base))
  have F_30 := fun_mk (st := s__law_place) l_30 c_30 k_30
  have b_30 := F_30.binds (ps := ["bag", "raft"]) fun _ _ _ _ _ _ us hl => match us, hl with | [_, _], _ => rfl
  have C__law_place : ∀ base : Heap, Cal l.prog w K mg base "_law_place" ["bag", "raft"] 2 sp__law_place := fun base => cal_of F_30 (PySem.W.mg_of X G a_30) b_30 (ok__law_place F_30 B (C__law_take base) (C__law_lowest base))
  have F_31 := fun_mk (st := s__law_places) l_31 c_31 k_31
  have b_31 := F_31.binds (ps := ["bag", "raft", "folk"]) fun _ _ _ _ _ _ us hl => match us, hl with | [_, _, _], _ => rfl
  have C__law_places : ∀ base : Heap, Cal l.prog w K mg base "_law_places" ["bag", "raft", "folk"] 3 sp__law_places := fun base => cal_of F_31 (PySem.W.mg_of X G a_31) b_31 (ok__law_places F_31 B (C__law_place base))
  have F_32 := fun_mk (st := s__law_standing) l_32 c_32 k_32
  have b_32 := F_32.binds (ps := ["bag", "raft", "folk"]) fun _ _ _ _ _ _ us hl => match us, hl with | [_, _, _], _ => rfl
  have C__law_standing : ∀ base : Heap, Cal l.prog w K mg base "_law_standing" ["bag", "raft", "folk"] 4 sp__law_standing := fun base => cal_of F_32 (PySem.W.mg_of X G a_32) b_32 (ok__law_standing F_32 B (C__law_take base) (C__law_lowest base) (C__law_places base))
  have F_33 := fun_mk (st := s__law_heavy) l_33 c_33 k_33
  have b_33 := F_33.binds (ps := ["raft", "folk"]) fun _ _ _ _ _ _ us hl => match us, hl with | [_, _], _ => rfl
  have C__law_heavy : ∀ base : Heap, Cal l.prog w K mg base "_law_heavy" ["raft", "folk"] 1 sp__law_heavy := fun base => cal_of F_33 (PySem.W.mg_of X G a_33) b_33 (ok__law_heavy F_33 B)
  have F_34 := fun_mk (st := s__law_shift) l_34 c_34 k_34
  have b_34 := F_34.binds (ps := ["folk", "before", "after"]) fun _ _ _ _ _ _ us hl => match us, hl with | [_, _, _], _ => rfl
  have C__law_shift : ∀ base : Heap, Cal l.prog w K mg base "_law_shift" ["folk", "before", "after"] 3 sp__law_shiftL := fun base => cal_of F_34 (PySem.W.mg_of X G a_34) b_34 (ok__law_shift F_34 B (C__law_plus base) (C__law_times base) (C__law_minus base))
  have F_35 := fun_mk (st := s__law_gap) l_35 c_35 k_35
  have b_35 := F_35.binds (ps := ["raft", "folk", "standing", "places"]) fun _ _ _ _ _ _ us hl => match us, hl with | [_, _, _, _], _ => rfl
  have C__law_gap : ∀ base : Heap, Cal l.prog w K mg base "_law_gap" ["raft", "folk", "standing", "places"] 4 sp__law_gapL := fun base => cal_of F_35 (PySem.W.mg_of X G a_35) b_35 (ok__law_gap F_35 B (C__law_shift base) (C__law_minus base) (C__law_lowest base) (C__law_heavy base))
  have F_36 := fun_mk (st := s__law_front) l_36 c_36 k_36
  have b_36 := F_36.binds (ps := ["raft", "folk", "standing"]) fun _ _ _ _ _ _ us hl => match us, hl with | [_, _, _], _ => rfl
  have C__law_front : ∀ base : Heap, Cal l.prog w K mg base "_law_front" ["raft", "folk", "standing"] 5 sp__law_frontL := fun base => cal_of F_36 (PySem.W.mg_of X G a_36) b_36 (ok__law_front F_36 B (C__law_gap base))
  have F_37 := fun_mk (st := s__law_left) l_37 c_37 k_37
  have b_37 := F_37.binds (ps := ["folk", "lot"]) fun _ _ _ _ _ _ us hl => match us, hl with | [_, _], _ => rfl
  have C__law_left : ∀ base : Heap, Cal l.prog w K mg base "_law_left" ["folk", "lot"] 1 sp__law_left := fun base => cal_of F_37 (PySem.W.mg_of X G a_37) b_37 (ok__law_left F_37 B)
  have F_38 := fun_mk (st := s__law_lots) l_38 c_38 k_38
  have b_38 := F_38.binds (ps := ["folk"]) fun _ _ _ _ _ _ us hl => match us, hl with | [_], _ => rfl
  have C__law_lots : ∀ base : Heap, Cal l.prog w K mg base "_law_lots" ["folk"] 1 sp__law_lots := fun base => cal_of F_38 (PySem.W.mg_of X G a_38) b_38 (ok__law_lots F_38 B)
  have F_39 := fun_mk (st := s__law_product) l_39 c_39 k_39
  have b_39 := F_39.binds (ps := ["many"]) fun _ _ _ _ _ _ us hl => match us, hl with | [_], _ => rfl
  have C__law_product : ∀ base : Heap, Cal l.prog w K mg base "_law_product" ["many"] 1 sp__law_product := fun base => cal_of F_39 (PySem.W.mg_of X G a_39) b_39 (ok__law_product F_39 B)
  have F_40 := fun_mk (st := s_law) l_40 c_40 k_40
  exact ⟨_, fun s v => .of_eq rfl, fun base _ _ => ok_law F_40 B (C__law_bag base) (C__law_take base) (C__law_standing base) (C__law_minus base) (C__law_lots base) (C__law_raft base) (C__law_folk base) (C__law_front base) (C__law_lowest base) (C_must_stay base) (C_lots base) (C__law_heavy base) (C__law_less base) (C_orders base) (C__law_left base) (C__law_product base)⟩
theorem law_sp {K : PySem.W.Frag} {H : Hp} {a : Addr} {ns : List Int} (hl : ns.length ≤ 63) (hS : SqL K H a (ns.map V.int)) : spD K sp_law [.ref a] H (fun v _ => v = .bl true) fun _ _ _ => False :=
  ⟨H, fun _ => none, [.d (.list (ns.map PyData.int))], fun x _ => x = .d (.bool true), ⟨Same.refl H, fun _ _ e => nomatch e⟩, .cons (Dl.Dp.lst hS (das_int ns)) .nil, ⟨ns, rfl, hl, fun _ => rfl⟩, fun v H' F' S' x _ _ r q => by
    cases q
    cases r
    rfl⟩
end Rf
open PySem PySem.W PyProof.Rows
set_option maxHeartbeats 0 in
theorem PySem.Challenge.cw_raftwalk_k08_whole_alike_reaches_ask_onl_holds : PySem.Challenge.rw_raftwalk_k08_whole_alike_reaches_ask_onl.Holds := by
  w_on; o_law; k_head; (case hw => w_witness2)
  k_fill
  refine L2.walk_of (l := PySem.Challenge.rw_raftwalk_k08_whole_alike_reaches_ask_onl) (n := 63) (k := 12) (x := "script") (CX := fun _ => L2.CX0) (sp := fun w => Dl.spD _ Rf.sp_law) rfl (by decide) rfl ⟨rfl, by decide, by decide⟩ (fun w h Y => PySem.W.kIn_of Y) ?F (fun _ _ a ns hl _ hS => Rf.law_sp hl hS) (fun _ _ _ _ _ h => h)
  case F =>
    intro w mg fa h KX G hmg
    refine' Rf.all_mk KX G hmg ?a_0 ?l_0 ?c_0 ?k_0 ?a_1 ?l_1 ?c_1 ?k_1 ?a_2 ?l_2 ?c_2 ?k_2 ?a_3 ?l_3 ?c_3 ?k_3 ?a_4 ?l_4 ?c_4 ?k_4 ?a_5 ?l_5 ?c_5 ?k_5 ?a_6 ?l_6 ?c_6 ?k_6 ?a_7 ?l_7 ?c_7 ?k_7 ?a_8 ?l_8 ?c_8 ?k_8 ?a_9 ?l_9 ?c_9 ?k_9 ?a_10 ?l_10 ?c_10 ?k_10 ?a_11 ?l_11 ?c_11 ?k_11 ?a_12 ?l_12 ?c_12 ?k_12 ?a_13 ?l_13 ?c_13 ?k_13 ?a_14 ?l_14 ?c_14 ?k_14 ?a_15 ?l_15 ?c_15 ?k_15 ?a_16 ?l_16 ?c_16 ?k_16 ?a_17 ?l_17 ?c_17 ?k_17 ?a_18 ?l_18 ?c_18 ?k_18 ?a_19 ?l_19 ?c_19 ?k_19 ?a_20 ?l_20 ?c_20 ?k_20 ?a_21 ?l_21 ?c_21 ?k_21 ?a_22 ?l_22 ?c_22 ?k_22 ?a_23 ?l_23 ?c_23 ?k_23 ?a_24 ?l_24 ?c_24 ?k_24 ?a_25 ?l_25 ?c_25 ?k_25 ?a_26 ?l_26 ?c_26 ?k_26 ?a_27 ?l_27 ?c_27 ?k_27 ?a_28 ?l_28 ?c_28 ?k_28 ?a_29 ?l_29 ?c_29 ?k_29 ?a_30 ?l_30 ?c_30 ?k_30 ?a_31 ?l_31 ?c_31 ?k_31 ?a_32 ?l_32 ?c_32 ?k_32 ?a_33 ?l_33 ?c_33 ?k_33 ?a_34 ?l_34 ?c_34 ?k_34 ?a_35 ?l_35 ?c_35 ?k_35 ?a_36 ?l_36 ?c_36 ?k_36 ?a_37 ?l_37 ?c_37 ?k_37 ?a_38 ?l_38 ?c_38 ?k_38 ?a_39 ?l_39 ?c_39 ?k_39 ?a_40 ?l_40 ?c_40 ?k_40 ?z_0 ?z_1 ?z_2 ?z_3 ?z_4 ?z_5 ?z_6 ?z_7 ?z_8
    (case a_0 => k_is); (case l_0 => k_is); (case c_0 => k_is); (case k_0 => k_is); (case a_1 => k_is); (case l_1 => k_is); (case c_1 => k_is); (case k_1 => k_is); (case a_2 => k_is); (case l_2 => k_is); (case c_2 => k_is); (case k_2 => k_is); (case a_3 => k_is); (case l_3 => k_is); (case c_3 => k_is); (case k_3 => k_is); (case a_4 => k_is); (case l_4 => k_is); (case c_4 => k_is); (case k_4 => k_is); (case a_5 => k_is); (case l_5 => k_is); (case c_5 => k_is); (case k_5 => k_is); (case a_6 => k_is); (case l_6 => k_is); (case c_6 => k_is); (case k_6 => k_is); (case a_7 => k_is); (case l_7 => k_is); (case c_7 => k_is); (case k_7 => k_is); (case a_8 => k_is); (case l_8 => k_is); (case c_8 => k_is); (case k_8 => k_is); (case a_9 => k_is); (case l_9 => k_is); (case c_9 => k_is); (case k_9 => k_is); (case a_10 => k_is); (case l_10 => k_is); (case c_10 => k_is); (case k_10 => k_is); (case a_11 => k_is); (case l_11 => k_is); (case c_11 => k_is); (case k_11 => k_is); (case a_12 => k_is); (case l_12 => k_is); (case c_12 => k_is); (case k_12 => k_is); (case a_13 => k_is); (case l_13 => k_is); (case c_13 => k_is); (case k_13 => k_is); (case a_14 => k_is); (case l_14 => k_is); (case c_14 => k_is); (case k_14 => k_is); (case a_15 => k_is); (case l_15 => k_is); (case c_15 => k_is); (case k_15 => k_is); (case a_16 => k_is); (case l_16 => k_is); (case c_16 => k_is); (case k_16 => k_is); (case a_17 => k_is); (case l_17 => k_is); (case c_17 => k_is); (case k_17 => k_is); (case a_18 => k_is); (case l_18 => k_is); (case c_18 => k_is); (case k_18 => k_is); (case a_19 => k_is); (case l_19 => k_is); (case c_19 => k_is); (case k_19 => k_is); (case a_20 => k_is); (case l_20 => k_is); (case c_20 => k_is); (case k_20 => k_is); (case a_21 => k_is); (case l_21 => k_is); (case c_21 => k_is); (case k_21 => k_is); (case a_22 => k_is); (case l_22 => k_is); (case c_22 => k_is); (case k_22 => k_is); (case a_23 => k_is); (case l_23 => k_is); (case c_23 => k_is); (case k_23 => k_is); (case a_24 => k_is); (case l_24 => k_is); (case c_24 => k_is); (case k_24 => k_is); (case a_25 => k_is); (case l_25 => k_is); (case c_25 => k_is); (case k_25 => k_is); (case a_26 => k_is); (case l_26 => k_is); (case c_26 => k_is); (case k_26 => k_is); (case a_27 => k_is); (case l_27 => k_is); (case c_27 => k_is); (case k_27 => k_is); (case a_28 => k_is); (case l_28 => k_is); (case c_28 => k_is); (case k_28 => k_is); (case a_29 => k_is); (case l_29 => k_is); (case c_29 => k_is); (case k_29 => k_is); (case a_30 => k_is); (case l_30 => k_is); (case c_30 => k_is); (case k_30 => k_is); (case a_31 => k_is); (case l_31 => k_is); (case c_31 => k_is); (case k_31 => k_is); (case a_32 => k_is); (case l_32 => k_is); (case c_32 => k_is); (case k_32 => k_is); (case a_33 => k_is); (case l_33 => k_is); (case c_33 => k_is); (case k_33 => k_is); (case a_34 => k_is); (case l_34 => k_is); (case c_34 => k_is); (case k_34 => k_is); (case a_35 => k_is); (case l_35 => k_is); (case c_35 => k_is); (case k_35 => k_is); (case a_36 => k_is); (case l_36 => k_is); (case c_36 => k_is); (case k_36 => k_is); (case a_37 => k_is); (case l_37 => k_is); (case c_37 => k_is); (case k_37 => k_is); (case a_38 => k_is); (case l_38 => k_is); (case c_38 => k_is); (case k_38 => k_is); (case a_39 => k_is); (case l_39 => k_is); (case c_39 => k_is); (case k_39 => k_is); (case a_40 => k_is); (case l_40 => k_is); (case c_40 => k_is); (case k_40 => k_is); (case z_0 => k_is); (case z_1 => k_is); (case z_2 => k_is); (case z_3 => k_is); (case z_4 => k_is); (case z_5 => k_is); (case z_6 => k_is); (case z_7 => k_is); (case z_8 => k_is)
